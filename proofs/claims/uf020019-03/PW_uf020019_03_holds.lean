import PyProof.Rows.All
import Wide.All
import OpenK.AllK
import Wide.FinOn
import PySem.Sem
import PyProof.P3Statements
import PyProof.Cells
import PyProof.WalksMore
import PyProof.Claim2
import PyProof.StrBlock2
import PyProof.StrBlockL
import PyProof.SliceMore
import PyProof.SliceStr
import PyProof.Logic
import PyProof.TupleKey
import PyProof.DictList
import PyProof.EqKinds
import PyProof.DictKinds
import PyProof.NsCount
import PyProof.Rows.IntOr
import PyProof.Rows.RuleB_pow
import PyProof.Rows.SeqMore
import PyProof.Rows.TupAdd
import PyProof.Rows.EqDataRows
import PyProof.Rows.InDataRows
import PyProof.DictRoads
import PyProof.DictRoadsH
import PyProof.DictStraight
import PyProof.Rows.TupTab
import PyProof.FactsAll.tuple_2
import PyProof.IsiPairs
import PyProof.IsiNone
import PyProof.IsiHeapPairs
import PyProof.Rows.RuleIs2
import PyProof.Rows.StrRules
import PyProof.Rows.TupSub
import PyProof.Rows.StrTemp
import PyProof.Rows.Lst
import PyProof.ListIndexNeg
import PyProof.Conv_int_bool
import PyProof.Rows.StrMul
import PyProof.Rows.ListMulCarried
import PyProof.SeqI3
import PyProof.StrLawsIn
import PyProof.Rows.SortShell
import PyProof.Rows.SetFrom
import PyProof.Rows.StrInSeq
import PyProof.SetRoads
import PyProof.CallStr
import PyProof.ConsumeWalk
import PyProof.WalkInts
import PyProof.ListCopy
import PyProof.TupleOfSeq
import PyProof.TupleCall
import PyProof.Rows.SortWalk
import PyProof.Rows.ListMade
import PyProof.CompFree
import PyProof.RangeFor
import PyProof.StrWalks
import PyProof.EnumMake
import PyProof.EnumFor
import PyProof.EnumStmt
import PyProof.StationsW
import OpenK.KCall
import PyProof.Rows.Exc
import PyProof.ExcBaseAll.ValueError
import PyProof.ExcClsAt2
import PyProof.ExcAttrAll.ValueError
import KE.KIsAll
import OpenK.KMake
import OpenK.KWalk
import PyProof.DictDisplay
import PyProof.StrBlock
import PyProof.DefCall
import PyProof.Rows.Chain
import PyProof.Rows.StrWeight2
import PyProof.SeqRoads2
import PyProof.AutoSeq1
import PyProof.MeetsSeq
import PyProof.Rows.StrSplitJoin
import PyProof.Rows.SeqSlice
import PyProof.Rows.TupMore
import PyProof.SliceStr2
import KE.KRevSl
import PyProof.StrReplace2
import PyProof.Rows.StrLen
import PyProof.Rows.StrCase
import PyProof.ListOps
import OpenK.KCls
import PyProof.LetGo
import PyProof.Raises
import PyProof.RulesTry
import PyProof.ExcClass2
import PyProof.RulesAs
import PyProof.AssignAttr
import PyProof.TupleIter
import PyProof.Rows.TupAssign
import PyProof.StrLawsTight
import PyProof.StrLawsChain
import PyProof.Rows.StrItems
import PySem.Challenge.RW_uf020019_03
set_option autoImplicit false
set_option linter.all false
set_option Elab.async false
set_option genInjectivity false
set_option genSizeOf false
set_option bootstrap.genMatcherCode false
namespace Mine
open PySem Classical
inductive PV where
  | none | bool (b:Bool) | int (i:Int) | str (s:Str)
  | tup (xs:List PV) | fl (xs:List PV) | ref (i:Nat)
  | exc (c:Nat)
  | inst (c i:Nat)
inductive MO where
  | lst (xs:List PV)
  | ds (es:List (Str × PV))
  | dp (es:List ((Str × Int) × PV))
  | ns (fs:List (Str × PV))
  | no
noncomputable abbrev ac:=List MO
noncomputable abbrev aw:=List (Option PV)
inductive af (α:Type) where
  | ok (a:α) (σ:ac)
  | exc (i:Nat) (σ:ac)
  | stuck
noncomputable def af.bind {α β:Type}:af α->(α->ac->af β)->af β
  | .ok a σ,f=>f a σ
  | .exc i σ,_=>.exc i σ
  | .stuck,_=>.stuck
noncomputable def af.ofOpt {α:Type}:Option α->ac->af α
  | some a,σ=>.ok a σ
  | none,_=>.stuck
inductive Op where | add | sub | mul | mod | fdiv | pow
inductive Cm where | eq | ne | lt | le | gt | ge | is | isNot | isin | notin
inductive Ty where | int | str | bool | tuple
  | list
inductive B1 where | len | list (fz:Bool) | tuple | all | int | str | lenset
  | dict
inductive Me where | append | extend | pop
  | get
inductive M0 where
  | clear
inductive X where
  | nil | cons (a r:X)
  | k (v:PV)
  | v (i:Nat)
  | and (xs:X) | or (xs:X) | not (a:X) | neg (a:X)
  | bin (o:Op) (a b:X)
  | cmp (a:X) (o:Cm) (b:X)
  | cmp2 (a:X) (o:Cm) (b:X) (o2:Cm) (c:X)
  | lst (fz:Bool) (xs:X)
  | tup (xs:X)
  | fdget (ks:List Str) (vals:List PV) (key dflt:X)
  | comp (fz:Bool) (t:Nat) (cap:List (Option Nat)) (elt:X) (cond:X) (it:X)
  | range1 (a:X)
  | call (f:Nat) (args:X)
  | b1 (b:B1) (a:X)
  | min2 (a b:X)
  | isinst (a:X) (t:Ty)
  | isexc (a:X) (sup dom:List Nat)
  | me (m:Me) (o:X) (args:X)
  | me0 (m:M0) (o:X)
  | sub (o i:X)
  | slice (o lo hi:X)
  | rev (o:X)
  | enum (a:X)
  | dnew (pk:Bool)
  | attr (c:Nat) (o:X) (n:Str)
  | meth (c f:Nat) (n:Str) (o args:X)
  | new (c f:Nat) (args:X)
noncomputable def am:Nat:=1000000
noncomputable def aY (σ:ac):PV->Option (List PV)
  | .fl xs=>some xs
  | .ref i=>match σ[i]? with
    | some (.lst xs)=>some xs
    | _=>none
  | _=>none
noncomputable def a5 (σ:ac):PV->Option (List PV)
  | .fl xs=>some xs
  | .tup xs=>some xs
  | .ref i=>match σ[i]? with
    | some (.lst xs)=>some xs
    | _=>none
  | _=>none
noncomputable def qL (s:Str):List PV:=s.cps.toList.map fun n=>.str ⟨#[n]⟩
noncomputable def ai (σ:ac):PV->Option (List PV)
  | .str s=>some (qL s)
  | .fl xs=>some xs
  | .tup xs=>some xs
  | .ref i=>match σ[i]? with
    | some (.lst xs)=>some xs
    | _=>none
  | _=>none
noncomputable def bT:Nat->ac->PV->Option PyData
  | 0,_,_=>none
  | n + 1,σ,.tup xs=>(xs.mapM (bT n σ)).map .tuple
  | n + 1,σ,.fl xs=>(xs.mapM (bT n σ)).map .list
  | n + 1,σ,.ref i=>match σ[i]? with
    | some (.lst xs)=>(xs.mapM (bT n σ)).map .list
    | _=>none
  | _ + 1,_,.none=>some .none
  | _ + 1,_,.bool b=>some (.bool b)
  | _ + 1,_,.int i=>some (.int i)
  | _ + 1,_,.str s=>some (.str s)
  | _ + 1,_,.exc _=>none
  | _ + 1,_,.inst _ _=>none
noncomputable def eqv (σ:ac) (a b:PV):Option Bool:=
  match bT 16 σ a,bT 16 σ b with
  | some x,some y=>some (PyData.eqv x y)
  | _,_=>none
noncomputable def iK (σ:ac) (x:PV) (xs:List PV):Option Bool:=
  match bT 16 σ x,xs.mapM (bT 16 σ) with
  | some d,some ds=>some (ds.any fun y=>PyData.eqv y d)
  | _,_=>none
noncomputable def az {κ:Type} [DecidableEq κ] (k:κ) (es:List (κ × PV)):Option PV:=(es.find? fun e=>decide (e.1=k)).map (·.2)
noncomputable def bW {κ:Type} [DecidableEq κ] (k:κ) (v:PV) (es:List (κ × PV)):List (κ × PV):=
  if (es.any fun e=>decide (e.1=k)) then es.map (fun e=>if e.1=k then (e.1,v) else e) else es++[(k,v)]
noncomputable def fE:PV->Option (Str × Int)
  | .tup [.str x,.int i]=>some (x,i)
  | _=>none
noncomputable def hH (k:Str):List (Str × PV)->Option PV
  | []=>none
  | (x,v)::r=>if x=k then some v else hH k r
noncomputable def cC (i:Int) (n:Nat):Option Nat:=
  if 0 <= i then (if i.toNat < n then some i.toNat else none)
  else if 0 <= i + n then some (i + n).toNat else none
end Mine
namespace Mine
open PySem
noncomputable def dq (o:Obj):Prop:=∃ es n,o.data=.dict es n
noncomputable def jp (o:Obj):Prop:=(∃ xs n,o.data=.seq xs n)\/(∃ C vs,o.cls=.ref C/\o.data=.fields vs)\/∃ C,o.cls=.ref C/\o.data=.plain
theorem jp.seq {c:Value} {d:Option Addr} {xs:Array Value} {n:Nat} {sl:Array (Option Value)}:jp { cls:=c,dict:=d,data:=.seq xs n,slots:=sl }:=.inl ⟨xs,n,rfl⟩
theorem dq.notSolid {o:Obj} (d:dq o):¬ jp o:=by
  obtain ⟨es,n,d⟩:=d
  rintro (⟨xs,m,e⟩ | ⟨C,vs,_,e⟩ | ⟨C,_,e⟩) <;> rw [d] at e <;> contradiction
noncomputable def fA (fr:List Addr) (h':Heap) (b:Addr) (o:Obj):Prop:=h'.get? b=some o\/(b ∈ fr/\dq o/\∃ sl,h'.get? b=some { o with slots:=sl })
theorem fA.trans {fr:List Addr} {h' h'':Heap} {b:Addr} {o:Obj} (x:fA fr h' b o) (y:∀ o',h'.get? b=some o'->fA fr h'' b o'):fA fr h'' b o:=by
  rcases x with x | ⟨f,d,sl,x⟩
  · rcases y o x with y | ⟨f,d,sl,y⟩
    · exact .inl y
    · exact .inr ⟨f,d,sl,y⟩
  · rcases y _ x with y | ⟨_,_,sl',y⟩
    · exact .inr ⟨f,d,sl,y⟩
    · exact .inr ⟨f,d,sl',y⟩
theorem fA.ns {fr:List Addr} {h h':Heap} {b:Addr} {o:Obj} {m:Str->Option Value} (n:h.Ns b m) (e:h.get? b=some o) (x:fA fr h' b o):h'.Ns b m:=by
  obtain ⟨o',es,ep,e',r⟩:=n
  rw [e] at e'; obtain rfl:=Option.some.inj e'
  rcases x with x | ⟨_,d,sl,x⟩
  · exact ⟨o,es,ep,x,r⟩
  · exact ⟨_,es,ep,x,r⟩
theorem fA.same {fr:List Addr} {h':Heap} {b:Addr} {o:Obj} (x:fA fr h' b o) (n:¬ dq o):h'.get? b=some o:=by
  rcases x with x | ⟨_,d,_⟩
  · exact x
  · exact absurd d n
theorem fA.not {fr:List Addr} {h':Heap} {b:Addr} {o:Obj} (x:fA fr h' b o) (n:b ∉ fr):h'.get? b=some o:=by
  rcases x with x | ⟨f,_⟩
  · exact x
  · exact absurd f n
structure AL where
  ix:List Addr
  hid:List Addr
  fr:List Addr
noncomputable def AL.all (α:AL):List Addr:=α.ix++α.hid
inductive VR (h:Heap) (α:AL):PV->Value->Prop where
  | none:VR h α .none .none
  | bool (b:Bool):VR h α (.bool b) (.bool b)
  | int (i:Int) (t:Tok):VR h α (.int i) (.int i t)
  | str (s:Str) (t:Tok):PyData.strOk s=true->VR h α (.str s) (.str s t)
  | tup {xs:List PV} {a:Addr} {ai:Array Value} {n:Nat}:h.get? a=some { cls:=.type "tuple",data:=.seq ai n }->a ∉ α.all->xs.length=ai.size ->
      (∀ (i:Nat) (x:PV) (v:Value),xs[i]?=some x->ai[i]?=some v->VR h α x v)->VR h α (.tup xs) (.ref a)
  | fl {xs:List PV} {a:Addr} {ai:Array Value} {n:Nat}:h.get? a=some { cls:=.type "list",data:=.seq ai n }->a ∉ α.all->xs.length=ai.size ->
      (∀ (i:Nat) (x:PV) (v:Value),xs[i]?=some x->ai[i]?=some v->VR h α x v)->VR h α (.fl xs) (.ref a)
  | ref {i:Nat} {a:Addr}:α.ix[i]?=some a->VR h α (.ref i) (.ref a)
  | exc {c:Nat} {a:Addr} {o:Obj} {vs:Array Value}:h.get? a=some o->o.cls=.ref c->o.data=.fields vs->a ∉ α.all->VR h α (.exc c) (.ref a)
  | inst {c i:Nat} {a D:Addr}:h.get? a=some { cls:=.ref c,dict:=some D,data:=.plain }->a ∉ α.all->α.ix[i]?=some D->VR h α (.inst c i) (.ref a)
structure aD (F:List Addr) (α:AL) (h:Heap) (α':AL) (h':Heap):Prop where
  hid:α'.hid=α.hid
  pre:∃ β,α'.ix=α.ix++β/\∀ x ∈ β,h.get? x=none/\x ∉ F
  seqs:∀ b o,b ∉ α.ix->h.get? b=some o->jp o->h'.get? b=some o
  rest:∀ b o,b ∉ α.ix->b ∉ F->h.get? b=some o->fA α.fr h' b o
  alive:∀ b o,b ∉ F->h.get? b=some o->∃ o',h'.get? b=some o'
  fre:α'.fr=α.fr
theorem aD.refl {F α h}:aD F α h α h:=
  ⟨rfl,⟨[],by simp,fun _ hx=>by simp at hx⟩,fun _ _ _ e _=>e,fun _ _ _ _ e=>.inl e,fun _ o _ e=>⟨o,e⟩,rfl⟩
theorem aD.keeps {F α h h'} (k:∀ b o,h.get? b=some o->h'.get? b=some o):aD F α h α h':=
  ⟨rfl,⟨[],by simp,fun _ hx=>by simp at hx⟩,fun b o _ e _=>k b o e,fun b o _ _ e=>.inl (k b o e),fun b o _ e=>⟨o,k b o e⟩,rfl⟩
theorem aD.notMem {F α h α' h'} (x:aD F α h α' h') {b:Addr} {o:Obj} (hb:b ∉ α.ix) (e:h.get? b=some o):b ∉ α'.ix:=by
  obtain ⟨β,q,hf⟩:=x.pre
  rw [q]
  intro hm
  rcases List.mem_append.mp hm with q | q
  · exact hb q
  · rw [(hf b q).1] at e; contradiction
theorem AL.not_ix {α:AL} {b:Addr} (h:b ∉ α.all):b ∉ α.ix:=fun q=>h (List.mem_append_left _ q)
theorem aD.notAll {F α h α' h'} (x:aD F α h α' h') {b:Addr} {o:Obj} (hb:b ∉ α.all) (e:h.get? b=some o):b ∉ α'.all:=by
  intro hm
  rcases List.mem_append.mp hm with q | q
  · exact x.notMem (AL.not_ix hb) e q
  · rw [x.hid] at q; exact hb (List.mem_append_right _ q)
theorem aD.mono {F F' α h α' h'} (x:aD F α h α' h') (hF:∀ b ∈ F,b ∈ F') (al:∀ b ∈ F',∃ o,h.get? b=some o):aD F' α h α' h':=by
  obtain ⟨β,e,hf⟩:=x.pre
  exact ⟨x.hid,⟨β,e,fun y hy=>⟨(hf y hy).1,fun q=>by obtain ⟨o,ho⟩:=al y q; rw [(hf y hy).1] at ho; cases ho⟩⟩,x.seqs,fun b o hb hbF e=>x.rest b o hb (fun q=>hbF (hF b q)) e,
    fun b o hb e=>x.alive b o (fun q=>hb (hF b q)) e,x.fre⟩
theorem aD.trans {F α h α' h' hB h''} (x:aD F α h α' h') (y:aD F α' h' hB h''):aD F α h hB h'':=by
  obtain ⟨β,q1,hf⟩:=x.pre
  obtain ⟨γ,q2,hg⟩:=y.pre
  refine ⟨y.hid.trans x.hid,⟨β++γ,by rw [q2,q1,List.append_assoc],fun a ha=>?_⟩,fun b o hb e hs=>?_,fun b o hb hF e=>?_,fun b o hb e=>?_,y.fre.trans x.fre⟩
  · rcases List.mem_append.mp ha with q | q
    · exact hf a q
    · refine ⟨?_,(hg a q).2⟩
      cases hq:h.get? a with
      | none=>rfl
      | some o =>
        obtain ⟨o',ho'⟩:=x.alive a o (hg a q).2 hq
        rw [(hg a q).1] at ho'; contradiction
  · exact y.seqs b o (x.notMem hb e) (x.seqs b o hb e hs) hs
  · exact (x.rest b o hb hF e).trans fun o' e'=>x.fre ▸ y.rest b o' (x.notMem hb e) hF e'
  · obtain ⟨o',e'⟩:=x.alive b o hb e
    exact y.alive b o' hb e'
theorem aD.drop {F own α h α' h' hB h''} (x:aD [] α h α' h') (hown:∀ b ∈ own,h.get? b=none) (al:∀ b ∈ F,∃ o,h.get? b=some o) (y:aD (own++F) α' h' hB h''):aD F α h hB h'':=by
  obtain ⟨β,q1,hf⟩:=x.pre
  obtain ⟨γ,q2,hg⟩:=y.pre
  have no:∀ b o,h.get? b=some o->b ∉ own:=fun b o e q=>by rw [hown b q] at e; contradiction
  refine ⟨y.hid.trans x.hid,⟨β++γ,by rw [q2,q1,List.append_assoc],fun a ha=>?_⟩,fun b o hb e hs=>?_,fun b o hb hF e=>?_,fun b o hb e=>?_,y.fre.trans x.fre⟩
  · rcases List.mem_append.mp ha with q | q
    · refine ⟨(hf a q).1,fun qF=>?_⟩
      obtain ⟨o,ho⟩:=al a qF
      rw [(hf a q).1] at ho; contradiction
    · refine ⟨?_,fun qF=>(hg a q).2 (List.mem_append_right _ qF)⟩
      cases hq:h.get? a with
      | none=>rfl
      | some o =>
        obtain ⟨o',ho'⟩:=x.alive a o (by simp) hq
        rw [(hg a q).1] at ho'; contradiction
  · exact y.seqs b o (x.notMem hb e) (x.seqs b o hb e hs) hs
  · exact (x.rest b o hb (by simp) e).trans fun o' e'=>x.fre ▸ y.rest b o' (x.notMem hb e) (fun q=>by
      rcases List.mem_append.mp q with q | q
      · exact no b o e q
      · exact hF q) e'
  · obtain ⟨o',e'⟩:=x.alive b o (by simp) e
    exact y.alive b o' (fun q=>by
      rcases List.mem_append.mp q with q | q
      · exact no b o e q
      · exact hb q) e'
theorem aD.get {F α h α' h'} (x:aD F α h α' h') {i:Nat} {a:Addr} (e:α.ix[i]?=some a):α'.ix[i]?=some a:=by
  obtain ⟨β,q,_⟩:=x.pre
  rw [q,List.getElem?_append_left (List.getElem?_eq_some_iff.mp e).1]; exact e
section
variable {h:Heap} {α:AL} {v:Value}
theorem VR.noneE (r:VR h α .none v):v=.none:=by cases r; rfl
theorem VR.boolE {b:Bool} (r:VR h α (.bool b) v):v=.bool b:=by cases r; rfl
theorem VR.intE {i:Int} (r:VR h α (.int i) v):∃ t,v=.int i t:=by cases r; exact ⟨_,rfl⟩
theorem VR.strE {x:Str} (r:VR h α (.str x) v):∃ t,v=.str x t/\PyData.strOk x=true:=by
  cases r with
  | str _ t h=>exact ⟨_,rfl,h⟩
theorem VR.refE {i:Nat} (r:VR h α (.ref i) v):∃ a,v=.ref a/\α.ix[i]?=some a:=by
  cases r with
  | ref e=>exact ⟨_,rfl,e⟩
end
theorem VR.ext {F α h α' h'} (x:aD F α h α' h') {p:PV} {v:Value} (r:VR h α p v):VR h' α' p v:=by
  induction r with
  | none=>exact .none
  | bool b=>exact .bool b
  | int i t=>exact .int i t
  | str s t hs=>exact .str s t hs
  | tup e hn hl _ ih=>exact .tup (x.seqs _ _ (AL.not_ix hn) e .seq) (x.notAll hn e) hl ih
  | fl e hn hl _ ih=>exact .fl (x.seqs _ _ (AL.not_ix hn) e .seq) (x.notAll hn e) hl ih
  | ref e=>exact .ref (x.get e)
  | exc e hc hd hn=>exact .exc (x.seqs _ _ (AL.not_ix hn) e (.inr (.inl ⟨_,_,hc,hd⟩))) hc hd (x.notAll hn e)
  | inst e hn hi=>exact .inst (x.seqs _ _ (AL.not_ix hn) e (.inr (.inr ⟨_,rfl,rfl⟩))) (x.notAll hn e) (x.get hi)
noncomputable def aK (h:Heap) (α:AL) (xs:List PV) (vs:List Value):Prop:=
  xs.length=vs.length/\∀ (i:Nat) (x:PV) (v:Value),xs[i]?=some x->vs[i]?=some v->VR h α x v
theorem aK.nil {h α}:aK h α [] []:=⟨rfl,fun _ _ _ e=>by simp at e⟩
theorem aK.cons {h α x xs v vs} (a:VR h α x v) (b:aK h α xs vs):aK h α (x::xs) (v::vs):=by
  refine ⟨by simp [b.1],fun i y w e1 e2=>?_⟩
  cases i with
  | zero=>simp at e1 e2; subst e1 e2; exact a
  | succ i=>simp at e1 e2; exact b.2 i y w e1 e2
theorem aK.ext {F α h α' h'} (x:aD F α h α' h') {p:List PV} {v:List Value} (r:aK h α p v):aK h' α' p v:=
  ⟨r.1,fun i a b e1 e2=>(r.2 i a b e1 e2).ext x⟩
theorem aK.inv_cons {h α x xs vs} (r:aK h α (x::xs) vs):∃ v vs',vs=v::vs'/\VR h α x v/\aK h α xs vs':=by
  cases vs with
  | nil=>simp [aK] at r
  | cons v vs'=>exact ⟨v,vs',rfl,r.2 0 x v (by simp) (by simp),by have:=r.1; simp at this; exact this,fun i a b e1 e2=>r.2 (i + 1) a b (by simpa using e1) (by simpa using e2)⟩
theorem aK.append {h α xs vs ys ws} (a:aK h α xs vs) (b:aK h α ys ws):aK h α (xs++ys) (vs++ws):=by
  refine ⟨by simp [a.1,b.1],fun i y w e1 e2=>?_⟩
  by_cases hi:i < xs.length
  · rw [List.getElem?_append_left hi] at e1
    rw [List.getElem?_append_left (by rw [<- a.1]; exact hi)] at e2
    exact a.2 i y w e1 e2
  · rw [List.getElem?_append_right (by omega)] at e1
    rw [List.getElem?_append_right (by rw [<- a.1]; omega),<- a.1] at e2
    exact b.2 _ y w e1 e2
theorem VR.tupI {h:Heap} {α:AL} {xs:List PV} {a:Addr} {ai:List Value} {n:Nat} (e:h.get? a=some { cls:=.type "tuple",data:=.seq ai.toArray n }) (hn:a ∉ α.all) (r:aK h α xs ai):VR h α (.tup xs) (.ref a):=
  .tup e hn (by simpa using r.1) fun i x v e1 e2=>r.2 i x v e1 (by simpa using e2)
theorem VR.flI {h:Heap} {α:AL} {xs:List PV} {a:Addr} {ai:List Value} {n:Nat} (e:h.get? a=some { cls:=.type "list",data:=.seq ai.toArray n }) (hn:a ∉ α.all) (r:aK h α xs ai):VR h α (.fl xs) (.ref a):=
  .fl e hn (by simpa using r.1) fun i x v e1 e2=>r.2 i x v e1 (by simpa using e2)
inductive SeqAt (T:String) (h:Heap) (α:AL) (xs:List PV) (v:Value):Prop
  | mk (a:Addr) (ai:List Value) (n:Nat) (e:v=.ref a) (ht:h.get? a=some { cls:=.type T,data:=.seq (List.toArray ai) n }) (hn:a ∉ α.all) (vs:aK h α xs ai):SeqAt T h α xs v
theorem VR.tupE {h:Heap} {α:AL} {xs:List PV} {v:Value} (r:VR h α (.tup xs) v):SeqAt "tuple" h α xs v:=by
  cases r with
  | tup e hn hl hr=>exact ⟨_,_,_,rfl,by simpa using e,hn,by simpa using hl,fun i x v e1 e2=>hr i x v e1 (by simpa using e2)⟩
theorem VR.flE {h:Heap} {α:AL} {xs:List PV} {v:Value} (r:VR h α (.fl xs) v):SeqAt "list" h α xs v:=by
  cases r with
  | fl e hn hl hr=>exact ⟨_,_,_,rfl,by simpa using e,hn,by simpa using hl,fun i x v e1 e2=>hr i x v e1 (by simpa using e2)⟩
end Mine
namespace Mine
open PySem Classical
structure a8 where
  calls:Nat->Nat->List PV->ac->af PV
  md:Nat
noncomputable abbrev a8.call (C:a8):Nat->List PV->ac->af PV:=C.calls C.md
noncomputable def a8.hd (C:a8):Bool:=C.md != 0
noncomputable def a8.rz (C:a8):Bool:=Nat.ble C.md 1
noncomputable def a8.inH (C:a8):a8:=⟨C.calls,C.md + 1⟩
noncomputable def cn (w:Option (Nat × List PV)) (σ:ac):Prop:=
  match w with
  | none=>True
  | some (i,xs)=>σ[i]?=some (.lst xs)
noncomputable def zW:Option PV->List PV->List PV
  | some v,ys=>v::ys
  | none,ys=>ys
noncomputable def bh (w:Option (Nat × List PV)) (f:PV->ac->af (Option PV)):List PV->ac->af (List PV)
  | [],σ=>if cn w σ then .ok [] σ else .stuck
  | x::xs,σ=>if cn w σ then (f x σ).bind fun y σ=>(bh w f xs σ).bind fun ys σ=>.ok (zW y ys) σ else .stuck
noncomputable def cW (n:Nat) (c:af (List PV)) (f:List PV->ac->af PV):af PV:=
  match c with
  | .ok ys σ=>f ys σ
  | _=>.stuck
noncomputable def fh (σ:ac):PV->Option (Nat × List PV)
  | .ref i=>match σ[i]? with
    | some (.lst xs)=>some (i,xs)
    | _=>none
  | _=>none
noncomputable def bR (fz:Bool) (xs:List PV) (σ:ac):af PV:=
  if xs.length <= am then (if fz then .ok (.fl xs) σ else .ok (.ref σ.length) (σ++[.lst xs])) else .stuck
noncomputable def aP (a c:Int) (n:Nat):List PV:=(List.range n).map fun (i:Nat)=>.int (a + (i:Int) * c)
noncomputable def oY (a b:Int):Bool:=decide (a.natAbs < 2 ^ 60\/b.natAbs < 2 ^ 60)
noncomputable def rW (f:Int->Int->af PV) (a b:PV):af PV:=
  match a with
  | .int x=>match b with
    | .int y=>f x y
    | _=>.stuck
  | _=>.stuck
noncomputable def sZ (a b:PV) (σ:ac):af PV:=
  match a with
  | .int x=>match b with
    | .int y=>.ok (.int (x + y)) σ
    | _=>.stuck
  | .str x=>match b with
    | .str y=>if x.length + y.length <= am then .ok (.str (x++y)) σ else .stuck
    | _=>.stuck
  | .tup x=>match b with
    | .tup y=>if x.length + y.length <= am then .ok (.tup (x++y)) σ else .stuck
    | _=>.stuck
  | a=>match aY σ a with
    | some x=>match aY σ b with
      | some y=>if x.length + y.length <= am then .ok (.fl (x++y)) σ else .stuck
      | none=>.stuck
    | none=>.stuck
noncomputable def aeO (a b:PV) (σ:ac):af PV:=
  match b with
  | .int y=>match a with
    | .int x=>if oY x y then .ok (.int (x * y)) σ else .stuck
    | .str x=>if x.length <= 100/\0 <= y/\y <= 100 then .ok (.str (Txt.mul x y)) σ else .stuck
    | .fl xs=>if xs.length <= 100/\0 <= y/\y <= 100 then .ok (.fl (List.replicate y.toNat xs).flatten) σ else .stuck
    | _=>.stuck
  | _=>.stuck
noncomputable def fS (o:Op) (a b:PV) (σ:ac):af PV:=
  match o with
  | .add=>sZ a b σ
  | .sub=>rW (fun x y=>.ok (.int (x - y)) σ) a b
  | .mul=>aeO a b σ
  | .mod=>rW (fun x y=>if y=0 then .stuck else .ok (.int (x.fmod y)) σ) a b
  | .fdiv=>rW (fun x y=>if y ≠ 0/\y.natAbs < 1073741824 then .ok (.int (x.fdiv y)) σ else .stuck) a b
  | .pow=>rW (fun x n=>if 0 <= n/\n <= 100/\x=10 then .ok (.int (x ^ n.toNat)) σ else .stuck) a b
noncomputable def vN (f:Int->Int->Bool) (a b:PV) (σ:ac):af Bool:=
  match a with
  | .int x=>match b with
    | .int y=>.ok (f x y) σ
    | _=>.stuck
  | _=>.stuck
noncomputable def sq:PV->Bool
  | .none=>true
  | _=>false
noncomputable def isv (f:Bool->Bool) (a b:PV) (σ:ac):af Bool:=
  match b with
  | .none=>.ok (f (sq a)) σ
  | .bool y=>match a with
    | .bool x=>.ok (f (decide (x=y))) σ
    | _=>.stuck
  | _=>.stuck
noncomputable def cA (a b:PV) (σ:ac):Option Bool:=
  match b with
  | .str y=>match a with
    | .str x=>match x.cps.toList with
      | [c]=>some (y.cps.toList.contains c)
      | _=>none
    | _=>none
  | .tup xs=>iK σ a xs
  | .fl xs=>iK σ a xs
  | .ref r=>match σ[r]? with
    | some (.lst xs)=>iK σ a xs
    | some (.ds es)=>match a with
      | .str k=>some (az k es).isSome
      | _=>none
    | some (.dp es)=>(fE a).map fun k=>(az k es).isSome
    | _=>none
  | _=>none
noncomputable def bn (o:Cm) (a b:PV) (σ:ac):af Bool:=
  match o with
  | .eq=>af.ofOpt (eqv σ a b) σ
  | .ne=>af.ofOpt ((eqv σ a b).map (!·)) σ
  | .lt=>vN (fun x y=>decide (x < y)) a b σ
  | .le=>vN (fun x y=>decide (x <= y)) a b σ
  | .gt=>vN (fun x y=>decide (x > y)) a b σ
  | .ge=>vN (fun x y=>decide (x >= y)) a b σ
  | .is=>isv id a b σ
  | .isNot=>isv (!·) a b σ
  | .isin=>af.ofOpt (cA a b σ) σ
  | .notin=>af.ofOpt ((cA a b σ).map (!·)) σ
noncomputable def dB:List PV->Option (List Bool)
  | []=>some []
  | .bool b::r=>(dB r).map (b::·)
  | _::_=>none
noncomputable def dj:List PV->Option (List Str)
  | []=>some []
  | .str s::r=>(dj r).map (s::·)
  | _::_=>none
noncomputable def cm (l:List Str):List Str:=l.foldl (fun a x=>if a.any (· == x) then a else a++[x]) []
noncomputable def kc (f:List PV->af PV) (a:PV) (σ:ac):af PV:=
  match a5 σ a with
  | some xs=>f xs
  | none=>.stuck
noncomputable def jd {α:Type} (g:List PV->Option α) (f:α->af PV) (a:PV) (σ:ac):af PV:=
  match (aY σ a).bind g with
  | some l=>f l
  | none=>.stuck
noncomputable def age (a:PV) (σ:ac):af PV:=
  match a with
  | .str s=>if s.length <= am then .ok (.int s.length) σ else .stuck
  | a=>kc (fun xs=>if xs.length <= am then .ok (.int xs.length) σ else .stuck) a σ
noncomputable def agf (a:PV) (σ:ac):af PV:=
  match a with
  | .bool b=>.ok (.int (if b then 1 else 0)) σ
  | _=>.stuck
noncomputable def agb (a:PV) (σ:ac):af PV:=
  match a with
  | .str s=>.ok (.str s) σ
  | .int i=>if 0 <= i/\i < 1000000000 then .ok (.str (Str.ofString (toString i))) σ else .stuck
  | _=>.stuck
noncomputable def afd:List PV->List ((Str × Int) × PV)->Option (List ((Str × Int) × PV))
  | [],es=>some es
  | .tup [k,v]::r,es=>match fE k with
    | some k=>afd r (bW k v es)
    | none=>none
  | _::_,_=>none
noncomputable def afU (a:PV) (σ:ac):af PV:=
  match a with
  | .ref r=>match σ[r]? with
    | some (.dp es)=>if es.length <= am then .ok (.ref σ.length) (σ++[.dp es]) else .stuck
    | _=>.stuck
  | .fl xs=>match afd xs [] with
    | some es=>if xs.length <= am then .ok (.ref σ.length) (σ++[.dp es]) else .stuck
    | none=>.stuck
  | _=>.stuck
noncomputable def db (b:B1) (a:PV) (σ:ac):af PV:=
  match b with
  | .dict=>afU a σ
  | .len=>age a σ
  | .list fz=>kc (fun xs=>bR fz xs σ) a σ
  | .tuple=>kc (fun xs=>if xs.length <= am then .ok (.tup xs) σ else .stuck) a σ
  | .all=>jd dB (fun l=>.ok (.bool (l.all id)) σ) a σ
  | .int=>agf a σ
  | .str=>agb a σ
  | .lenset=>match (a5 σ a).bind dj with
    | some l=>if l.length <= 1000 then .ok (.int (cm l).length) σ else .stuck
    | none=>.stuck
noncomputable def uQ:B1->Bool
  | .all | .lenset=>true
  | .dict=>true
  | _=>false
noncomputable def kM (hd:Bool) (b:B1) (a:PV) (σ:ac):af PV:=bif hd && uQ b then .stuck else db b a σ
noncomputable def ra (a:PV) (sup dom:List Nat) (σ:ac):af Bool:=
  match a with
  | .exc c=>if dom.contains c then .ok (sup.contains c) σ else .stuck
  | _=>.stuck
noncomputable def fk (a:PV) (t:Ty) (σ:ac):af Bool:=
  match t with
  | .int=>match a with
    | .int _=>.ok true σ
    | .bool _=>.ok true σ
    | .none=>.ok false σ
    | .str _=>.ok false σ
    | _=>.stuck
  | .bool=>match a with
    | .bool _=>.ok true σ
    | .int _=>.ok false σ
    | .none=>.ok false σ
    | .str _=>.ok false σ
    | _=>.stuck
  | .str=>match a with
    | .str _=>.ok true σ
    | .int _=>.ok false σ
    | .none=>.ok false σ
    | .bool _=>.ok false σ
    | .tup _=>.ok false σ
    | _=>.stuck
  | .tuple=>match a with
    | .tup _=>.ok true σ
    | .str _=>.ok false σ
    | .int _=>.ok false σ
    | _=>.stuck
  | .list=>match a with
    | .tup _=>.ok false σ
    | a=>match aY σ a with
      | some _=>.ok true σ
      | none=>.stuck
noncomputable def lu (xs:List PV) (i:Int) (σ:ac):af PV:=if xs.length <= am then af.ofOpt ((cC i xs.length).bind (xs[·]?)) σ else .stuck
noncomputable def pL (o i:PV) (σ:ac):af PV:=
  match o with
  | .ref r=>match σ[r]? with
    | some (.ds es)=>match i with
      | .str k=>af.ofOpt (az k es) σ
      | _=>.stuck
    | some (.dp es)=>af.ofOpt ((fE i).bind fun k=>az k es) σ
    | _=>.stuck
  | _=>.stuck
noncomputable def dK (o i:PV) (σ:ac):af PV:=
  match i with
  | .int i=>match o with
    | .str s=>if s.cps.size <= am then
        match (cC i s.cps.size).bind (s.cps[·]?) with
        | some c=>.ok (.str ⟨#[c]⟩) σ
        | none=>.stuck
      else .stuck
    | .tup xs=>lu xs i σ
    | o=>match aY σ o with
      | some xs=>lu xs i σ
      | none=>.stuck
  | i=>pL o i σ
noncomputable def gr:PV->Option (Option Int)
  | .none=>some none
  | .int i=>some (some i)
  | _=>none
noncomputable def bo {α:Type} (xs:List α) (lo hi:Option Int):List α:=
  (xs.drop (lo.elim 0 (clipAt xs.length))).take (hi.elim xs.length (clipAt xs.length) - lo.elim 0 (clipAt xs.length))
noncomputable def eN (s:Str) (lo hi:Option Int):Str:=⟨(bo s.cps.toList lo hi).toArray⟩
noncomputable def slV (σ:ac) (o:PV) (lo hi:Option Int):Option PV:=
  match o with
  | .str x=>if x.length <= am then some (.str (eN x lo hi)) else none
  | o=>(aY σ o).bind fun xs=>if xs.length <= am then some (.fl (bo xs lo hi)) else none
noncomputable def fJ (o lo hi:PV) (σ:ac):af PV:=af.ofOpt ((gr lo).bind fun lo=>(gr hi).bind fun hi=>slV σ o lo hi) σ
noncomputable def vH (o:PV) (σ:ac):af PV:=
  match aY σ o with
  | some xs=>if xs.length <= am then .ok (.fl xs.reverse) σ else .stuck
  | none=>.stuck
noncomputable def acp (a:PV) (σ:ac):af PV:=
  match a with
  | .int i=>.ok (.int (-i)) σ
  | _=>.stuck
noncomputable def fm (o:PV) (σ:ac):Bool:=
  match o with
  | .ref r=>match σ[r]? with
    | some (.lst _)=>true
    | _=>false
  | _=>false
noncomputable def afJ:PV->Bool
  | .str _=>true
  | _=>false
noncomputable def rb (o:PV) (σ:ac):Bool:=
  match o with
  | .ref r=>match σ[r]? with
    | some (.ds _)=>true
    | some (.dp _)=>true
    | _=>false
  | _=>false
noncomputable def pT (m:Me) (o:PV) (σ:ac):Bool:=
  match m with
  | .append | .extend | .pop=>fm o σ
  | .get=>rb o σ
noncomputable def cX (o v:PV) (σ:ac):af PV:=
  match o with
  | .ref r=>match σ[r]? with
    | some (.lst xs)=>if xs.length < am then .ok .none (σ.set r (.lst (xs++[v]))) else .stuck
    | _=>.stuck
  | _=>.stuck
noncomputable def dP (o v:PV) (σ:ac):af PV:=
  match o with
  | .ref r=>match σ[r]? with
    | some (.lst xs)=>match v with
      | .tup ys=>if xs.length + ys.length <= am then .ok .none (σ.set r (.lst (xs++ys))) else .stuck
      | .fl ys=>if xs.length + ys.length <= am then .ok .none (σ.set r (.lst (xs++ys))) else .stuck
      | _=>.stuck
    | _=>.stuck
  | _=>.stuck
noncomputable def pU (o v:PV) (σ:ac):af PV:=
  match o with
  | .ref r=>match σ[r]? with
    | some (.ds es)=>match v with
      | .str k=>.ok ((az k es).getD .none) σ
      | _=>.stuck
    | some (.dp es)=>match fE v with
      | some k=>.ok ((az k es).getD .none) σ
      | none=>.stuck
    | _=>.stuck
  | _=>.stuck
noncomputable def pO (o v:PV) (σ:ac):af PV:=
  match o with
  | .ref r=>match σ[r]? with
    | some (.lst xs)=>match v with
      | .int i=>if 0 <= i/\xs.length <= am then match xs[i.toNat]? with
          | some v=>.ok v (σ.set r (.lst (xs.eraseIdx i.toNat)))
          | none=>.stuck
        else .stuck
      | _=>.stuck
    | _=>.stuck
  | _=>.stuck
noncomputable def kf (m:Me) (o:PV) (args:List PV) (σ:ac):af PV:=
  match args with
  | [v]=>match m with
    | .append=>cX o v σ
    | .extend=>dP o v σ
    | .pop=>pO o v σ
    | .get=>pU o v σ
  | _=>.stuck
noncomputable def oZ (x y:PV) (σ:ac):af PV:=
  match x,y with
  | .int x,.int y=>.ok (.int (min x y)) σ
  | _,_=>.stuck
noncomputable def iL (m:M0) (o:PV) (σ:ac):af PV:=
  match m with
  | .clear=>match o with
    | .ref r=>match σ[r]? with
      | some (.lst xs)=>if xs.length <= am then .ok .none (σ.set r (.lst [])) else .stuck
      | _=>.stuck
    | _=>.stuck
noncomputable def rV (c:Nat) (o:PV) (n:Str) (σ:ac):af PV:=
  match o with
  | .inst c' i=>if c'=c then (match σ[i]? with
    | some (.ns fs)=>af.ofOpt (az n fs) σ
    | _=>.stuck) else .stuck
  | _=>.stuck
noncomputable def rm (ks:List Str) (vals:List PV) (key dflt:PV) (σ:ac):af PV:=
  match key with
  | .str k=>.ok ((hH k (ks.zip vals)).getD dflt) σ
  | _=>.stuck
noncomputable def dJ (v:PV) (σ:ac):af Bool:=
  match v with
  | .bool b=>.ok b σ
  | _=>.stuck
noncomputable def g4 (v:PV) (σ:ac):af (List PV × Option (Nat × List PV)):=
  match ai σ v with
  | some xs=>.ok (xs,fh σ v) σ
  | none=>.stuck
noncomputable def ju (a:PV) (σ:ac):af (List PV × Option (Nat × List PV)):=
  match a with
  | .int n=>if 0 <= n/\n <= am then .ok (aP 0 1 n.toNat,none) σ else .stuck
  | _=>.stuck
noncomputable def dU:Nat->List PV->List PV
  | _,[]=>[]
  | i,x::r=>.tup [.int i,x]::dU (i + 1) r
noncomputable def kJ (a:PV) (σ:ac):af (List PV × Option (Nat × List PV)):=
  match aY σ a with
  | some xs=>if xs.length <= am then .ok (dU 0 xs,fh σ a) σ else .stuck
  | none=>.stuck
noncomputable def aR (cap:List (Option Nat)) (ρ:aw):aw:=cap.map fun (o:Option Nat)=>match o with | some i=>(ρ[i]?).join | none=>none
noncomputable def yS (ρ:aw) (i:Nat) (σ:ac):af PV:=
  match ρ[i]? with
  | some (some v)=>.ok v σ
  | _=>.stuck
structure i8 where
  ev:aw->ac->af PV
  tst:aw->ac->af Bool
  evs:aw->ac->af (List PV)
  evAnd:aw->ac->af PV
  evOr:aw->ac->af PV
  tstAnd:aw->ac->af Bool
  tstOr:aw->ac->af Bool
  evIt:aw->ac->af (List PV × Option (Nat × List PV))
noncomputable def i8.two (e:aw->ac->af PV) (t:aw->ac->af Bool):i8:=
  ⟨e,t,fun _ _=>.stuck,fun _ _=>.stuck,fun _ _=>.stuck,fun _ _=>.stuck,fun _ _=>.stuck,fun ρ σ=>(e ρ σ).bind g4⟩
noncomputable def i8.val (e:aw->ac->af PV):i8:=i8.two e fun ρ σ=>(e ρ σ).bind dJ
noncomputable def i8.nil:i8:=
  ⟨fun _ _=>.stuck,fun _ _=>.stuck,fun _ σ=>.ok [] σ,fun _ _=>.stuck,fun _ _=>.stuck,fun _ σ=>.ok true σ,fun _ σ=>.ok false σ,fun _ _=>.stuck⟩
noncomputable def i8.cons (a:i8) (last:Bool) (r:i8):i8:=
  ⟨fun _ _=>.stuck,fun _ _=>.stuck,fun ρ σ=>(a.ev ρ σ).bind fun v σ=>(r.evs ρ σ).bind fun vs σ=>.ok (v::vs) σ,
    fun ρ σ=>if last then a.ev ρ σ else (a.ev ρ σ).bind fun v σ=>(dJ v σ).bind fun b σ=>if b then r.evAnd ρ σ else .ok v σ,
    fun ρ σ=>if last then a.ev ρ σ else (a.ev ρ σ).bind fun v σ=>(dJ v σ).bind fun b σ=>if b then .ok v σ else r.evOr ρ σ,
    fun ρ σ=>(a.tst ρ σ).bind fun b σ=>if b then r.tstAnd ρ σ else .ok false σ,
    fun ρ σ=>(a.tst ρ σ).bind fun b σ=>if b then .ok true σ else r.tstOr ρ σ,
    fun _ _=>.stuck⟩
noncomputable def i8.it (f:aw->ac->af (List PV × Option (Nat × List PV))):i8:=
  ⟨fun _ _=>.stuck,fun _ _=>.stuck,fun _ _=>.stuck,fun _ _=>.stuck,fun _ _=>.stuck,fun _ _=>.stuck,fun _ _=>.stuck,f⟩
noncomputable def X.isNil:X->Bool
  | .nil=>true
  | _=>false
noncomputable def kg (C:a8) (c f:Nat) (n:Str) (x:PV) (args:ac->af (List PV)) (σ:ac):af PV:=
  match x with
  | .inst c' i=>if c'=c then (match σ[i]? with
    | some (.ns fs)=>(match az n fs with
      | none=>(args σ).bind fun vs σ=>C.call f (.inst c' i::vs) σ
      | some _=>.stuck)
    | _=>.stuck) else .stuck
  | _=>.stuck
noncomputable def l7 (C:a8) (c f:Nat) (vs:List PV) (σ:ac):af PV:=
  (C.call f (.inst c σ.length::vs) (σ++[.ns []])).bind fun v σ'=>match v with
    | .none=>.ok (.inst c σ.length) σ'
    | _=>.stuck
noncomputable def bp (C:a8):X->i8
  | .nil=>i8.nil
  | .cons a r=>i8.cons (bp C a) r.isNil (bp C r)
  | .k v=>.val fun _ σ=>.ok v σ
  | .v i=>.val fun ρ σ=>yS ρ i σ
  | .and xs=>.two (bp C xs).evAnd (bp C xs).tstAnd
  | .or xs=>.two (bp C xs).evOr (bp C xs).tstOr
  | .not a=>.two (fun ρ σ=>((bp C a).ev ρ σ).bind fun v σ=>(dJ v σ).bind fun b σ=>.ok (.bool (!b)) σ) (fun ρ σ=>((bp C a).tst ρ σ).bind fun b σ=>.ok (!b) σ)
  | .neg a=>.val fun ρ σ=>((bp C a).ev ρ σ).bind acp
  | .bin o a b=>.val fun ρ σ=>((bp C a).ev ρ σ).bind fun x σ=>((bp C b).ev ρ σ).bind fun y σ=>fS o x y σ
  | .cmp a o b=>.two (fun ρ σ=>((bp C a).ev ρ σ).bind fun x σ=>((bp C b).ev ρ σ).bind fun y σ=>(bn o x y σ).bind fun r σ=>.ok (.bool r) σ)
      (fun ρ σ=>((bp C a).ev ρ σ).bind fun x σ=>((bp C b).ev ρ σ).bind fun y σ=>bn o x y σ)
  | .cmp2 a o b o2 c=>.two (fun ρ σ=>((bp C a).ev ρ σ).bind fun x σ=>((bp C b).ev ρ σ).bind fun y σ=>(bn o x y σ).bind fun r σ =>
      if r then ((bp C c).ev ρ σ).bind fun z σ=>(bn o2 y z σ).bind fun r σ=>.ok (.bool r) σ else .ok (.bool false) σ)
      (fun ρ σ=>((bp C a).ev ρ σ).bind fun x σ=>((bp C b).ev ρ σ).bind fun y σ=>(bn o x y σ).bind fun r σ =>
      if r then ((bp C c).ev ρ σ).bind fun z σ=>bn o2 y z σ else .ok false σ)
  | .lst fz xs=>.val fun ρ σ=>((bp C xs).evs ρ σ).bind fun vs σ=>bR fz vs σ
  | .tup xs=>.val fun ρ σ=>((bp C xs).evs ρ σ).bind fun vs σ=>if vs.length <= am then .ok (.tup vs) σ else .stuck
  | .fdget ks vals key dflt=>.val fun ρ σ=>((bp C key).ev ρ σ).bind fun k σ=>((bp C dflt).ev ρ σ).bind fun d σ=>rm ks vals k d σ
  | .comp fz t cap elt cond it=>.val fun ρ σ=>bif C.hd then .stuck else ((bp C it).evIt ρ σ).bind fun (xs,w) σ =>
      cW xs.length (bh w (fun x σ =>
        ((bp C cond).tst ((aR cap ρ).set t (some x)) σ).bind fun b σ=>if b then ((bp C elt).ev ((aR cap ρ).set t (some x)) σ).bind fun v σ=>.ok (some v) σ else .ok none σ) xs σ) fun ys σ=>bR fz ys σ
  | .range1 a=>.it fun ρ σ=>((bp C a).ev ρ σ).bind ju
  | .enum a=>.it fun ρ σ=>((bp C a).ev ρ σ).bind kJ
  | .dnew pk=>.val fun _ σ=>.ok (.ref σ.length) (σ++[bif pk then .dp [] else .ds []])
  | .attr c o n=>.val fun ρ σ=>((bp C o).ev ρ σ).bind fun x σ=>rV c x n σ
  | .meth c f n o args=>.val fun ρ σ=>((bp C o).ev ρ σ).bind fun x σ=>kg C c f n x (fun σ=>(bp C args).evs ρ σ) σ
  | .new c f args=>.val fun ρ σ=>((bp C args).evs ρ σ).bind fun vs σ=>l7 C c f vs σ
  | .me0 m o=>.val fun ρ σ=>((bp C o).ev ρ σ).bind fun x σ=>iL m x σ
  | .rev o=>.val fun ρ σ=>((bp C o).ev ρ σ).bind fun x σ=>vH x σ
  | .call f args=>.val fun ρ σ=>((bp C args).evs ρ σ).bind fun vs σ=>C.call f vs σ
  | .b1 b a=>.val fun ρ σ=>((bp C a).ev ρ σ).bind fun v σ=>kM C.hd b v σ
  | .min2 a b=>.val fun ρ σ=>bif C.hd then .stuck else ((bp C a).ev ρ σ).bind fun x σ=>((bp C b).ev ρ σ).bind fun y σ=>oZ x y σ
  | .isinst a t=>.val fun ρ σ=>((bp C a).ev ρ σ).bind fun v σ=>(fk v t σ).bind fun b σ=>.ok (.bool b) σ
  | .isexc a sup dom=>.val fun ρ σ=>((bp C a).ev ρ σ).bind fun v σ=>(ra v sup dom σ).bind fun b σ=>.ok (.bool b) σ
  | .me m o args=>.val fun ρ σ=>((bp C o).ev ρ σ).bind fun r σ=>if pT m r σ then ((bp C args).evs ρ σ).bind fun vs σ=>kf m r vs σ else .stuck
  | .sub o i=>.val fun ρ σ=>((bp C o).ev ρ σ).bind fun x σ=>((bp C i).ev ρ σ).bind fun y σ=>dK x y σ
  | .slice o lo hi=>.val fun ρ σ=>((bp C o).ev ρ σ).bind fun x σ=>((bp C lo).ev ρ σ).bind fun a σ=>((bp C hi).ev ρ σ).bind fun b σ=>fJ x a b σ
noncomputable def ev (C:a8) (x:X) (ρ:aw) (σ:ac):af PV:=(bp C x).ev ρ σ
noncomputable def evs (C:a8) (x:X) (ρ:aw) (σ:ac):af (List PV):=(bp C x).evs ρ σ
noncomputable def evAnd (C:a8) (x:X) (ρ:aw) (σ:ac):af PV:=(bp C x).evAnd ρ σ
noncomputable def evOr (C:a8) (x:X) (ρ:aw) (σ:ac):af PV:=(bp C x).evOr ρ σ
noncomputable def tst (C:a8) (x:X) (ρ:aw) (σ:ac):af Bool:=(bp C x).tst ρ σ
noncomputable def tstAnd (C:a8) (x:X) (ρ:aw) (σ:ac):af Bool:=(bp C x).tstAnd ρ σ
noncomputable def tstOr (C:a8) (x:X) (ρ:aw) (σ:ac):af Bool:=(bp C x).tstOr ρ σ
noncomputable def evIt (C:a8) (x:X) (ρ:aw) (σ:ac):af (List PV × Option (Nat × List PV)):=(bp C x).evIt ρ σ
section
variable {C:a8} {ρ:aw} {σ:ac}
theorem agj {i:Nat}:ev C (.v i) ρ σ=yS ρ i σ:=rfl
theorem afS {xs:X}:ev C (.or xs) ρ σ=evOr C xs ρ σ:=rfl
theorem afa {o:Op} {a b:X}:ev C (.bin o a b) ρ σ=(ev C a ρ σ).bind fun x σ=>(ev C b ρ σ).bind fun y σ=>fS o x y σ:=rfl
theorem ae9 {o:Cm} {a b:X}:ev C (.cmp a o b) ρ σ=(ev C a ρ σ).bind fun x σ=>(ev C b ρ σ).bind fun y σ=>(bn o x y σ).bind fun r σ=>.ok (.bool r) σ:=rfl
theorem aem {o o2:Cm} {a b c:X}:ev C (.cmp2 a o b o2 c) ρ σ=(ev C a ρ σ).bind fun x σ=>(ev C b ρ σ).bind fun y σ=>(bn o x y σ).bind fun r σ =>
      if r then (ev C c ρ σ).bind fun z σ=>(bn o2 y z σ).bind fun r σ=>.ok (.bool r) σ else .ok (.bool false) σ:=rfl
theorem abu {fz:Bool} {xs:X}:ev C (.lst fz xs) ρ σ=(evs C xs ρ σ).bind fun vs σ=>bR fz vs σ:=rfl
theorem ae7 {xs:X}:ev C (.tup xs) ρ σ=(evs C xs ρ σ).bind fun vs σ=>if vs.length <= am then .ok (.tup vs) σ else .stuck:=rfl
theorem acR {ks:List Str} {vals:List PV} {key dflt:X}:ev C (.fdget ks vals key dflt) ρ σ=(ev C key ρ σ).bind fun k σ=>(ev C dflt ρ σ).bind fun d σ=>rm ks vals k d σ:=rfl
theorem et {fz:Bool} {t:Nat} {cap:List (Option Nat)} {elt cond it:X}:ev C (.comp fz t cap elt cond it) ρ σ=bif C.hd then .stuck else (evIt C it ρ σ).bind fun (xs,w) σ =>
      cW xs.length (bh w (fun x σ =>
        (tst C cond ((aR cap ρ).set t (some x)) σ).bind fun b σ=>if b then (ev C elt ((aR cap ρ).set t (some x)) σ).bind fun v σ=>.ok (some v) σ else .ok none σ) xs σ) fun ys σ=>bR fz ys σ:=rfl
theorem o7 {f:Nat} {args:X}:ev C (.call f args) ρ σ=(evs C args ρ σ).bind fun vs σ=>C.call f vs σ:=rfl
theorem adv {b:B1} {a:X}:ev C (.b1 b a) ρ σ=(ev C a ρ σ).bind fun v σ=>kM C.hd b v σ:=rfl
theorem yz {a b:X}:ev C (.min2 a b) ρ σ=bif C.hd then .stuck else (ev C a ρ σ).bind fun x σ=>(ev C b ρ σ).bind fun y σ=>oZ x y σ:=rfl
theorem abv {a:X} {t:Ty}:ev C (.isinst a t) ρ σ=(ev C a ρ σ).bind fun v σ=>(fk v t σ).bind fun b σ=>.ok (.bool b) σ:=rfl
theorem adu {m:Me} {o args:X}:ev C (.me m o args) ρ σ=(ev C o ρ σ).bind fun r σ=>if pT m r σ then (evs C args ρ σ).bind fun vs σ=>kf m r vs σ else .stuck:=rfl
theorem ae8 {o i:X}:ev C (.sub o i) ρ σ=(ev C o ρ σ).bind fun x σ=>(ev C i ρ σ).bind fun y σ=>dK x y σ:=rfl
theorem wM {o lo hi:X}:ev C (.slice o lo hi) ρ σ=(ev C o ρ σ).bind fun x σ=>(ev C lo ρ σ).bind fun a σ=>(ev C hi ρ σ).bind fun b σ=>fJ x a b σ:=rfl
theorem jy:evs C .nil ρ σ=.ok [] σ:=rfl
theorem cJ {a r:X}:evs C (.cons a r) ρ σ=(ev C a ρ σ).bind fun v σ=>(evs C r ρ σ).bind fun vs σ=>.ok (v::vs) σ:=rfl
theorem oC:evAnd C .nil ρ σ=.stuck:=rfl
theorem oB {a:X}:evAnd C (.cons a .nil) ρ σ=ev C a ρ σ:=rfl
theorem gV {a b r:X}:evAnd C (.cons a (.cons b r)) ρ σ=(ev C a ρ σ).bind fun v σ=>(dJ v σ).bind fun t σ=>if t then evAnd C (.cons b r) ρ σ else .ok v σ:=rfl
theorem qm:evOr C .nil ρ σ=.stuck:=rfl
theorem ql {a:X}:evOr C (.cons a .nil) ρ σ=ev C a ρ σ:=rfl
theorem kI {a b r:X}:evOr C (.cons a (.cons b r)) ρ σ=(ev C a ρ σ).bind fun v σ=>(dJ v σ).bind fun t σ=>if t then .ok v σ else evOr C (.cons b r) ρ σ:=rfl
theorem adH {a:X}:tst C (.not a) ρ σ=(tst C a ρ σ).bind fun b σ=>.ok (!b) σ:=rfl
theorem ya {o:Cm} {a b:X}:tst C (.cmp a o b) ρ σ=(ev C a ρ σ).bind fun x σ=>(ev C b ρ σ).bind fun y σ=>bn o x y σ:=rfl
theorem u5 {o o2:Cm} {a b c:X}:tst C (.cmp2 a o b o2 c) ρ σ=(ev C a ρ σ).bind fun x σ=>(ev C b ρ σ).bind fun y σ=>(bn o x y σ).bind fun r σ =>
      if r then (ev C c ρ σ).bind fun z σ=>bn o2 y z σ else .ok false σ:=rfl
theorem ab2 {f:Nat} {args:X}:tst C (.call f args) ρ σ=(ev C (.call f args) ρ σ).bind dJ:=rfl
theorem aew {b:B1} {a:X}:tst C (.b1 b a) ρ σ=(ev C (.b1 b a) ρ σ).bind dJ:=rfl
theorem yV {a:X} {t:Ty}:tst C (.isinst a t) ρ σ=(ev C (.isinst a t) ρ σ).bind dJ:=rfl
theorem qB:tstAnd C .nil ρ σ=.ok true σ:=rfl
theorem cS {a r:X}:tstAnd C (.cons a r) ρ σ=(tst C a ρ σ).bind fun b σ=>if b then tstAnd C r ρ σ else .ok false σ:=rfl
theorem tf:tstOr C .nil ρ σ=.ok false σ:=rfl
theorem dk {a r:X}:tstOr C (.cons a r) ρ σ=(tst C a ρ σ).bind fun b σ=>if b then .ok true σ else tstOr C r ρ σ:=rfl
theorem k8 {a:X}:evIt C (.range1 a) ρ σ=(ev C a ρ σ).bind ju:=rfl
theorem abw {a:X}:evIt C (.enum a) ρ σ=(ev C a ρ σ).bind kJ:=rfl
theorem yB {c:Nat} {o:X} {n:Str}:ev C (.attr c o n) ρ σ=(ev C o ρ σ).bind fun x σ=>rV c x n σ:=rfl
theorem yA {c f:Nat} {n:Str} {o args:X}:ev C (.meth c f n o args) ρ σ=(ev C o ρ σ).bind fun x σ=>kg C c f n x (fun σ=>evs C args ρ σ) σ:=rfl
theorem abr {c f:Nat} {args:X}:ev C (.new c f args) ρ σ=(evs C args ρ σ).bind fun vs σ=>l7 C c f vs σ:=rfl
theorem abt {m:M0} {o:X}:ev C (.me0 m o) ρ σ=(ev C o ρ σ).bind fun x σ=>iL m x σ:=rfl
theorem abq {o:X}:ev C (.rev o) ρ σ=(ev C o ρ σ).bind fun x σ=>vH x σ:=rfl
end
inductive S where
  | nil | cons (a r:S)
  | asg (i:Nat) (x:X)
  | asgSub (o i x:X)
  | expr (x:X)
  | ret (x:X)
  | ife (c:X) (a b:S)
  | for1 (i:Nat) (it:X) (body:S)
  | brk
  | asgAttr (c:Nat) (o:X) (n:Str) (x:X)
  | asgT (is:List Nat) (x:X)
  | forT (is:List Nat) (it:X) (body:S)
  | raise (c:Nat)
  | tryE (body:S) (sup:List Nat) (i:Nat) (h:S)
inductive bQ where
  | next (ρ:aw) (σ:ac)
  | brk (ρ:aw) (σ:ac)
  | cont (ρ:aw) (σ:ac)
  | ret (v:PV) (ρ:aw) (σ:ac)
  | exc (i:Nat) (ρ:aw) (σ:ac)
  | stuck
noncomputable def af.toS {α:Type} (o:af α) (ρ:aw) (f:α->ac->bQ):bQ:=
  match o with
  | .ok a σ=>f a σ
  | .exc i σ=>.exc i ρ σ
  | .stuck=>.stuck
noncomputable def jF (go:aw->ac->bQ):bQ->bQ
  | .next ρ σ=>go ρ σ
  | .cont ρ σ=>go ρ σ
  | .brk ρ σ=>.next ρ σ
  | .ret v ρ σ=>.ret v ρ σ
  | _=>.stuck
noncomputable def afg (f:aw->bQ):Option aw->bQ
  | none=>.stuck
  | some ρ=>f ρ
noncomputable def bB (w:Option (Nat × List PV)) (bind:PV->aw->Option aw) (f:aw->ac->bQ):List PV->aw->ac->bQ
  | [],ρ,σ=>if cn w σ then .next ρ σ else .stuck
  | x::xs,ρ,σ=>if cn w σ then afg (fun ρ=>jF (bB w bind f xs) (f ρ σ)) (bind x ρ) else .stuck
noncomputable def li (m:MO) (i v:PV):Option MO:=
  match m with
  | .ds es=>match i with
    | .str k=>if es.length < am then some (.ds (bW k v es)) else none
    | _=>none
  | .dp es=>(fE i).bind fun k=>if es.length < am then some (.dp (bW k v es)) else none
  | _=>none
noncomputable def cg (o i v:PV) (ρ:aw) (σ:ac):bQ:=
  match o with
  | .ref r=>match (σ[r]?).bind fun m=>li m i v with
    | some m=>.next ρ (σ.set r m)
    | none=>.stuck
  | _=>.stuck
noncomputable def eM (c:Nat) (o:PV) (n:Str) (v:PV) (ρ:aw) (σ:ac):bQ:=
  match o with
  | .inst c' i=>if c'=c then (match σ[i]? with
    | some (.ns fs)=>if fs.length < 100 then .next ρ (σ.set i (.ns (bW n v fs))) else .stuck
    | _=>.stuck) else .stuck
  | _=>.stuck
noncomputable def lj:List Nat->List PV->aw->Option aw
  | [],[],ρ=>some ρ
  | i::is,v::vs,ρ=>lj is vs (ρ.set i (some v))
  | _,_,_=>none
noncomputable def jm (is:List Nat) (v:PV) (ρ:aw):Option aw:=
  match v with
  | .tup xs=>if xs.length <= 100 then lj is xs ρ else none
  | _=>none
noncomputable def cI (i:Nat) (v:PV) (ρ:aw):Option aw:=some (ρ.set i (some v))
noncomputable def iG:bQ->bQ
  | .next ρ σ=>.next (ρ.map fun _=>none) σ
  | .ret v ρ σ=>.ret v (ρ.map fun _=>none) σ
  | _=>.stuck
noncomputable def ex (C:a8) (N:Nat):S->aw->ac->bQ
  | .nil,ρ,σ=>.next ρ σ
  | .cons a r,ρ,σ=>match ex C N a ρ σ with
    | .next ρ σ=>ex C N r ρ σ
    | o=>o
  | .asg i x,ρ,σ=>(ev C x ρ σ).toS ρ fun v σ=>.next (ρ.set i (some v)) σ
  | .asgSub o i x,ρ,σ=>(ev C x ρ σ).toS ρ fun v σ=>(ev C o ρ σ).toS ρ fun o σ=>(ev C i ρ σ).toS ρ fun i σ=>cg o i v ρ σ
  | .asgAttr c o n x,ρ,σ=>(ev C x ρ σ).toS ρ fun v σ=>(ev C o ρ σ).toS ρ fun o σ=>eM c o n v ρ σ
  | .asgT is x,ρ,σ=>bif C.hd then .stuck else (ev C x ρ σ).toS ρ fun v σ=>match jm is v ρ with
    | some ρ=>.next ρ σ
    | none=>.stuck
  | .forT is it body,ρ,σ=>bif C.hd then .stuck else (evIt C it ρ σ).toS ρ fun (xs,w) σ=>bB w (jm is) (fun ρ σ=>ex C N body ρ σ) xs ρ σ
  | .expr x,ρ,σ=>(ev C x ρ σ).toS ρ fun _ σ=>.next ρ σ
  | .ret x,ρ,σ=>(ev C x ρ σ).toS ρ fun v σ=>.ret v ρ σ
  | .ife c a b,ρ,σ=>(tst C c ρ σ).toS ρ fun t σ=>if t then ex C N a ρ σ else ex C N b ρ σ
  | .for1 i it body,ρ,σ=>bif C.hd then .stuck else (evIt C it ρ σ).toS ρ fun (xs,w) σ=>bB w (cI i) (fun ρ σ=>ex C N body ρ σ) xs ρ σ
  | .brk,ρ,σ=>.brk ρ σ
  | .raise c,ρ,σ=>bif C.rz then .exc c ρ σ else .stuck
  | .tryE body sup i h,ρ,σ=>match ex C N body ρ σ with
    | .exc c ρ σ=>bif C.rz then (if sup.contains c/\i < ρ.length then iG (ex C.inH N h (ρ.set i (some (.exc c))) σ) else .stuck) else .stuck
    | o=>o
structure Fn where
  params:Nat
  slots:Nat
  body:S
structure g9 where
  fns:List Fn
noncomputable def bE (P:g9) (N:Nat):Nat->Nat->Nat->List PV->ac->af PV
  | _,0,_,_,_=>.stuck
  | m,d + 1,f,vs,σ=>match P.fns[f]? with
    | some fn=>if vs.length=fn.params then
        match ex ⟨fun m=>bE P N m d,m⟩ N fn.body (vs.map some++List.replicate (fn.slots - fn.params) none) σ with
        | .next _ σ=>.ok .none σ
        | .ret v _ σ=>.ok v σ
        | .exc i _ σ=>.exc i σ
        | _=>.stuck
      else .stuck
    | none=>.stuck
noncomputable def aU (P:g9) (N:Nat):Nat->Nat->List PV->ac->af PV:=bE P N 0
noncomputable def eY (P:g9) (N:Nat) (m:Nat) (d:Nat):a8:=⟨fun m=>bE P N m d,m⟩
end Mine
namespace Mine
open PySem
section
variable {α β γ δ ε ζ:Type} {a:Option α} {b:Option β} {c:Option γ} {d:Option δ}
noncomputable def ay (q:Bool) (o:Option α):Option α:=bif q then o else none
theorem aA {q:Bool} {x:α} {P:Prop} (h:ay q a=some x) (k:q=true->a=some x->P):P:=by
  cases q with
  | true=>exact k rfl h
  | false=>exact nomatch h
noncomputable def hV (a:Option α) (f:α->Option β) (y:Option β):Option β:=match a with
  | some x=>f x
  | none=>y
theorem eQ {f:α->Option β} {y:Option β} {z:β} {P:Prop} (h:hV a f y=some z) (k1:∀ x,a=some x->f x=some z->P) (k2:a=none->y=some z->P):P:=by
  cases a with
  | none=>exact k2 rfl h
  | some x=>exact k1 x rfl h
theorem abD {q:Bool} {o o':Option α} {x:α} {P:Prop} (h:(bif q then o else o')=some x) (k1:q=true->o=some x->P) (k2:o'=some x->P):P:=by
  cases q with
  | true=>exact k1 rfl h
  | false=>exact k2 h
theorem uO {q:Prop} [Decidable q] {x:α} {P:Prop} (h:(if q then a else none)=some x) (k:q->a=some x->P):P:=by
  by_cases hq:q
  · exact k hq ((if_pos hq).symm.trans h)
  · exact nomatch (if_neg hq).symm.trans h
theorem aE {f:α->Option β} {z:β} {P:Prop} (h:a.bind f=some z) (k:∀ x,a=some x->f x=some z->P):P:=by
  cases a with
  | none=>exact nomatch h
  | some x=>exact k x rfl h
theorem cr {f:α->β} {M:β->Prop} {z:β} (h:a.map f=some z) (k:∀ x,a=some x->M (f x)):M z:=by
  cases a with
  | none=>exact nomatch h
  | some x=>obtain rfl:=Option.some.inj h; exact k x rfl
noncomputable def o2 (a:Option α) (b:Option β) (f:α->β->ζ):Option ζ:=a.bind fun x=>b.map (f x)
theorem dy {f:α->β->ζ} {M:ζ->Prop} {z:ζ} (h:o2 a b f=some z) (k:∀ x y,a=some x->b=some y->M (f x y)):M z:=
  aE h fun x h1 h=>cr h fun y h2=>k x y h1 h2
noncomputable def o3 (a:Option α) (b:Option β) (c:Option γ) (f:α->β->γ->ζ):Option ζ:=a.bind fun x=>o2 b c (f x)
theorem jE {f:α->β->γ->ζ} {M:ζ->Prop} {z:ζ} (h:o3 a b c f=some z) (k:∀ x y w,a=some x->b=some y->c=some w->M (f x y w)):M z:=
  aE h fun x h1 h=>dy h fun y w h2 h3=>k x y w h1 h2 h3
noncomputable def o4 (a:Option α) (b:Option β) (c:Option γ) (d:Option δ) (f:α->β->γ->δ->ζ):Option ζ:=a.bind fun x=>o3 b c d (f x)
theorem agd {f:α->β->γ->δ->ζ} {M:ζ->Prop} {z:ζ} (h:o4 a b c d f=some z) (k:∀ x y w u,a=some x->b=some y->c=some w->d=some u->M (f x y w u)):M z:=
  aE h fun x h1 h=>jE h fun y w u h2 h3 h4=>k x y w u h1 h2 h3 h4
noncomputable def yn:List α->Option α
  | []=>none
  | x::r=>ay r.isEmpty (some x)
theorem nJ {l:List α} {x:α} (h:yn l=some x):l=[x]:=by
  cases l with
  | nil=>exact nomatch h
  | cons y r =>
    refine aA h fun h1 h2=>?_
    rw [List.isEmpty_iff.mp h1,Option.some.inj h2]
end
noncomputable def bf (N names:List (Str × NameKind)):List (Str × NameKind):=names.map fun (n,k)=>if (k == .free && N.lookup n == some .cell) then (n,.cell) else (n,k)
noncomputable def dH (N N':List (Str × NameKind)):List (Option Nat):=N'.map fun (n,k)=>if k == .cell then N.findIdx? (·.1 == n) else none
structure aL where
  fns:List Str
  cst:List (Str × PV)
  bins:List Str
  muts:List (Nat × Nat)
  excs:List (Str × Nat × List Nat)
  brd:Option (Str × Nat)
  meths:List Str
  repl:Bool
  dstr:List (Nat × Nat)
noncomputable def lg:Const->Option PV
  | .none=>some .none
  | .bool b=>some (.bool b)
  | .int i=>some (.int i)
  | .str s=>ay (PyData.strOk s) (some (.str s))
  | _=>none
noncomputable def aex:Operator->Option Op
  | .Add=>some .add | .Sub=>some .sub | .Mult=>some .mul | .Mod=>some .mod | .FloorDiv=>some .fdiv | .Pow=>some .pow
  | _=>none
noncomputable def r8:CmpOp->Option Cm
  | .Eq=>some .eq | .NotEq=>some .ne | .Lt=>some .lt | .LtE=>some .le | .Gt=>some .gt | .GtE=>some .ge
  | .Is=>some .is | .IsNot=>some .isNot | .In=>some .isin | .NotIn=>some .notin
theorem dY {α:Type} {x:Str} {v:α}:∀ {l:List (Str × α)},l.lookup x=some v->(x,v) ∈ l
  | [],h=>by cases h
  | (y,u)::l,h=>by
    rw [List.lookup_cons] at h
    cases hb:x == y with
    | true=>rw [hb] at h; cases h; rw [eq_of_beq hb]; exact .head _
    | false=>rw [hb] at h; exact .tail _ (dY h)
noncomputable def z6 (fz:Bool):List (Str × B1):=[("len",.len),("list",.list fz),("tuple",.tuple),("all",.all),("int",.int),("str",.str)
  ]
noncomputable def rU (fz:Bool) (x:Str):Option B1:=(z6 fz).lookup x
noncomputable def adi:List (Str × Me):=[("append",.append),("extend",.extend),("pop",.pop)
  ,("get",.get)
  ]
noncomputable def vV (x:Str):Option Me:=adi.lookup x
noncomputable def adk:List (Str × M0):=
  ("clear",.clear) ::
  []
noncomputable def vW (x:Str):Option M0:=adk.lookup x
noncomputable def ac7:List (Str × Ty):=[("int",.int),("str",.str),("bool",.bool),("tuple",.tuple)
  ,("list",.list)
  ]
noncomputable def u0 (x:Str):Option Ty:=ac7.lookup x
noncomputable def ady:List (Str × Value):=[("len",.builtin "len"),("list",.type "list"),("tuple",.type "tuple"),("min",.builtin "min"),("all",.builtin "all"),("int",.type "int"),("str",.type "str"),("bool",.type "bool"),("ValueError",.type "ValueError"),("isinstance",.builtin "isinstance"),("range",.type "range"),("set",.type "set")
  ,("dict",.type "dict")
  ,("enumerate",.type "enumerate")
  ]
noncomputable def jn (x:Str):Option Value:=ady.lookup x
noncomputable def cT:List Str:=["plan", "turns", "givers", "outer", "here", "gone", "order"]
noncomputable def lY:List (Str × NameKind)->Bool
  | []=>true
  | (x,k)::r=>!(r.any fun p=>p.1 == x) && !(x == ("__debug__" : Str)) && (k == .local || k == .cell || k == .globalImplicit) && lY r
noncomputable def acH:X->Bool
  | .range1 _=>true
  | .enum _=>true
  | _=>false
noncomputable def fH (f:Expr->Option X):List Expr->Option X
  | []=>some .nil
  | e::r=>o2 (f e) (fH f r) .cons
noncomputable def afC (T:aL) (x:Str) (i:Nat):NameKind->Option X
  | .local=>some (.v i)
  | .cell=>some (.v i)
  | .globalImplicit=>(T.cst.lookup x).map .k
  | _=>none
noncomputable def vd (T:aL) (N:List (Str × NameKind)) (x:Str):Option X:=
  (N.findIdx? (·.1 == x)).bind fun i=>(N[i]?).bind fun q=>afC T x i q.2
noncomputable def gb (N:List (Str × NameKind)) (x:Str):Bool:=N.lookup x == some .globalImplicit
noncomputable def rd (T:aL) (N:List (Str × NameKind)) (x:Str):Bool:=gb N x && T.bins.contains x
noncomputable def acz:Expr->Option Str
  | .Constant c _ _=>match c with
    | .str x=>ay (PyData.strOk x) (some x)
    | _=>none
  | _=>none
noncomputable def aa1:Expr->Bool
  | .Constant c _ _=>match c with
    | .int i=>i == 1
    | _=>false
  | _=>false
noncomputable def aeU:Expr->Option PV
  | .Constant c _ _=>lg c
  | _=>none
noncomputable def mE:List (Option Expr)->Option (List Str)
  | []=>some []
  | k::r=>o2 (k.bind acz) (mE r) fun s l=>s::l
noncomputable def zJ:List Expr->Option (List PV)
  | []=>some []
  | e::r=>o2 (aeU e) (zJ r) fun s l=>s::l
noncomputable def qo (n:Nat) (l:List Expr):Option (List PV):=ay (l.length == n) (zJ l)
noncomputable def gl (T:aL) (c:Nat):List Nat:=(T.excs.filter fun p=>p.2.1 == c || p.2.2.contains c).map (·.2.1)
noncomputable def mA (T:aL) (N:List (Str × NameKind)) (x:Str):Option Nat:=ay (gb N x) ((T.excs.lookup x).map (·.1))
noncomputable def wK (T:aL) (N:List (Str × NameKind)) (x:Str):Option (List Nat):=
  hV (mA T N x) (fun c=>some (gl T c)) (ay (x == "ValueError" && rd T N x) (some (T.excs.map (·.2.1))))
noncomputable def jH:Expr->Option (Str × Pos)
  | .Name x p=>some (x,p)
  | _=>none
structure aaf where
  g:Str
  p:Pos
  a:Expr
  pos:Pos
noncomputable def rS:Expr->Option aaf
  | .Call f as ks pos=>ay ks.isEmpty (o2 (jH f) (yn as) fun n a=>⟨n.1,n.2,a,pos⟩)
  | _=>none
noncomputable def aa3 (T:aL) (N:List (Str × NameKind)) (g:Str) (a:Expr):Option Expr:=
  (rS a).bind fun q=>ay (g == "len" && q.g == "set" && rd T N q.g) (some q.a)
noncomputable def yc (T:aL) (N:List (Str × NameKind)) (f:Expr->Option X) (e:Expr):Option X:=
  (rS e).bind fun q=>ay (q.g == "range" && rd T N q.g) ((f q.a).map .range1)
noncomputable def af6 (T:aL) (N:List (Str × NameKind)) (f:Expr->Option X) (e:Expr):Option X:=
  yc T N f e
noncomputable def yY (T:aL) (N:List (Str × NameKind)) (f:Expr->Option X) (pos:Pos) (g:Str) (a:Expr):Option X:=
  hV (aa3 T N g a) (fun x=>(f x).map (.b1 .lenset)) <|
  (o2 (rU (!(T.muts.contains (pos.line,pos.col))) g) (f a) .b1)
noncomputable def yW (T:aL) (N:List (Str × NameKind)) (f:Expr->Option X) (g:Str) (a b:Expr):Option X:=
  bif g == "isinstance" then
    (jH b).bind fun q =>
    hV (wK T N q.1) (fun sup=>(f a).map fun x=>.isexc x sup (T.excs.map (·.2.1)))
    (ay (rd T N q.1) (o2 (f a) (u0 q.1) .isinst))
  else ay (g == "min") (o2 (f a) (f b) .min2)
noncomputable def aez (T:aL) (N:List (Str × NameKind)) (f:Expr->Option X) (pos:Pos) (g:Str):List Expr->Option X
  | []=>none
  | a::r=>match r with
    | []=>yY T N f pos g a
    | b::r=>ay r.isEmpty (yW T N f g a b)
noncomputable def yZ (T:aL) (f:Expr->Option X) (g:Str) (args:List Expr):Option X:=
  T.brd.bind fun q=>ay (g == q.1 && !args.isEmpty) ((T.meths.findIdx? (· == ("__init__" : Str))).bind fun j=>(fH f args).map (.new q.2 (T.fns.length + j)))
noncomputable def vm (T:aL) (N:List (Str × NameKind)) (f:Expr->Option X) (pos:Pos) (g:Str) (args:List Expr):Option X:=
  ay (gb N g) (hV (T.fns.findIdx? (· == g)) (fun i=>ay (!args.isEmpty) ((fH f args).map (.call i))) (hV (yZ T f g args) some (ay (T.bins.contains g) (aez T N f pos g args))))
noncomputable def ac9 (f:Expr->Option X) (e:Expr):Option X:=(f e).bind fun x=>ay (!acH x) (some x)
noncomputable def pK (T:aL) (N:List (Str × NameKind)) (f:Expr->Option X) (e:Expr):Option X:=
  hV (af6 T N f e) some (ac9 f e)
noncomputable def aao (T:aL) (N:List (Str × NameKind)) (f:Expr->Option X) (e:Expr):Option X:=
  (rS e).bind fun q=>ay (q.g == "enumerate" && rd T N q.g) ((f q.a).map .enum)
noncomputable def ab3 (f:Expr->Option X):List Expr->Option X
  | []=>some (.k (.bool true))
  | c::r=>ay r.isEmpty (f c)
noncomputable def qG (T:aL) (N:List (Str × NameKind)) (f:List (Str × NameKind)->Expr->Option X) (elt:Expr) (x:Str) (iter:Expr) (ifs:List Expr) (scope:Scope) (pos:Pos):Option X:=
  ay (scope.kind == .function && lY (bf N scope.names) && scope.names.all (fun p=>p.2 != .cell))
    (((bf N scope.names).findIdx? (·.1 == x)).bind fun t=>ay ((bf N scope.names)[t]? == some (x,NameKind.local))
      (o3 (pK T N (f N) iter) (f (bf N scope.names) elt) (ab3 (f (bf N scope.names)) ifs) fun it elt c=>.comp (!(T.muts.contains (pos.line,pos.col))) t (dH N (bf N scope.names)) elt c it))
noncomputable def qD (f:Expr->Option X):Option Expr->Option X
  | none=>some (.k .none)
  | some e=>f e
noncomputable def eS:Expr->Bool
  | .Call _ a _ _=>!a.isEmpty
  | _=>true
noncomputable def y7 (f:Expr->Option X) (l:Expr) (os:List CmpOp) (rs:List Expr):Option X:=
  match os with
  | []=>none
  | o::os=>match rs with
    | []=>none
    | r::rs=>match os with
      | []=>ay rs.isEmpty (o3 (r8 o) (f l) (f r) fun o a b=>.cmp a o b)
      | o2::os=>match rs with
        | []=>none
        | r2::rs=>ay (os.isEmpty && rs.isEmpty) ((r8 o).bind fun o=>o4 (f l) (f r) (r8 o2) (f r2) fun a b o2 c=>.cmp2 a o b o2 c)
noncomputable def abd:Expr->Option (List (Option Expr) × List Expr × Pos)
  | .Dict ks vs p=>some (ks,vs,p)
  | _=>none
noncomputable def y6 (f:Expr->Option X) (ks:List (Option Expr)) (vs:List Expr) (m:Str) (args:List Expr):Option X:=
  match args with
  | []=>none
  | k::r=>(yn r).bind fun d=>ay (m == "get") ((mE ks).bind fun l=>ay (decide l.Nodup && decide (l.length <= 15) && !l.isEmpty) (o3 (qo ks.length vs) (f k) (f d) fun vs k d=>.fdget l vs k d))
noncomputable def af9 (f:Expr->Option X) (o:Expr) (m:Str):Option X:=o2 (vW m) (f o) .me0
noncomputable def af8 (f:Expr->Option X) (o:Expr) (m:Str) (a:Expr):Option X:=o3 (vV m) (f o) (f a) fun m o a=>.me m o (.cons a .nil)
noncomputable def af7 (T:aL) (f:Expr->Option X) (o:Expr) (m:Str):List Expr->Option X
  | []=>af9 f o m
  | a::r=>match r with
    | []=>af8 f o m a
    | _::_=>none
noncomputable def adI (T:aL) (f:Expr->Option X) (o:Expr) (m:Str) (args:List Expr):Option X:=
  T.brd.bind fun q=>(T.meths.findIdx? (· == m)).bind fun j=>ay (decide (args.length < 20)) (o2 (f o) (fH f args) fun o xs=>.meth q.2 (T.fns.length + j) m o xs)
noncomputable def aey (T:aL) (f:Expr->Option X) (o:Expr) (n:Str):Option X:=
  T.brd.bind fun q=>ay (eS o && cT.contains n) ((f o).map fun o=>.attr q.2 o n)
noncomputable def vg (T:aL) (f:Expr->Option X) (o:Expr) (m:Str) (args:List Expr):Option X:=
  hV (abd o) (fun q=>y6 f q.1 q.2.1 m args) (ay (eS o)
    (bif T.meths.contains m then adI T f o m args else af7 T f o m args))
noncomputable def adJ (T:aL) (N:List (Str × NameKind)) (f:Expr->Option X) (fn:Expr) (args:List Expr) (pos:Pos):Option X:=
  match fn with
  | .Name g _=>vm T N f pos g args
  | .Attribute o m apos=>ay (apos.endLine == pos.line) (vg T f o m args)
  | _=>none
noncomputable def afB:Expr->Option Expr
  | .UnaryOp o a _=>match o with
    | .USub=>some a
    | _=>none
  | _=>none
noncomputable def ae1 (e:Expr):Bool:=((afB e).bind fun a=>ay (aa1 a) (some a)).isSome
noncomputable def af5 (f:Expr->Option X) (o:Expr) (lo hi:Option Expr):Option Expr->Option X
  | none=>o3 (f o) (qD f lo) (qD f hi) .slice
  | some st=>ay (lo.isNone && hi.isNone && ae1 st) ((f o).map .rev)
noncomputable def yE:Expr->Option (Option Expr × Option Expr × Option Expr × Pos)
  | .Slice lo hi st p=>some (lo,hi,st,p)
  | _=>none
noncomputable def u7 (f:Expr->Option X) (o i:Expr):Option X:=
  hV (yE i) (fun q=>af5 f o q.1 q.2.1 q.2.2.1) (o2 (f o) (f i) .sub)
noncomputable def lh (T:aL) (N:List (Str × NameKind)) (f:List (Str × NameKind)->Expr->Option X) (elt:Expr) (gens:List Comprehension) (scope:Scope) (pos:Pos):Option X:=
  (yn gens).bind fun g=>ay (g.is_async == 0) ((jH g.target).bind fun q=>qG T N f elt q.1 g.iter g.ifs scope pos)
noncomputable def aam (T:aL) (f:List (Str × NameKind)->Expr->Option X) (N:List (Str × NameKind)) (e:Expr):Option X:=
    match e with
    | .Constant c _ _=>(lg c).map .k
    | .Name x _=>vd T N x
    | .BoolOp o es _=>match o with
      | .And=>(fH (f N) es).map .and
      | .Or=>(fH (f N) es).map .or
    | .UnaryOp o a _=>match o with
      | .Not=>(f N a).map .not
      | .USub=>(f N a).map .neg
      | _=>none
    | .BinOp l o r _=>o3 (aex o) (f N l) (f N r) .bin
    | .Compare l os rs _=>y7 (f N) l os rs
    | .List es pos=>(fH (f N) es).map (.lst (!(T.muts.contains (pos.line,pos.col))))
    | .Tuple es _ _=>(fH (f N) es).map .tup
    | .Call fn args kws pos=>ay kws.isEmpty (adJ T N (f N) fn args pos)
    | .Attribute o n _=>aey T (f N) o n
    | .Subscript o i _=>u7 (f N) o i
    | .Dict ks vs pos=>ay (ks.isEmpty && vs.isEmpty) (some (.dnew (!(T.dstr.contains (pos.line,pos.col)))))
    | .ListComp elt gens scope pos=>lh T N f elt gens scope pos
    | _=>none
noncomputable def yd (T:aL):Nat->List (Str × NameKind)->Expr->Option X
  | 0,_,_=>none
  | n + 1,N,e=>aam T (yd T n) N e
noncomputable def gy:Expr->Bool
  | .ListComp .. | .SetComp .. | .DictComp ..=>true
  | _=>false
noncomputable def zn:NameKind->Bool
  | .local=>true
  | .cell=>true
  | _=>false
noncomputable def gq (N:List (Str × NameKind)) (x:Str):Option Nat:=
  (N.findIdx? (·.1 == x)).bind fun i=>(N[i]?).bind fun q=>ay (zn q.2) (some i)
noncomputable def jz (g:Stmt->Option S):List Stmt->Option S
  | []=>some .nil
  | st::r=>o2 (g st) (jz g r) .cons
noncomputable def abP:Expr->Option (Expr × List Comprehension × Scope × Pos)
  | .ListComp elt gens scope pos=>some (elt,gens,scope,pos)
  | _=>none
noncomputable def f8 (N:List (Str × NameKind)):List Expr->Option (List Nat)
  | []=>some []
  | e::r=>o2 ((jH e).bind fun q=>gq N q.1) (f8 N r) fun i l=>i::l
noncomputable def vJ:Expr->Bool
  | .Name _ _=>true
  | .Call _ _ _ _=>true
  | _=>false
noncomputable def ada (T:aL) (N:List (Str × NameKind)) (acO:List (Str × NameKind)->Expr->Option X) (f:Expr->Option X) (t v:Expr):Option S:=
  match t with
  | .Name z _=>hV (abP v) (fun q=>o2 (gq N z) (lh T N acO q.1 q.2.1 q.2.2.1 q.2.2.2) .asg) (ay (!gy v) (o2 (gq N z) (f v) .asg))
  | .Subscript o i _=>ay (!gy v) (o3 (f o) (f i) (f v) .asgSub)
  | .Attribute o n _=>T.brd.bind fun q=>ay (!gy v && cT.contains n) (o2 (f o) (f v) fun o v=>.asgAttr q.2 o n v)
  | .Tuple ts _ _=>ay (vJ v) (o2 (f8 N ts) (f v) .asgT)
  | _=>none
noncomputable def rZ (T:aL) (N:List (Str × NameKind)) (e:Option Expr):Option S:=
  (e.bind rS).bind fun q=>(acz q.a).bind fun _=>(mA T N q.g).map .raise
noncomputable def trH (T:aL) (N:List (Str × NameKind)) (g:Stmt->Option S) (b:List Stmt):ExceptHandler->Option S
  | .ExceptHandler t y hb _=>(t.bind jH).bind fun q=>y.bind fun y=>(mA T N q.1).bind fun c=>(gq N y).bind fun i=>ay (N[i]? == some (y,NameKind.local) && !hb.isEmpty)
      (o2 (jz g b) (jz g hb) fun b h=>.tryE b (gl T c) i h)
noncomputable def yX (T:aL) (N:List (Str × NameKind)) (g:Stmt->Option S) (b:List Stmt) (hs:List ExceptHandler):Option S:=(yn hs).bind (trH T N g b)
noncomputable def afX:Expr->Option (List Expr)
  | .Tuple ts _ _=>some ts
  | _=>none
noncomputable def uJ (T:aL) (N:List (Str × NameKind)) (f:Expr->Option X) (e:Expr):Option X:=
  hV (aao T N f e) some <|
  (pK T N f e)
noncomputable def yb (T:aL) (N:List (Str × NameKind)) (acO:List (Str × NameKind)->Expr->Option X) (f:Expr->Option X) (g:Stmt->Option S) (st:Stmt):Option S:=
  match st with
  | .Assign ts v _=>(yn ts).bind fun t=>ada T N acO f t v
  | .Expr e _=>ay (!gy e) ((f e).map .expr)
  | .Return v _=>match v with
    | some e=>(f e).map .ret
    | none=>none
  | .If t b o _=>o3 (f t) (jz g b) (jz g o) .ife
  | .For t it b o _=>ay o.isEmpty (hV (jH t) (fun q=>o3 (gq N q.1) (pK T N f it) (jz g b) .for1) ((afX t).bind fun ts=>o3 (f8 N ts) (uJ T N f it) (jz g b) .forT))
  | .Break _=>some .brk
  | .Raise e c _=>ay c.isNone (rZ T N e)
  | .Try b hs o fi _=>ay (o.isEmpty && fi.isEmpty) (yX T N g b hs)
  | _=>none
noncomputable def trS (T:aL) (N:List (Str × NameKind)) (f:List (Str × NameKind)->Expr->Option X):Nat->Stmt->Option S
  | 0,_=>none
  | n + 1,st=>yb T N f (f N) (trS T N f n) st
end Mine
namespace Mine
open PySem
theorem nE {M:Model} {Γ:PySem.Ctx} {p:Pos} {t:Sem Fin} {fs:List Frame} {s:Shared} {e:End} {s':Shared} (h:PySem.Runs M Γ p t fs s e s'):s.toks <= s'.toks:=by
  induction h <;> first | exact Nat.le_refl _ | assumption | (try simp only [Shared.setGen] at *) <;> first | assumption | omega
theorem yR {M:Model} {Γ:PySem.Ctx} {p:Pos} {g:Nat} {r:Resume} {s:Shared} {res:GenResult} {s':Shared} (h:PySem.Wakes M Γ p g r s res s'):s.toks <= s'.toks:=by
  unfold PySem.Wakes at h
  split at h
  · exact h.elim
  · split at h
    · obtain ⟨e,s₁,h1,_,_,rfl⟩:=h
      have:=nE h1; exact this
    · rw [h.2]; exact Nat.le_refl _
    · rw [h.2]; exact Nat.le_refl _
  · obtain ⟨e,s₁,h1,_,_,rfl⟩:=h
    have:=nE h1; exact this
  · rw [h.2]; exact Nat.le_refl _
  · rw [h.2]; exact Nat.le_refl _
theorem oQ {γ:Type} {M:Model} {Γ:PySem.Ctx} {n:Nat} (t:Sem γ):∀ {Q:γ->Pos->Shared->Prop} {E:Value->Pos->Shared->Prop} {p:Pos} {s:Shared},n <= s.toks->Sem.wp M Γ t Q E p s ->
    Sem.wp M Γ t (fun a p s=>Q a p s/\n <= s.toks) (fun e p s=>E e p s/\n <= s.toks) p s:=by
  induction t with
  | pure a=>intro Q E p s hn h; exact ⟨h,hn⟩
  | raise e=>intro Q E p s hn h; exact ⟨h,hn⟩
  | rule tag k ih=>intro Q E p s hn h; exact ih () hn h
  | «at» p' k ih=>intro Q E p s hn h; exact ih () hn h
  | load a part k ih=>intro Q E p s hn h; obtain ⟨o,h1,h2⟩:=h; exact ⟨o,h1,ih o hn h2⟩
  | update a part f k ih=>intro Q E p s hn h; exact ⟨h.1,ih () (s:={ s with heap:=s.heap.update a f }) hn h.2⟩
  | alloc o k ih=>intro Q E p s hn h; exact ih _ (s:={ s with heap:=s.heap.push o }) hn h
  | loadIfAlive a k ih=>intro Q E p s hn h; exact ih _ hn h
  | point l k ih=>intro Q E p s hn h; exact ih () hn h
  | fresh k ih=>intro Q E p s hn h; exact ih _ (s:={ s with toks:=s.toks + 1 }) (Nat.le_succ_of_le hn) h
  | ask k ih=>intro Q E p s hn h; exact ih _ hn h
  | choose src m k ih=>intro Q E p s hn h; exact ⟨h.1,ih _ (s:={ s with drawn:=s.drawn.bump src }) hn h.2⟩
  | os q l k ih=>intro Q E p s hn h; exact ih _ (s:={ s with os:=(Os.step s.os q).1 }) hn h
  | call c hd g l k ih =>
    intro Q E p s hn h
    obtain ⟨r,s',h1,h2⟩:=h
    exact ⟨r,s',h1,ih r (Nat.le_trans hn (nE h1)) h2⟩
  | handled own k ih=>intro Q E p s hn h; exact ih _ hn h
  | newGen c k ih=>intro Q E p s hn h; exact ih _ (s:={ s with gens:=s.gens.push (.fresh c) }) hn h
  | genState g k ih=>intro Q E p s hn h; obtain ⟨st,h1,h2⟩:=h; exact ⟨st,h1,ih _ hn h2⟩
  | resume g r l k ih=>intro Q E p s hn h; obtain ⟨res,s',h1,h2⟩:=h; exact ⟨res,s',h1,ih res (Nat.le_trans hn (yR h1)) h2⟩
  | stack k ih=>intro Q E p s hn h; exact ih _ hn h
  | thread k ih=>intro Q E p s hn h; exact ih _ hn h
  | _=>intro Q E p s hn h; exact h.elim
theorem cF {γ:Type} {M:Model} {A:Around} {t:Sem γ} {Q:γ->Shared->Prop} {E:Value->Shared->Prop} {s:Shared} (h:wpAny M A t Q E s) :
    wpAny M A t (fun v s'=>Q v s'/\s.toks <= s'.toks) (fun e s'=>E e s'/\s.toks <= s'.toks) s:=
  fun Γ p hΓ=>oQ t (Nat.le_refl _) (h Γ p hΓ)
end Mine
namespace Mine
open PySem
noncomputable def afK:Str ⊕ Int->Value->Bool
  | .inl x,v=>Value.isStrOf x v
  | .inr i,v=>Value.isInt i v
noncomputable def aed (w:World):Str ⊕ Int->Int
  | .inl x=>hashStr w x
  | .inr i=>hashInt i
noncomputable def jv (prog:Program) (w:World):KeyKind prog w (Str ⊕ Int) where
  is:=afK
  hash:=aed w
  inj:=fun v a b ha hb=>by
    cases a with
    | inl x =>
      obtain ⟨t,rfl⟩:=Value.isStrOf_shape (show Value.isStrOf x v=true from ha)
      cases b with
      | inl y=>exact congrArg Sum.inl (Value.isStrOf_inj (.str x t) x y ha hb)
      | inr j=>cases hb
    | inr i =>
      obtain ⟨t,rfl⟩:=Value.isInt_shape (show Value.isInt i v=true from ha)
      cases b with
      | inl y=>cases hb
      | inr j=>exact congrArg Sum.inr (Value.isInt_inj (.int i t) i j ha hb)
  byValue:=fun k v h=>by
    cases k with
    | inl x=>obtain ⟨t,rfl⟩:=Value.isStrOf_shape (show Value.isStrOf x v=true from h); rfl
    | inr i=>obtain ⟨t,rfl⟩:=Value.isInt_shape (show Value.isInt i v=true from h); rfl
  pyHash:=fun {A E s k v Q} hv h=>by
    cases k with
    | inl x=>obtain ⟨t,rfl⟩:=Value.isStrOf_shape (show Value.isStrOf x v=true from hv); exact wpAny_pyHash_str h
    | inr i=>obtain ⟨t,rfl⟩:=Value.isInt_shape (show Value.isInt i v=true from hv); exact wpAny_pyHash_int h
  eqBool:=fun {A E s a b u v Q} hu hv h=>by
    cases a with
    | inl x =>
      obtain ⟨t,rfl⟩:=Value.isStrOf_shape (show Value.isStrOf x u=true from hu)
      cases b with
      | inl y =>
        obtain ⟨t',rfl⟩:=Value.isStrOf_shape (show Value.isStrOf y v=true from hv)
        refine wpAny_eqBool_str ?_
        have e:decide (Sum.inl (β:=Int) x=Sum.inl y)=decide (x=y):=by simp
        rw [<- e]; exact h
      | inr j =>
        obtain ⟨t',rfl⟩:=Value.isInt_shape (show Value.isInt j v=true from hv)
        exact SeqAt.EqAt.str_int x t j t' prog w E Q (by simpa using h)
    | inr i =>
      obtain ⟨t,rfl⟩:=Value.isInt_shape (show Value.isInt i u=true from hu)
      cases b with
      | inl y =>
        obtain ⟨t',rfl⟩:=Value.isStrOf_shape (show Value.isStrOf y v=true from hv)
        exact SeqAt.EqAt.int_str i t y t' prog w E Q (by simpa using h)
      | inr j =>
        obtain ⟨t',rfl⟩:=Value.isInt_shape (show Value.isInt j v=true from hv)
        refine wpAny_eqBool_int ?_
        have e:decide (Sum.inr (α:=Str) i=Sum.inr j)=(i == j):=by
          by_cases q:i=j <;> simp [q]
        rw [<- e]; exact h
  «strs»:=fun k x t v h=>by
    cases k with
    | inl y=>exact (strKind prog w).«strs» y x t v h
    | inr i=>cases h
end Mine
namespace Mine
open PySem
structure Bs where
  h:Heap
  fr:List Addr
  prog:Program
  w:World
noncomputable abbrev Bs.get? (b:Bs) (a:Addr):Option Obj:=b.h.get? a
structure Kt where
  hb:Bs
  mg:Str->Option Value
  mb:Str->Option Value
  pos:Bool
  ph:Bool
noncomputable abbrev Kt.prog (K:Kt):Program:=K.hb.prog
noncomputable abbrev Kt.w (K:Kt):World:=K.hb.w
noncomputable def Kt.Tk (K:Kt) (s:Shared):Prop:=K.pos=true->0 < s.toks
theorem Kt.Tk.up {K:Kt} {s s':Shared} (tk:K.Tk s) (tl:s.toks <= s'.toks):K.Tk s':=fun q=>Nat.lt_of_lt_of_le (tk q) tl
theorem dS {γ:Type} {K:Kt} {M:Model} {A:Around} {t:Sem γ} {Q:γ->Shared->Prop} {E:Value->Shared->Prop} {s:Shared} (tk:K.Tk s)
    (h:wpAny M A t (fun v s'=>K.Tk s'->Q v s') (fun e s'=>K.Tk s'->E e s') s):wpAny M A t Q E s:=
  wpAny_mono (cF h) (fun _ _ q=>q.1 (tk.up q.2)) fun _ _ q=>q.1 (tk.up q.2)
structure Kt.Ok (K:Kt):Prop where
  g:K.hb.h.Ns mainGlobals K.mg
  b:K.hb.h.Ns builtinsNs K.mb
  nolimit:K.hb.h.NoLimit
  mods:∃ o,K.hb.get? sysModules=some o
noncomputable def OR (B:Bs) (h:Heap) (α:AL):MO->Addr->Prop
  | .lst xs,a=>∃ ai n,h.get? a=some { cls:=.type "list",data:=.seq (List.toArray ai) n }/\aK h α xs ai
  | .ds es,a=>∃ kvs,h.DictOf (strKind B.prog B.w) a kvs/\kvs.map (·.1)=es.map (·.1)/\aK h α (es.map (·.2)) (kvs.map (·.2))
  | .dp es,a=>∃ xs,h.DictOfH (tupleKind (jv B.prog B.w)) a xs/\xs.map (·.1)=es.map (fun e=>[.inl e.1.1,.inr e.1.2])/\(∀ x ∈ xs,x.2.1 ∉ α.all)/\aK h α (es.map (·.2)) (xs.map (·.2.2))
  | .ns fs,a=>∃ m,h.Ns1 a m/\(∀ n v,az n fs=some v->∃ u,m n=some u/\VR h α v u)/\(∀ n,az n fs=none->m n=none)
  | .no,_=>False
theorem OR.live {B:Bs} {h:Heap} {α:AL} {m:MO} {a:Addr} (o:OR B h α m a):∃ o,h.get? a=some o:=by
  cases m with
  | lst xs=>obtain ⟨ai,n,e,_⟩:=o; exact ⟨_,e⟩
  | ds es=>obtain ⟨kvs,⟨o,_,_,e,_⟩,_⟩:=o; exact ⟨o,e⟩
  | dp es=>obtain ⟨kvs,⟨o,_,_,e,_⟩,_⟩:=o; exact ⟨o,e⟩
  | ns fs=>obtain ⟨m,⟨o,_,_,e,_⟩,_⟩:=o; exact ⟨o,e⟩
  | no=>exact o.elim
theorem OR.map {B:Bs} {h h':Heap} {α α':AL} {m:MO} {a:Addr} (v:∀ p u,VR h α p u->VR h' α' p u) (k:h'.get? a=h.get? a)
    (kk:∀ b o,b ∉ α.all->h.get? b=some o->jp o->h'.get? b=some o/\b ∉ α'.all) (o:OR B h α m a):OR B h' α' m a:=by
  have vs:∀ {p:List PV} {u:List Value},aK h α p u->aK h' α' p u:=fun r=>⟨r.1,fun i x y e1 e2=>v _ _ (r.2 i x y e1 e2)⟩
  cases m with
  | lst xs=>obtain ⟨ai,n,e,w⟩:=o; exact ⟨ai,n,k.trans e,vs w⟩
  | ds es =>
    obtain ⟨kvs,⟨o,es',ep,e,r⟩,q,w⟩:=o
    exact ⟨kvs,⟨o,es',ep,k.trans e,r⟩,q,vs w⟩
  | dp es =>
    obtain ⟨xs,⟨o,es',ep,e,r1,r2,r3,r4,r5⟩,q,hn,w⟩:=o
    have key:∀ x ∈ xs,IsTupleKey (jv B.prog B.w) h' x.1 x.2.1/\x.2.1 ∉ α'.all:=fun x hx=>by
      obtain ⟨o,ai,n,e1,e2,e3,e4⟩:=r4 x hx
      obtain ⟨z1,z2⟩:=kk _ o (hn x hx) e1 (.inl ⟨_,_,e3⟩)
      exact ⟨⟨o,ai,n,z1,e2,e3,e4⟩,z2⟩
    exact ⟨xs,⟨o,es',ep,k.trans e,r1,r2,r3,fun x hx=>(key x hx).1,r5⟩,q,fun x hx=>(key x hx).2,vs w⟩
  | ns fs =>
    obtain ⟨m,⟨o,es',ep,e,r⟩,q1,q2⟩:=o
    exact ⟨m,⟨o,es',ep,k.trans e,r⟩,fun n v' hn=>let ⟨u,z1,z2⟩:=q1 n v' hn; ⟨u,z1,v _ _ z2⟩,q2⟩
  | no=>exact o.elim
theorem OR.ext {F α h α' h'} {B:Bs} {m:MO} {a:Addr} (x:aD F α h α' h') (k:h'.get? a=h.get? a) (o:OR B h α m a):OR B h' α' m a:=
  o.map (fun _ _ r=>r.ext x) k fun b o hb e hs=>⟨x.seqs b o (AL.not_ix hb) e hs,x.notAll hb e⟩
structure R (hb:Bs) (h:Heap) (σ:ac) (α:AL):Prop where
  base:∀ b o,hb.get? b=some o->h.get? b=some o
  fresh:∀ a ∈ α.ix,hb.get? a=none
  nodup:α.ix.Nodup
  len:σ.length=α.ix.length
  hidden:∀ a ∈ α.hid,a ∉ α.ix/\∃ o,h.get? a=some o
  obj:∀ (i:Nat) (m:MO) (a:Addr),σ[i]?=some m->α.ix[i]?=some a->OR hb h α m a
  hfr:∀ a ∈ α.hid,hb.get? a=none
  fe:α.fr=hb.fr
  frs:∀ a ∈ hb.fr,hb.get? a=none/\∃ o,h.get? a=some o/\dq o
  frNot:∀ a ∈ hb.fr,a ∉ α.ix
structure Sm (s s':Shared):Prop where
  gens:s'.gens=s.gens
  os:s'.os=s.os
theorem Sm.refl (s:Shared):Sm s s:=⟨rfl,rfl⟩
theorem Sm.trans {a b c:Shared} (x:Sm a b) (y:Sm b c):Sm a c:=⟨y.gens.trans x.gens,y.os.trans x.os⟩
noncomputable def Up (fr:List Addr) (h h':Heap):Prop:=∀ b o,h.get? b=some o->h'.get? b=some o\/(b ∈ fr/\∃ sl,h'.get? b=some { o with slots:=sl })
theorem Up.keeps {fr:List Addr} {h h':Heap} (k:∀ b o,h.get? b=some o->h'.get? b=some o):Up fr h h':=fun b o e=>.inl (k b o e)
theorem Up.trans {fr:List Addr} {h h' h'':Heap} (x:Up fr h h') (y:Up fr h' h''):Up fr h h'':=fun b o e=>by
  rcases x b o e with x | ⟨m,sl,x⟩
  · exact y b o x
  · rcases y b _ x with y | ⟨_,sl',y⟩
    · exact .inr ⟨m,sl,y⟩
    · exact .inr ⟨m,sl',y⟩
inductive aad (aM h:Heap) (a:Addr) (noted:Bool) (x:Value):Prop
  | inl (hn:noted=false) (e:x=.none):aad aM h a noted x
  | inr (T:Addr) (oT:Obj) (ts:Array Value) (e:x=.ref T) (h0:aM.get? T=none) (hn:T ≠ a) (ht:h.get? T=some oT) (hc:oT.cls=.type "traceback") (hd:oT.data=.fields ts) (h3:3 < ts.size):aad aM h a noted x
inductive g0 (ph:Bool) (aM h:Heap) (c:Nat) (a:Addr) (noted:Bool):Prop
  | mk (new:aM.get? a=none) (oe:Obj) (vs:Array Value) (x:Value) (he:h.get? a=some oe) (hc:oe.cls=.ref c) (hd:oe.data=.fields vs) (h1:vs[1]?=some x) (tb:aad aM h a noted x) (cx:∃ y,vs[2]?=some y/\(ph=false->y=.none)):g0 ph aM h c a noted
theorem g0.new {ph:Bool} {aM h:Heap} {c:Nat} {a:Addr} {noted:Bool} (x:g0 ph aM h c a noted):aM.get? a=none:=by cases x; assumption
inductive FX (K:Kt) (s:Shared) (α:AL) (i:Nat) (σ:ac) (noted:Bool) (e:Value) (s':Shared):Prop where
  | mk (a:Addr) (aM:Heap) (α':AL) (he:e=.ref a) (x:aD [] α s.heap α' aM) (r:R K.hb aM σ α') (u:Up K.hb.fr aM s'.heap) (ea:g0 K.ph aM s'.heap i a noted) (m:Sm s s'):FX K s α i σ noted e s'
section
variable (K:Kt) {β γ:Type} (Rel:Heap->AL->β->γ->Prop)
inductive aQ (c:af β) (s:Shared) (α:AL) (y:γ) (s':Shared):Prop where
  | mk (b:β) (σ':ac) (α':AL) (h:c=.ok b σ') (x:aD [] α s.heap α' s'.heap) (r:R K.hb s'.heap σ' α') (v:Rel s'.heap α' b y) (m:Sm s s'):aQ c s α y s'
inductive aZ (_A:Around) (c:af β) (s:Shared) (α:AL) (e:Value) (s':Shared):Prop where
  | mk (i:Nat) (σ':ac) (h:c=.exc i σ') (fx:∃ nt,FX K s α i σ' nt e s'):aZ _A c s α e s'
noncomputable def Runs (A:Around) (t:Sem γ) (c:af β) (s:Shared) (α:AL):Prop:=
  c ≠ .stuck->K.Tk s->wpAny (model K.prog K.w) A t (aQ K Rel c s α) (aZ K A c s α) s
end
noncomputable def d8 {β:Type} (_h:Heap) (_α:AL) (b y:β):Prop:=y=b
theorem FX.lift {K:Kt} {s s₁:Shared} {α α₁:AL} {i:Nat} {σ:ac} {nt:Bool} {e:Value} {s':Shared} (x:aD [] α s.heap α₁ s₁.heap) (m:Sm s s₁) (f:FX K s₁ α₁ i σ nt e s'):FX K s α i σ nt e s':=by
  obtain ⟨a,aM,α',e,x',r,u,ea,m'⟩:=f
  exact ⟨a,aM,α',e,x.trans x',r,u,ea,m.trans m'⟩
theorem aZ.lift {K:Kt} {A:Around} {β:Type} {s:Shared} {α:AL} {c:af β} {s₁:Shared} {α₁:AL} {y:Value} {s':Shared} (x:aD [] α s.heap α₁ s₁.heap) (m:Sm s s₁) (p:aZ K A c s₁ α₁ y s'):aZ K A c s α y s':=by
  obtain ⟨i,σ',e,nt,fx⟩:=p
  exact ⟨i,σ',e,nt,fx.lift x m⟩
section
variable {K:Kt} {A:Around} {β γ pq x9:Type} {Rel:Heap->AL->β->γ->Prop} {Rel':Heap->AL->pq->x9->Prop} {s:Shared} {α:AL}
theorem Runs.bind {t:Sem γ} {k:γ->Sem x9} {c:af β} {f:β->ac->af pq} (H:Runs K Rel A t c s α)
    (N:∀ b σ' α' y s',c=.ok b σ'->aD [] α s.heap α' s'.heap->R K.hb s'.heap σ' α'->Rel s'.heap α' b y->Sm s s'->Runs K Rel' A (k y) (f b σ') s' α') :
    Runs K Rel' A (t >>= k) (c.bind f) s α:=by
  intro hc tk
  have h1:c ≠ .stuck:=by rintro rfl; exact hc rfl
  refine wpAny_bind (wpAny_mono (cF (H h1 tk)) (fun y s' hp=>?_) fun e s' hx=>?_)
  · obtain ⟨⟨b,σ',α',rfl,x,r,v,m⟩,tl⟩:=hp
    refine wpAny_mono (N b σ' α' y s' rfl x r v m hc (Kt.Tk.up tk tl)) (fun y' s'' hp'=>?_) fun e s'' hx=>?_
    · obtain ⟨b',fB,hB,e',x',r',v',m'⟩:=hp'
      exact ⟨b',fB,hB,e',x.trans x',r',v',m.trans m'⟩
    · exact hx.lift x m
  · obtain ⟨⟨i,σ',rfl,fx⟩,_⟩:=hx
    exact ⟨i,σ',rfl,fx⟩
theorem Runs.pure {y:γ} {b:β} {σ:ac} (r:R K.hb s.heap σ α) (v:Rel s.heap α b y):Runs K Rel A (pure y) (.ok b σ) s α:=
  fun _ _=>wpAny_pure ⟨b,σ,α,rfl,.refl,r,v,.refl s⟩
theorem Runs.standAt {pos:Pos} {t:Sem γ} {c:af β} (H:Runs K Rel A t c s α):Runs K Rel A (do standAt pos; t) c s α:=
  fun h tk=>wpAny_bind (wpAny_standAt (H h tk))
theorem Runs.holding {vs:List Value} {t:Sem γ} {c:af β} (H:Runs K Rel A t c s α):Runs K Rel A (holding vs t) c s α:=
  fun h tk=>wpAny_holding (H h tk)
theorem Runs.step {t:Sem γ} {b:β} {σ:ac} (r:R K.hb s.heap σ α)
    (H:∀ (Q:γ->Shared->Prop) (E:Value->Shared->Prop),(∀ y s',(∀ b o,s.heap.get? b=some o->s'.heap.get? b=some o)->R K.hb s'.heap σ α->Rel s'.heap α b y->Sm s s'->Q y s')->wpAny (model K.prog K.w) A t Q E s) :
    Runs K Rel A t (.ok b σ) s α:=
  fun _ _=>H _ _ fun y s' k r' v m=>⟨b,σ,α,rfl,.keeps k,r',v,m⟩
end
theorem R.live {hb h σ α} (r:R hb h σ α) {a:Addr} (ha:a ∈ α.ix):∃ o,h.get? a=some o:=by
  obtain ⟨i,hi,rfl⟩:=List.mem_iff_getElem.mp ha
  have hs:i < σ.length:=by rw [r.len]; exact hi
  exact (r.obj i σ[i] α.ix[i] (by simp [hs]) (by simp [hi])).live
theorem R.keeps {hb h h' σ α} (r:R hb h σ α) (k:∀ b o,h.get? b=some o->h'.get? b=some o):R hb h' σ α:=
  ⟨fun b o e=>k b o (r.base b o e),r.fresh,r.nodup,r.len,fun a ha=>⟨(r.hidden a ha).1,let ⟨o,e⟩:=(r.hidden a ha).2; ⟨o,k a o e⟩⟩,fun i m a e1 e2=>(r.obj i m a e1 e2).ext (.keeps (F:=[]) k) (by
    obtain ⟨o,e⟩:=r.live (List.mem_of_getElem? e2)
    rw [e,k a o e]),r.hfr,r.fe,fun a ha=>⟨(r.frs a ha).1,let ⟨o,e,d⟩:=(r.frs a ha).2; ⟨o,k a o e,d⟩⟩,r.frNot⟩
theorem R.liveAll {hb h σ α} (r:R hb h σ α) {a:Addr} (ha:a ∈ α.all):∃ o,h.get? a=some o:=by
  rcases List.mem_append.mp ha with q | q
  · exact r.live q
  · exact (r.hidden a q).2
theorem R.upExt {hb h h' σ α} (r:R hb h σ α) (u:Up hb.fr h h'):aD [] α h α h':=by
  refine ⟨rfl,⟨[],by simp,fun _ hx=>by simp at hx⟩,fun b o hb e hs=>?_,fun b o hb _ e=>?_,fun b o _ e=>?_,rfl⟩
  · rcases u b o e with u | ⟨m,_⟩
    · exact u
    · obtain ⟨_,o',e',d⟩:=r.frs b m
      rw [e] at e'; obtain rfl:=Option.some.inj e'
      exact absurd hs d.notSolid
  · rcases u b o e with u | ⟨m,sl,u⟩
    · exact .inl u
    · obtain ⟨_,o',e',d⟩:=r.frs b m
      rw [e] at e'; obtain rfl:=Option.some.inj e'
      exact .inr ⟨r.fe ▸ m,d,sl,u⟩
  · rcases u b o e with u | ⟨m,sl,u⟩
    · exact ⟨_,u⟩
    · exact ⟨_,u⟩
theorem R.up {hb h h' σ α} (r:R hb h σ α) (u:Up hb.fr h h'):R hb h' σ α:=by
  have x:=r.upExt u
  refine ⟨fun b o e=>?_,r.fresh,r.nodup,r.len,fun a ha=>⟨(r.hidden a ha).1,?_⟩,fun i m a e1 e2=>?_,r.hfr,r.fe,fun a ha=>⟨(r.frs a ha).1,?_⟩,r.frNot⟩
  · rcases u b o (r.base b o e) with u | ⟨m,_⟩
    · exact u
    · rw [(r.frs b m).1] at e; contradiction
  · obtain ⟨o,e⟩:=(r.hidden a ha).2
    exact x.alive a o (by simp) e
  · refine (r.obj i m a e1 e2).ext x ?_
    obtain ⟨o,e⟩:=r.live (List.mem_of_getElem? e2)
    rcases u a o e with u | ⟨m,_⟩
    · rw [e,u]
    · exact absurd (List.mem_of_getElem? e2) (r.frNot a m)
  · obtain ⟨_,o,e,d⟩:=r.frs a ha
    rcases u a o e with u | ⟨m,sl,u⟩
    · exact ⟨o,u,d⟩
    · exact ⟨_,u,d⟩
end Mine
namespace Mine
open PySem PyProof.Rows
noncomputable def AL.add (α:AL) (D:Addr):AL:=⟨α.ix++[D],α.hid,α.fr⟩
theorem aD.add {α:AL} {h h':Heap} {D:Addr} (k:∀ b o,h.get? b=some o->h'.get? b=some o) (hD:h.get? D=none):aD [] α h (α.add D) h':=
  ⟨rfl,⟨[D],rfl,fun y hy=>by simp at hy; rw [hy]; exact ⟨hD,by simp⟩⟩,fun b o _ e _=>k b o e,fun b o _ _ e=>.inl (k b o e),fun b o _ e=>⟨o,k b o e⟩,rfl⟩
theorem R.add {hb h h' σ α} {D:Addr} {m:MO} (r:R hb h σ α) (k:∀ b o,h.get? b=some o->h'.get? b=some o) (hD:h.get? D=none)
    (o:OR hb h' (α.add D) m D):R hb h' (σ++[m]) (α.add D)/\aD [] α h (α.add D) h':=by
  have x:aD [] α h (α.add D) h':=.add k hD
  have hDa:D ∉ α.all:=fun hm=>by obtain ⟨o,e⟩:=r.liveAll hm; rw [hD] at e; contradiction
  refine ⟨⟨fun b o e=>k b o (r.base b o e),fun a ha=>?_,?_,by simp [AL.add,r.len],fun a ha=>?_,fun i m' a e1 e2=>?_,r.hfr,r.fe,fun a ha=>⟨(r.frs a ha).1,let ⟨o,e,d⟩:=(r.frs a ha).2; ⟨o,k a o e,d⟩⟩,fun a ha=>?_⟩,x⟩
  · rcases List.mem_append.mp ha with q | q
    · exact r.fresh a q
    · simp at q; subst q
      cases hq:hb.get? a with
      | none=>rfl
      | some o=>rw [r.base _ _ hq] at hD; contradiction
  · show (α.ix++[D]).Nodup
    rw [List.nodup_append]
    exact ⟨r.nodup,by simp,fun a ha b hb=>by simp at hb; subst hb; rintro rfl; exact AL.not_ix hDa ha⟩
  · have ha':a ∈ α.hid:=ha
    refine ⟨fun q=>?_,let ⟨o,e⟩:=(r.hidden a ha').2; ⟨o,k a o e⟩⟩
    rcases List.mem_append.mp q with q | q
    · exact (r.hidden a ha').1 q
    · simp at q; subst q; exact hDa (List.mem_append_right _ ha')
  · have e2':(α.ix++[D])[i]?=some a:=e2
    by_cases hi:i < σ.length
    · rw [List.getElem?_append_left hi] at e1
      rw [List.getElem?_append_left (by rw [<- r.len]; exact hi)] at e2'
      have:=r.obj i m' a e1 e2'
      have hk:h'.get? a=h.get? a:=by
        obtain ⟨o,e⟩:=r.live (List.mem_of_getElem? e2')
        rw [e,k a o e]
      exact this.ext x hk
    · have e3:i=σ.length:=by
        have:=(List.getElem?_eq_some_iff.mp e1).1
        simp at this; omega
      subst e3
      rw [List.getElem?_append_right (Nat.le_refl _)] at e1
      rw [List.getElem?_append_right (by rw [r.len]; exact Nat.le_refl _)] at e2'
      simp [r.len] at e1 e2'
      subst e1 e2'
      exact o
  · intro q
    rcases List.mem_append.mp q with q | q
    · exact r.frNot a ha q
    · simp at q; subst q
      obtain ⟨_,o,e,_⟩:=r.frs a ha
      rw [hD] at e; contradiction
section
variable {K:Kt} {A:Around} {s:Shared} {α:AL} {σ:ac}
theorem bL {n:Nat} (h:n <= am):n <= sizeLine:=Nat.le_trans h (by decide)
theorem t9 {xs:List PV} {vs:List Value} {fz:Bool} (r:R K.hb s.heap σ α) (v:aK s.heap α xs vs) :
    Runs K VR A (newList vs) (bR fz xs σ) s α:=by
  intro hc tk
  unfold bR at hc ⊢
  by_cases hl:xs.length <= am
  · rw [if_pos hl]
    have hD:s.heap.get? s.heap.objs.size=none:=by
      cases hq:s.heap.get? s.heap.objs.size with
      | none=>rfl
      | some o=>exact absurd (Heap.lt_size hq) (Nat.lt_irrefl _)
    have k:∀ b o,s.heap.get? b=some o->(s.heap.push { cls:=.type "list",data:=.seq vs.toArray }).get? b=some o:=fun b o e=>Heap.get?_push_of_some _ e
    refine wpAny_newObj_type ?_ (by show vs.toArray.size <= sizeLine; rw [List.size_toArray,<- v.1]; exact bL hl)
    cases fz with
    | true =>
      refine ⟨_,_,_,rfl,.keeps k,r.keeps k,?_,⟨rfl,rfl⟩⟩
      refine VR.flI (n:=0) (Heap.get?_push_size _ rfl) (fun hm=>?_) (v.ext (.keeps (F:=[]) k))
      obtain ⟨o,e⟩:=r.liveAll hm; rw [hD] at e; contradiction
    | false =>
      obtain ⟨r',x⟩:=r.add (D:=s.heap.objs.size) (m:=.lst xs) k hD ⟨vs,0,Heap.get?_push_size _ rfl,v.ext (.add k hD)⟩
      refine ⟨_,_,_,rfl,x,r',.ref ?_,⟨rfl,rfl⟩⟩
      rw [r.len]; simp [AL.add]
  · rw [if_neg hl] at hc; exact absurd rfl hc
theorem sf {xs:List PV} {vs:List Value} (r:R K.hb s.heap σ α) (v:aK s.heap α xs vs) :
    Runs K VR A (newTuple vs) (if xs.length <= am then .ok (.tup xs) σ else .stuck) s α:=by
  intro hc tk
  by_cases hl:xs.length <= am
  · rw [if_pos hl]
    have hD:s.heap.get? s.heap.objs.size=none:=by
      cases hq:s.heap.get? s.heap.objs.size with
      | none=>rfl
      | some o=>exact absurd (Heap.lt_size hq) (Nat.lt_irrefl _)
    have k:∀ b o,s.heap.get? b=some o->(s.heap.push { cls:=.type "tuple",data:=.seq vs.toArray }).get? b=some o:=fun b o e=>Heap.get?_push_of_some _ e
    refine wpAny_newObj_type ?_ (by show vs.toArray.size <= sizeLine; rw [List.size_toArray,<- v.1]; exact bL hl)
    refine ⟨_,_,_,rfl,.keeps k,r.keeps k,?_,⟨rfl,rfl⟩⟩
    refine VR.tupI (n:=0) (Heap.get?_push_size _ rfl) (fun hm=>?_) (v.ext (.keeps (F:=[]) k))
    obtain ⟨o,e⟩:=r.liveAll hm; rw [hD] at e; contradiction
  · rw [if_neg hl] at hc; exact absurd rfl hc
end
end Mine
namespace Mine
open PySem PyProof.Rows
theorem gw {h:Heap} {n:Nat} {f:PV->Option PyData}:∀ {xs:List PV} {vs:List Value} {ds:List PyData},xs.mapM f=some ds->xs.length=vs.length ->
    (∀ (i:Nat) (x:PV) (v:Value) (d:PyData),xs[i]?=some x->vs[i]?=some v->f x=some d->∃ as,Reads h v d as/\d.canLay0=true/\d.depth <= n) ->
    ∃ as,ReadsAll h vs ds as/\PyData.canLayAll0 ds=true/\PyData.depthAll ds <= n
  | [],vs,ds,e,hl,_=>by
    cases vs with
    | nil=>simp at e; subst e; exact ⟨[],.nil,rfl,Nat.zero_le _⟩
    | cons=>simp at hl
  | x::xs,vs,ds,e,hl,H=>by
    cases vs with
    | nil=>simp at hl
    | cons v vs =>
      rw [List.mapM_cons] at e
      cases hx:f x with
      | none=>rw [hx] at e; contradiction
      | some d =>
        rw [hx] at e
        cases hr:xs.mapM f with
        | none=>rw [hr] at e; contradiction
        | some ds' =>
          rw [hr] at e
          obtain rfl:=Option.some.inj e
          obtain ⟨as,r1,c1,d1⟩:=H 0 x v d (by simp) (by simp) hx
          obtain ⟨bs,r2,c2,d2⟩:=gw hr (by simpa using hl) fun i y w d' e1 e2 e3=>H (i + 1) y w d' (by simpa using e1) (by simpa using e2) e3
          exact ⟨as++bs,.cons r1 r2,by simp [PyData.canLayAll0,c1,c2],by simp only [PyData.depthAll]; omega⟩
theorem hJ {hb:Bs} {h:Heap} {σ:ac} {α:AL} (r:R hb h σ α):∀ (n:Nat) (p:PV) (v:Value) (d:PyData),VR h α p v->bT n σ p=some d->∃ as,Reads h v d as/\d.canLay0=true/\d.depth <= n:=by
  intro n
  induction n with
  | zero=>intro p v d _ e; simp [bT] at e
  | succ n ih =>
    intro p v d hv e
    cases p with
    | exc c=>simp [bT] at e
    | inst c i=>simp [bT] at e
    | none=>obtain rfl:=hv.noneE; simp [bT] at e; subst e; exact ⟨[],.none,rfl,by simp [PyData.depth]⟩
    | bool b=>obtain rfl:=hv.boolE; simp [bT] at e; subst e; exact ⟨[],.bool _,rfl,by simp [PyData.depth]⟩
    | int i=>obtain ⟨_,rfl⟩:=hv.intE; simp [bT] at e; subst e; exact ⟨[],.int _ _,rfl,by simp [PyData.depth]⟩
    | str x=>obtain ⟨_,rfl,hs⟩:=hv.strE; simp [bT] at e; subst e; exact ⟨[],.str _ _,hs,by simp [PyData.depth]⟩
    | tup xs =>
      obtain ⟨a,ai,k,rfl,e1,_,vs⟩:=hv.tupE
      simp only [bT] at e
      cases hm:xs.mapM (bT n σ) with
      | none=>rw [hm] at e; contradiction
      | some ds =>
        rw [hm] at e; obtain rfl:=Option.some.inj e
        obtain ⟨as,r1,c1,d1⟩:=gw (n:=n) hm vs.1 fun i x v d e1 e2 e3=>ih x v d (vs.2 i x v e1 e2) e3
        exact ⟨as,.tuple e1 rfl rfl (by simpa using r1),by simpa [PyData.canLay0] using c1,by simp only [PyData.depth]; omega⟩
    | fl xs =>
      obtain ⟨a,ai,k,rfl,e1,_,vs⟩:=hv.flE
      simp only [bT] at e
      cases hm:xs.mapM (bT n σ) with
      | none=>rw [hm] at e; contradiction
      | some ds =>
        rw [hm] at e; obtain rfl:=Option.some.inj e
        obtain ⟨as,r1,c1,d1⟩:=gw (n:=n) hm vs.1 fun i x v d e1 e2 e3=>ih x v d (vs.2 i x v e1 e2) e3
        exact ⟨a::as,.list e1 rfl rfl (by simpa using r1),by simpa [PyData.canLay0] using c1,by simp only [PyData.depth]; omega⟩
    | ref i =>
      obtain ⟨a,rfl,ea⟩:=hv.refE
      simp only [bT] at e
      cases hs:σ[i]? with
      | none=>rw [hs] at e; contradiction
      | some m =>
        rw [hs] at e
        cases m with
        | lst xs =>
          simp only at e
          cases hm:xs.mapM (bT n σ) with
          | none=>rw [hm] at e; contradiction
          | some ds =>
            rw [hm] at e; obtain rfl:=Option.some.inj e
            obtain ⟨ai,k,e1,vs⟩:=r.obj i _ a hs ea
            obtain ⟨as,r1,c1,d1⟩:=gw (n:=n) hm vs.1 fun i x v d e1 e2 e3=>ih x v d (vs.2 i x v e1 e2) e3
            exact ⟨a::as,.list e1 rfl rfl (by simpa using r1),by simpa [PyData.canLay0] using c1,by simp only [PyData.depth]; omega⟩
        | _=>simp at e
theorem j9 {d:PyData} (c:d.canLay0=true) (h:d.depth <= 16):SeqAt.shaped d=true:=by
  unfold SeqAt.shaped
  rw [c]; simp; (exact Nat.le_trans (by assumption) (by decide))
noncomputable def dC (_h:Heap) (_α:AL) (b:Bool) (y:Value):Prop:=y=.bool b
structure dF (A:Around):Prop where
  depth:A.depth + 200 < recursionLimit
  units:A.units + 200 < cLine
section
variable {K:Kt} {A:Around} {s:Shared} {α:AL} {σ:ac}
theorem xS {a b:PV} {x y:Value} (hA:dF A) (r:R K.hb s.heap σ α) (va:VR s.heap α a x) (vb:VR s.heap α b y) :
    Runs K dC A (compareOp .Eq x y) (af.ofOpt (eqv σ a b) σ) s α:=by
  intro hc tk
  unfold eqv at hc ⊢
  cases h1:bT 16 σ a with
  | none=>rw [h1] at hc; exact absurd rfl hc
  | some d1 =>
    cases h2:bT 16 σ b with
    | none=>rw [h1,h2] at hc; exact absurd rfl hc
    | some d2 =>
      obtain ⟨as,r1,c1,p1⟩:=hJ r 16 a x d1 va h1
      obtain ⟨bs,r2,c2,p2⟩:=hJ r 16 b y d2 vb h2
      exact eq_dataH r1 r2 (j9 c1 p1) (j9 c2 p2) (by have:=hA.units; omega) ⟨_,σ,α,rfl,.refl,r,rfl,.refl s⟩
theorem xR {a b:PV} {x y:Value} (hA:dF A) (r:R K.hb s.heap σ α) (va:VR s.heap α a x) (vb:VR s.heap α b y) :
    Runs K dC A (compareOp .NotEq x y) (af.ofOpt ((eqv σ a b).map (!·)) σ) s α:=by
  intro hc tk
  unfold eqv at hc ⊢
  cases h1:bT 16 σ a with
  | none=>rw [h1] at hc; exact absurd rfl hc
  | some d1 =>
    cases h2:bT 16 σ b with
    | none=>rw [h1,h2] at hc; exact absurd rfl hc
    | some d2 =>
      obtain ⟨as,r1,c1,p1⟩:=hJ r 16 a x d1 va h1
      obtain ⟨bs,r2,c2,p2⟩:=hJ r 16 b y d2 vb h2
      exact ne_dataH r1 r2 (j9 c1 p1) (j9 c2 p2) (by have:=hA.units; omega) ⟨_,σ,α,rfl,.refl,r,rfl,.refl s⟩
end
end Mine
namespace Mine
open PySem PyProof.Rows
section
variable {h:Heap} {α:AL} {κ qA:Type} [DecidableEq κ] [DecidableEq qA] {g:κ->qA}
theorem abS {e:κ × PV} {es:List (κ × PV)} {k:κ}:az k (e::es)=if e.1=k then some e.2 else az k es:=by
  unfold az
  rw [List.find?_cons]
  by_cases q:e.1=k
  · simp [q]
  · simp [q]
theorem uX {e:qA × Value} {es:List (qA × Value)} {k:qA}:valueAt (e::es) k=if e.1=k then some e.2 else valueAt es k:=by
  unfold valueAt
  rw [List.find?_cons]
  by_cases q:e.1=k
  · simp [q]
  · simp [q]
theorem fX (hg:∀ a b,g a=g b->a=b):∀ {es:List (κ × PV)} {ys:List (qA × Value)},ys.map (·.1)=es.map (fun e=>g e.1)->aK h α (es.map (·.2)) (ys.map (·.2))->∀ k,
    (∀ v,az k es=some v->∃ u,valueAt ys (g k)=some u/\VR h α v u)/\(az k es=none->valueAt ys (g k)=none)
  | [],ys,h1,_,k=>by
    have:ys=[]:=by simpa using h1
    subst this
    exact ⟨fun v e=>(by contradiction),fun _=>rfl⟩
  | e::es,[],h1,_,k=>by simp at h1
  | e::es,y::ys,h1,h2,k=>by
    simp only [List.map_cons,List.cons.injEq] at h1 h2
    obtain ⟨u,us,q,v1,v2⟩:=h2.inv_cons
    cases q
    have ih:=fX hg h1.2 v2 k
    rw [abS,uX,h1.1]
    by_cases q:e.1=k
    · rw [if_pos q,if_pos (by rw [q])]
      exact ⟨fun v e'=>(by obtain rfl:=Option.some.inj e'; exact ⟨_,rfl,v1⟩),fun e'=>(by contradiction)⟩
    · rw [if_neg q,if_neg (fun z=>q (hg _ _ z))]
      exact ih
theorem yG (hg:∀ a b,g a=g b->a=b):∀ {es:List (κ × PV)} {ys:List (qA × Value)},ys.map (·.1)=es.map (fun e=>g e.1)->∀ k,(ys.any fun y=>decide (y.1=g k))=es.any fun e=>decide (e.1=k)
  | [],ys,h1,k=>by
    have:ys=[]:=by simpa using h1
    subst this; rfl
  | e::es,[],h1,k=>by simp at h1
  | e::es,y::ys,h1,k=>by
    simp only [List.map_cons,List.cons.injEq] at h1
    rw [List.any_cons,List.any_cons,yG hg h1.2 k,h1.1]
    congr 1
    by_cases q:e.1=k
    · simp [q]
    · rw [decide_eq_false q,decide_eq_false (fun z=>q (hg _ _ z))]
theorem yk (hg:∀ a b,g a=g b->a=b) {k:κ} {v:PV} {u:Value} (vu:VR h α v u):∀ {es:List (κ × PV)} {ys:List (qA × Value)},ys.map (·.1)=es.map (fun e=>g e.1)->aK h α (es.map (·.2)) (ys.map (·.2)) ->
    (ys.map fun y=>if y.1=g k then (y.1,u) else y).map (·.1)=(es.map fun e=>if e.1=k then (e.1,v) else e).map (fun e=>g e.1) ∧
    aK h α ((es.map fun e=>if e.1=k then (e.1,v) else e).map (·.2)) ((ys.map fun y=>if y.1=g k then (y.1,u) else y).map (·.2))
  | [],ys,h1,h2=>by
    have:ys=[]:=by simpa using h1
    subst this; exact ⟨rfl,.nil⟩
  | e::es,[],h1,_=>by simp at h1
  | e::es,y::ys,h1,h2=>by
    simp only [List.map_cons,List.cons.injEq] at h1 h2
    obtain ⟨w,ws,q,v1,v2⟩:=h2.inv_cons
    cases q
    obtain ⟨i1,i2⟩:=yk hg vu h1.2 v2
    simp only [List.map_cons]
    rw [i1]
    by_cases q:e.1=k
    · rw [if_pos q,if_pos (by rw [h1.1,q])]
      exact ⟨by rw [h1.1],.cons vu i2⟩
    · rw [if_neg q,if_neg (fun z=>q (hg _ _ (h1.1 ▸ z)))]
      exact ⟨by rw [h1.1],.cons v1 i2⟩
theorem wV (hg:∀ a b,g a=g b->a=b) {k:κ} {v:PV} {u:Value} {es:List (κ × PV)} {ys:List (qA × Value)} (h1:ys.map (·.1)=es.map (fun e=>g e.1)) (h2:aK h α (es.map (·.2)) (ys.map (·.2))) (vu:VR h α v u) :
    (stored ys (g k) u).map (·.1)=(bW k v es).map (fun e=>g e.1)/\aK h α ((bW k v es).map (·.2)) ((stored ys (g k) u).map (·.2)):=by
  unfold stored bW
  rw [yG hg h1 k]
  split
  · exact yk hg vu h1 h2
  · rw [List.map_append,List.map_append,List.map_append,List.map_append,h1]
    exact ⟨rfl,h2.append (.cons vu .nil)⟩
end
noncomputable def kU (k:Str × Int):List (Str ⊕ Int):=[.inl k.1,.inr k.2]
theorem mj (a b:Str × Int) (h:kU a=kU b):a=b:=by
  unfold kU at h
  simp only [List.cons.injEq,Sum.inl.injEq,Sum.inr.injEq,and_true] at h
  exact Prod.ext h.1 h.2
theorem ad4 {p:PV} {k:Str × Int} (h:fE p=some k):p=.tup [.str k.1,.int k.2]:=by
  unfold fE at h
  split at h
  · obtain rfl:=Option.some.inj h; rfl
  · contradiction
section
variable {K:Kt} {A:Around} {s:Shared} {α:AL} {σ:ac}
theorem qY {p:PV} {k:Str × Int} {x:Value} (h:fE p=some k) (v:VR s.heap α p x):∃ a,x=.ref a/\IsTupleKey (jv K.prog K.w) s.heap (kU k) a/\a ∉ α.all:=by
  rw [ad4 h] at v
  obtain ⟨a,ai,n,rfl,e,hn,w⟩:=v.tupE
  obtain ⟨u1,us,rfl,w1,w2⟩:=w.inv_cons
  obtain ⟨u2,us,rfl,w3,w4⟩:=w2.inv_cons
  have:us=[]:=List.eq_nil_of_length_eq_zero w4.1.symm
  subst this
  cases w1 with | str _ t1 _ =>
  cases w3 with | int _ t2 =>
  refine ⟨a,rfl,⟨_,_,n,e,rfl,rfl,?_⟩,hn⟩
  refine .cons ?_ (.cons ?_ .nil)
  · show Value.isStrOf k.1 (.str k.1 t1)=true
    simp [Value.isStrOf]
  · show Value.isInt k.2 (.int k.2 t2)=true
    simp [Value.isInt]
theorem l6 (hK:K.Ok) (r:R K.hb s.heap σ α) {a:Addr} (ha:a ∈ α.ix):(a == sysModules)=false:=by
  obtain ⟨o,e⟩:=hK.mods
  rw [beq_eq_false_iff_ne]
  rintro rfl
  rw [r.fresh _ ha] at e; contradiction
theorem qO (hA:dF A):(tupleKind (jv K.prog K.w)).room A.in1:=by
  have:=hA.units
  show A.units + 1 < cLine
  omega
theorem pe {i:Nat} {a:Addr} {es:List ((Str × Int) × PV)} (r:R K.hb s.heap σ α) (hs:σ[i]?=some (.dp es)) (ea:α.ix[i]?=some a) :
    ∃ xs,s.heap.DictOfH (tupleKind (jv K.prog K.w)) a xs/\(kvsOf xs).map (·.1)=es.map (fun e=>kU e.1)/\(∀ x ∈ xs,x.2.1 ∉ α.all)/\aK s.heap α (es.map (·.2)) ((kvsOf xs).map (·.2)):=by
  obtain ⟨xs,h1,h2,h3,h4⟩:=r.obj i _ a hs ea
  refine ⟨xs,h1,?_,h3,?_⟩
  · rw [kvsOf,List.map_map]; exact h2
  · rw [kvsOf,List.map_map]; exact h4
theorem o9 {i:Nat} {a:Addr} {es:List (Str × PV)} (r:R K.hb s.heap σ α) (hs:σ[i]?=some (.ds es)) (ea:α.ix[i]?=some a) :
    ∃ kvs,s.heap.DictOf (strKind K.prog K.w) a kvs/\kvs.map (·.1)=es.map (fun e=>id e.1)/\aK s.heap α (es.map (·.2)) (kvs.map (·.2)):=r.obj i _ a hs ea
theorem nz {k:Str} {t:Tok}:(strKind K.prog K.w).is k (.str k t)=true:=by
  show Value.isStrOf k (.str k t)=true
  simp [Value.isStrOf]
theorem afM {i:Nat} {a:Addr} {es:List ((Str × Int) × PV)} {p:PV} {k:Str × Int} {x:Value} (hK:K.Ok) (hA:dF A) (r:R K.hb s.heap σ α) (hs:σ[i]?=some (.dp es)) (ea:α.ix[i]?=some a) (hk:fE p=some k) (vp:VR s.heap α p x) :
    Runs K dC A (compareOp .In x (.ref a)) (.ok (az k es).isSome σ) s α/\Runs K dC A (compareOp .NotIn x (.ref a)) (.ok (!(az k es).isSome) σ) s α:=by
  obtain ⟨xs,h1,h2,_,h4⟩:=pe r hs ea
  obtain ⟨b,rfl,hb,_⟩:=qY (K:=K) hk vp
  have e:(atKey xs (kU k)).isSome=(az k es).isSome:=by
    have:=fX mj h2 h4 k
    rw [valueAt_kvsOf] at this
    cases hq:az k es with
    | none=>have:=this.2 hq; cases hz:atKey xs (kU k) with | none=>rfl | some z=>rw [hz] at this; contradiction
    | some v=>obtain ⟨u,z,_⟩:=this.1 v hq; cases hz:atKey xs (kU k) with | none=>rw [hz] at z; cases z | some z=>rfl
  have hm:=l6 hK r (List.mem_of_getElem? ea)
  exact ⟨fun _ _=>wpAny_in_heap (qO hA) hb hm h1 (by rw [e]; exact ⟨_,σ,α,rfl,.refl,r,rfl,⟨rfl,rfl⟩⟩),fun _ _=>wpAny_notIn_heap (qO hA) hb hm h1 (by rw [e]; exact ⟨_,σ,α,rfl,.refl,r,rfl,⟨rfl,rfl⟩⟩)⟩
theorem afL {i:Nat} {a:Addr} {es:List (Str × PV)} {k:Str} {t:Tok} (hK:K.Ok) (r:R K.hb s.heap σ α) (hs:σ[i]?=some (.ds es)) (ea:α.ix[i]?=some a) :
    Runs K dC A (compareOp .In (.str k t) (.ref a)) (.ok (az k es).isSome σ) s α/\Runs K dC A (compareOp .NotIn (.str k t) (.ref a)) (.ok (!(az k es).isSome) σ) s α:=by
  obtain ⟨kvs,h1,h2,h4⟩:=o9 r hs ea
  have e:(valueAt kvs k).isSome=(az k es).isSome:=by
    have:=fX (g:=id) (fun _ _ h=>h) h2 h4 k
    cases hq:az k es with
    | none=>have:=this.2 hq; simp only [id] at this; rw [this]; rfl
    | some v=>obtain ⟨u,z,_⟩:=this.1 v hq; simp only [id] at z; rw [z]; rfl
  have hm:=l6 hK r (List.mem_of_getElem? ea)
  exact ⟨fun _ _=>wpAny_in_of nz hm h1.mapOf (by rw [e]; exact ⟨_,σ,α,rfl,.refl,r,rfl,⟨rfl,rfl⟩⟩),fun _ _=>wpAny_notIn_of nz hm h1.mapOf (by rw [e]; exact ⟨_,σ,α,rfl,.refl,r,rfl,⟨rfl,rfl⟩⟩)⟩
theorem ad6 {i:Nat} {a:Addr} {es:List ((Str × Int) × PV)} {p v:PV} {k:Str × Int} {x:Value} {E:Value->Shared->Prop} (hA:dF A) (r:R K.hb s.heap σ α) (hs:σ[i]?=some (.dp es)) (ea:α.ix[i]?=some a) (hk:fE p=some k) (vp:VR s.heap α p x) (hv:az k es=some v) :
    wpAny (model K.prog K.w) A (getItem (.ref a) x) (aQ K VR (.ok v σ) s α) E s:=by
  obtain ⟨xs,h1,h2,_,h4⟩:=pe r hs ea
  obtain ⟨b,rfl,hb,_⟩:=qY (K:=K) hk vp
  obtain ⟨u,z,vu⟩:=(fX mj h2 h4 k).1 v hv
  rw [valueAt_kvsOf] at z
  obtain ⟨q,hq,rfl⟩:=Option.map_eq_some_iff.mp z
  exact wpAny_getItem_heap (qO hA) hb h1 hq ⟨_,σ,α,rfl,.refl,r,vu,⟨rfl,rfl⟩⟩
theorem ad5 {i:Nat} {a:Addr} {es:List (Str × PV)} {v:PV} {k:Str} {t:Tok} {E:Value->Shared->Prop} (r:R K.hb s.heap σ α) (hs:σ[i]?=some (.ds es)) (ea:α.ix[i]?=some a) (hv:az k es=some v) :
    wpAny (model K.prog K.w) A (getItem (.ref a) (.str k t)) (aQ K VR (.ok v σ) s α) E s:=by
  obtain ⟨kvs,h1,h2,h4⟩:=o9 r hs ea
  obtain ⟨u,z,vu⟩:=(fX (g:=id) (fun _ _ h=>h) h2 h4 k).1 v hv
  exact wpAny_getItem_of nz h1.mapOf z ⟨_,σ,α,rfl,.refl,r,vu,⟨rfl,rfl⟩⟩
theorem ae6 {i:Nat} {a:Addr} {es:List ((Str × Int) × PV)} {p:PV} {k:Str × Int} {x:Value} {E:Value->Shared->Prop} (hK:K.Ok) (hA:dF A) (r:R K.hb s.heap σ α) (hs:σ[i]?=some (.dp es)) (ea:α.ix[i]?=some a) (hk:fE p=some k) (vp:VR s.heap α p x) :
    wpAny (model K.prog K.w) A (call (.builtin "dict.get") [.ref a,x]) (aQ K VR (.ok ((az k es).getD .none) σ) s α) E s:=by
  obtain ⟨xs,h1,h2,_,h4⟩:=pe r hs ea
  obtain ⟨b,rfl,hb,_⟩:=qY (K:=K) hk vp
  refine call_meetsIn F.slot_dict_get h1.typeIs F.entry_dict_get (F.args_dict_get_2 _ _) (meetsH_dict_get (tupleKind (jv K.prog K.w)) a b (l6 hK r (List.mem_of_getElem? ea))) ⟨qO hA,kU k,xs,hb,h1,?_⟩
  rw [<- valueAt_kvsOf]
  have:=fX mj h2 h4 k
  cases hq:az k es with
  | none=>rw [this.2 hq]; exact ⟨_,σ,α,rfl,.refl,r,.none,⟨rfl,rfl⟩⟩
  | some v=>obtain ⟨u,z,vu⟩:=this.1 v hq; rw [z]; exact ⟨_,σ,α,rfl,.refl,r,vu,⟨rfl,rfl⟩⟩
theorem ae5 {i:Nat} {a:Addr} {es:List (Str × PV)} {k:Str} {t:Tok} {E:Value->Shared->Prop} (hK:K.Ok) (r:R K.hb s.heap σ α) (hs:σ[i]?=some (.ds es)) (ea:α.ix[i]?=some a) :
    wpAny (model K.prog K.w) A (call (.builtin "dict.get") [.ref a,.str k t]) (aQ K VR (.ok ((az k es).getD .none) σ) s α) E s:=by
  obtain ⟨kvs,h1,h2,h4⟩:=o9 r hs ea
  refine call_meetsIn F.slot_dict_get h1.typeIs F.entry_dict_get (F.args_dict_get_2 _ _) (meets_dict_get (strKind K.prog K.w) a nz (l6 hK r (List.mem_of_getElem? ea))) ⟨_,h1.mapOf,?_⟩
  have:=fX (g:=id) (fun _ _ h=>h) h2 h4 k
  cases hq:az k es with
  | none=>have z:=this.2 hq; simp only [id] at z; rw [z]; exact ⟨_,σ,α,rfl,.refl,r,.none,⟨rfl,rfl⟩⟩
  | some v=>obtain ⟨u,z,vu⟩:=this.1 v hq; simp only [id] at z; rw [z]; exact ⟨_,σ,α,rfl,.refl,r,vu,⟨rfl,rfl⟩⟩
end
end Mine
namespace Mine
open PySem PyProof.Rows
noncomputable def aeJ:Op->Operator
  | .add=>.Add | .sub=>.Sub | .mul=>.Mult | .mod=>.Mod | .fdiv=>.FloorDiv | .pow=>.Pow
noncomputable def fG:Cm->CmpOp
  | .eq=>.Eq | .ne=>.NotEq | .lt=>.Lt | .le=>.LtE | .gt=>.Gt | .ge=>.GtE | .is=>.Is | .isNot=>.IsNot | .isin=>.In | .notin=>.NotIn
theorem nA {x y:Str} (a:PyData.strOk x=true) (b:PyData.strOk y=true):PyData.strOk (x++y)=true:=by
  unfold PyData.strOk at *
  rw [Str.cps_append]
  simp only [Array.all_eq_true',Array.mem_append] at *
  rintro c (h | h)
  · exact a c h
  · exact b c h
theorem aar {x:Str} {n:Int} (h:PyData.strOk x=true):PyData.strOk (Txt.mul x n)=true:=by
  unfold Txt.mul
  split
  · simp [PyData.strOk,Str.empty]
  · split
    · exact h
    · have key:∀ (k:Nat) (acc:Array Nat),PyData.strOk ⟨acc⟩=true->PyData.strOk ⟨(List.replicate k x.cps).foldl (·++·) acc⟩=true:=by
        intro k
        induction k with
        | zero=>intro acc h2; exact h2
        | succ k ih =>
          intro acc h2
          rw [List.replicate_succ,List.foldl_cons]
          exact ih _ (nA (x:=⟨acc⟩) (y:=x) h2 h)
      exact key _ _ (by simp [PyData.strOk])
theorem xF {x:Str} {n:Int} (h:x.length <= 100/\0 <= n/\n <= 100):MulOk x n:=
  mulOk_of 100 100 h.1 h.2.2 (by omega) (by decide) (by decide)
theorem rT {a:Int} (h:a.natAbs < 2 ^ 60):Builtin.Int.intBits a <= 64:=by
  unfold Builtin.Int.intBits
  by_cases h0:a.natAbs=0
  · have:a=0:=by omega
    subst this; decide
  · have:=(Nat.log2_lt h0).mpr h
    split <;> omega
inductive adB (h:Heap) (α:AL) (xs:List PV) (v:Value):Prop
  | mk (a:Addr) (ai:List Value) (n:Nat) (e:v=.ref a) (ht:h.get? a=some { cls:=.type "list",data:=.seq (List.toArray ai) n }) (vs:aK h α xs ai):adB h α xs v
theorem fb {h:Heap} {hb:Bs} {σ:ac} {α:AL} {a:PV} {x:Value} {xs:List PV} (r:R hb h σ α) (v:VR h α a x) (e:aY σ a=some xs) :
    adB h α xs x:=by
  cases a with
  | fl ys=>obtain rfl:=Option.some.inj e; obtain ⟨l,ai,n,rfl,e1,_,vs⟩:=v.flE; exact ⟨l,ai,n,rfl,e1,vs⟩
  | ref i =>
    obtain ⟨l,rfl,el⟩:=v.refE
    simp only [aY] at e
    cases hs:σ[i]? with
    | none=>rw [hs] at e; contradiction
    | some m =>
      rw [hs] at e
      cases m with
      | lst ys=>obtain rfl:=Option.some.inj e; obtain ⟨ai,n,e1,vs⟩:=r.obj i _ l hs el; exact ⟨l,ai,n,rfl,e1,vs⟩
      | _=>contradiction
  | _=>contradiction
section
variable {K:Kt} {A:Around} {s:Shared} {α:AL} {σ:ac}
theorem dM (s:Shared):s.heap.get? s.heap.objs.size=none:=by
  cases hq:s.heap.get? s.heap.objs.size with
  | none=>rfl
  | some o=>exact absurd (Heap.lt_size hq) (Nat.lt_irrefl _)
theorem aQ.fl {xs:List PV} {vs:List Value} (r:R K.hb s.heap σ α) (v:aK s.heap α xs vs) :
    aQ K VR (.ok (.fl xs) σ) s α (.ref s.heap.objs.size) { s with heap:=s.heap.push { cls:=.type "list",data:=.seq vs.toArray } }:=by
  have k:∀ b o,s.heap.get? b=some o->(s.heap.push { cls:=.type "list",data:=.seq vs.toArray }).get? b=some o:=fun b o e=>Heap.get?_push_of_some _ e
  refine ⟨_,_,_,rfl,.keeps k,r.keeps k,?_,⟨rfl,rfl⟩⟩
  refine VR.flI (n:=0) (Heap.get?_push_size _ rfl) (fun hm=>?_) (v.ext (.keeps (F:=[]) k))
  obtain ⟨o,e⟩:=r.liveAll hm; rw [dM] at e; contradiction
theorem aQ.tup {xs:List PV} {vs:List Value} (r:R K.hb s.heap σ α) (v:aK s.heap α xs vs) :
    aQ K VR (.ok (.tup xs) σ) s α (.ref s.heap.objs.size) { s with heap:=s.heap.push { cls:=.type "tuple",data:=.seq vs.toArray } }:=by
  have k:∀ b o,s.heap.get? b=some o->(s.heap.push { cls:=.type "tuple",data:=.seq vs.toArray }).get? b=some o:=fun b o e=>Heap.get?_push_of_some _ e
  refine ⟨_,_,_,rfl,.keeps k,r.keeps k,?_,⟨rfl,rfl⟩⟩
  refine VR.tupI (n:=0) (Heap.get?_push_size _ rfl) (fun hm=>?_) (v.ext (.keeps (F:=[]) k))
  obtain ⟨o,e⟩:=r.liveAll hm; rw [dM] at e; contradiction
theorem aQ.here {β γ:Type} {Rel:Heap->AL->β->γ->Prop} {b:β} {y:γ} {tk:Nat} (r:R K.hb s.heap σ α) (v:Rel s.heap α b y):aQ K Rel (.ok b σ) s α y { s with toks:=tk }:=
  ⟨_,_,_,rfl,.refl,r,v,⟨rfl,rfl⟩⟩
theorem wZ {l b:Addr} {vs ws:List Value} {n n2:Nat} {Q:Value->Shared->Prop} {E:Value->Shared->Prop} (ho:s.heap.get? l=some { cls:=.type "list",data:=.seq vs.toArray n })
    (ho2:s.heap.get? b=some { cls:=.type "list",data:=.seq ws.toArray n2 }) (hsz:vs.length + ws.length <= sizeLine)
    (h:Q (.ref s.heap.objs.size) { s with heap:=s.heap.push { cls:=.type "list",data:=.seq (vs++ws).toArray } }):wpAny (model K.prog K.w) A (binaryOp .Add (.ref l) (.ref b)) Q E s:=by
  have e:vs.toArray++ws.toArray=(vs++ws).toArray:=by simp
  refine concat_meets ⟨_,ho,rfl⟩ ⟨_,ho2,rfl⟩ noFill_list_add seq_list_add PySem.F.slot_list_add PySem.F.entry_list_add (PySem.F.args_list_add_2 _ _) (list_addW l b vs.toArray ws.toArray n n2 none none #[] #[] (by simpa using hsz)) ⟨ho,ho2,?_⟩
  rw [e]; exact h
theorem uF {t b:Addr} {vs ws:List Value} {n n2:Nat} {Q:Value->Shared->Prop} {E:Value->Shared->Prop} (ho:s.heap.get? t=some { cls:=.type "tuple",data:=.seq vs.toArray n })
    (ho2:s.heap.get? b=some { cls:=.type "tuple",data:=.seq ws.toArray n2 }) (hsz:vs.length + ws.length <= sizeLine)
    (h0:vs=[]->Q (.ref b) s) (h1:vs ≠ []->ws=[]->Q (.ref t) s)
    (h2:Q (.ref s.heap.objs.size) { s with heap:=s.heap.push { cls:=.type "tuple",data:=.seq (vs++ws).toArray } }):wpAny (model K.prog K.w) A (binaryOp .Add (.ref t) (.ref b)) Q E s:=by
  have e:vs.toArray++ws.toArray=(vs++ws).toArray:=by simp
  by_cases hv:vs=[]
  · exact concat_meets ⟨_,ho,rfl⟩ ⟨_,ho2,rfl⟩ noFill_tuple_add seq_tuple_add PySem.F.slot_tuple_add PySem.F.entry_tuple_add (PySem.F.args_tuple_add_2 _ _)
      (tuple_addW0 t b vs.toArray ws.toArray n n2 none none #[] #[] (by simp [hv])) ⟨ho,ho2,h0 hv⟩
  · by_cases hw:ws=[]
    · exact concat_meets ⟨_,ho,rfl⟩ ⟨_,ho2,rfl⟩ noFill_tuple_add seq_tuple_add PySem.F.slot_tuple_add PySem.F.entry_tuple_add (PySem.F.args_tuple_add_2 _ _)
        (tuple_addW1 t b vs.toArray ws.toArray n n2 none none #[] #[] (by simpa using hv) (by simp [hw])) ⟨ho,ho2,h1 hv hw⟩
    · refine concat_meets ⟨_,ho,rfl⟩ ⟨_,ho2,rfl⟩ noFill_tuple_add seq_tuple_add PySem.F.slot_tuple_add PySem.F.entry_tuple_add (PySem.F.args_tuple_add_2 _ _)
        (tuple_addW2 t b vs.toArray ws.toArray n n2 none none #[] #[] (by simpa using hv) (by simpa using hw) (by rw [List.size_toArray,List.size_toArray]; exact hsz)) ⟨ho,ho2,?_⟩
      rw [e]; exact h2
theorem iA {f:Int->Int->af PV} {o:Operator} {a b:PV} {x y:Value} (va:VR s.heap α a x) (vb:VR s.heap α b y)
    (H:∀ i j t u,f i j ≠ .stuck->wpAny (model K.prog K.w) A (binaryOp o (.int i t) (.int j u)) (aQ K VR (f i j) s α) (aZ K A (f i j) s α) s):Runs K VR A (binaryOp o x y) (rW f a b) s α:=by
  intro hc tk
  cases a with
  | int i =>
    cases b with
    | int j=>obtain ⟨_,rfl⟩:=va.intE; obtain ⟨_,rfl⟩:=vb.intE; exact H i j _ _ hc
    | _=>exact absurd rfl hc
  | _=>exact absurd rfl hc
theorem fy {a b:PV} {x y:Value} (r:R K.hb s.heap σ α) (va:VR s.heap α a x) (vb:VR s.heap α b y) (he:sZ a b σ=(match aY σ a with
    | some x=>match aY σ b with
      | some y=>if x.length + y.length <= am then .ok (.fl (x++y)) σ else .stuck
      | none=>.stuck
    | none=>.stuck)):Runs K VR A (binaryOp .Add x y) (sZ a b σ) s α:=by
  intro hc tk
  rw [he] at hc ⊢
  cases h1:aY σ a with
  | none=>rw [h1] at hc; exact absurd rfl hc
  | some xs =>
    cases h2:aY σ b with
    | none=>rw [h1,h2] at hc; exact absurd rfl hc
    | some ys =>
      rw [h1,h2] at hc
      dsimp only at hc ⊢
      by_cases hl:xs.length + ys.length <= am
      · rw [if_pos hl]
        obtain ⟨l,vs,n,rfl,e1,v1⟩:=fb r va h1
        obtain ⟨l2,ws,m,rfl,e2,v2⟩:=fb r vb h2
        exact wZ e1 e2 (by rw [<- v1.1,<- v2.1]; exact bL hl) (.fl r (v1.append v2))
      · rw [if_neg hl] at hc; exact absurd rfl hc
theorem aaa {a b:PV} {x y:Value} (r:R K.hb s.heap σ α) (va:VR s.heap α a x) (vb:VR s.heap α b y):Runs K VR A (binaryOp .Add x y) (sZ a b σ) s α:=by
  cases a with
  | int i =>
    intro hc tk
    cases b with
    | int j=>obtain ⟨_,rfl⟩:=va.intE; obtain ⟨_,rfl⟩:=vb.intE; exact P.add_int (.here r (.int _ _))
    | _=>exact absurd rfl hc
  | str p =>
    intro hc tk
    cases b with
    | str q =>
      cases va with | str _ _ h1=>cases vb with | str _ _ h2 =>
      change (if p.length + q.length <= am then af.ok (PV.str (p++q)) σ else .stuck) ≠ .stuck at hc
      show wpAny _ _ _ (aQ K VR (if p.length + q.length <= am then af.ok (PV.str (p++q)) σ else .stuck) s α) (aZ K A (if p.length + q.length <= am then af.ok (PV.str (p++q)) σ else .stuck) s α) s
      by_cases hl:p.length + q.length <= am
      · rw [if_pos hl]; exact PyProof.Rows.add_str (fun t' tk=>.here r (.str _ _ (nA h1 h2))) (bL hl)
      · rw [if_neg hl] at hc; exact absurd rfl hc
    | _=>exact absurd rfl hc
  | tup p =>
    intro hc tk
    cases b with
    | tup q =>
      change (if p.length + q.length <= am then af.ok (PV.tup (p++q)) σ else .stuck) ≠ .stuck at hc
      show wpAny _ _ _ (aQ K VR (if p.length + q.length <= am then af.ok (PV.tup (p++q)) σ else .stuck) s α) (aZ K A (if p.length + q.length <= am then af.ok (PV.tup (p++q)) σ else .stuck) s α) s
      by_cases hl:p.length + q.length <= am
      · rw [if_pos hl]
        obtain ⟨t,vs,n,rfl,e1,n1,v1⟩:=va.tupE
        obtain ⟨u,ws,m,rfl,e2,n2,v2⟩:=vb.tupE
        refine uF e1 e2 (by rw [<- v1.1,<- v2.1]; exact bL hl) (fun h=>?_) (fun _ h=>?_) (.tup r (v1.append v2))
        · refine ⟨_,_,_,rfl,.refl,r,?_,.refl _⟩
          have:_=0:=v1.1.trans (by rw [h]; rfl)
          rw [List.eq_nil_of_length_eq_zero this]; exact vb
        · refine ⟨_,_,_,rfl,.refl,r,?_,.refl _⟩
          have:_=0:=v2.1.trans (by rw [h]; rfl)
          rw [List.eq_nil_of_length_eq_zero this,List.append_nil]; exact va
      · rw [if_neg hl] at hc; exact absurd rfl hc
    | _=>exact absurd rfl hc
  | none=>exact fy r va vb rfl
  | bool _=>exact fy r va vb rfl
  | fl _=>exact fy r va vb rfl
  | ref _=>exact fy r va vb rfl
  | exc _=>exact fy r va vb rfl
  | inst _ _=>exact fy r va vb rfl
theorem aK.rep {h:Heap} {xs:List PV} {vs:List Value} (v:aK h α xs vs):∀ k:Nat,aK h α (List.replicate k xs).flatten (List.replicate k vs).flatten
  | 0=>by simpa using aK.nil
  | k + 1=>by simpa [List.replicate_succ] using v.append (v.rep k)
theorem xG {l:Addr} {vs:List Value} {n:Nat} {x:Int} {u:Tok} {Q:Value->Shared->Prop} {E:Value->Shared->Prop} (hl:s.heap.get? l=some { cls:=.type "list",data:=.seq vs.toArray n }) (h0:0 <= x) (h1:x <= 100) (h2:vs.length <= 100)
    (h:Q (.ref s.heap.objs.size) { s with heap:=s.heap.push { cls:=.type "list",data:=.seq (List.replicate x.toNat vs).flatten.toArray } }):wpAny (model K.prog K.w) A (binaryOp .Mult (.ref l) (.int x u)) Q E s:=by
  have hsz:vs.toArray.size * x.toNat <= 2 ^ 24:=by
    rw [List.size_toArray]
    exact Nat.le_trans (Nat.mul_le_mul h2 (show x.toNat <= 100 by omega)) (by decide)
  refine wpAny_binaryOp_repeat_ref (T := "list") (U := "int") (by decide) ⟨_,hl,rfl⟩ (fun s'=>typeIs_int s' x u) noFill_list_mul F.fills_int_mul F.slot_int_rmul repeat_list F.slot_int_index.lookup
    (call_meets F.slot_int_rmul (typeIs_int s x u) F.entry_int_rmul (F.args_int_rmul_2 _ _) (int___rmul___int_list x u l vs.toArray n)
      ⟨hl,rfl,⟨_,hl,rfl⟩,call_meets F.slot_list_mul ⟨_,hl,rfl⟩ F.entry_list_mul (F.args_list_mul_2 _ _)
        (AutoListH.list___mul___list_int_3 l vs.toArray n x u (by simp [Builtin.List.listFitsIndex]; omega) (by omega) (by simp [Builtin.List.listTooLong,sizeLine]; simpa using hsz)) ⟨hl,?_⟩⟩)
  rw [listMul_foldl]
  have e:(if vs.toArray.isEmpty=true then 0 else x.toNat)=x.toNat\/vs=[]:=by
    cases vs with
    | nil=>exact .inr rfl
    | cons=>exact .inl rfl
  rcases e with e | rfl
  · rw [e]; simpa using h
  · simpa using h
theorem zE {a b:PV} {x y:Value} (r:R K.hb s.heap σ α) (va:VR s.heap α a x) (vb:VR s.heap α b y):Runs K VR A (binaryOp .Mult x y) (aeO a b σ) s α:=by
  intro hc tk
  cases b with
  | int j =>
    obtain ⟨_,rfl⟩:=vb.intE
    cases a with
    | int i =>
      obtain ⟨_,rfl⟩:=va.intE
      change (if oY i j=true then af.ok (PV.int (i * j)) σ else .stuck) ≠ .stuck at hc
      show wpAny _ _ _ (aQ K VR (if oY i j=true then af.ok (PV.int (i * j)) σ else .stuck) s α) (aZ K A (if oY i j=true then af.ok (PV.int (i * j)) σ else .stuck) s α) s
      by_cases hm:oY i j=true
      · rw [if_pos hm]
        refine P.mul_int (.here r (.int _ _)) ?_
        exact (of_decide_eq_true hm).elim (fun h=>.of_left (rT h)) fun h=>.of_right (rT h)
      · rw [if_neg hm] at hc; exact absurd rfl hc
    | str p =>
      obtain ⟨_,rfl,hx⟩:=va.strE
      change (if p.length <= 100/\0 <= j/\j <= 100 then af.ok (PV.str (Txt.mul p j)) σ else .stuck) ≠ .stuck at hc
      show wpAny _ _ _ (aQ K VR (if p.length <= 100/\0 <= j/\j <= 100 then af.ok (PV.str (Txt.mul p j)) σ else .stuck) s α) (aZ K A (if p.length <= 100/\0 <= j/\j <= 100 then af.ok (PV.str (Txt.mul p j)) σ else .stuck) s α) s
      by_cases h0:p.length <= 100/\0 <= j/\j <= 100
      · rw [if_pos h0]; exact SB.mul (xF h0) fun t' tk=>.here r (.str _ _ (aar hx))
      · rw [if_neg h0] at hc; exact absurd rfl hc
    | fl xs =>
      obtain ⟨l,vs,n,rfl,e1,_,v⟩:=va.flE
      change (if xs.length <= 100/\0 <= j/\j <= 100 then af.ok (PV.fl (List.replicate j.toNat xs).flatten) σ else .stuck) ≠ .stuck at hc
      show wpAny _ _ _ (aQ K VR (if xs.length <= 100/\0 <= j/\j <= 100 then af.ok (PV.fl (List.replicate j.toNat xs).flatten) σ else .stuck) s α) (aZ K A (if xs.length <= 100/\0 <= j/\j <= 100 then af.ok (PV.fl (List.replicate j.toNat xs).flatten) σ else .stuck) s α) s
      by_cases h0:xs.length <= 100/\0 <= j/\j <= 100
      · rw [if_pos h0]; exact xG e1 h0.2.1 h0.2.2 (by rw [<- v.1]; exact h0.1) (aQ.fl r (v.rep _))
      · rw [if_neg h0] at hc; exact absurd rfl hc
    | _=>exact absurd rfl hc
  | _=>exact absurd rfl hc
theorem xW {o:Op} {a b:PV} {x y:Value} (hA:dF A) (r:R K.hb s.heap σ α) (va:VR s.heap α a x) (vb:VR s.heap α b y) :
    Runs K VR A (binaryOp (aeJ o) x y) (fS o a b σ) s α:=by
  cases o with
  | add=>exact aaa r va vb
  | mul=>exact zE r va vb
  | sub=>exact iA va vb fun i j t u _=>P.sub_int (.here r (.int _ _))
  | mod =>
    refine iA va vb fun i j t u hc=>?_
    by_cases h0:j=0
    · rw [if_pos h0] at hc; exact absurd rfl hc
    · rw [if_neg h0]; exact mod_int' h0 (.here r (.int _ _))
  | fdiv =>
    refine iA va vb fun i j t u hc=>?_
    by_cases h0:j ≠ 0/\j.natAbs < 1073741824
    · rw [if_pos h0]; exact floordiv_int h0.1 (.here r (.int _ _)) (.inl (PyProof.noPylong_small h0.2))
    · rw [if_neg h0] at hc; exact absurd rfl hc
  | pow =>
    refine iA va vb fun i j t u hc=>?_
    by_cases h0:0 <= j/\j <= 100/\i=10
    · rw [if_pos h0]
      obtain ⟨h1,h2,rfl⟩:=h0
      refine pow_int h1 ?_ (.here r (.int _ _))
      have:Builtin.Int.intBits 10=4:=by decide +kernel
      rw [this]; omega
    · rw [if_neg h0] at hc; exact absurd rfl hc
end
end Mine
namespace Mine
open PySem PyProof.Rows
section
variable {K:Kt} {A:Around} {s:Shared} {α:AL} {σ:ac}
theorem VR.ne_none {h:Heap} {a:PV} {x:Value} (v:VR h α a x) (hn:a ≠ .none):x ≠ .none:=by
  cases v <;> first | exact absurd rfl hn | (intro e; contradiction)
theorem mc {a:PV} {x:Value} {xs:List PV} {l:Addr} {ai:List Value} {n:Nat} {T:String} (hT:T = "list" \/ T = "tuple") (hA:dF A) (r:R K.hb s.heap σ α) (va:VR s.heap α a x)
    (e1:s.heap.get? l=some { cls:=.type T,data:=.seq ai.toArray n }) (vs:aK s.heap α xs ai) :
    Runs K dC A (compareOp .In x (.ref l)) (af.ofOpt (iK σ a xs) σ) s α ∧
    Runs K dC A (compareOp .NotIn x (.ref l)) (af.ofOpt ((iK σ a xs).map (!·)) σ) s α:=by
  unfold iK
  cases h1:bT 16 σ a with
  | none=>exact ⟨fun hc=>absurd rfl hc,fun hc=>absurd rfl hc⟩
  | some d =>
    cases h2:xs.mapM (bT 16 σ) with
    | none=>exact ⟨fun hc=>absurd rfl hc,fun hc=>absurd rfl hc⟩
    | some ds =>
      obtain ⟨as,r1,c1,p1⟩:=hJ r 16 a x d va h1
      obtain ⟨bs,r2,c2,p2⟩:=gw (n:=16) h2 vs.1 fun i x v d e1 e2 e3=>hJ r 16 x v d (vs.2 i x v e1 e2) e3
      have hu:A.units + 1 + min (PyData.depthAll ds) d.depth < cLine:=by have:=hA.units; omega
      rcases hT with rfl | rfl
      · have rc:Reads s.heap (.ref l) (.list ds) (l::bs):=.list e1 rfl rfl (by simpa using r2)
        exact ⟨fun _ _=>SeqAt.in_list_reads rc r1 (by simpa [PyData.canLay0] using c2) c1 hu ⟨_,σ,α,rfl,.refl,r,rfl,.refl s⟩,
          fun _ _=>SeqAt.notIn_list_reads rc r1 (by simpa [PyData.canLay0] using c2) c1 hu ⟨_,σ,α,rfl,.refl,r,rfl,.refl s⟩⟩
      · have rc:Reads s.heap (.ref l) (.tuple ds) bs:=.tuple e1 rfl rfl (by simpa using r2)
        exact ⟨fun _ _=>SeqAt.in_tuple_reads rc r1 (by simpa [PyData.canLay0] using c2) c1 hu ⟨_,σ,α,rfl,.refl,r,rfl,.refl s⟩,
          fun _ _=>SeqAt.notIn_tuple_reads rc r1 (by simpa [PyData.canLay0] using c2) c1 hu ⟨_,σ,α,rfl,.refl,r,rfl,.refl s⟩⟩
theorem yo (x:Str) (c:Nat):(!(Builtin.Str.occurrences x ⟨#[c]⟩ 0 x.length 1).isEmpty)=x.cps.toList.contains c:=by
  rw [StrLaws.found_one]; simp
theorem ka {f:Int->Int->Bool} {o:CmpOp} {a b:PV} {x y:Value} (r:R K.hb s.heap σ α) (va:VR s.heap α a x) (vb:VR s.heap α b y)
    (H:∀ i j t u (Q:Value->Shared->Prop) (E:Value->Shared->Prop),Q (.bool (f i j)) s->wpAny (model K.prog K.w) A (compareOp o (.int i t) (.int j u)) Q E s):Runs K dC A (compareOp o x y) (vN f a b σ) s α:=by
  intro hc tk
  cases a with
  | int i =>
    cases b with
    | int j=>obtain ⟨_,rfl⟩:=va.intE; obtain ⟨_,rfl⟩:=vb.intE; exact H i j _ _ _ _ ⟨_,σ,α,rfl,.refl,r,rfl,.refl s⟩
    | _=>exact absurd rfl hc
  | _=>exact absurd rfl hc
theorem tH {f:Bool->Bool} {o:CmpOp} {a b:PV} {x y:Value} (r:R K.hb s.heap σ α) (va:VR s.heap α a x) (vb:VR s.heap α b y)
    (H1:∀ (Q:Value->Shared->Prop) (E:Value->Shared->Prop),Q (.bool (f true)) s->wpAny (model K.prog K.w) A (compareOp o .none .none) Q E s)
    (H2:∀ (x:Value) (Q:Value->Shared->Prop) (E:Value->Shared->Prop),x ≠ .none->Q (.bool (f false)) s->wpAny (model K.prog K.w) A (compareOp o x .none) Q E s)
    (H3:∀ (p q:Bool) (Q:Value->Shared->Prop) (E:Value->Shared->Prop),Q (.bool (f (decide (p=q)))) s->wpAny (model K.prog K.w) A (compareOp o (.bool p) (.bool q)) Q E s):Runs K dC A (compareOp o x y) (isv f a b σ) s α:=by
  intro hc tk
  cases b with
  | none =>
    obtain rfl:=vb.noneE
    show wpAny _ _ _ (aQ K dC (.ok (f (sq a)) σ) s α) _ _
    by_cases hn:a=.none
    · subst hn; obtain rfl:=va.noneE; exact H1 _ _ ⟨_,σ,α,rfl,.refl,r,rfl,.refl s⟩
    · have:sq a=false:=by cases a <;> first | rfl | exact absurd rfl hn
      rw [this]
      exact H2 _ _ _ (va.ne_none hn) ⟨_,σ,α,rfl,.refl,r,rfl,.refl s⟩
  | bool q =>
    cases a with
    | bool p=>obtain rfl:=va.boolE; obtain rfl:=vb.boolE; exact H3 _ _ _ _ ⟨_,σ,α,rfl,.refl,r,rfl,.refl s⟩
    | _=>exact absurd rfl hc
  | _=>exact absurd rfl hc
theorem aba {a:PV} {i:Nat}:cA a (.ref i) σ=match σ[i]? with
      | some (.lst xs)=>iK σ a xs
      | some (.ds es)=>(match a with
        | .str k=>some (az k es).isSome
        | _=>none)
      | some (.dp es)=>(fE a).map fun k=>(az k es).isSome
      | _=>none:=rfl
theorem qZ {a b:PV} {x y:Value} (hK:K.Ok) (hA:dF A) (r:R K.hb s.heap σ α) (va:VR s.heap α a x) (vb:VR s.heap α b y):Runs K dC A (compareOp .In x y) (af.ofOpt (cA a b σ) σ) s α/\Runs K dC A (compareOp .NotIn x y) (af.ofOpt ((cA a b σ).map (!·)) σ) s α:=by
  cases b with
  | tup xs=>obtain ⟨l,ai,n,rfl,e1,_,vs⟩:=vb.tupE; exact mc (.inr rfl) hA r va e1 vs
  | str z =>
    obtain ⟨_,rfl,_⟩:=vb.strE
    cases a with
    | str w =>
      obtain ⟨_,rfl,_⟩:=va.strE
      have e:cA (.str w) (.str z) σ=match w.cps.toList with
        | [c]=>some (z.cps.toList.contains c)
        | _=>none:=rfl
      rw [e]
      cases hcs:w.cps.toList with
      | nil=>exact ⟨fun hc=>absurd rfl hc,fun hc=>absurd rfl hc⟩
      | cons c rr =>
        cases rr with
        | cons _ _=>exact ⟨fun hc=>absurd rfl hc,fun hc=>absurd rfl hc⟩
        | nil =>
          have hw:w=⟨#[c]⟩:=by cases w; simp at hcs; simp [<- hcs]
          subst hw
          exact ⟨fun _ _=>PyProof.Rows.in_str (by rw [yo]; exact ⟨_,σ,α,rfl,.refl,r,rfl,.refl s⟩),fun _ _=>PyProof.Rows.notIn_str (by rw [yo]; exact ⟨_,σ,α,rfl,.refl,r,rfl,.refl s⟩)⟩
    | _=>exact ⟨fun hc=>absurd rfl hc,fun hc=>absurd rfl hc⟩
  | fl xs=>obtain ⟨l,ai,n,rfl,e1,_,vs⟩:=vb.flE; exact mc (.inl rfl) hA r va e1 vs
  | ref i =>
    obtain ⟨l,rfl,el⟩:=vb.refE
    rw [aba]
    cases hs:σ[i]? with
    | none=>exact ⟨fun hc=>absurd rfl hc,fun hc=>absurd rfl hc⟩
    | some m =>
      cases m with
      | lst xs=>obtain ⟨ai,n,e1,vs⟩:=r.obj i _ l hs el; exact mc (.inl rfl) hA r va e1 vs
      | ds es =>
        cases a with
        | str k=>obtain ⟨_,rfl,_⟩:=va.strE; exact afL hK r hs el
        | _=>exact ⟨fun hc=>absurd rfl hc,fun hc=>absurd rfl hc⟩
      | dp es =>
        cases hk:fE a with
        | none=>exact ⟨fun hc=>absurd rfl hc,fun hc=>absurd rfl hc⟩
        | some k=>exact afM hK hA r hs el hk va
      | _=>exact ⟨fun hc=>absurd rfl hc,fun hc=>absurd rfl hc⟩
  | _=>exact ⟨fun hc=>absurd rfl hc,fun hc=>absurd rfl hc⟩
theorem eu {o:Cm} {a b:PV} {x y:Value} (hK:K.Ok) (hA:dF A) (r:R K.hb s.heap σ α) (va:VR s.heap α a x) (vb:VR s.heap α b y) :
    Runs K dC A (compareOp (fG o) x y) (bn o a b σ) s α:=by
  cases o with
  | eq=>exact xS hA r va vb
  | ne=>exact xR hA r va vb
  | lt=>exact ka r va vb fun i j t u Q E h=>P.lt_int h
  | le=>exact ka r va vb fun i j t u Q E h=>P.le_int h
  | gt=>exact ka r va vb fun i j t u Q E h=>P.gt_int h
  | ge=>exact ka r va vb fun i j t u Q E h=>P.ge_int h
  | is=>exact tH (f:=id) r va vb (fun Q E h=>is_none_none h) (fun x Q E hn h=>is_none_ne hn h) fun p q Q E h=>is_bool h
  | isNot=>exact tH (f:=(!·)) r va vb (fun Q E h=>isnot_none_none h) (fun x Q E hn h=>isnot_none_ne hn h) fun p q Q E h=>isnot_bool h
  | isin=>exact (qZ hK hA r va vb).1
  | notin=>exact (qZ hK hA r va vb).2
end
end Mine
namespace Mine
open PySem PyProof.Rows
noncomputable def dg (ys:List Str) (i:Nat):List Str:=cm (ys.take i)
noncomputable def pN (a:List Str) (x:Str):List Str:=if a.any (· == x) then a else a++[x]
theorem tE {ys:List Str} {i:Nat} {y:Str} (h:ys[i]?=some y):dg ys (i + 1)=pN (dg ys i) y:=by
  unfold dg cm
  rw [List.take_add_one,h,Option.toList_some,List.foldl_append]; rfl
theorem acj (a:List Str) (v k:Str):(pN a v).any (· == k)=(a.any (· == k) || decide (k=v)):=by
  unfold pN
  by_cases h:a.any (· == v)=true
  · rw [if_pos h]
    by_cases e:k=v
    · subst e; rw [h]; rfl
    · simp [e]
  · rw [if_neg h,List.any_append]
    congr 1
    by_cases e:k=v
    · subst e; simp
    · have:(v == k)=false:=by simpa using fun q:v=k=>e q.symm
      simp [e,this]
theorem pw (a:List Str) (v:Str):(pN a v).length=if a.any (· == v) then a.length else a.length + 1:=by
  unfold pN; split <;> simp
theorem abC (l:List Str):(cm l).length <= l.length:=by
  unfold cm
  have:∀ (l a:List Str),(l.foldl pN a).length <= a.length + l.length:=by
    intro l
    induction l with
    | nil=>intro a; simp
    | cons x l ih =>
      intro a
      have h1:=ih (pN a x)
      have h2:=pw a x
      rw [List.foldl_cons,List.length_cons]
      split at h2 <;> omega
  have h:=this l []
  rw [List.length_nil,Nat.zero_add] at h
  exact h
theorem adT (ys:List Str) (i:Nat):(dg ys i).length <= i:=Nat.le_trans (abC _) (by rw [List.length_take]; exact Nat.min_le_left _ _)
theorem yi:∀ {vs:List Value} {ys:List Str},StrsAre vs ys->∀ (i:Nat) (v:Value),vs[i]?=some v->∃ y t,ys[i]?=some y/\v=.str y t
  | _,_,.nil,i,v,h=>by simp at h
  | _,_,.cons y t r,0,v,h=>by simp at h; exact ⟨y,t,rfl,h.symm⟩
  | _,_,.cons y t r,i + 1,v,h=>by simpa using yi r i v (by simpa using h)
theorem pM:∀ {vs:List Value} {ys:List Str},StrsAre vs ys->vs.length=ys.length
  | _,_,.nil=>rfl
  | _,_,.cons _ _ r=>by simp [pM r]
section
variable {prog:Program} {w:World} {A:Around} {R:Result->Shared->Prop} {I:Addr} {fp wr:List Addr} {G:Array GenState->Array GenState->Prop} {n:Nat} {P:Nat->Value->Prop} {St:Nat->Shared->Prop}
theorem vF (W:WalksS prog w A.in1 I fp wr G n P St) (S:Addr) (hSf:S ∉ fp) (ys:List Str) (hval:∀ i v,P i v->∃ y t,ys[i]?=some y/\v=.str y t) (hb:n + 1 < scanBound) :
    ∀ (k i:Nat) (s:Shared),n - i=k->i <= n->St i s->s.heap.SetOf (strKind prog w) S (fun z=>(dg ys i).any (· == z)) (dg ys i).length ->
      (∀ s',Moved (S::wr) G s s'->s'.heap.SetOf (strKind prog w) S (fun z=>(dg ys n).any (· == z)) (dg ys n).length->R (.ok (.ret .none)) s') ->
      codeAny (model prog w) A (.builtin "set.update.loop" ⟨[.ref S,.ref I],[]⟩) R s:=by
  have hSw:S ∉ wr:=fun h=>hSf (W.sub _ h)
  have hsub:∀ b ∈ wr,b ∈ S::wr:=fun b hb=>List.mem_cons_of_mem _ hb
  have stay:∀ {s s':Shared} {i:Nat},Moved wr G s s'->s.heap.SetOf (strKind prog w) S (fun z=>(dg ys i).any (· == z)) (dg ys i).length->s'.heap.SetOf (strKind prog w) S (fun z=>(dg ys i).any (· == z)) (dg ys i).length:=by
    intro s s' i hm hS
    obtain ⟨o,es,ep,t,ho,rest⟩:=hS
    exact ⟨o,es,ep,t,hm.heap S _ hSw ho,rest⟩
  intro k
  induction k with
  | zero =>
    intro i s hk hi hst hS hR
    have:i=n:=by omega
    subst this
    refine codeAny_builtin F.entry_set_update_loop ?_
    rw [Around.under_plainId F.plain_set_update_loop _]
    show wpAny _ A.in1 (pyNext (.ref I) >>= _) _ _ s
    refine wpAny_bind (W.done s _ _ hst fun s' hm=>?_)
    exact wpAny_pure (hR s' (hm.mono hsub) (stay hm hS))
  | succ k ih =>
    intro i s hk hi hst hS hR
    have hlt:i < n:=by omega
    refine codeAny_builtin F.entry_set_update_loop ?_
    rw [Around.under_plainId F.plain_set_update_loop _]
    show wpAny _ A.in1 (pyNext (.ref I) >>= _) _ _ s
    refine wpAny_bind (W.item i s _ _ hlt hst fun v s' hP hst' hm=>?_)
    obtain ⟨y,t,hy,rfl⟩:=hval i v hP
    show wpAny _ A.in1 (holding [Value.str y t] (setAdd S (.str y t)) >>= _) _ _ s'
    refine wpAny_bind (wpAny_holding ?_)
    unfold setAdd
    refine wpAny_holding (wpAny_bind ((strKind prog w).pyHash (k:=y) (strKind_is _ _ _ _) ?_))
    have hS':s'.heap.SetOf (strKind prog w) S (fun z=>(dg ys i).any (· == z)) (dg ys i).length:=stay hm hS
    refine wpAny_setAddHashed_of (knd:=strKind prog w) (s:={ s' with toks:=s'.toks + 1 }) (strKind_is _ _ _ _) rfl hS' (by have:=adT ys i; omega) fun h' hsb hS2=>?_
    have hSi:h'.SetOf (strKind prog w) S (fun z=>(dg ys (i + 1)).any (· == z)) (dg ys (i + 1)).length:=
      SetOf_congr hS2 (fun z=>by rw [tE hy,acj]) (by rw [tE hy,pw])
    refine wpAny_pure ⟨plainId_quiet F.plain_set_update_loop _,ih (i + 1) _ (by omega) hlt (W.frame _ s' _ _ hst' (Nat.le_succ _) fun b hb o e=>?_) hSi fun s'' hm'' hS''=>?_⟩
    · rw [hsb.2 b (fun h:b=S=>hSf (h ▸ hb))]; exact e
    · refine hR s'' (Moved.trans W.gtrans ((hm.mono hsub).then_heap (Nat.le_succ _) fun b o hb e=>?_) hm'') hS''
      rw [hsb.2 b (fun h:b=S=>hb (by rw [h]; exact List.mem_cons_self))]; exact e
end
theorem t7:isSubtype (.type "tuple") (.type "set")=pure false:=by rw [isSubtype_type]; kernel_rfl
theorem na:isSubtype (.type "tuple") (.type "frozenset")=pure false:=by rw [isSubtype_type]; kernel_rfl
section
variable {prog:Program} {w:World} {A:Around} {E:Value->Shared->Prop} {s:Shared}
set_option maxHeartbeats 1600000 in
theorem ace {l:Addr} {T:String} {ai:Array Value} {n:Nat} {ys:List Str} {led:Bool} {Q:Value->Shared->Prop} (hh:A.handled=none) (hT:T = "list" \/ T = "tuple")
    (ho:s.heap.get? l=some { cls:=.type T,data:=.seq ai n }) (hi:StrsAre ai.toList ys) (hb:ai.size + 1 < scanBound)
    (h:∀ (h':Heap) (tk:Nat),h'.SetOf (strKind prog w) s.heap.objs.size (fun z=>(cm ys).any (· == z)) (cm ys).length->(∀ b o,b < s.heap.objs.size->s.heap.get? b=some o->h'.get? b=some o)->Q .none { s with heap:=h',toks:=tk }) :
    codeAny (model prog w) A (.call (.builtin "set.__init__") ⟨[.ref s.heap.objs.size,.ref l],[]⟩) (wants Q E) { s with heap:=s.heap.push { cls:=.type "set",dict:=none,data:=.set #[] 0 (.fresh 0 0 led) } }:=by
  have hS:(s.heap.push { cls:=.type "set",dict:=none,data:=.set #[] 0 (.fresh 0 0 led) }).get? s.heap.objs.size=some { cls:=.type "set",dict:=none,data:=.set #[] 0 (.fresh 0 0 led) }:=Heap.get?_push_size _ rfl
  have hTs:Shared.TypeIs { s with heap:=s.heap.push { cls:=.type "set",dict:=none,data:=.set #[] 0 (.fresh 0 0 led) } } (.ref s.heap.objs.size) "set" := ⟨_,hS,rfl⟩
  have hlS:l < s.heap.objs.size:=Heap.lt_size ho
  have hol:(s.heap.push { cls:=.type "set",dict:=none,data:=.set #[] 0 (.fresh 0 0 led) }).get? l=some { cls:=.type T,data:=.seq ai n }:=Heap.get?_push_of_some _ ho
  have hlen:(ys.take ai.size)=ys:=List.take_of_length_le (by rw [<- pM hi]; simp)
  have hmet:dg ys ai.size=cm ys:=by unfold dg; rw [hlen]
  have hh3:A.in1.in1.handled=none:=by simp [hh]
  have hneI:l ≠ (s.heap.push { cls:=.type "set",dict:=none,data:=.set #[] 0 (.fresh 0 0 led) }).objs.size:=by
    rw [Heap.size_push]; exact Nat.ne_of_lt (Nat.lt_succ_of_lt hlS)
  have hSf:s.heap.objs.size ∉ [(s.heap.push { cls:=.type "set",dict:=none,data:=.set #[] 0 (.fresh 0 0 led) }).objs.size,l]:=by
    rw [Heap.size_push]; simp only [List.mem_cons,List.not_mem_nil,or_false,not_or]
    exact ⟨Nat.ne_of_lt (Nat.lt_succ_self _),Nat.ne_of_gt hlS⟩
  have hval:∀ (i:Nat) (v:Value),ai[i]?=some v->∃ y t,ys[i]?=some y/\v=.str y t:=fun i v hv=>yi hi i v (by rw [Array.getElem?_toList]; exact hv)
  have fin:∀ (s':Shared) (wr:List Addr),(∀ b ∈ wr,b=s.heap.objs.size\/b=(s.heap.push { cls:=.type "set",dict:=none,data:=.set #[] 0 (.fresh 0 0 led) }).objs.size)->∀ (h1:Heap),(∀ b o,s.heap.get? b=some o->h1.get? b=some o) ->
      Moved wr (fun a b=>b=a) { s with heap:=h1 } s'->s'.heap.SetOf (strKind prog w) s.heap.objs.size (fun z=>(dg ys ai.size).any (· == z)) (dg ys ai.size).length->Q .none s':=by
    intro s' wr hwr h1 hk hm hS'
    obtain ⟨h',g',d',tk',os'⟩:=s'
    have eg:g'=s.gens:=hm.gens
    have ed:d'=s.drawn:=hm.drawn
    have eo:os'=s.os:=hm.os
    subst eg; subst ed; subst eo
    refine h h' tk' (hmet ▸ hS') fun b o hb e=>hm.heap b o (fun q=>?_) (hk b o e)
    rcases hwr b q with q | q
    · exact absurd q (Nat.ne_of_lt hb)
    · rw [Heap.size_push] at q
      exact absurd q (Nat.ne_of_lt (Nat.lt_succ_of_lt hb))
  have start:∀ (c:String),Heap.SetOf (strKind prog w) ((s.heap.push { cls:=.type "set",dict:=none,data:=.set #[] 0 (.fresh 0 0 led) }).push { cls:=.type c,data:=.fields #[.ref l,.int 0 0] }) s.heap.objs.size (fun z=>(dg ys 0).any (· == z)) (dg ys 0).length:=fun c =>
    SetOf_congr ((setObjOf_fresh (knd:=strKind prog w) led).setOf (Heap.get?_push_of_some _ hS) (by unfold scanBound; omega)) (fun _=>rfl) rfl
  refine codeAny_call_builtin F.called_set.init.plain F.entry_set_init (check_set_init_1 hTs ?_)
  rcases hT with rfl | rfl
  · have hsls:=F.sub_list_set
    have hslf:=F.sub_list_frozenset
    have hne:(Value.type "list" == Value.type "dict")=false:=by decide
    have hl1:(s.heap.push { cls:=.type "set",dict:=none,data:=.set #[] 0 (.fresh 0 0 led) }).IsList l ai:=⟨_,hol,rfl,n,rfl⟩
    unfold Builtin.«set.__init__» noKeywords Builtin.Frozenset.updateFrom
    generalize hPI:pyIter=PI
    wp_walk
    subst hPI
    refine wpAny_pyIter_list hl1 (wpAny_bind (wpAny_runValue ?_))
    refine vF ((Walks.list hh3 _ l hneI ai).toS) s.heap.objs.size hSf ys hval hb (ai.size - 0) 0 _ (by omega) (Nat.zero_le _) ?hst ?hS0 ?hR
    case hst=>exact ⟨⟨_,Heap.get?_push_size _ rfl,rfl,rfl⟩,hl1.push _⟩
    case hS0=>exact start _
    case hR =>
    intro s' hm hS'
    show wpAny _ _ _ _ _ _
    refine wpAny_pure ?_
    show wpAny _ _ (ret Value.none) _ _ _
    refine wpAny_pure ?_
    refine fin s' _ ?_ _ (fun b o e=>Heap.get?_push_of_some _ (Heap.get?_push_of_some _ e)) hm hS'
    intro b hb
    rcases List.mem_cons.mp hb with q | q
    · exact .inl q
    · exact .inr (List.mem_singleton.mp q)
  · have hsls:=t7
    have hslf:=na
    have hne:(Value.type "tuple" == Value.type "dict")=false:=by decide
    have hl1:(s.heap.push { cls:=.type "set",dict:=none,data:=.set #[] 0 (.fresh 0 0 led) }).IsTuple l ai:=⟨_,hol,rfl,n,rfl⟩
    unfold Builtin.«set.__init__» noKeywords Builtin.Frozenset.updateFrom
    generalize hPI:pyIter=PI
    wp_walk
    subst hPI
    refine wpAny_pyIter_tuple hl1 (wpAny_bind (wpAny_runValue ?_))
    refine vF ((Walks.tuple hh3 _ l hneI ai).toS) s.heap.objs.size hSf ys hval hb (ai.size - 0) 0 _ (by omega) (Nat.zero_le _) ?hst2 ?hS2 ?hR2
    case hst2=>exact ⟨⟨_,Heap.get?_push_size _ rfl,rfl,rfl⟩,⟨_,Heap.get?_push_of_some _ hol,rfl,n,rfl⟩⟩
    case hS2=>exact start _
    case hR2 =>
    intro s' hm hS'
    show wpAny _ _ _ _ _ _
    refine wpAny_pure ?_
    show wpAny _ _ (ret Value.none) _ _ _
    refine wpAny_pure ?_
    refine fin s' _ ?_ _ (fun b o e=>Heap.get?_push_of_some _ (Heap.get?_push_of_some _ e)) hm hS'
    intro b hb
    rcases List.mem_cons.mp hb with q | q
    · exact .inl q
    · exact .inr (List.mem_singleton.mp q)
set_option maxRecDepth 100000 in
set_option maxHeartbeats 3200000 in
theorem uB {l:Addr} {T:String} {ai:Array Value} {n:Nat} {ys:List Str} {Q:Value->Shared->Prop} (hh:A.handled=none) (hT:T = "list" \/ T = "tuple")
    (ho:s.heap.get? l=some { cls:=.type T,data:=.seq ai n }) (hi:StrsAre ai.toList ys) (hb:ai.size + 1 < scanBound)
    (h:∀ (h':Heap) (tk:Nat),h'.SetOf (strKind prog w) s.heap.objs.size (fun z=>(cm ys).any (· == z)) (cm ys).length->(∀ b o,b < s.heap.objs.size->s.heap.get? b=some o->h'.get? b=some o)->Q (.ref s.heap.objs.size) { s with heap:=h',toks:=tk }) :
    wpAny (model prog w) A (call (.type "set") [.ref l]) Q E s:=by
  obtain ⟨c,tl,hmro⟩:=F.called_set.mro
  have hmade:=F.called_set.made
  have hsub:=F.called_set.sub
  refine wpAny_call (codeAny_of_tree ?_)
  show wpAny _ _ (callAny (.type "set") _) _ _ _
  refine wpAny_pure ⟨Code.quiet_builtin _ (by decide +kernel),codeAny_builtin F.entry_type_call ?_⟩
  rw [Around.under_plain (weight_type_call_type "set" [.ref l] []) rfl]
  have h1:=F.called_set.notType
  have h2:=F.called_set.canCreate
  have hct:=F.typeCall_set_1 (.ref l)
  repeat (any_goals (first | assumption | wp_step))
  refine codeAny_mono (code_set_new_1 (.ref l) (E:=E) (Q₁:=fun obj s₁=>∃ led:Bool,obj=.ref s.heap.objs.size/\s₁={ s with heap:=s.heap.push { cls:=.type "set",dict:=none,data:=.set #[] 0 (.fresh 0 0 led) } }) fun led=>⟨led,rfl,rfl⟩) fun r s₁ hr=>?_
  cases r with
  | error e=>exact hr
  | ok fl =>
    cases fl with
    | ret obj =>
      obtain ⟨led,rfl,rfl⟩:=hr
      have hS:(s.heap.push { cls:=.type "set",dict:=none,data:=.set #[] 0 (.fresh 0 0 led) }).get? s.heap.objs.size=some { cls:=.type "set",dict:=none,data:=.set #[] 0 (.fresh 0 0 led) }:=Heap.get?_push_size _ rfl
      have hTy:Shared.TypeIs { s with heap:=s.heap.push { cls:=.type "set",dict:=none,data:=.set #[] 0 (.fresh 0 0 led) } } (.ref s.heap.objs.size) "set" := ⟨_,hS,rfl⟩
      have hli:=F.called_set.init.lookup
      have hbi:=F.called_set.init.bind (.ref s.heap.objs.size)
      repeat (any_goals (first | assumption | wp_step))
      refine codeAny_mono (ace (led:=led) (E:=E) (Q:=fun r au=>r=.none/\∃ h' tk,au={ s with heap:=h',toks:=tk } ∧
          h'.SetOf (strKind prog w) s.heap.objs.size (fun z=>(cm ys).any (· == z)) (cm ys).length/\(∀ b o,b < s.heap.objs.size->s.heap.get? b=some o->h'.get? b=some o)) (by simp [hh]) hT ho hi hb fun h' tk hS' hk=>⟨rfl,h',tk,rfl,hS',hk⟩) fun bV au zN=>?_
      cases bV with
      | error e=>exact zN
      | ok afR =>
        cases afR with
        | ret r =>
          obtain ⟨rfl,h',tk,rfl,hS',hk'⟩:=zN
          repeat (any_goals (first | assumption | wp_step))
          exact h _ _ hS' hk'
        | _=>exact zN.elim
    | _=>exact hr.elim
end
end Mine
namespace Mine
open PySem PyProof.Rows
theorem pH {h:Heap} {α:AL}:∀ {xs:List PV} {l:List Str} {ai:List Value},dj xs=some l->aK h α xs ai->StrsAre ai l
  | [],l,ai,e,v=>by
    obtain rfl:=Option.some.inj e
    have:ai=[]:=List.eq_nil_of_length_eq_zero v.1.symm
    rw [this]; exact .nil
  | x::xs,l,ai,e,v=>by
    obtain ⟨u,us,rfl,v1,v2⟩:=v.inv_cons
    cases x with
    | str i =>
      obtain ⟨_,rfl,_⟩:=v1.strE
      simp only [dj] at e
      cases hr:dj xs with
      | none=>rw [hr] at e; contradiction
      | some l'=>rw [hr] at e; obtain rfl:=Option.some.inj e; exact .cons _ _ (pH hr v2)
    | _=>simp [dj] at e
theorem sa (x:String):PyData.strOk (Str.ofString x)=true:=by
  rw [Str.ofString_eq_toList]
  unfold PyData.strOk
  rw [Array.all_eq_true']
  intro c hc
  simp at hc
  obtain ⟨d,_,rfl⟩:=hc
  have:=d.valid
  simp only [decide_eq_true_eq]
  rcases this with h | ⟨_,h⟩
  · exact Nat.lt_trans h (by decide)
  · exact h
theorem aau {i:Int} (h:0 <= i/\i < 1000000000):i.natAbs.log2 < 1920:=by
  by_cases h0:i.natAbs=0
  · rw [h0]; decide
  · rw [Nat.log2_lt h0]
    exact Nat.lt_of_lt_of_le (show i.natAbs < 1000000000 by omega) (Nat.le_trans (show 1000000000 <= 2 ^ 30 by decide) (Nat.pow_le_pow_right (by decide) (by decide)))
section
variable {K:Kt} {A:Around} {s:Shared} {α:AL} {σ:ac}
theorem jI {a:Addr} {ai:List Value} {n:Nat} (e:s.heap.get? a=some { cls:=.type "list",data:=.seq ai.toArray n }):s.heap.IsList a ai.toArray:=⟨_,e,rfl,n,rfl⟩
theorem isT {a:Addr} {ai:List Value} {n:Nat} (e:s.heap.get? a=some { cls:=.type "tuple",data:=.seq ai.toArray n }):IsTup s.heap a ai.toArray:=⟨_,e,rfl,n,rfl⟩
noncomputable def mJ:B1->Value
  | .len=>.builtin "len" | .list _=>.type "list" | .tuple=>.type "tuple" | .all=>.builtin "all" | .int=>.type "int" | .str=>.type "str" | .lenset=>.none
  | .dict=>.none
inductive adA (h:Heap) (α:AL) (a:PV) (xs:List PV) (x:Value):Prop
  | mk (l:Addr) (T:String) (vs:List Value) (n:Nat) (e:x=.ref l) (hT:T = "list" \/ T = "tuple") (ht:h.get? l=some { cls:=.type T,data:=.seq (List.toArray vs) n }) (v:aK h α xs vs) (ha:T = "tuple" -> a=.tup xs):adA h α a xs x
theorem qN {a:PV} {x:Value} {xs:List PV} (r:R K.hb s.heap σ α) (va:VR s.heap α a x) (e:a5 σ a=some xs) :
    adA s.heap α a xs x:=by
  cases a with
  | fl ys=>obtain rfl:=Option.some.inj e; obtain ⟨l,vs,n,rfl,e1,_,v⟩:=va.flE; exact ⟨l,_,vs,n,rfl,.inl rfl,e1,v,fun h=>by simp at h⟩
  | tup ys=>obtain rfl:=Option.some.inj e; obtain ⟨l,vs,n,rfl,e1,_,v⟩:=va.tupE; exact ⟨l,_,vs,n,rfl,.inr rfl,e1,v,fun _=>rfl⟩
  | ref i =>
    obtain ⟨l,rfl,el⟩:=va.refE
    simp only [a5] at e
    cases hs:σ[i]? with
    | none=>rw [hs] at e; contradiction
    | some m =>
      rw [hs] at e
      cases m with
      | lst ys=>obtain rfl:=Option.some.inj e; obtain ⟨vs,n,e1,v⟩:=r.obj i _ l hs el; exact ⟨l,_,vs,n,rfl,.inl rfl,e1,v,fun h=>by simp at h⟩
      | _=>contradiction
  | _=>contradiction
theorem aQ.list {fz:Bool} {xs:List PV} {vs:List Value} {D:Addr} {h':Heap} {n tk:Nat} (hl:xs.length <= am) (r:R K.hb s.heap σ α) (v:aK s.heap α xs vs) (k:∀ b o,s.heap.get? b=some o->h'.get? b=some o)
    (hD:s.heap.get? D=none) (e:h'.get? D=some { cls:=.type "list",data:=.seq vs.toArray n }):aQ K VR (bR fz xs σ) s α (.ref D) { s with heap:=h',toks:=tk }:=by
  unfold bR
  rw [if_pos hl]
  cases fz with
  | true =>
    refine ⟨_,_,_,rfl,.keeps k,r.keeps k,?_,⟨rfl,rfl⟩⟩
    refine VR.flI e (fun hm=>?_) (v.ext (.keeps (F:=[]) k))
    obtain ⟨o,e⟩:=r.liveAll hm; rw [hD] at e; contradiction
  | false =>
    obtain ⟨r',x⟩:=r.add (D:=D) (m:=.lst xs) k hD ⟨vs,n,e,v.ext (.add k hD)⟩
    refine ⟨_,_,_,rfl,x,r',.ref ?_,⟨rfl,rfl⟩⟩
    rw [r.len]; simp [AL.add]
theorem aaP {fz:Bool} {xs:List PV} (h:bR fz xs σ ≠ .stuck):xs.length <= am:=by
  unfold bR at h
  by_cases hl:xs.length <= am
  · exact hl
  · rw [if_neg hl] at h; exact absurd rfl h
theorem qW {fz:Bool} {a:PV} {x:Value} (r:R K.hb s.heap σ α) (va:VR s.heap α a x) :
    Runs K VR A (call (.type "list") [x]) (db (.list fz) a σ) s α:=by
  intro hc tk
  cases he:a5 σ a with
  | none=>exact absurd (show (match a5 σ a with | some xs=>bR fz xs σ | none=>.stuck)=.stuck by rw [he]) hc
  | some xs =>
    have e0:db (.list fz) a σ=bR fz xs σ:=show (match a5 σ a with | some xs=>bR fz xs σ | none=>.stuck)=_ by rw [he]
    rw [e0] at hc ⊢
    have hl:=aaP hc
    obtain ⟨l,T,vs,n,rfl,hT,e1,v,_⟩:=qN r va he
    refine call_list_seq l hT e1 rfl rfl (fun h' c' k e=>?_) (by simpa [<- v.1] using bL hl)
    exact aQ.list (tk:=s.toks) hl r v k (dM s) e
theorem mh {n:Nat} (h:n <= am):((n:Nat):Int) < 2 ^ 63:=by
  have:am=1000000:=rfl
  omega
theorem pI {h:Heap}:∀ {xs:List PV} {l:List Bool} {vs:List Value},dB xs=some l->aK h α xs vs->vs=l.map .bool
  | [],l,vs,e,v=>by obtain rfl:=Option.some.inj e; exact List.eq_nil_of_length_eq_zero v.1.symm
  | x::xs,l,vs,e,v=>by
    obtain ⟨u,us,rfl,v1,v2⟩:=v.inv_cons
    cases x with
    | bool b =>
      obtain rfl:=v1.boolE
      simp only [dB] at e
      cases hr:dB xs with
      | none=>rw [hr] at e; contradiction
      | some l'=>rw [hr] at e; obtain rfl:=Option.some.inj e; rw [pI hr v2]; rfl
    | _=>simp [dB] at e
theorem aaD (l:List Bool):(List.range l.length).all (fun i=>l.getD i false)=l.all id:=by
  induction l with
  | nil=>rfl
  | cons b l ih=>rw [List.length_cons,List.range_succ_eq_map,List.all_cons,List.all_map,List.all_cons,<- ih]; rfl
theorem zM {o:Obj} {h':Heap} (hk:∀ b o',b ∉ [s.heap.objs.size]->(s.heap.push o).get? b=some o'->h'.get? b=some o'):∀ b o',s.heap.get? b=some o'->h'.get? b=some o':=
  fun b o' e=>hk b o' (by simp; exact Nat.ne_of_lt (Heap.lt_size e)) (Heap.get?_push_of_some _ e)
theorem xU (bs:List Bool):TruthOf K.prog K.w A.in1 (fun i v=>(bs.map Value.bool).toArray[i]?=some v) (fun i=>bs.getD i false):=fun i v s' Q' E' hP hQ=>by
  simp only [List.getElem?_toArray,List.getElem?_map] at hP
  obtain ⟨b,hb,rfl⟩:=Option.map_eq_some_iff.mp hP
  refine wpAny_truthy_bool ?_
  have:bs.getD i false=b:=by simp [List.getD,hb]
  rw [<- this]; exact hQ
theorem xV {l:Addr} {bs:List Bool} {n:Nat} (e1:s.heap.get? l=some { cls:=.type "list",data:=.seq (bs.map Value.bool).toArray n }) :
    (s.heap.push { cls:=.type "list_iterator",data:=.fields #[.ref l,.int 0 0] }).IsListIter s.heap.objs.size l 0/\(s.heap.push { cls:=.type "list_iterator",data:=.fields #[.ref l,.int 0 0] }).IsList l (bs.map Value.bool).toArray:=
  ⟨⟨_,Heap.get?_push_size _ rfl,rfl,rfl⟩,⟨_,Heap.get?_push_of_some _ e1,rfl,n,rfl⟩⟩
theorem aes {l:Addr} {bs:List Bool} {n:Nat} {Q:Value->Shared->Prop} {E:Value->Shared->Prop} (hA:dF A) (hh:A.handled=none) (e1:s.heap.get? l=some { cls:=.type "list",data:=.seq (bs.map Value.bool).toArray n })
    (h:∀ h' tk,(∀ b o',s.heap.get? b=some o'->h'.get? b=some o')->Q (.bool (bs.all id)) { s with heap:=h',toks:=tk }):wpAny (model K.prog K.w) A (call (.builtin "all") [.ref l]) Q E s:=by
  refine call_all_walk (wpAny_pyIter_list (jI e1) ⟨_,_,_,_,_,_,_,rfl,Walks.list (A:=A.in1) hh _ l (Nat.ne_of_lt (Heap.lt_size e1)) (bs.map Value.bool).toArray,xV e1,xU bs,fun h' tk hk=>?_⟩)
  have:=h h' tk (zM hk)
  rw [show (bs.map Value.bool).toArray.size=bs.length by simp,aaD]; exact this
theorem zK {a:PV} {x:Value} {l:List Str} {Q:Value->Shared->Prop} {E:Value->Shared->Prop} (hA:dF A) (hh:A.handled=none) (r:R K.hb s.heap σ α) (va:VR s.heap α a x) (hl:(a5 σ a).bind dj=some l) (hn:l.length <= 1000)
    (h:∀ D h' tk,(∀ b o,s.heap.get? b=some o->h'.get? b=some o)->(∀ (Q':Value->Shared->Prop) (E':Value->Shared->Prop),(∀ t tk',Q' (.int (cm l).length t) { s with heap:=h',toks:=tk' })->wpAny (model K.prog K.w) A (call (.builtin "len") [.ref D]) Q' E' { s with heap:=h',toks:=tk })->Q (.ref D) { s with heap:=h',toks:=tk }) :
    wpAny (model K.prog K.w) A (call (.type "set") [x]) Q E s:=by
  obtain ⟨xs,h1,h2⟩:=Option.bind_eq_some_iff.mp hl
  obtain ⟨ad,T,vs,n,rfl,hT,e1,v,_⟩:=qN r va h1
  have hS:=pH h2 v
  have hlen:vs.length=l.length:=pM hS
  refine uB hh hT e1 (by simpa using hS) (by rw [List.size_toArray,hlen]; unfold scanBound; omega) fun h' tk hset hk=>?_
  refine h _ h' tk (fun b o e=>hk b o (Heap.lt_size e) e) fun Q' E' hq=>?_
  obtain ⟨o,es,ep,t,ho,hex,hd,hel,hmem,hb,hf,hn'⟩:=hset
  refine call_len_set (s:={ s with heap:=h',toks:=tk }) ho hex hd hf (by unfold scanBound at hb; omega) ?_
  rw [hn']; exact hq _ _
theorem adR {β:Type} {g:List PV->Option β} {f:β->af PV} {a:PV} {P:Prop} (h:jd g f a σ ≠ .stuck) (k:∀ xs l,aY σ a=some xs->g xs=some l->f l ≠ .stuck->jd g f a σ=f l->P):P:=by
  cases he:(aY σ a).bind g with
  | none=>exact absurd (by unfold jd; rw [he]) h
  | some l =>
    have e:jd g f a σ=f l:=by unfold jd; rw [he]
    exact aE he fun xs h1 h2=>k xs l h1 h2 (e ▸ h) e
theorem abK {b:B1} {a:PV} {x:Value} (hb:mJ b ≠ .none) (hA:dF A) (hh:uQ b=true->A.handled=none) (r:R K.hb s.heap σ α) (va:VR s.heap α a x) :
    Runs K VR A (call (mJ b) [x]) (db b a σ) s α:=by
  cases b with
  | len =>
    intro hc tk
    by_cases hz:∃ z,a=.str z
    · obtain ⟨z,rfl⟩:=hz
      obtain ⟨_,rfl,_⟩:=va.strE
      have e0:db .len (.str z) σ=if z.length <= am then .ok (.int z.length) σ else .stuck:=rfl
      rw [e0] at hc ⊢
      by_cases hl:z.length <= am
      · rw [if_pos hl]
        exact P.len_str (by have:=mh hl; omega) (.here r (.int _ _))
      · rw [if_neg hl] at hc; exact absurd rfl hc
    · have e0:db .len a σ=match a5 σ a with
          | some xs=>if xs.length <= am then .ok (.int xs.length) σ else .stuck
          | none=>.stuck:=by
        cases a <;> first | rfl | exact absurd ⟨_,rfl⟩ hz
      rw [e0] at hc ⊢
      cases he:a5 σ a with
      | none=>rw [he] at hc; exact absurd rfl hc
      | some xs =>
        rw [he] at hc
        dsimp only at hc ⊢
        split at hc
        · rename_i hl; rw [if_pos hl]
          obtain ⟨l,T,vs,n,rfl,hT,e1,v,_⟩:=qN r va he
          have hs:(vs.toArray.size:Int) < 2 ^ 63:=by rw [List.size_toArray,<- v.1]; exact mh hl
          rcases hT with rfl | rfl
          · refine PyProof.Rows.len_list (jI e1) hs ?_
            simp only [List.size_toArray,<- v.1]; exact .here r (.int _ _)
          · refine PyProof.Rows.len_tuple (isT e1) hs ?_
            simp only [List.size_toArray,<- v.1]; exact .here r (.int _ _)
        · exact absurd rfl hc
  | list fz=>exact qW r va
  | tuple =>
    intro hc tk
    have e0:db .tuple a σ=match a5 σ a with
        | some xs=>if xs.length <= am then .ok (.tup xs) σ else .stuck
        | none=>.stuck:=rfl
    rw [e0] at hc ⊢
    cases he:a5 σ a with
    | none=>rw [he] at hc; exact absurd rfl hc
    | some xs =>
      rw [he] at hc
      dsimp only at hc ⊢
      split at hc
      · rename_i hl; rw [if_pos hl]
        obtain ⟨l,T,vs,n,rfl,hT,e1,v,ht⟩:=qN r va he
        rcases hT with rfl | rfl
        · refine call_tuple_list (jI e1) (fun h' k=>?_) (by simpa [<- v.1] using bL hl)
          have k':∀ b o,s.heap.get? b=some o->(h'.push { cls:=.type "tuple",data:=.seq vs.toArray }).get? b=some o:=fun b o e=>Heap.get?_push_of_some _ (k b o e)
          refine ⟨_,_,_,rfl,.keeps k',r.keeps k',?_,⟨rfl,rfl⟩⟩
          refine VR.tupI (n:=0) (Heap.get?_push_size _ rfl) (fun hm=>?_) (v.ext (.keeps (F:=[]) k'))
          obtain ⟨o,e⟩:=r.liveAll hm
          exact absurd (Heap.lt_size (k _ _ e)) (Nat.lt_irrefl _)
        · rw [ht rfl] at va
          exact call_tuple_tup (isT e1) ⟨_,_,_,rfl,.refl,r,va,.refl s⟩
      · exact absurd rfl hc
  | all =>
    show Runs K VR A _ (jd dB _ a σ) s α
    intro hc tk
    refine adR hc fun xs l h1 h2 _ e=>?_
    rw [e]
    obtain ⟨ad,vs,n,rfl,e1,v⟩:=fb r va h1
    rw [pI h2 v] at e1
    exact aes hA (hh rfl) e1 fun h' tk k=>⟨_,_,_,rfl,.keeps k,r.keeps k,.bool _,⟨rfl,rfl⟩⟩
  | int =>
    intro hc tk
    cases a with
    | bool b=>obtain rfl:=va.boolE; exact call_int_bool (.here r (.int _ _))
    | _=>exact absurd rfl hc
  | str =>
    intro hc tk
    cases a with
    | str z=>obtain ⟨_,rfl,hz⟩:=va.strE; exact P.str_of_str ⟨_,_,_,rfl,.refl,r,.str _ _ hz,.refl s⟩
    | int i =>
      obtain ⟨_,rfl⟩:=va.intE
      have e0:db .str (.int i) σ=if 0 <= i/\i < 1000000000 then .ok (.str (Str.ofString (toString i))) σ else .stuck:=rfl
      rw [e0] at hc ⊢
      by_cases hl:0 <= i/\i < 1000000000
      · rw [if_pos hl]
        exact P.str_of_int (aau hl) (.here r (.str _ _ (sa _)))
      · rw [if_neg hl] at hc; exact absurd rfl hc
    | _=>exact absurd rfl hc
  | lenset=>exact absurd rfl hb
  | dict=>exact absurd rfl hb
end
end Mine
namespace Mine
open PySem PyProof.Rows
theorem R.set {hb h h' σ α} {i:Nat} {a:Addr} {m:MO} {oa:Obj} (r:R hb h σ α) (ea:α.ix[i]?=some a) (k:∀ b o,b ≠ a->h.get? b=some o->h'.get? b=some o) (al:h'.get? a=some oa)
    (o:aD [] α h α h'->OR hb h' α m a):R hb h' (σ.set i m) α/\aD [] α h α h':=by
  have ha:a ∈ α.ix:=List.mem_of_getElem? ea
  have x:aD [] α h α h':=⟨rfl,⟨[],by simp,fun _ hx=>by simp at hx⟩,fun b o hb e _=>k b o (fun q=>hb (q ▸ ha)) e,fun b o hb _ e=>.inl (k b o (fun q=>hb (q ▸ ha)) e),
    fun b o _ e=>by
      by_cases q:b=a
      · subst q; exact ⟨oa,al⟩
      · exact ⟨o,k b o q e⟩,rfl⟩
  refine ⟨⟨fun b o e=>k b o (fun q=>?_) (r.base b o e),r.fresh,r.nodup,by simp [r.len],fun b hb=>⟨(r.hidden b hb).1,let ⟨o,e⟩:=(r.hidden b hb).2; ⟨o,k b o (fun q=>(r.hidden b hb).1 (q ▸ ha)) e⟩⟩,fun j m' a' e1 e2=>?_,r.hfr,r.fe,fun b hb=>⟨(r.frs b hb).1,let ⟨o,e,d⟩:=(r.frs b hb).2; ⟨o,k b o (fun q=>r.frNot b hb (q ▸ ha)) e,d⟩⟩,r.frNot⟩,x⟩
  · rw [q,r.fresh a ha] at e; contradiction
  · by_cases hj:j=i
    · subst hj
      rw [ea] at e2; obtain rfl:=Option.some.inj e2
      rw [List.getElem?_set_self (by rw [r.len]; exact (List.getElem?_eq_some_iff.mp ea).1)] at e1
      obtain rfl:=Option.some.inj e1; exact o x
    · rw [List.getElem?_set_ne (Ne.symm hj)] at e1
      have hne:a' ≠ a:=fun q=>by
        subst q
        exact hj ((List.getElem?_inj (List.getElem?_eq_some_iff.mp e2).1 r.nodup).mp (e2.trans ea.symm))
      obtain ⟨o',e'⟩:=r.live (List.mem_of_getElem? e2)
      exact (r.obj j m' a' e1 e2).ext x (by rw [e',k a' o' hne e'])
section
variable {K:Kt} {A:Around} {s:Shared} {α:AL} {σ:ac}
theorem tD {a:PV} {x:Value} (r:R K.hb s.heap σ α) (va:VR s.heap α a x):Runs K VR A (unaryOp .USub x) (acp a σ) s α:=by
  intro hc tk
  cases a with
  | int i=>obtain ⟨_,rfl⟩:=va.intE; exact P.neg_int (.here r (.int _ _))
  | _=>exact absurd rfl hc
theorem im {a:PV} {x:Value} (r:R K.hb s.heap σ α) (va:VR s.heap α a x):Runs K d8 A (truthy x) (dJ a σ) s α:=by
  intro hc tk
  cases a with
  | bool b=>obtain rfl:=va.boolE; exact wpAny_truthy_bool ⟨_,_,_,rfl,.refl,r,rfl,.refl s⟩
  | _=>exact absurd rfl hc
noncomputable def yT:Ty->Option Value
  | .int=>some (.type "int") | .str=>some (.type "str") | .bool=>some (.type "bool") | .tuple=>some (.type "tuple")
  | .list=>some (.type "list")
theorem v6 {t:Ty} {tv:Value} {a:PV} {x:Value} (ht:yT t=some tv) (r:R K.hb s.heap σ α) (va:VR s.heap α a x) :
    Runs K dC A (call (.builtin "isinstance") [x,tv]) (fk a t σ) s α:=by
  intro hc tk
  have ok:∀ {b:Bool} {tk:Nat},aQ K dC (.ok b σ) s α (.bool b) { s with toks:=tk }:=⟨_,_,_,rfl,.refl,r,rfl,⟨rfl,rfl⟩⟩
  cases t with
  | int =>
    obtain rfl:=Option.some.inj ht
    cases a with
    | int i=>obtain ⟨_,rfl⟩:=va.intE; exact IsiPair.int_int (ok (tk:=s.toks))
    | bool b=>obtain rfl:=va.boolE; exact IsiPair.bool_int (ok (tk:=s.toks))
    | none=>obtain rfl:=va.noneE; exact IsiPair.NoneType_int ok
    | str z=>obtain ⟨_,rfl,_⟩:=va.strE; exact IsiPair.str_int ok
    | _=>exact absurd rfl hc
  | bool =>
    obtain rfl:=Option.some.inj ht
    cases a with
    | int i=>obtain ⟨_,rfl⟩:=va.intE; exact IsiPair.int_bool ok
    | bool b=>obtain rfl:=va.boolE; exact IsiPair.bool_bool (ok (tk:=s.toks))
    | none=>obtain rfl:=va.noneE; exact IsiPair.NoneType_bool ok
    | str z=>obtain ⟨_,rfl,_⟩:=va.strE; exact IsiPair.str_bool ok
    | _=>exact absurd rfl hc
  | str =>
    obtain rfl:=Option.some.inj ht
    cases a with
    | int i=>obtain ⟨_,rfl⟩:=va.intE; exact IsiPair.int_str ok
    | bool b=>obtain rfl:=va.boolE; exact IsiPair.bool_str ok
    | none=>obtain rfl:=va.noneE; exact IsiPair.NoneType_str ok
    | str z=>obtain ⟨_,rfl,_⟩:=va.strE; exact IsiPair.str_str (ok (tk:=s.toks))
    | tup xs=>obtain ⟨l,vs,n,rfl,e1,_,v⟩:=va.tupE; exact IsiPair.tuple_str e1 rfl ok
    | _=>exact absurd rfl hc
  | tuple =>
    obtain rfl:=Option.some.inj ht
    cases a with
    | int i=>obtain ⟨_,rfl⟩:=va.intE; exact IsiPair.int_tuple ok
    | str z=>obtain ⟨_,rfl,_⟩:=va.strE; exact IsiPair.str_tuple ok
    | tup xs=>obtain ⟨l,vs,n,rfl,e1,_,v⟩:=va.tupE; exact IsiPair.tuple_tuple e1 rfl (ok (tk:=s.toks))
    | _=>exact absurd rfl hc
  | list =>
    obtain rfl:=Option.some.inj ht
    have gen:∀ (e:fk a .list σ=match aY σ a with | some _=>.ok true σ | none=>.stuck),wpAny (model K.prog K.w) A (call (.builtin "isinstance") [x,.type "list"]) (aQ K dC (fk a .list σ) s α) (aZ K A (fk a .list σ) s α) s:=fun e=>by
      rw [e] at hc ⊢
      cases h1:aY σ a with
      | none=>rw [h1] at hc; exact absurd rfl hc
      | some xs=>obtain ⟨l,vs,n,rfl,e1,v⟩:=fb r va h1; exact IsiPair.list_list e1 rfl (ok (tk:=s.toks))
    cases a with
    | tup xs=>obtain ⟨l,vs,n,rfl,e1,_,v⟩:=va.tupE; exact IsiPair.tuple_list e1 rfl ok
    | none=>exact gen rfl
    | bool _=>exact gen rfl
    | int _=>exact gen rfl
    | str _=>exact gen rfl
    | fl _=>exact gen rfl
    | ref _=>exact gen rfl
    | exc _=>exact gen rfl
    | inst _ _=>exact gen rfl
theorem nD (i:Int) (n:Nat):cC i n=seqIndex? i n:=by
  unfold cC seqIndex?
  by_cases h:0 <= i
  · have h':¬ i < 0:=by omega
    rw [if_pos h,if_neg h']
    by_cases h2:i.toNat < n
    · rw [if_pos h2,if_pos (by simp; omega)]
    · rw [if_neg h2,if_neg (by simp; omega)]
  · have h':i < 0:=by omega
    rw [if_neg h,if_pos h']
    by_cases h2:0 <= i + n
    · rw [if_pos h2,if_pos (by simp; omega)]
    · rw [if_neg h2,if_neg (by simp; omega)]
theorem nB {i:Int} {n j:Nat} (h:cC i n=some j):-(n:Int) <= i/\i < n:=by
  unfold cC at h
  split at h
  · split at h
    · omega
    · contradiction
  · split at h
    · omega
    · contradiction
theorem pV {l:Addr} {vs:List Value} {n j:Nat} {i:Int} {t:Tok} {u:Value} {Q:Value->Shared->Prop} {E:Value->Shared->Prop} (e1:s.heap.get? l=some { cls:=.type "list",data:=.seq vs.toArray n })
    (hsz:vs.length <= am) (hj:cC i vs.length=some j) (hu:vs[j]?=some u) (h:Q u s):wpAny (model K.prog K.w) A (getItem (.ref l) (.int i t)) Q E s:=by
  have hl:=mh hsz
  unfold cC at hj
  by_cases h0:0 <= i
  · rw [if_pos h0] at hj
    split at hj
    · cases hj; exact wpAny_getItem_list (jI e1) h0 (by omega) (by simpa using hu) h
    · cases hj
  · rw [if_neg h0] at hj
    split at hj
    · cases hj; exact wpAny_getItem_list_neg (jI e1) (by omega) (by simp; omega) (by omega) (by simpa using hu) h
    · cases hj
theorem aK.get {h:Heap} {xs:List PV} {vs:List Value} {j:Nat} {p:PV} (v:aK h α xs vs) (e:xs[j]?=some p):∃ u,vs[j]?=some u/\VR h α p u:=by
  have hj:=(List.getElem?_eq_some_iff.mp e).1
  have hv:j < vs.length:=by rw [<- v.1]; exact hj
  exact ⟨vs[j],by simp [hv],v.2 j p vs[j] e (by simp [hv])⟩
theorem nP {value slice:Expr} {xs:List PV} {l:Addr} {vs:List Value} {n:Nat} {i:Int} {t:Tok} {T:String} (hT:T = "list" \/ T = "tuple") (hs:∀ o i:Value,subscripted slice false o i=operate [o,i] (getItem o i))
    (r:R K.hb s.heap σ α) (e1:s.heap.get? l=some { cls:=.type T,data:=.seq vs.toArray n }) (v:aK s.heap α xs vs):Runs K VR A (subscriptTail value slice (.ref l) (.int i t)) (lu xs i σ) s α:=by
  intro hc tk
  unfold lu at hc ⊢
  by_cases hl:xs.length <= am
  · rw [if_pos hl] at hc ⊢
    cases hj:(cC i xs.length).bind (xs[·]?) with
    | none=>rw [hj] at hc; exact absurd rfl hc
    | some p =>
      obtain ⟨j,h1,h2⟩:=Option.bind_eq_some_iff.mp hj
      obtain ⟨u,hu,hv⟩:=v.get h2
      have hl':vs.length <= am:=by rw [<- v.1]; exact hl
      rcases hT with rfl | rfl
      · refine tail_any (jI e1).typeIs slot_list_getitem.lookup ?_ (hs _ _)
        exact pV e1 hl' (by rw [<- v.1]; exact h1) hu ⟨_,_,_,rfl,.refl,r,hv,.refl s⟩
      · have hl3:=mh hl'
        have hr:=nB h1
        have hlen:=v.1
        exact item_tupleT (isT e1) (by omega) (by omega) (by rw [<- nD,<- v.1]; exact h1) hu ⟨_,_,_,rfl,.refl,r,hv,.refl s⟩ (hs _ _)
  · rw [if_neg hl] at hc; exact absurd rfl hc
theorem dn {value slice:Expr} {a b:PV} {x y:Value} (hA:dF A) (hs:∀ o i:Value,subscripted slice false o i=operate [o,i] (getItem o i)) (r:R K.hb s.heap σ α) (va:VR s.heap α a x) (vb:VR s.heap α b y) :
    Runs K VR A (subscriptTail value slice x y) (pL a b σ) s α:=by
  intro hc tk
  cases a with
  | ref i =>
    obtain ⟨l,rfl,el⟩:=va.refE
    have e:pL (.ref i) b σ=match σ[i]? with
      | some (.ds es)=>(match b with
        | .str k=>af.ofOpt (az k es) σ
        | _=>.stuck)
      | some (.dp es)=>af.ofOpt ((fE b).bind fun k=>az k es) σ
      | _=>.stuck:=by cases b <;> rfl
    rw [e] at hc ⊢
    cases hq:σ[i]? with
    | none=>rw [hq] at hc; exact absurd rfl hc
    | some m =>
      rw [hq] at hc
      cases m with
      | ds es =>
        cases b with
        | str k =>
          obtain ⟨_,rfl,_⟩:=vb.strE
          dsimp only at hc ⊢
          cases hv:az k es with
          | none=>rw [hv] at hc; exact absurd rfl hc
          | some v =>
            obtain ⟨kvs,h1,_⟩:=o9 r hq el
            exact tail_any h1.typeIs slot_dict_getitem.lookup (ad5 r hq el hv) (hs _ _)
        | _=>exact absurd rfl hc
      | dp es =>
        dsimp only at hc ⊢
        cases hv:(fE b).bind fun k=>az k es with
        | none=>rw [hv] at hc; exact absurd rfl hc
        | some v =>
          obtain ⟨k,hk,hv'⟩:=Option.bind_eq_some_iff.mp hv
          obtain ⟨xs,h1,_⟩:=pe r hq el
          exact tail_any h1.typeIs slot_dict_getitem.lookup (ad6 hA r hq el hk vb hv') (hs _ _)
      | _=>exact absurd rfl hc
  | _=>exact absurd rfl hc
theorem zc {value slice:Expr} {a b:PV} {x y:Value} (hA:dF A) (hns:∀ l u p,slice ≠ .Slice l u none p) (r:R K.hb s.heap σ α) (va:VR s.heap α a x) (vb:VR s.heap α b y) :
    Runs K VR A (subscriptTail value slice x y) (dK a b σ) s α:=by
  have hs:∀ o i:Value,subscripted slice false o i=operate [o,i] (getItem o i):=fun o i=>by
    unfold subscripted
    split
    · rename_i q; exact absurd rfl (hns _ _ _)
    · rename_i q; contradiction
    · rfl
  cases b with
  | int i =>
    obtain ⟨t,rfl⟩:=vb.intE
    have gen:∀ (e:dK a (.int i) σ=match aY σ a with | some xs=>lu xs i σ | none=>.stuck),Runs K VR A (subscriptTail value slice x (.int i t)) (dK a (.int i) σ) s α:=fun e=>by
      rw [e]
      cases h1:aY σ a with
      | none=>exact fun hc=>absurd rfl hc
      | some xs=>obtain ⟨l,vs,n,rfl,e1,v⟩:=fb r va h1; exact nP (.inl rfl) hs r e1 v
    cases a with
    | tup xs=>obtain ⟨l,vs,n,rfl,e1,_,v⟩:=va.tupE; exact nP (.inr rfl) hs r e1 v
    | str z =>
      obtain ⟨_,rfl,hz⟩:=va.strE
      have e:dK (.str z) (.int i) σ=if z.cps.size <= am then (match (cC i z.cps.size).bind (z.cps[·]?) with | some c=>af.ok (.str ⟨#[c]⟩) σ | none=>.stuck) else .stuck:=rfl
      rw [e]
      intro hc tk
      by_cases hl:z.cps.size <= am
      · rw [if_pos hl] at hc ⊢
        cases hj:(cC i z.cps.size).bind (z.cps[·]?) with
        | none=>rw [hj] at hc; exact absurd rfl hc
        | some c =>
          have hl3:=mh hl
          obtain ⟨j,h1,h2⟩:=Option.bind_eq_some_iff.mp hj
          have hr:=nB h1
          refine tail_any (typeIs_str s z _) F.slot_str_getitem.lookup ?_ (hs _ _)
          refine P.getItem_str (c:=c) (by simp; omega) (by rw [<- nD]; exact hj) (.here r (.str _ _ ?_))
          unfold PyData.strOk at hz ⊢
          simp only [Array.all_eq_true'] at hz ⊢
          intro d hd
          simp at hd
          subst hd
          exact hz _ (Array.mem_of_getElem? h2)
      · rw [if_neg hl] at hc; exact absurd rfl hc
    | none=>exact gen rfl
    | bool _=>exact gen rfl
    | int _=>exact gen rfl
    | fl _=>exact gen rfl
    | ref _=>exact gen rfl
    | exc _=>exact gen rfl
    | inst _ _=>exact gen rfl
  | str _=>exact dn hA hs r va vb
  | tup _=>exact dn hA hs r va vb
  | none=>exact dn hA hs r va vb
  | bool _=>exact dn hA hs r va vb
  | fl _=>exact dn hA hs r va vb
  | ref _=>exact dn hA hs r va vb
  | exc _=>exact dn hA hs r va vb
  | inst _ _=>exact dn hA hs r va vb
end
end Mine
namespace Mine
open PySem PyProof.Rows
structure uS (env:Env):Prop where
  kind:env.scope.kind=.function
  glob:env.globals=mainGlobals
  bins:env.builtins=builtinsNs
  ws:∀ (i:Nat) (x:Str) (k:NameKind),env.scope.names[i]?=some (x,k)->env.kindOf x=some k
  nodbg:∀ (i:Nat) (x:Str) (k:NameKind),env.scope.names[i]?=some (x,k)->(x == ("__debug__" : Str))=false
structure ag (env:Env) (ρ:aw) (h:Heap) (α:AL):Prop where
  ok:uS env
  la:env.locals ∉ α.all
  ns:∃ m,h.Ns env.locals m/\∀ (i:Nat) (x:Str) (v:PV),env.scope.names[i]?=some (x,.local)->ρ[i]?=some (some v)->∃ u,m x=some u/\VR h α v u
  ca:∀ x c,env.cells.lookup x=some c->c ∉ α.all/\c ≠ env.locals/\∃ v,h.IsCell c v
  cd:∀ x y c,env.cells.lookup x=some c->env.cells.lookup y=some c->x=y
  cv:∀ (i:Nat) (x:Str),env.scope.names[i]?=some (x,.cell)->∃ c,env.cells.lookup x=some c/\∀ v,ρ[i]?=some (some v)->∃ u,h.IsCell c (some u)/\VR h α v u
  inb:∀ (i:Nat) (v:PV),ρ[i]?=some (some v)->∃ x k,env.scope.names[i]?=some (x,k)/\(k=.local\/k=.cell)
theorem zY {h h':Heap} {fr:List Addr} {c:Addr} {o:Obj} {v:Option Value} (_e:h.get? c=some o) (_d:o.data=.cell v) (x:fA fr h' c o):h'.get? c=some o:=x.same (by rintro ⟨es,n,q⟩; rw [_d] at q; cases q)
theorem fq {F α h α' h'} {c:Addr} {v:Option Value} (x:aD F α h α' h') (hc:c ∉ α.ix) (hF:c ∉ F) (i:h.IsCell c v):h'.IsCell c v:=by
  obtain ⟨o,e,d⟩:=i
  exact ⟨o,zY e d (x.rest c o hc hF e),d⟩
theorem vP {F α h α' h'} {a:Addr} {m:Str->Option Value} (x:aD F α h α' h') (ha:a ∉ α.ix) (hF:a ∉ F) (n:h.Ns a m):h'.Ns a m:=by
  obtain ⟨o,es,ep,e,r⟩:=id n
  exact (x.rest a o ha hF e).ns n e
noncomputable def mK (env:Env) (F:List Addr):Prop:=env.locals ∉ F/\∀ x c,env.cells.lookup x=some c->c ∉ F
theorem mK.nil {env:Env}:mK env []:=⟨by simp,fun _ _ _=>by simp⟩
theorem ag.ext {F α h α' h'} {env:Env} {ρ:aw} (x:aD F α h α' h') (ap:mK env F) (E:ag env ρ h α):ag env ρ h' α':=by
  obtain ⟨m,n,hm⟩:=E.ns
  obtain ⟨oL,_,_,eL,_⟩:=id n
  refine ⟨E.ok,x.notAll E.la eL,⟨m,vP x (AL.not_ix E.la) ap.1 n,fun i y v e1 e2=>?_⟩,fun y c hc=>?_,E.cd,fun i y e1=>?_,E.inb⟩
  · obtain ⟨u,h1,h2⟩:=hm i y v e1 e2
    exact ⟨u,h1,h2.ext x⟩
  · obtain ⟨h1,h2,v,h3⟩:=E.ca y c hc
    obtain ⟨o,e,d⟩:=id h3
    exact ⟨x.notAll h1 e,h2,v,fq x (AL.not_ix h1) (ap.2 y c hc) h3⟩
  · obtain ⟨c,hc,hv⟩:=E.cv i y e1
    refine ⟨c,hc,fun v e2=>?_⟩
    obtain ⟨u,h1,h2⟩:=hv v e2
    exact ⟨u,fq x (AL.not_ix (E.ca y c hc).1) (ap.2 y c hc) h1,h2.ext x⟩
section
variable {K:Kt} {A:Around} {s:Shared} {α:AL} {σ:ac} {env:Env} {ρ:aw}
theorem qU {C:a8} {i:Nat} {x:Str} {k:NameKind} {p:Pos} (r:R K.hb s.heap σ α) (E:ag env ρ s.heap α) (hn:env.scope.names[i]?=some (x,k)) :
    Runs K VR A (eval (.Name x p) env) (ev C (.v i) ρ σ) s α:=by
  intro hc tk
  simp only [agj,yS] at hc ⊢
  split at hc
  · rename_i v hv
    obtain ⟨x',k',h1,h2⟩:=E.inb i v hv
    rw [hn] at h1; cases h1
    have hk:=E.ok.ws i x k hn
    refine wpAny_Name ?_ (E.ok.nodbg i x k hn)
    rcases h2 with rfl | rfl
    · obtain ⟨m,n,hm⟩:=E.ns
      obtain ⟨u,h3,h4⟩:=hm i x v hn hv
      exact wpAny_loadName_local E.ok.kind hk n h3 ⟨_,_,_,rfl,.refl,r,h4,.refl s⟩
    · obtain ⟨c,h3,h4⟩:=E.cv i x hn
      obtain ⟨u,h5,h6⟩:=h4 v hv
      exact wpAny_loadName_cell E.ok.kind hk h3 h5 ⟨_,_,_,rfl,.refl,r,h6,.refl s⟩
  · exact absurd rfl hc
theorem f9 {i:Nat} {x:Str} {p:Pos} {v:Value} {Q:Value->Shared->Prop} {X:Value->Shared->Prop} (hK:K.Ok) (r:R K.hb s.heap σ α) (E:uS env) (hn:env.scope.names[i]?=some (x,.globalImplicit))
    (hv:K.mg x=some v) (h:Q v s):wpAny (model K.prog K.w) A (eval (.Name x p) env) Q X s:=
  Calls.Name_function_global E.kind (E.ws i x _ hn) (Calls.loadGlobal_global (by rw [E.glob]; exact hK.g.keeps r.base) hv h) (E.nodbg i x _ hn)
theorem acr {i:Nat} {x:Str} {p:Pos} {v:Value} {Q:Value->Shared->Prop} {X:Value->Shared->Prop} (hK:K.Ok) (r:R K.hb s.heap σ α) (E:uS env) (hn:env.scope.names[i]?=some (x,.globalImplicit))
    (hm:K.mg x=none) (hv:K.mb x=some v) (h:Q v s):wpAny (model K.prog K.w) A (eval (.Name x p) env) Q X s:=
  Calls.Name_function_global E.kind (E.ws i x _ hn) (Calls.loadGlobal_builtin (by rw [E.glob]; exact hK.g.keeps r.base) hm (by rw [E.bins]; exact hK.b.keeps r.base) hv h) (E.nodbg i x _ hn)
end
end Mine
namespace Mine
open PySem PyProof.Rows
theorem VR.re {h:Heap} {α α':AL} (h1:∀ (i:Nat) (a:Addr),α.ix[i]?=some a->α'.ix[i]?=some a) (h2:∀ a,a ∈ α'.all->a ∈ α.all) {p:PV} {v:Value} (r:VR h α p v):VR h α' p v:=by
  induction r with
  | none=>exact .none
  | bool b=>exact .bool b
  | int i t=>exact .int i t
  | str s t hs=>exact .str s t hs
  | tup e hn hl _ ih=>exact .tup e (fun q=>hn (h2 _ q)) hl ih
  | fl e hn hl _ ih=>exact .fl e (fun q=>hn (h2 _ q)) hl ih
  | exc e hc hd hn=>exact .exc e hc hd (fun q=>hn (h2 _ q))
  | inst e hn hi=>exact .inst e (fun q=>hn (h2 _ q)) (h1 _ _ hi)
  | ref e=>exact .ref (h1 _ _ e)
theorem VR.hide {h:Heap} {α:AL} {D:Addr} (hD:h.get? D=Option.none) {p:PV} {v:Value} (r:VR h α p v):VR h ⟨α.ix,D::α.hid,α.fr⟩ p v:=by
  have key:∀ {a:Addr} {o:Obj},h.get? a=some o->a ∉ α.all->a ∉ (⟨α.ix,D::α.hid,α.fr⟩:AL).all:=fun {a o} e hn q=>by
    rcases List.mem_append.mp q with q | q
    · exact hn (List.mem_append_left _ q)
    · rcases List.mem_cons.mp q with q | q
      · subst q; rw [hD] at e; contradiction
      · exact hn (List.mem_append_right _ q)
  induction r with
  | none=>exact .none
  | bool b=>exact .bool b
  | int i t=>exact .int i t
  | str s t hs=>exact .str s t hs
  | tup e hn hl _ ih=>exact .tup e (key e hn) hl ih
  | fl e hn hl _ ih=>exact .fl e (key e hn) hl ih
  | exc e hc hd hn=>exact .exc e hc hd (key e hn)
  | inst e hn hi=>exact .inst e (key e hn) hi
  | ref e=>exact .ref e
theorem aK.re {h:Heap} {α α':AL} (h1:∀ (i:Nat) (a:Addr),α.ix[i]?=some a->α'.ix[i]?=some a) (h2:∀ a,a ∈ α'.all->a ∈ α.all) {p:List PV} {v:List Value} (r:aK h α p v):aK h α' p v:=
  ⟨r.1,fun i x y e1 e2=>(r.2 i x y e1 e2).re h1 h2⟩
theorem aK.hide {h:Heap} {α:AL} {D:Addr} (hD:h.get? D=none) {p:List PV} {v:List Value} (r:aK h α p v):aK h ⟨α.ix,D::α.hid,α.fr⟩ p v:=
  ⟨r.1,fun i x y e1 e2=>(r.2 i x y e1 e2).hide hD⟩
theorem AL.not_hide {h:Heap} {α:AL} {D a:Addr} {o:Obj} (hD:h.get? D=none) (e:h.get? a=some o) (hn:a ∉ α.all):a ∉ (⟨α.ix,D::α.hid,α.fr⟩:AL).all:=fun q=>by
  rcases List.mem_append.mp q with q | q
  · exact hn (List.mem_append_left _ q)
  · rcases List.mem_cons.mp q with q | q
    · subst q; rw [hD] at e; contradiction
    · exact hn (List.mem_append_right _ q)
theorem VR.sameBut {h h':Heap} {α:AL} {D:Addr} (hD:D ∈ α.all) (k:∀ b,b ≠ D->h'.get? b=h.get? b) {p:PV} {v:Value} (r:VR h α p v):VR h' α p v:=by
  induction r with
  | none=>exact .none
  | bool b=>exact .bool b
  | int i t=>exact .int i t
  | str s t hs=>exact .str s t hs
  | tup e hn hl _ ih=>exact .tup ((k _ (by rintro rfl; exact hn hD)).trans e) hn hl ih
  | fl e hn hl _ ih=>exact .fl ((k _ (by rintro rfl; exact hn hD)).trans e) hn hl ih
  | exc e hc hd hn=>exact .exc ((k _ (by rintro rfl; exact hn hD)).trans e) hc hd hn
  | inst e hn hi=>exact .inst ((k _ (by rintro rfl; exact hn hD)).trans e) hn hi
  | ref e=>exact .ref e
theorem aK.sameBut {h h':Heap} {α:AL} {D:Addr} (hD:D ∈ α.all) (k:∀ b,b ≠ D->h'.get? b=h.get? b) {p:List PV} {v:List Value} (r:aK h α p v):aK h' α p v:=
  ⟨r.1,fun i x y e1 e2=>(r.2 i x y e1 e2).sameBut hD k⟩
noncomputable def afi (K:Kt) (A:Around) (it v:Value) (P:Shared->Prop) (s:Shared):Prop:=
  ∀ (elts:List Expr) (k:Nat) (pos:Pos) (Q:Unit->Shared->Prop) (E:Value->Shared->Prop),(∀ s',P s'->Q () s')->wpAny (model K.prog K.w) A (letOwnedTupleGo (.Tuple elts k pos) it v) Q E s
noncomputable def vM:List String:=["enumerate", "zip", "dict_itemiterator", "dict_reverseitemiterator", "odict_iterator", "itertools.zip_longest", "itertools.pairwise"]
theorem jD {K:Kt} {A:Around} {I:Addr} {o:Obj} {n:String} {v:Value} {s:Shared} {P:Shared->Prop} (e:s.heap.get? I=some o) (hc:o.cls=.type n) (hn:vM.contains n=false) (h:P s):afi K A (.ref I) v P s:=by
  intro elts k pos Q E hQ
  have hq:=hQ s h
  unfold letOwnedTupleGo
  cases v with
  | ref a =>
    refine wpAny_bind (wpAny_load e ?_)
    obtain ⟨c,d,dt,sl⟩:=o
    dsimp only at hc
    subst hc
    cases dt with
    | fields vs =>
      show wpAny _ A (if (vM.contains n && vs[0]? == some (rawInt a))=true then _ else _) Q E s
      rw [hn]
      exact wpAny_pure hq
    | _=>exact wpAny_pure hq
  | _=>exact wpAny_pure hq
structure fY (K:Kt) (A:Around) (en:Bool) (own:List Addr) (it:Value) (xs:List PV) (wt:Option (Nat × List PV)) (St:Nat->Heap->AL->Prop):Prop where
  live:∀ i h α,St i h α->∀ b ∈ own,∃ o,h.get? b=some o
  apart:∀ i h α,St i h α->∀ b ∈ own,b ∉ α.all
  frame:∀ i F α h α' h',St i h α->aD F α h α' h'->(∀ b ∈ own,b ∉ F)->St i h' α'
  but:∀ i D α h h',St i h α->D ∈ α.all->(∀ b,b ≠ D->h'.get? b=h.get? b)->St i h' α
  hide:∀ i D α h,St i h α->h.get? D=none->St i h ⟨α.ix,D::α.hid,α.fr⟩
  item:∀ (i:Nat) (s:Shared) (σ:ac) (α:AL) (p:PV),xs[i]?=some p->St i s.heap α->R K.hb s.heap σ α->cn wt σ->∀ (Q:Option Value->Shared->Prop) (E:Value->Shared->Prop),
    (∀ v s',VR s'.heap α p v->(en=false->St (i + 1) s'.heap α)->afi K A it v (fun au=>VR au.heap α p v/\St (i + 1) au.heap α/\aD own α s'.heap α au.heap/\R K.hb au.heap σ α/\Sm s' au) s'->aD own α s.heap α s'.heap->R K.hb s'.heap σ α->Sm s s'->Q (some v) s')->wpAny (model K.prog K.w) A (pyNext it) Q E s
  done:∀ (s:Shared) (σ:ac) (α:AL),St xs.length s.heap α->R K.hb s.heap σ α->cn wt σ->∀ (Q:Option Value->Shared->Prop) (E:Value->Shared->Prop),
    (∀ s',aD own α s.heap α s'.heap->R K.hb s'.heap σ α->Sm s s'->Q none s')->wpAny (model K.prog K.w) A (pyNext it) Q E s
  self:∀ (i:Nat) (s:Shared) (α:AL),St i s.heap α->∀ (Q:Value->Shared->Prop) (E:Value->Shared->Prop),Q it s->wpAny (model K.prog K.w) A (pyIter it) Q E s
theorem R.but {hb h h' σ α} {I:Addr} (r:R hb h σ α) (hI':I ∉ α.all) (hbI:hb.get? I=none) (k:∀ b o,b ≠ I->h.get? b=some o->h'.get? b=some o)
    (hs:∀ o,h.get? I=some o->¬ jp o) (hd:I ∈ hb.fr->∀ o,h.get? I=some o->dq o->∃ o',h'.get? I=some o'/\dq o'):R hb h' σ α/\aD [I] α h α h':=by
  have hI:I ∉ α.ix:=AL.not_ix hI'
  have hI2:I ∉ α.hid:=fun q=>hI' (List.mem_append_right _ q)
  have x:aD [I] α h α h':=⟨rfl,⟨[],by simp,fun _ hx=>by simp at hx⟩,fun b o hb e q=>k b o (fun z=>by subst z; exact hs o e q) e,fun b o hb hF e=>.inl (k b o (by simpa using hF) e),fun b o hF e=>⟨o,k b o (by simpa using hF) e⟩,rfl⟩
  refine ⟨⟨fun b o e=>k b o (fun q=>by rw [q,hbI] at e; contradiction) (r.base b o e),r.fresh,r.nodup,r.len,fun b hb=>⟨(r.hidden b hb).1,?_⟩,fun j m a e1 e2=>?_,r.hfr,r.fe,fun b hb=>⟨(r.frs b hb).1,?_⟩,r.frNot⟩,x⟩
  · obtain ⟨o,e⟩:=(r.hidden b hb).2
    exact ⟨o,k b o (fun q=>hI2 (q ▸ hb)) e⟩
  · obtain ⟨o',e'⟩:=r.live (List.mem_of_getElem? e2)
    exact (r.obj j m a e1 e2).ext x (by rw [e',k a o' (fun q=>hI (q ▸ List.mem_of_getElem? e2)) e'])
  · obtain ⟨_,o,e,d⟩:=r.frs b hb
    by_cases q:b=I
    · subst q; exact hd hb o e d
    · exact ⟨o,k b o q e,d⟩
theorem c9 {h h':Heap} {fr:List Addr} {c:Addr} {o:Obj} {v:Array Value} (_e:h.get? c=some o) (_d:o.data=.fields v) (x:fA fr h' c o):h'.get? c=some o:=x.same (by rintro ⟨es,n,q⟩; rw [_d] at q; contradiction)
theorem bu {o:Obj} {v:Array Value} {T:String} (d:o.data=.fields v) (hc:o.cls=.type T):¬ jp o:=by
  rintro (⟨xs,n,e⟩ | ⟨C,vs,e,_⟩ | ⟨C,e,_⟩)
  · rw [d] at e; contradiction
  · rw [hc] at e; contradiction
  · rw [hc] at e; contradiction
theorem bw {o:Obj} {v:Array Value} (d:o.data=.fields v):¬ dq o:=by
  rintro ⟨xs,n,e⟩; rw [d] at e; contradiction
section
variable {K:Kt} {A:Around} {en:Bool}
theorem fY.list (hA:dF A) (hh:A.handled=none) {I:Addr} {l:Addr} {xs:List PV} (hbI:K.hb.get? I=none) :
    fY K A en [I] (.ref I) xs none (fun i h α=>h.IsListIter I l i/\I ∉ α.all/\VR h α (.fl xs) (.ref l)) where
  live:=fun i h α st b hb=>by simp at hb; subst hb; obtain ⟨⟨o,e,_⟩,_⟩:=st; exact ⟨o,e⟩
  apart:=fun i h α st b hb=>by simp at hb; subst hb; exact st.2.1
  frame:=fun i F α h α' h' st x hF=>by
    obtain ⟨⟨o,e,hc,hd⟩,hI,v⟩:=st
    exact ⟨⟨o,c9 e hd (x.rest I o (AL.not_ix hI) (hF I (by simp)) e),hc,hd⟩,x.notAll hI e,v.ext x⟩
  but:=fun i D α h h' st hD k=>by
    obtain ⟨⟨o,e,hc,hd⟩,hI,v⟩:=st
    exact ⟨⟨o,(k I (fun q=>hI (q ▸ hD))).trans e,hc,hd⟩,hI,v.sameBut hD k⟩
  hide:=fun i D α h st hD=>by
    obtain ⟨⟨o,e,hc,hd⟩,hI,v⟩:=st
    exact ⟨⟨o,e,hc,hd⟩,AL.not_hide hD e hI,v.hide hD⟩
  item:=fun i s σ α p hp st r _ Q E hQ=>by
    obtain ⟨hit,hI,v⟩:=st
    obtain ⟨l',vs,n,hl,e1,hn,w⟩:=v.flE
    cases hl
    obtain ⟨u,hu,hv⟩:=w.get hp
    obtain ⟨o,e,hc,hd⟩:=id hit
    refine wpAny_pyNext_list_item hit (jI e1) (by simpa using hu) fun h' hit' hs'=>?_
    obtain ⟨r',x⟩:=r.but hI hbI (fun b o hb e=>(hs'.2 b hb).trans e) (fun o' e'=>by rw [e] at e'; obtain rfl:=Option.some.inj e'; exact bu hd hc) fun _ o' e' d'=>by rw [e] at e'; obtain rfl:=Option.some.inj e'; exact absurd d' (bw hd)
    obtain ⟨o',e',hc',_⟩:=id hit'
    exact hQ u _ (hv.ext x) (fun _=>⟨hit',hI,v.ext x⟩) (jD (s:={ s with heap:=h' }) e' hc' (by decide) ⟨hv.ext x,⟨hit',hI,v.ext x⟩,.refl,r',.refl _⟩) x r' ⟨rfl,rfl⟩
  done:=fun s σ α st r _ Q E hQ=>by
    obtain ⟨hit,hI,v⟩:=st
    obtain ⟨l',vs,n,hl,e1,hn,w⟩:=v.flE
    cases hl
    obtain ⟨o,e,hc,hd⟩:=id hit
    refine wpAny_pyNext_list_end hh hit (jI e1) (by simp [w.1]) fun h' he'=>?_
    obtain ⟨r',x⟩:=r.but hI hbI (fun b o hb e=>he' b o hb e) (fun o' e'=>by rw [e] at e'; obtain rfl:=Option.some.inj e'; exact bu hd hc) fun _ o' e' d'=>by rw [e] at e'; obtain rfl:=Option.some.inj e'; exact absurd d' (bw hd)
    exact hQ _ x r' ⟨rfl,rfl⟩
  self:=fun i s α st Q E hQ=>wpAny_pyIter_listiter st.1 hQ
theorem fY.mlist (hA:dF A) (hh:A.handled=none) {I:Addr} {l:Addr} {j:Nat} {xs:List PV} (hbI:K.hb.get? I=none) :
    fY K A en [I] (.ref I) xs (some (j,xs)) (fun i h α=>h.IsListIter I l i/\I ∉ α.all/\α.ix[j]?=some l) where
  live:=fun i h α st b hb=>by simp at hb; subst hb; obtain ⟨⟨o,e,_⟩,_⟩:=st; exact ⟨o,e⟩
  apart:=fun i h α st b hb=>by simp at hb; subst hb; exact st.2.1
  frame:=fun i F α h α' h' st x hF=>by
    obtain ⟨⟨o,e,hc,hd⟩,hI,v⟩:=st
    exact ⟨⟨o,c9 e hd (x.rest I o (AL.not_ix hI) (hF I (by simp)) e),hc,hd⟩,x.notAll hI e,x.get v⟩
  but:=fun i D α h h' st hD k=>by
    obtain ⟨⟨o,e,hc,hd⟩,hI,v⟩:=st
    exact ⟨⟨o,(k I (fun q=>hI (q ▸ hD))).trans e,hc,hd⟩,hI,v⟩
  hide:=fun i D α h st hD=>by
    obtain ⟨⟨o,e,hc,hd⟩,hI,v⟩:=st
    exact ⟨⟨o,e,hc,hd⟩,AL.not_hide hD e hI,v⟩
  item:=fun i s σ α p hp st r wt Q E hQ=>by
    obtain ⟨hit,hI,v⟩:=st
    obtain ⟨vs,n,e1,w⟩:=r.obj j _ l wt v
    obtain ⟨u,hu,hv⟩:=w.get hp
    obtain ⟨o,e,hc,hd⟩:=id hit
    refine wpAny_pyNext_list_item hit (jI e1) (by simpa using hu) fun h' hit' hs'=>?_
    obtain ⟨r',x⟩:=r.but hI hbI (fun b o hb e=>(hs'.2 b hb).trans e) (fun o' e'=>by rw [e] at e'; obtain rfl:=Option.some.inj e'; exact bu hd hc) fun _ o' e' d'=>by rw [e] at e'; obtain rfl:=Option.some.inj e'; exact absurd d' (bw hd)
    obtain ⟨o',e',hc',_⟩:=id hit'
    exact hQ u _ (hv.ext x) (fun _=>⟨hit',hI,v⟩) (jD (s:={ s with heap:=h' }) e' hc' (by decide) ⟨hv.ext x,⟨hit',hI,v⟩,.refl,r',.refl _⟩) x r' ⟨rfl,rfl⟩
  done:=fun s σ α st r wt Q E hQ=>by
    obtain ⟨hit,hI,v⟩:=st
    obtain ⟨vs,n,e1,w⟩:=r.obj j _ l wt v
    obtain ⟨o,e,hc,hd⟩:=id hit
    refine wpAny_pyNext_list_end hh hit (jI e1) (by simp [w.1]) fun h' he'=>?_
    obtain ⟨r',x⟩:=r.but hI hbI (fun b o hb e=>he' b o hb e) (fun o' e'=>by rw [e] at e'; obtain rfl:=Option.some.inj e'; exact bu hd hc) fun _ o' e' d'=>by rw [e] at e'; obtain rfl:=Option.some.inj e'; exact absurd d' (bw hd)
    exact hQ _ x r' ⟨rfl,rfl⟩
  self:=fun i s α st Q E hQ=>wpAny_pyIter_listiter st.1 hQ
theorem fY.signs {I:Addr} {x:Str} {t:Tok} {ty:String} (hbI:K.hb.get? I=none) (hx:PyData.strOk x=true) (hty:vM.contains ty=false)
    (it1:∀ (s:Shared) (i c:Nat) (Q:Option Value->Shared->Prop) (E:Value->Shared->Prop),s.heap.IsStrIter I ty x t i->x.cps[i]?=some c ->
      (∀ h',h'.IsStrIter I ty x t (i + 1)->Heap.SameBut I s.heap h'->Q (some (.str ⟨#[c]⟩ s.toks)) { s with heap:=h',toks:=s.toks + 1 })->wpAny (model K.prog K.w) A (pyNext (.ref I)) Q E s)
    (it2:∀ (s:Shared) (i:Nat) (Q:Option Value->Shared->Prop) (E:Value->Shared->Prop),s.heap.IsStrIter I ty x t i->x.cps[i]?=none->(∀ h',Heap.ExtBut I s.heap h'->Q none { s with heap:=h' })->wpAny (model K.prog K.w) A (pyNext (.ref I)) Q E s)
    (it3:∀ (s:Shared) (i:Nat) (Q:Value->Shared->Prop) (E:Value->Shared->Prop),s.heap.IsStrIter I ty x t i->Q (.ref I) s->wpAny (model K.prog K.w) A (pyIter (.ref I)) Q E s) :
    fY K A en [I] (.ref I) (qL x) none (fun i h α=>h.IsStrIter I ty x t i/\I ∉ α.all) where
  live:=fun i h α st b hb=>by simp at hb; subst hb; obtain ⟨⟨o,e,_⟩,_⟩:=st; exact ⟨o,e⟩
  apart:=fun i h α st b hb=>by simp at hb; subst hb; exact st.2
  frame:=fun i F α h α' h' st x hF=>by
    obtain ⟨⟨o,e,hc,hd⟩,hI⟩:=st
    exact ⟨⟨o,c9 e hd (x.rest I o (AL.not_ix hI) (hF I (by simp)) e),hc,hd⟩,x.notAll hI e⟩
  but:=fun i D α h h' st hD k=>by
    obtain ⟨⟨o,e,hc,hd⟩,hI⟩:=st
    exact ⟨⟨o,(k I (fun q=>hI (q ▸ hD))).trans e,hc,hd⟩,hI⟩
  hide:=fun i D α h st hD=>by
    obtain ⟨⟨o,e,hc,hd⟩,hI⟩:=st
    exact ⟨⟨o,e,hc,hd⟩,AL.not_hide hD e hI⟩
  item:=fun i s σ α p hp st r _ Q E hQ=>by
    obtain ⟨hit,hI⟩:=st
    obtain ⟨o,e,hc,hd⟩:=id hit
    simp only [qL,List.getElem?_map] at hp
    obtain ⟨c,hcq,rfl⟩:=Option.map_eq_some_iff.mp hp
    have hcx:x.cps[i]?=some c:=by rw [<- Array.getElem?_toList]; exact hcq
    refine it1 s i c Q E hit hcx fun h' hit' hs'=>?_
    obtain ⟨r',x'⟩:=r.but hI hbI (fun b o hb e=>(hs'.2 b hb).trans e) (fun o' e'=>by rw [e] at e'; obtain rfl:=Option.some.inj e'; exact bu hd hc) fun _ o' e' d'=>by rw [e] at e'; obtain rfl:=Option.some.inj e'; exact absurd d' (bw hd)
    obtain ⟨o',e',hc',_⟩:=id hit'
    have hok:PyData.strOk ⟨#[c]⟩=true:=by
      unfold PyData.strOk at hx ⊢
      simp only [Array.all_eq_true'] at hx ⊢
      intro d hd'
      simp at hd'
      subst hd'
      exact hx _ (Array.mem_of_getElem? hcx)
    exact hQ _ _ (.str _ _ hok) (fun _=>⟨hit',hI⟩) (jD (s:={ s with heap:=h',toks:=s.toks + 1 }) e' hc' hty ⟨.str _ _ hok,⟨hit',hI⟩,.refl,r',.refl _⟩) x' r' ⟨rfl,rfl⟩
  done:=fun s σ α st r _ Q E hQ=>by
    obtain ⟨hit,hI⟩:=st
    obtain ⟨o,e,hc,hd⟩:=id hit
    refine it2 s _ Q E hit (by simp [qL]) fun h' he'=>?_
    obtain ⟨r',x'⟩:=r.but hI hbI (fun b o hb e=>he' b o hb e) (fun o' e'=>by rw [e] at e'; obtain rfl:=Option.some.inj e'; exact bu hd hc) fun _ o' e' d'=>by rw [e] at e'; obtain rfl:=Option.some.inj e'; exact absurd d' (bw hd)
    exact hQ _ x' r' ⟨rfl,rfl⟩
  self:=fun i s α st Q E hQ=>it3 s i Q E st.1 hQ
theorem acG {s:Shared} {a:Addr} {ai:List Value} {n:Nat} (e:s.heap.get? a=some { cls:=.type "tuple",data:=.seq ai.toArray n }):s.heap.IsTuple a ai.toArray:=⟨_,e,rfl,n,rfl⟩
theorem fY.tuple (hA:dF A) (hh:A.handled=none) {I:Addr} {l:Addr} {xs:List PV} (hbI:K.hb.get? I=none) :
    fY K A en [I] (.ref I) xs none (fun i h α=>h.IsTupleIter I l i/\I ∉ α.all/\VR h α (.tup xs) (.ref l)) where
  live:=fun i h α st b hb=>by simp at hb; subst hb; obtain ⟨⟨o,e,_⟩,_⟩:=st; exact ⟨o,e⟩
  apart:=fun i h α st b hb=>by simp at hb; subst hb; exact st.2.1
  frame:=fun i F α h α' h' st x hF=>by
    obtain ⟨⟨o,e,hc,hd⟩,hI,v⟩:=st
    exact ⟨⟨o,c9 e hd (x.rest I o (AL.not_ix hI) (hF I (by simp)) e),hc,hd⟩,x.notAll hI e,v.ext x⟩
  but:=fun i D α h h' st hD k=>by
    obtain ⟨⟨o,e,hc,hd⟩,hI,v⟩:=st
    exact ⟨⟨o,(k I (fun q=>hI (q ▸ hD))).trans e,hc,hd⟩,hI,v.sameBut hD k⟩
  hide:=fun i D α h st hD=>by
    obtain ⟨⟨o,e,hc,hd⟩,hI,v⟩:=st
    exact ⟨⟨o,e,hc,hd⟩,AL.not_hide hD e hI,v.hide hD⟩
  item:=fun i s σ α p hp st r _ Q E hQ=>by
    obtain ⟨hit,hI,v⟩:=st
    obtain ⟨l',vs,n,hl,e1,hn,w⟩:=v.tupE
    cases hl
    obtain ⟨u,hu,hv⟩:=w.get hp
    obtain ⟨o,e,hc,hd⟩:=id hit
    refine wpAny_pyNext_tuple_item hit (acG e1) (by simpa using hu) fun h' hit' hs'=>?_
    obtain ⟨r',x⟩:=r.but hI hbI (fun b o hb e=>(hs'.2 b hb).trans e) (fun o' e'=>by rw [e] at e'; obtain rfl:=Option.some.inj e'; exact bu hd hc) fun _ o' e' d'=>by rw [e] at e'; obtain rfl:=Option.some.inj e'; exact absurd d' (bw hd)
    obtain ⟨o',e',hc',_⟩:=id hit'
    exact hQ u _ (hv.ext x) (fun _=>⟨hit',hI,v.ext x⟩) (jD (s:={ s with heap:=h' }) e' hc' (by decide) ⟨hv.ext x,⟨hit',hI,v.ext x⟩,.refl,r',.refl _⟩) x r' ⟨rfl,rfl⟩
  done:=fun s σ α st r _ Q E hQ=>by
    obtain ⟨hit,hI,v⟩:=st
    obtain ⟨l',vs,n,hl,e1,hn,w⟩:=v.tupE
    cases hl
    obtain ⟨o,e,hc,hd⟩:=id hit
    refine wpAny_pyNext_tuple_end hh hit (acG e1) (by simp [w.1]) fun h' he'=>?_
    obtain ⟨r',x⟩:=r.but hI hbI (fun b o hb e=>he' b o hb e) (fun o' e'=>by rw [e] at e'; obtain rfl:=Option.some.inj e'; exact bu hd hc) fun _ o' e' d'=>by rw [e] at e'; obtain rfl:=Option.some.inj e'; exact absurd d' (bw hd)
    exact hQ _ x r' ⟨rfl,rfl⟩
  self:=fun i s α st Q E hQ=>wpAny_pyIter_tupleiter st.1 hQ
theorem fY.range (hA:dF A) (hh:A.handled=none) {I:Addr} {a c:Int} {n:Nat} (hbI:K.hb.get? I=none) :
    fY K A en [I] (.ref I) (aP a c n) none (fun i h α=>IsRangeIter h I (a + (i:Nat) * c) ((n:Int) - (i:Nat)) c/\I ∉ α.all) where
  live:=fun i h α st b hb=>by simp at hb; subst hb; exact ⟨_,st.1⟩
  apart:=fun i h α st b hb=>by simp at hb; subst hb; exact st.2
  frame:=fun i F α h α' h' st x hF=>by
    obtain ⟨e,hI⟩:=st
    exact ⟨c9 e rfl (x.rest I _ (AL.not_ix hI) (hF I (by simp)) e),x.notAll hI e⟩
  but:=fun i D α h h' st hD k=>by
    obtain ⟨e,hI⟩:=st
    exact ⟨(k I (fun q=>hI (q ▸ hD))).trans e,hI⟩
  hide:=fun i D α h st hD=>by
    obtain ⟨e,hI⟩:=st
    exact ⟨e,AL.not_hide hD e hI⟩
  item:=fun i s σ α p hp st r _ Q E hQ=>by
    obtain ⟨hit,hI⟩:=st
    have hi:i < n:=by have:=(List.getElem?_eq_some_iff.mp hp).1; simpa [aP] using this
    have hp':p=.int (a + (i:Int) * c):=by
      simp only [aP,List.getElem?_map,List.getElem?_range hi,Option.map_some,Option.some.injEq] at hp
      exact hp.symm
    subst hp'
    refine wpAny_pyNext_range_item hit (by omega) fun h' hit' hs'=>?_
    obtain ⟨r',x⟩:=r.but hI hbI (fun b o hb e=>(hs'.2 b hb).trans e) (fun o' e'=>by rw [show s.heap.get? I=_ from hit] at e'; obtain rfl:=Option.some.inj e'; exact bu rfl rfl) fun _ o' e' d'=>by rw [show s.heap.get? I=_ from hit] at e'; obtain rfl:=Option.some.inj e'; exact absurd d' (bw rfl)
    have e1:a + ((i + 1:Nat):Int) * c=a + (i:Int) * c + c:=by push_cast; rw [Int.add_mul,Int.one_mul,Int.add_assoc]
    have e2:(n:Int) - ((i + 1:Nat):Int)=(n:Int) - (i:Int) - 1:=by push_cast; omega
    have st':IsRangeIter h' I (a + ((i + 1:Nat):Int) * c) ((n:Int) - ((i + 1:Nat):Int)) c:=by rw [e1,e2]; exact hit'
    exact hQ _ _ (.int _ _) (fun _=>⟨st',hI⟩) (jD (s:={ s with heap:=h',toks:=s.toks + 1 }) hit' rfl (by decide) ⟨.int _ _,⟨st',hI⟩,.refl,r',.refl _⟩) x r' ⟨rfl,rfl⟩
  done:=fun s σ α st r _ Q E hQ=>by
    obtain ⟨hit,hI⟩:=st
    refine wpAny_pyNext_range_end hh hit (by simp [aP]) fun h' he'=>?_
    obtain ⟨r',x⟩:=r.but hI hbI (fun b o hb e=>he' b o hb e) (fun o' e'=>by rw [show s.heap.get? I=_ from hit] at e'; obtain rfl:=Option.some.inj e'; exact bu rfl rfl) fun _ o' e' d'=>by rw [show s.heap.get? I=_ from hit] at e'; obtain rfl:=Option.some.inj e'; exact absurd d' (bw rfl)
    exact hQ _ x r' ⟨rfl,rfl⟩
  self:=fun i s α st Q E hQ=>wpAny_pyIter_rangeiter st.1 hQ
end
end Mine
namespace Mine
open PySem PyProof.Rows
theorem OR.hide {B:Bs} {h:Heap} {α:AL} {D:Addr} {m:MO} {a:Addr} (hD:h.get? D=none) (r:OR B h α m a):OR B h ⟨α.ix,D::α.hid,α.fr⟩ m a:=
  r.map (fun _ _ v=>v.hide hD) rfl fun b o hb e _=>⟨e,AL.not_hide hD e hb⟩
theorem OR.re {B:Bs} {h:Heap} {α α':AL} {m:MO} {a:Addr} (h1:∀ (i:Nat) (a:Addr),α.ix[i]?=some a->α'.ix[i]?=some a) (h2:∀ a,a ∈ α'.all->a ∈ α.all) (r:OR B h α m a):OR B h α' m a:=
  r.map (fun _ _ v=>v.re h1 h2) rfl fun b o hb e _=>⟨e,fun q=>hb (h2 b q)⟩
theorem ag.hide {h:Heap} {α:AL} {D:Addr} {env:Env} {ρ:aw} (hD:h.get? D=none) (E:ag env ρ h α):ag env ρ h ⟨α.ix,D::α.hid,α.fr⟩:=by
  obtain ⟨m,n,hm⟩:=E.ns
  obtain ⟨oL,_,_,eL,_⟩:=id n
  refine ⟨E.ok,AL.not_hide hD eL E.la,⟨m,n,fun i x v e1 e2=>let ⟨u,a,b⟩:=hm i x v e1 e2; ⟨u,a,b.hide hD⟩⟩,fun x c hc=>?_,E.cd,fun i x e1=>?_,E.inb⟩
  · obtain ⟨h1,h2,v,h3⟩:=E.ca x c hc
    obtain ⟨o,e,d⟩:=id h3
    exact ⟨AL.not_hide hD e h1,h2,v,h3⟩
  · obtain ⟨c,hc,hv⟩:=E.cv i x e1
    exact ⟨c,hc,fun v e2=>let ⟨u,a,b⟩:=hv v e2; ⟨u,a,b.hide hD⟩⟩
theorem R.hide {hb h h' σ α} {D:Addr} {o:Obj} (r:R hb h σ α) (hD:h.get? D=none) (k:∀ b o,h.get? b=some o->h'.get? b=some o) (e:h'.get? D=some o):R hb h' σ ⟨α.ix,D::α.hid,α.fr⟩:=by
  have r':=r.keeps k
  have hDi:D ∉ α.ix:=fun q=>by obtain ⟨o,e⟩:=r.live q; rw [hD] at e; cases e
  refine ⟨r'.base,r'.fresh,r'.nodup,r'.len,fun a ha=>?_,fun i m a e1 e2=>?_,fun a ha=>?_,r'.fe,r'.frs,r'.frNot⟩
  · rcases List.mem_cons.mp ha with q | q
    · subst q; exact ⟨hDi,_,e⟩
    · exact r'.hidden a q
  · have x:aD [] (⟨α.ix,D::α.hid,α.fr⟩:AL) h ⟨α.ix,D::α.hid,α.fr⟩ h':=.keeps k
    obtain ⟨o',e'⟩:=r.live (List.mem_of_getElem? e2)
    exact ((r.obj i m a e1 e2).hide hD).ext x (by rw [e',k a o' e'])
  · rcases List.mem_cons.mp ha with q | q
    · subst q
      cases hq:hb.get? a with
      | none=>rfl
      | some o=>rw [r.base _ _ hq] at hD; cases hD
    · exact r.hfr a q
section
variable {K:Kt} {A:Around} {s:Shared} {α:AL} {σ:ac} {en:Bool}
inductive bG (K:Kt) (A:Around) (en:Bool) (c:af (List PV × Option (Nat × List PV))) (s:Shared) (α:AL) (it:Value) (s':Shared):Prop where
  | mk (xs:List PV) (wt:Option (Nat × List PV)) (σ':ac) (α':AL) (own:List Addr) (St:Nat->Heap->AL->Prop) (h:c=.ok (xs,wt) σ') (x:aD [] α s.heap α' s'.heap) (r:R K.hb s'.heap σ' α') (m:Sm s s') (I:fY K A en own it xs wt St) (st:St 0 s'.heap α') (ho:∀ b ∈ own,s.heap.get? b=none/\K.hb.get? b=none):bG K A en c s α it s'
theorem bG.lift {c:af (List PV × Option (Nat × List PV))} {s₁:Shared} {α₁:AL} {it:Value} {s':Shared} (x:aD [] α s.heap α₁ s₁.heap) (m:Sm s s₁) (p:bG K A en c s₁ α₁ it s'):bG K A en c s α it s':=by
  obtain ⟨xs,wt,σ',α',own,St,e,x',r,m',I,st,ho⟩:=p
  refine ⟨xs,wt,σ',α',own,St,e,x.trans x',r,m.trans m',I,st,fun b hb=>⟨?_,(ho b hb).2⟩⟩
  cases hq:s.heap.get? b with
  | none=>rfl
  | some o=>obtain ⟨o',e'⟩:=x.alive b o (by simp) hq; rw [(ho b hb).1] at e'; cases e'
noncomputable def ei (K:Kt) (A:Around) (en:Bool) (t:Sem Value) (c:af (List PV × Option (Nat × List PV))) (s:Shared) (α:AL):Prop:=
  c ≠ .stuck->K.Tk s->wpAny (model K.prog K.w) A t (fun x s₁=>wpAny (model K.prog K.w) A (pyIter x) (bG K A en c s α) (aZ K A c s α) s₁) (aZ K A c s α) s
theorem hX (r:R K.hb s.heap σ α):K.hb.get? s.heap.objs.size=none:=by
  cases hq:K.hb.get? s.heap.objs.size with
  | none=>rfl
  | some o=>exact absurd (Heap.lt_size (r.base _ _ hq)) (Nat.lt_irrefl _)
theorem bG.new {I:Addr} {o:Obj} {xs:List PV} {wt:Option (Nat × List PV)} {St:Nat->Heap->AL->Prop} {tk:Nat} (hI:I=s.heap.objs.size) (r:R K.hb s.heap σ α) (it:fY K A en [I] (.ref I) xs wt St)
    (st:∀ h',h'=s.heap.push o->(∀ b o',s.heap.get? b=some o'->h'.get? b=some o')->I ∉ α.all->St 0 h' α):bG K A en (.ok (xs,wt) σ) s α (.ref I) { s with heap:=s.heap.push o,toks:=tk }:=by
  subst hI
  have k:∀ b o',s.heap.get? b=some o'->(s.heap.push o).get? b=some o':=fun b o' e=>Heap.get?_push_of_some _ e
  refine ⟨xs,wt,σ,α,_,St,rfl,.keeps k,r.keeps k,⟨rfl,rfl⟩,it,st _ rfl k (fun hm=>?_),fun b hb=>?_⟩
  · obtain ⟨o,e⟩:=r.liveAll hm; rw [dM] at e; cases e
  · simp at hb; subst hb; exact ⟨dM s,hX r⟩
theorem acE {a:PV} {x:Value} (hA:dF A) (hh:A.handled=none) (r:R K.hb s.heap σ α) (va:VR s.heap α a x) {E:Value->Shared->Prop}
    (hc:g4 a σ ≠ .stuck) :
    wpAny (model K.prog K.w) A (pyIter x) (bG K A en (g4 a σ) s α) E s:=by
  unfold g4 at hc ⊢
  cases a with
  | fl xs =>
    obtain ⟨l,vs,n,rfl,e1,hn,v⟩:=va.flE
    refine wpAny_pyIter_list (jI e1) (bG.new (tk:=s.toks) rfl r (.list hA hh (l:=l) (hX r)) fun h' hh k hI=>?_)
    exact ⟨⟨_,by rw [hh]; exact Heap.get?_push_size _ rfl,rfl,rfl⟩,hI,va.ext (.keeps (F:=[]) k)⟩
  | tup xs =>
    obtain ⟨l,vs,n,rfl,e1,hn,v⟩:=va.tupE
    refine wpAny_pyIter_tuple (acG e1) (bG.new (tk:=s.toks) rfl r (.tuple hA hh (l:=l) (hX r)) fun h' hh k hI=>?_)
    exact ⟨⟨_,by rw [hh]; exact Heap.get?_push_size _ rfl,rfl,rfl⟩,hI,va.ext (.keeps (F:=[]) k)⟩
  | ref i =>
    obtain ⟨l,rfl,el⟩:=va.refE
    simp only [ai,fh] at hc ⊢
    cases hs:σ[i]? with
    | none=>rw [hs] at hc; exact absurd rfl hc
    | some m =>
      cases m with
      | lst xs =>
        obtain ⟨vs,n,e1,v⟩:=r.obj i _ l hs el
        refine wpAny_pyIter_list (jI e1) (bG.new (tk:=s.toks) rfl r (.mlist hA hh (l:=l) (j:=i) (hX r)) fun h' hh k hI=>?_)
        exact ⟨⟨_,by rw [hh]; exact Heap.get?_push_size _ rfl,rfl,rfl⟩,hI,el⟩
      | _=>rw [hs] at hc; exact absurd rfl hc
  | str z =>
    obtain ⟨t,rfl,hz⟩:=va.strE
    cases ha:z.cps.all (· < 128)
    · refine wpAny_pyIter_wide ha (bG.new (tk:=s.toks) rfl r (.signs (t:=t) (ty := "str_iterator") (hX r) hz (by decide) (fun s i c Q E h1 h2 h3=>wpAny_pyNext_wide_item h1 h2 h3) (fun s i Q E h1 h2 h3=>wpAny_pyNext_wide_end hh h1 h2 h3) fun s i Q E h1 h2=>wpAny_pyIter_striter_wide h1 h2) fun h' hh k hI=>?_)
      exact ⟨⟨_,by rw [hh]; exact Heap.get?_push_size _ rfl,rfl,rfl⟩,hI⟩
    · refine wpAny_pyIter_ascii ha (bG.new (tk:=s.toks) rfl r (.signs (t:=t) (ty := "str_ascii_iterator") (hX r) hz (by decide) (fun s i c Q E h1 h2 h3=>wpAny_pyNext_ascii_item h1 h2 h3) (fun s i Q E h1 h2 h3=>wpAny_pyNext_ascii_end hh h1 h2 h3) fun s i Q E h1 h2=>wpAny_pyIter_striter_ascii h1 h2) fun h' hh k hI=>?_)
      exact ⟨⟨_,by rw [hh]; exact Heap.get?_push_size _ rfl,rfl,rfl⟩,hI⟩
  | _=>exact absurd rfl hc
theorem aeE {n:Int} (h0:0 <= n):Builtin.Range.rangeSize 0 n 1=n:=by
  unfold Builtin.Range.rangeSize
  simp; omega
theorem adK {n:Int} (h0:0 <= n) (h1:n <= (am:Int)):Builtin.Range.small 0 n 1=true:=
  small_one (by decide) (by decide) (Int.le_trans (by decide) h0) (Int.lt_of_le_of_lt h1 (by decide))
theorem xN {a:PV} {x:Value} (hA:dF A) (hh:A.handled=none) (r:R K.hb s.heap σ α) (va:VR s.heap α a x) {E:Value->Shared->Prop} (hc:ju a σ ≠ .stuck) :
    wpAny (model K.prog K.w) A (call (.type "range") [x]) (fun y s₁=>wpAny (model K.prog K.w) A (pyIter y) (bG K A en (ju a σ) s α) E s₁) E s:=by
  unfold ju at hc ⊢
  cases a with
  | int n =>
    obtain ⟨t,rfl⟩:=va.intE
    dsimp only at hc ⊢
    split at hc
    · rename_i hl; rw [if_pos hl]
      have hl2:(am:Int)=1000000:=rfl
      refine call_range_1 (wpAny_pyIter_range (IsRange.new _ _ _ _ _ _ _) (adK hl.1 hl.2) ?_)
      have k:∀ b o',s.heap.get? b=some o'->(s.heap.push { cls:=.type "range",data:=.fields #[.int 0 s.toks,.int n t,.int 1 (s.toks + 1)] }).get? b=some o':=fun b o' e=>Heap.get?_push_of_some _ e
      refine bG.lift (s₁:={ s with heap:=s.heap.push { cls:=.type "range",data:=.fields #[.int 0 s.toks,.int n t,.int 1 (s.toks + 1)] },toks:=s.toks + 1 + 1 }) (.keeps k) ⟨rfl,rfl⟩ ?_
      have r':=r.keeps k
      refine bG.new (K:=K) (A:=A) (α:=α) (σ:=σ) (s:={ s with heap:=s.heap.push { cls:=.type "range",data:=.fields #[.int 0 s.toks,.int n t,.int 1 (s.toks + 1)] },toks:=s.toks + 1 + 1 }) (tk:=s.toks + 1 + 1) rfl r' (.range hA hh (a:=0) (c:=1) (n:=n.toNat) (hX (s:={ s with heap:=s.heap.push { cls:=.type "range",data:=.fields #[.int 0 s.toks,.int n t,.int 1 (s.toks + 1)] },toks:=s.toks + 1 + 1 }) r')) fun h' hh k' hI=>⟨?_,hI⟩
      rw [hh]
      have e:Builtin.Range.rangeSize 0 n 1=n:=aeE hl.1
      unfold IsRangeIter
      rw [e]
      simp only [Int.ofNat_zero,Int.zero_mul,Int.add_zero,Int.sub_zero,Int.toNat_of_nonneg hl.1]
      exact Heap.get?_push_size _ rfl
    · exact absurd rfl hc
  | _=>exact absurd rfl hc
end
end Mine
namespace Mine
open PySem PyProof.Rows
theorem R.buts {hb:Bs} {h h':Heap} {σ:ac} {α:AL} {own:List Addr} (r:R hb h σ α) (hI:∀ b ∈ own,b ∉ α.all) (hbI:∀ b ∈ own,hb.get? b=none) (k:∀ b o,b ∉ own->h.get? b=some o->h'.get? b=some o)
    (hs:∀ b ∈ own,∀ o,h.get? b=some o->¬ jp o/\¬ dq o):R hb h' σ α/\aD own α h α h':=by
  have x:aD own α h α h':=⟨rfl,⟨[],by simp,fun _ hx=>by simp at hx⟩,fun b o hb e q=>k b o (fun z=>(hs b z o e).1 q) e,fun b o hb hF e=>.inl (k b o hF e),fun b o hF e=>⟨o,k b o hF e⟩,rfl⟩
  refine ⟨⟨fun b o e=>k b o (fun q=>by rw [hbI b q] at e; contradiction) (r.base b o e),r.fresh,r.nodup,r.len,fun b hb=>⟨(r.hidden b hb).1,?_⟩,fun j m a e1 e2=>?_,r.hfr,r.fe,fun b hb=>⟨(r.frs b hb).1,?_⟩,r.frNot⟩,x⟩
  · obtain ⟨o,e⟩:=(r.hidden b hb).2
    exact ⟨o,k b o (fun q=>hI b q (List.mem_append_right _ hb)) e⟩
  · obtain ⟨o',e'⟩:=r.live (List.mem_of_getElem? e2)
    exact (r.obj j m a e1 e2).ext x (by rw [e',k a o' (fun q=>AL.not_ix (hI a q) (List.mem_of_getElem? e2)) e'])
  · obtain ⟨_,o,e,d⟩:=r.frs b hb
    exact ⟨o,k b o (fun q=>(hs b q o e).2 d) e,d⟩
structure oJ (K:Kt) (l:Addr) (xs:List PV) (wt:Option (Nat × List PV)) (L:Heap->AL->Prop):Prop where
  frame:∀ {F:List Addr} {α α':AL} {h h':Heap},L h α->aD F α h α' h'->L h' α'
  but:∀ {D:Addr} {α:AL} {h h':Heap},L h α->D ∈ α.all->(∀ b,b ≠ D->h'.get? b=h.get? b)->L h' α
  hide:∀ {D:Addr} {α:AL} {h:Heap},L h α->h.get? D=none->L h ⟨α.ix,D::α.hid,α.fr⟩
  has:∀ {s:Shared} {σ:ac} {α:AL},L s.heap α->R K.hb s.heap σ α->cn wt σ->∃ (vs:List Value) (n:Nat),s.heap.get? l=some { cls:=.type "list",data:=.seq vs.toArray n }/\aK s.heap α xs vs
section
variable {K:Kt} {A:Around} {s:Shared} {α:AL} {σ:ac}
theorem oJ.fl {l:Addr} {xs:List PV}:oJ K l xs none (fun h α=>VR h α (.fl xs) (.ref l)) where
  frame v x:=v.ext x
  but v hD k:=v.sameBut hD k
  hide v hD:=v.hide hD
  has v r _:=by obtain ⟨l',vs,n,hl,e1,hn,w⟩:=v.flE; cases hl; exact ⟨vs,n,e1,w⟩
theorem oJ.ref {l:Addr} {xs:List PV} {j:Nat}:oJ K l xs (some (j,xs)) (fun h α=>α.ix[j]?=some l) where
  frame v x:=x.get v
  but v _ _:=v
  hide v _:=v
  has v r wt:=by obtain ⟨vs,n,e1,w⟩:=r.obj j _ l wt v; exact ⟨vs,n,e1,w⟩
theorem xz:∀ {xs:List PV} {k i:Nat} {p:PV},(dU k xs)[i]?=some p->∃ q,xs[i]?=some q/\p=.tup [.int ((k + i:Nat):Int),q]:=by
  intro xs
  induction xs with
  | nil=>intro k i p h; contradiction
  | cons x xs ih =>
    intro k i p h
    cases i with
    | zero=>obtain rfl:=Option.some.inj h; exact ⟨x,rfl,rfl⟩
    | succ i =>
      obtain ⟨q,h1,h2⟩:=ih (k:=k + 1) (i:=i) h
      exact ⟨q,h1,by rw [h2,show k + 1 + i=k + (i + 1) by omega]⟩
theorem vO:∀ {xs:List PV} {k:Nat},(dU k xs).length=xs.length:=by
  intro xs
  induction xs with
  | nil=>intro k; rfl
  | cons x xs ih=>intro k; exact congrArg Nat.succ ih
theorem fY.enum (hh:A.handled=none) {e it l:Addr} {xs:List PV} {wt:Option (Nat × List PV)} {L:Heap->AL->Prop} (LR:oJ K l xs wt L) (hne:e ≠ it) (hbe:K.hb.get? e=none) (hbi:K.hb.get? it=none) :
    fY K A true [e,it] (.ref e) (dU 0 xs) wt (fun i h α=>(∃ old,IsEnum h e it ((i:Nat):Int) old)/\h.IsListIter it l i/\e ∉ α.all/\it ∉ α.all/\L h α):=by
  have two:∀ {P:Addr->Prop},P e->P it->∀ b ∈ [e,it],P b:=fun {P} h1 h2 b hb=>by
    rcases List.mem_cons.mp hb with rfl | hb
    · exact h1
    · rw [List.mem_singleton.mp hb]; exact h2
  have soft:∀ {h:Heap} {i:Int} {n:Nat} {old v0:Value},h.get? e=some { cls:=.type "enumerate",dict:=none,data:=.fields #[v0,.bool false,.ref it,rawInt i,.none,old],slots:=#[] }->h.IsListIter it l n->∀ b ∈ [e,it],∀ o,h.get? b=some o->¬ jp o/\¬ dq o:=fun {h i n old v0} he hi=>two
    (fun o q=>by rw [he] at q; obtain rfl:=Option.some.inj q; exact ⟨bu rfl rfl,bw rfl⟩)
    (fun o q=>by obtain ⟨o',e',hc',hd'⟩:=hi; rw [e'] at q; obtain rfl:=Option.some.inj q; exact ⟨bu hd' hc',bw hd'⟩)
  refine ⟨fun i h α st=>?_,fun i h α st=>two st.2.2.1 st.2.2.2.1,fun i F α h α' h' st x hF=>?_,fun i D α h h' st hD k=>?_,fun i D α h st hD=>?_,fun i s σ α p hp st r hw Q E hQ=>?_,fun s σ α st r hw Q E hQ=>?_,fun i s α st Q E hQ=>?_⟩
  · obtain ⟨⟨old,en⟩,⟨o,eo,_⟩,_⟩:=st
    exact two ⟨_,en⟩ ⟨o,eo⟩
  · obtain ⟨⟨old,en⟩,⟨o,eo,hc,hd⟩,he,hi,lr⟩:=st
    exact ⟨⟨old,c9 en rfl (x.rest e _ (AL.not_ix he) (hF e (by simp)) en)⟩,⟨o,c9 eo hd (x.rest it o (AL.not_ix hi) (hF it (by simp)) eo),hc,hd⟩,x.notAll he en,x.notAll hi eo,LR.frame lr x⟩
  · obtain ⟨⟨old,en⟩,⟨o,eo,hc,hd⟩,he,hi,lr⟩:=st
    exact ⟨⟨old,(k e (fun q=>he (q ▸ hD))).trans en⟩,⟨o,(k it (fun q=>hi (q ▸ hD))).trans eo,hc,hd⟩,he,hi,LR.but lr hD k⟩
  · obtain ⟨⟨old,en⟩,⟨o,eo,hc,hd⟩,he,hi,lr⟩:=st
    exact ⟨⟨old,en⟩,⟨o,eo,hc,hd⟩,AL.not_hide hD en he,AL.not_hide hD eo hi,LR.hide lr hD⟩
  · obtain ⟨⟨old,en⟩,hit,he,hi,lr⟩:=st
    obtain ⟨q,hq,rfl⟩:=xz hp
    obtain ⟨vs,n,e1,w⟩:=LR.has lr r hw
    obtain ⟨u,hu,hv⟩:=w.get hq
    refine wpAny_pyNext_enum_item en hit (jI e1) (by simpa using hu) hne fun h' eo hit' ht hz hk=>?_
    obtain ⟨r',x⟩:=r.buts (h':=h') (two he hi) (two hbe hbi) (fun b o hb=>hk b o (fun z=>hb (by simp [z])) (fun z=>hb (by simp [z]))) (soft en hit)
    have fresh:s.heap.objs.size ∉ α.all:=fun z=>by
      obtain ⟨o,e⟩:=r.liveAll z
      exact absurd (Heap.lt_size e) (Nat.lt_irrefl _)
    have vt:VR h' α (.tup [.int ((0 + i:Nat):Int),q]) (.ref s.heap.objs.size):=by
      rw [Nat.zero_add]
      exact VR.tupI (ai:=[.int i s.toks,u]) ht fresh (.cons (.int _ _) (.cons (hv.ext x) .nil))
    refine hQ _ _ vt (fun z=>by contradiction) ?_ x r' ⟨rfl,rfl⟩
    intro elts k pos Q' E' hQ'
    refine wpAny_letOwnedTupleGo_enum (s:={ s with heap:=h',toks:=s.toks + 1 }) eo fun ez e2 sb=>?_
    obtain ⟨r2,x2⟩:=r'.buts (h':=ez) (two he hi) (two hbe hbi) (fun b o hb q=>(sb.2 b (fun z=>hb (by simp [z]))).trans q) (soft eo hit')
    refine hQ' _ ⟨vt.ext x2,⟨⟨u,?_⟩,hit'.extBut sb.extBut (Ne.symm hne),he,hi,LR.frame (LR.frame lr x) x2⟩,x2,r2,⟨rfl,rfl⟩⟩
    rw [show ((i + 1:Nat):Int)=(i:Int) + 1 by omega]; exact e2
  · obtain ⟨⟨old,en⟩,hit,he,hi,lr⟩:=st
    obtain ⟨vs,n,e1,w⟩:=LR.has lr r hw
    refine wpAny_pyNext_enum_end hh en hit (jI e1) (by simp [vO,w.1]) fun h' he'=>?_
    obtain ⟨r',x⟩:=r.buts (h':=h') (two he hi) (two hbe hbi) (fun b o hb q=>he' b o (fun z=>hb (by simp [z])) q) (soft en hit)
    exact hQ _ x r' ⟨rfl,rfl⟩
  · exact wpAny_pyIter_enum st.1.choose_spec hQ
theorem nO {l:Addr} {xs:List PV} {vs:List Value} {n:Nat} {wt:Option (Nat × List PV)} {L:Heap->AL->Prop} {E:Value->Shared->Prop} (hh:A.handled=none) (LR:oJ K l xs wt L) (lr:L s.heap α) (r:R K.hb s.heap σ α)
    (e1:s.heap.get? l=some { cls:=.type "list",data:=.seq vs.toArray n }) :
    wpAny (model K.prog K.w) A (call (.type "enumerate") [.ref l]) (fun y s₁=>wpAny (model K.prog K.w) A (pyIter y) (bG K A true (.ok (dU 0 xs,wt) σ) s α) E s₁) E s:=by
  refine call_enumerate_list (jI e1) fun h' en hit hz k=>wpAny_pyIter_enum (s:={ s with heap:=h' }) en ?_
  have none1:s.heap.get? (s.heap.objs.size + 1)=none:=by
    cases q:s.heap.get? (s.heap.objs.size + 1) with
    | none=>rfl
    | some o=>exact absurd (Heap.lt_size q) (Nat.not_lt.mpr (Nat.le_succ _))
  have out:∀ b,s.heap.get? b=none->b ∉ α.all/\K.hb.get? b=none:=fun b hb=>⟨fun z=>by
    obtain ⟨o,e⟩:=r.liveAll z
    rw [hb] at e; contradiction,by
    cases q:K.hb.get? b with
    | none=>rfl
    | some o=>rw [r.base _ _ q] at hb; contradiction⟩
  have q0:=out _ (dM s)
  have q1:=out _ none1
  refine ⟨dU 0 xs,wt,σ,α,[s.heap.objs.size + 1,s.heap.objs.size],_,rfl,.keeps k,r.keeps k,⟨rfl,rfl⟩,.enum hh LR (Nat.succ_ne_self _) q1.2 q0.2,⟨⟨_,en⟩,hit,q1.1,q0.1,LR.frame lr (.keeps (F:=[]) k)⟩,fun b hb=>?_⟩
  rcases List.mem_cons.mp hb with rfl | hb
  · exact ⟨none1,q1.2⟩
  · rw [List.mem_singleton.mp hb]; exact ⟨dM s,q0.2⟩
theorem aa8 {a:PV} {x:Value} {E:Value->Shared->Prop} (hh:A.handled=none) (r:R K.hb s.heap σ α) (va:VR s.heap α a x) (hc:kJ a σ ≠ .stuck) :
    wpAny (model K.prog K.w) A (call (.type "enumerate") [x]) (fun y s₁=>wpAny (model K.prog K.w) A (pyIter y) (bG K A true (kJ a σ) s α) E s₁) E s:=by
  unfold kJ at hc ⊢
  cases a with
  | fl xs =>
    dsimp only [aY,fh] at hc ⊢
    by_cases hl:xs.length <= am
    · rw [if_pos hl]
      obtain ⟨l,vs,n,rfl,e1,hn,v⟩:=va.flE
      exact nO hh oJ.fl va r e1
    · rw [if_neg hl] at hc; exact absurd rfl hc
  | ref i =>
    obtain ⟨l,rfl,el⟩:=va.refE
    cases hs:σ[i]? with
    | none=>simp only [aY,hs] at hc; exact absurd rfl hc
    | some m =>
      cases m with
      | lst xs =>
        simp only [aY,fh,hs] at hc ⊢
        by_cases hl:xs.length <= am
        · rw [if_pos hl]
          obtain ⟨vs,n,e1,v⟩:=r.obj i _ l hs el
          exact nO hh (oJ.ref (j:=i)) el r e1
        · rw [if_neg hl] at hc; exact absurd rfl hc
      | _=>simp only [aY,hs] at hc; exact absurd rfl hc
  | _=>exact absurd rfl hc
end
end Mine
namespace Mine
open PySem PyProof.Rows
structure aI (hb:Bs) (env:Env):Prop where
  l:hb.get? env.locals=none
  c:∀ x c,env.cells.lookup x=some c->hb.get? c=none
  f:∃ L r,env.frame=some L/\hb.fr=L::r
theorem OR.sameBut {B:Bs} {h h':Heap} {α:AL} {D:Addr} {m:MO} {a:Addr} (hD:D ∈ α.all) (hne:a ≠ D) (k:∀ b,b ≠ D->h'.get? b=h.get? b) (r:OR B h α m a):OR B h' α m a:=
  r.map (fun _ _ v=>v.sameBut hD k) (k a hne) fun b o hb e _=>⟨(k b (by rintro rfl; exact hb hD)).trans e,hb⟩
theorem ag.sameBut {h h':Heap} {α:AL} {D:Addr} {env:Env} {ρ:aw} (hD:D ∈ α.all) (k:∀ b,b ≠ D->h'.get? b=h.get? b) (E:ag env ρ h α):ag env ρ h' α:=by
  obtain ⟨m,n,hm⟩:=E.ns
  have hL:env.locals ≠ D:=by intro q; exact E.la (q ▸ hD)
  refine ⟨E.ok,E.la,⟨m,?_,fun i x v e1 e2=>let ⟨u,a,b⟩:=hm i x v e1 e2; ⟨u,a,b.sameBut hD k⟩⟩,fun x c hc=>?_,E.cd,fun i x e1=>?_,E.inb⟩
  · obtain ⟨o,es,ep,e,r⟩:=n
    exact ⟨o,es,ep,(k _ hL).trans e,r⟩
  · obtain ⟨h1,h2,v,o,e,d⟩:=E.ca x c hc
    exact ⟨h1,h2,v,o,(k _ (by intro q; exact h1 (q ▸ hD))).trans e,d⟩
  · obtain ⟨c,hc,hv⟩:=E.cv i x e1
    refine ⟨c,hc,fun v e2=>?_⟩
    obtain ⟨u,⟨o,e,d⟩,b⟩:=hv v e2
    exact ⟨u,⟨o,(k _ (by intro q; exact (E.ca x c hc).1 (q ▸ hD))).trans e,d⟩,b.sameBut hD k⟩
theorem R.sameHid {hb h h' σ α} {D:Addr} (r:R hb h σ α) (hD:D ∈ α.hid) (hbD:hb.get? D=none) (k:∀ b,b ≠ D->h'.get? b=h.get? b) (al:∃ o,h'.get? D=some o) (nd:∀ o,h.get? D=some o->¬ dq o):R hb h' σ α:=by
  have hDi:=(r.hidden D hD).1
  have hDa:D ∈ α.all:=List.mem_append_right _ hD
  refine ⟨fun b o e=>(k b (by rintro rfl; rw [hbD] at e; contradiction)).trans (r.base b o e),r.fresh,r.nodup,r.len,fun b hb'=>⟨(r.hidden b hb').1,?_⟩,fun j m a e1 e2=>?_,r.hfr,r.fe,fun b hb'=>⟨(r.frs b hb').1,?_⟩,r.frNot⟩
  · by_cases q:b=D
    · subst q; exact al
    · rw [k b q]; exact (r.hidden b hb').2
  · exact (r.obj j m a e1 e2).sameBut hDa (by rintro rfl; exact hDi (List.mem_of_getElem? e2)) k
  · obtain ⟨_,o,e,d⟩:=r.frs b hb'
    exact ⟨o,(k b (by rintro rfl; exact nd o e d)).trans e,d⟩
theorem aD.sameBut {F α h α' h' h''} {D:Addr} (x:aD F α h α' h') (hD:h.get? D=none) (k:∀ b,b ≠ D->h''.get? b=h'.get? b):aD F α h α' h'':=by
  have ne:∀ b o,h.get? b=some o->b ≠ D:=fun b o e q=>by rw [q,hD] at e; contradiction
  refine ⟨x.hid,x.pre,fun b o hb e hs=>(k b (ne b o e)).trans (x.seqs b o hb e hs),fun b o hb hF e=>?_,fun b o hF e=>?_,x.fre⟩
  · rcases x.rest b o hb hF e with q | ⟨f,d,sl,q⟩
    · exact .inl ((k b (ne b o e)).trans q)
    · exact .inr ⟨f,d,sl,(k b (ne b o e)).trans q⟩
  · obtain ⟨o',e'⟩:=x.alive b o hF e
    exact ⟨o',(k b (ne b o e)).trans e'⟩
theorem aD.rehid {F α h α' h'} (x:aD F α h α' h') (hid:List Addr):aD F ⟨α.ix,hid,α.fr⟩ h ⟨α'.ix,hid,α'.fr⟩ h':=
  ⟨rfl,x.pre,x.seqs,x.rest,x.alive,x.fre⟩
section
variable {K:Kt} {A:Around} {s:Shared} {α:AL} {σ:ac} {env:Env} {ρ:aw}
noncomputable def qx (names:List (Str × NameKind)):Prop:=∀ (i j:Nat) (x:Str) (k k':NameKind),names[i]?=some (x,k)->names[j]?=some (x,k')->i=j
theorem jx {ρ:aw} {i j:Nat} {v w:PV} (e:(ρ.set i (some v))[j]?=some (some w)):(j=i/\w=v)\/(j ≠ i/\ρ[j]?=some (some w)):=by
  by_cases q:j=i
  · subst q
    rw [List.getElem?_set_self'] at e
    cases hq:ρ[j]? with
    | none=>rw [hq] at e; contradiction
    | some o=>rw [hq] at e; simp at e; exact .inl ⟨rfl,e.symm⟩
  · rw [List.getElem?_set_ne (Ne.symm q)] at e
    exact .inr ⟨q,e⟩
theorem pu {i:Nat} {x:Str} {v:PV} {u:Value} {Q:Unit->Shared->Prop} {X:Value->Shared->Prop} (hU:qx env.scope.names) (r:R K.hb s.heap σ α) (E:ag env ρ s.heap α) (hL:K.hb.get? env.locals=none)
    (hn:env.scope.names[i]?=some (x,.local)) (vu:VR s.heap α v u)
    (hQ:∀ s',R K.hb s'.heap σ α->ag env (ρ.set i (some v)) s'.heap α->aD [env.locals] α s.heap α s'.heap->(∀ b,b ≠ env.locals->s'.heap.get? b=s.heap.get? b)->Sm s s'->Q () s') :
    wpAny (model K.prog K.w) A (storeName env x u) Q X s:=by
  obtain ⟨m,n,hm⟩:=E.ns
  refine wpAny_storeName_local (E.ok.ws i x _ hn) n (fun h' hn' hs'=>?_) (by rw [E.ok.kind]; rfl)
  obtain ⟨r',x'⟩:=r.but E.la hL (fun b o hb e=>(hs'.2 b hb).trans e) (fun o e=>by
    obtain ⟨o',es,ep,e',d,_⟩:=id n
    rw [e] at e'; obtain rfl:=Option.some.inj e'
    exact dq.notSolid ⟨_,_,d⟩) fun _ o e _=>by
    obtain ⟨o',es,ep,e',d,_⟩:=id hn'
    exact ⟨o',e',es,ep,d⟩
  refine hQ _ r' ⟨E.ok,E.la,⟨_,hn',fun j y w e1 e2=>?_⟩,fun y c hc=>?_,E.cd,fun j y e1=>?_,fun j w e=>?_⟩ x' (fun b hb=>hs'.2 b hb) ⟨rfl,rfl⟩
  · rcases jx e2 with ⟨rfl,rfl⟩ | ⟨hne,e2⟩
    · rw [hn] at e1; cases e1
      exact ⟨u,by simp,vu.ext x'⟩
    · obtain ⟨u',h1,h2⟩:=hm j y w e1 e2
      have:y ≠ x:=by rintro rfl; exact hne (hU j i _ _ _ e1 hn)
      exact ⟨u',by simp [this,h1],h2.ext x'⟩
  · obtain ⟨h1,h2,w,h3⟩:=E.ca y c hc
    exact ⟨h1,h2,w,fq x' (AL.not_ix h1) (by simpa using h2) h3⟩
  · obtain ⟨c,hc,hv⟩:=E.cv j y e1
    refine ⟨c,hc,fun w e2=>?_⟩
    rcases jx e2 with ⟨rfl,rfl⟩ | ⟨hne,e2⟩
    · rw [hn] at e1; cases e1
    · obtain ⟨u',h1,h2⟩:=hv w e2
      obtain ⟨q1,q2,_⟩:=E.ca y c hc
      exact ⟨u',fq x' (AL.not_ix q1) (by simpa using q2) h1,h2.ext x'⟩
  · rcases jx e with ⟨rfl,rfl⟩ | ⟨hne,e2⟩
    · exact ⟨x,_,hn,.inl rfl⟩
    · exact E.inb j w e2
theorem zi {i:Nat} {x:Str} {v:PV} {u:Value} {Q:Unit->Shared->Prop} {X:Value->Shared->Prop} (hU:qx env.scope.names) (r:R K.hb s.heap σ α) (E:ag env ρ s.heap α) (hN:aI K.hb env)
    (hn:env.scope.names[i]?=some (x,.cell)) (vu:VR s.heap α v u)
    (hQ:∀ c s',env.cells.lookup x=some c->R K.hb s'.heap σ α->ag env (ρ.set i (some v)) s'.heap α->aD [c] α s.heap α s'.heap->Sm s s'->Q () s') :
    wpAny (model K.prog K.w) A (storeName env x u) Q X s:=by
  obtain ⟨m,n,hm⟩:=E.ns
  obtain ⟨c,hc,hv⟩:=E.cv i x hn
  obtain ⟨q1,q2,v0,q3⟩:=E.ca x c hc
  refine wpAny_storeName_cell E.ok.kind (E.ok.ws i x _ hn) hc q3 fun h' hc' hs'=>?_
  obtain ⟨r',x'⟩:=r.but q1 (hN.c x c hc) (fun b o hb e=>(hs'.2 b hb).trans e) (fun o e=>by
    obtain ⟨o',e',d⟩:=q3
    rw [e] at e'; obtain rfl:=Option.some.inj e'
    rintro (⟨xs,n,q⟩ | ⟨C,vs,_,q⟩ | ⟨C,_,q⟩) <;> rw [d] at q <;> contradiction) fun _ o e dd=>by
    obtain ⟨o',e',d⟩:=q3
    rw [e] at e'; obtain rfl:=Option.some.inj e'
    obtain ⟨xs,n,q⟩:=dd
    rw [d] at q; contradiction
  have hns:h'.Ns env.locals m:=vP x' (AL.not_ix E.la) (by simpa using (Ne.symm q2)) n
  refine hQ c _ hc r' ⟨E.ok,E.la,⟨m,hns,fun j y w e1 e2=>?_⟩,fun y c' hy=>?_,E.cd,fun j y e1=>?_,fun j w e=>?_⟩ x' ⟨rfl,rfl⟩
  · rcases jx e2 with ⟨rfl,rfl⟩ | ⟨hne,e2⟩
    · rw [hn] at e1; cases e1
    · obtain ⟨u',h1,h2⟩:=hm j y w e1 e2
      exact ⟨u',h1,h2.ext x'⟩
  · obtain ⟨h1,h2,w,h3⟩:=E.ca y c' hy
    by_cases q:c'=c
    · subst q; exact ⟨h1,h2,_,hc'⟩
    · exact ⟨h1,h2,w,fq x' (AL.not_ix h1) (by simpa using q) h3⟩
  · obtain ⟨c',hy,hv'⟩:=E.cv j y e1
    refine ⟨c',hy,fun w e2=>?_⟩
    rcases jx e2 with ⟨rfl,rfl⟩ | ⟨hne,e2⟩
    · rw [hn] at e1; cases e1
      rw [hc] at hy; obtain rfl:=Option.some.inj hy
      exact ⟨u,hc',vu.ext x'⟩
    · obtain ⟨u',h1,h2⟩:=hv' w e2
      have:c' ≠ c:=by
        rintro rfl
        have:=E.cd _ _ _ hy hc
        subst this
        exact hne (hU j i _ _ _ e1 hn)
      exact ⟨u',fq x' (AL.not_ix (E.ca y c' hy).1) (by simpa using this) h1,h2.ext x'⟩
  · rcases jx e with ⟨rfl,rfl⟩ | ⟨hne,e2⟩
    · exact ⟨x,_,hn,.inr rfl⟩
    · exact E.inb j w e2
end
noncomputable def d7 (cells:List (Str × Addr)):List (Str × NameKind)->List (Str × Addr)->List (Str × Addr)
  | [],acc=>acc
  | (n,k)::r,acc=>if k == .free then d7 cells r ((n,(cells.lookup n).getD 0)::acc) else d7 cells r acc
theorem iW {env:Env} (f:Str × NameKind->List (Str × Addr)->Sem (ForInStep (List (Str × Addr))))
    (hf:∀ n k cs,f (n,k) cs=if k == .free then (do let c <- cellOf env n; pure (.yield ((n,c)::cs))) else pure (.yield cs)) :
    ∀ (names:List (Str × NameKind)) (acc:List (Str × Addr)),(∀ n,(n,NameKind.free) ∈ names->(env.cells.lookup n).isSome)->(forIn names acc f)=pure (d7 env.cells names acc)
  | [],acc,_=>by rw [List.forIn_nil]; rfl
  | (n,k)::r,acc,h=>by
    rw [List.forIn_cons,hf]
    unfold d7
    cases hk:k == .free with
    | true =>
      have hk':k=.free:=by simpa using hk
      subst hk'
      obtain ⟨c,hc⟩:=Option.isSome_iff_exists.mp (h n List.mem_cons_self)
      simp only [if_true]
      unfold cellOf
      rw [hc]
      simp only [Option.getD_some,pure_bind]
      exact iW f hf r _ fun n hn=>h n (List.mem_cons_of_mem _ hn)
    | false =>
      simp only [Bool.false_eq_true,if_false,pure_bind]
      exact iW f hf r _ fun n hn=>h n (List.mem_cons_of_mem _ hn)
theorem m9 {scope:Scope} {env:Env} (h:∀ n,(n,NameKind.free) ∈ scope.names->(env.cells.lookup n).isSome):closureFor scope env=pure (d7 env.cells scope.names []):=by
  unfold closureFor
  refine (congrArg (· >>= fun cs=>pure cs) (iW (env:=env) _ (fun n k cs=>?_) scope.names [] h)).trans (pure_bind _ _)
  cases hk:k == NameKind.free <;> simp [hk]
theorem qt {cells:List (Str × Addr)}:∀ (names:List (Str × NameKind)) (acc:List (Str × Addr)),(∀ n,(n,NameKind.free) ∈ names->(cells.lookup n).isSome)->(∀ n c,(n,c) ∈ acc->cells.lookup n=some c) ->
    ∀ n c,(n,c) ∈ d7 cells names acc->cells.lookup n=some c
  | [],_,_,h2,n,c,h=>h2 n c h
  | (n',k)::r,acc,h1,h2,n,c,h=>by
    unfold d7 at h
    split at h
    · rename_i hk
      have hk':k=.free:=by simpa using hk
      subst hk'
      refine qt r _ (fun n hn=>h1 n (List.mem_cons_of_mem _ hn)) (fun m d hm=>?_) n c h
      rcases List.mem_cons.mp hm with e | hm
      · cases e
        obtain ⟨c',hc'⟩:=Option.isSome_iff_exists.mp (h1 n' List.mem_cons_self)
        rw [hc']; rfl
      · exact h2 m d hm
    · exact qt r _ (fun n hn=>h1 n (List.mem_cons_of_mem _ hn)) h2 n c h
theorem qv {cells:List (Str × Addr)}:∀ (names:List (Str × NameKind)) (acc:List (Str × Addr)) (n:Str) (c:Addr),(n,c) ∈ acc->(n,c) ∈ d7 cells names acc
  | [],_,_,_,h=>h
  | (_,k)::r,acc,n,c,h=>by
    unfold d7
    split
    · exact qv r _ n c (List.mem_cons_of_mem _ h)
    · exact qv r _ n c h
theorem qu {cells:List (Str × Addr)}:∀ (names:List (Str × NameKind)) (acc:List (Str × Addr)) (n:Str),(n,NameKind.free) ∈ names->∃ c,(n,c) ∈ d7 cells names acc
  | (n',k)::r,acc,n,h=>by
    unfold d7
    rcases List.mem_cons.mp h with e | h
    · cases e; exact ⟨_,qv r _ _ _ List.mem_cons_self⟩
    · split
      · exact qu r _ n h
      · exact qu r _ n h
theorem mM {l:List (Str × Addr)} {n:Str} {c:Addr} (h:(n,c) ∈ l):∃ c',l.lookup n=some c':=by
  induction l with
  | nil=>simp at h
  | cons p r ih =>
    obtain ⟨k,v⟩:=p
    rw [List.lookup_cons]
    cases hb:n == k with
    | true=>exact ⟨v,rfl⟩
    | false =>
      rcases List.mem_cons.mp h with e | h
      · cases e; simp at hb
      · exact ih h
theorem ew {cells:List (Str × Addr)} {names:List (Str × NameKind)} (h:∀ n,(n,NameKind.free) ∈ names->(cells.lookup n).isSome) {n:Str} {c:Addr} (e:(d7 cells names []).lookup n=some c):cells.lookup n=some c:=
  qt names [] h (fun _ _ h=>by simp at h) n c (mem_of_lookup e)
theorem abG {cells:List (Str × Addr)} {names:List (Str × NameKind)} (h:∀ n,(n,NameKind.free) ∈ names->(cells.lookup n).isSome) {n:Str} (hn:(n,NameKind.free) ∈ names):(d7 cells names []).lookup n=cells.lookup n:=by
  obtain ⟨c,hc⟩:=qu (cells:=cells) names [] n hn
  obtain ⟨c',hc'⟩:=mM hc
  rw [hc',ew h hc']
end Mine
namespace Mine
open PySem PyProof.Rows
structure ac3 (names:List (Str × NameKind)):Prop where
  uniq:qx names
  nodbg:∀ (i:Nat) (x:Str) (k:NameKind),names[i]?=some (x,k)->(x == ("__debug__" : Str))=false
  kinds:∀ (i:Nat) (x:Str) (k:NameKind),names[i]?=some (x,k)->k=.local\/k=.cell\/k=.globalImplicit
theorem cV:∀ {names:List (Str × NameKind)},qx names->∀ {i:Nat} {x:Str} {k:NameKind},names[i]?=some (x,k)->names.lookup x=some k
  | [],_,i,x,k,h=>by simp at h
  | (y,k')::r,hU,i,x,k,h=>by
    rw [List.lookup_cons]
    cases i with
    | zero=>simp at h; obtain ⟨rfl,rfl⟩:=h; simp
    | succ i =>
      have h':r[i]?=some (x,k):=by simpa using h
      have hne:(x == y)=false:=by
        cases hb:x == y with
        | false=>rfl
        | true =>
          have:x=y:=by simpa using hb
          subst this
          exact absurd (hU 0 (i + 1) x k' k (by simp) h) (by omega)
      rw [hne]
      exact cV (fun i j x k k' h1 h2=>by have:=hU (i + 1) (j + 1) x k k' (by simpa using h1) (by simpa using h2); omega) h'
theorem fN:∀ {names:List (Str × NameKind)} {x:Str} {k:NameKind},names.lookup x=some k->∃ i,names.findIdx? (·.1 == x)=some i/\names[i]?=some (x,k)
  | [],_,_,h=>by simp at h
  | (y,k')::r,x,k,h=>by
    rw [List.lookup_cons] at h
    rw [List.findIdx?_cons]
    cases hb:x == y with
    | true =>
      rw [hb] at h; obtain rfl:=Option.some.inj h
      have:x=y:=by simpa using hb
      subst this
      exact ⟨0,by simp,by simp⟩
    | false =>
      rw [hb] at h
      obtain ⟨i,h1,h2⟩:=fN h
      have:(y == x)=false:=by
        cases hq:y == x with
        | false=>rfl
        | true =>
          have:y=x:=by simpa using hq
          subst this; simp at hb
      exact ⟨i + 1,by simp [this,h1],by simpa using h2⟩
theorem iI {scope:Scope} {env:Env} (hk:env.scope.kind=.function):(relabel scope env).names=bf env.scope.names scope.names:=by
  unfold relabel bf Env.kindOf
  simp [hk]
structure ff (N:List (Str × NameKind)) (scope:Scope) (t:Nat) (x:Str):Prop where
  kind:scope.kind=.function
  sc:ac3 (bf N scope.names)
  nocell:∀ y ∈ scope.names,y.2 ≠ .cell
  tgt:(bf N scope.names)[t]?=some (x,.local)
section
variable {N:List (Str × NameKind)} {scope:Scope} {t:Nat} {x:Str}
theorem ff.free (c:ff N scope t x) {n:Str} (h:(n,NameKind.free) ∈ scope.names):N.lookup n=some .cell:=by
  obtain ⟨i,hi⟩:=List.mem_iff_getElem?.mp h
  by_cases hq:N.lookup n=some .cell
  · exact hq
  · have:(bf N scope.names)[i]?=some (n,.free):=by simp [bf,hi,hq]
    rcases c.sc.kinds i n _ this with q | q | q <;> contradiction
theorem ff.cell_ (c:ff N scope t x) {i:Nat} {y:Str} (h:(bf N scope.names)[i]?=some (y,.cell)):(y,NameKind.free) ∈ scope.names/\N.lookup y=some .cell:=by
  simp only [bf,List.getElem?_map] at h
  cases hq:scope.names[i]? with
  | none=>rw [hq] at h; contradiction
  | some p =>
    obtain ⟨n,k⟩:=p
    rw [hq] at h
    simp only [Option.map_some,Option.some.injEq] at h
    split at h
    · rename_i hc
      (first | contradiction | (obtain rfl:=Option.some.inj h) | cases h)
      simp at hc
      exact ⟨hc.1 ▸ List.mem_of_getElem? hq,hc.2⟩
    · (first | contradiction | (obtain rfl:=Option.some.inj h) | cases h)
      exact absurd rfl (c.nocell _ (List.mem_of_getElem? hq))
theorem ff.names (c:ff N scope t x):∀ y ∈ scope.names,y.2=.local->scope.names.lookup y.1=some .local:=by
  rintro ⟨y,k⟩ hy rfl
  obtain ⟨i,hi⟩:=List.mem_iff_getElem?.mp hy
  refine cV (i:=i) (fun i j z k k' h1 h2=>?_) hi
  have e1:∃ q,(bf N scope.names)[i]?=some (z,q):=by
    simp only [bf,List.getElem?_map,h1]; simp only [Option.map_some,Option.some.injEq]; split <;> exact ⟨_,rfl⟩
  have e2:∃ q,(bf N scope.names)[j]?=some (z,q):=by
    simp only [bf,List.getElem?_map,h2]; simp only [Option.map_some,Option.some.injEq]; split <;> exact ⟨_,rfl⟩
  obtain ⟨_,e1⟩:=e1
  obtain ⟨_,e2⟩:=e2
  exact c.sc.uniq i j z _ _ e1 e2
end
section
variable {K:Kt} {A:Around} {s:Shared} {α:AL} {σ:ac} {env:Env} {ρ:aw} {scope:Scope} {t:Nat} {x:Str}
theorem kL {h:Heap} (c:ff env.scope.names scope t x) (E:ag env ρ h α):∀ n,(n,NameKind.free) ∈ scope.names->(env.cells.lookup n).isSome:=fun n hn=>by
  obtain ⟨i,_,hi⟩:=fN (c.free hn)
  obtain ⟨a,ha,_⟩:=E.cv i n hi
  rw [ha]; rfl
theorem acU {h:Heap} {C:Addr} {m:Str->Option Value} (c:ff env.scope.names scope t x) (E:ag env ρ h α) (hC:h.Ns C m) (hCa:C ∉ α.all) (hne:∀ y a,env.cells.lookup y=some a->a ≠ C) :
    ag (compEnvC scope (d7 env.cells scope.names []) C env) (aR (dH env.scope.names (bf env.scope.names scope.names)) ρ) h α:=by
  have hcl:=kL c E
  have hnm:(compEnvC scope (d7 env.cells scope.names []) C env).scope.names=bf env.scope.names scope.names:=iI E.ok.kind
  refine ⟨⟨?_,E.ok.glob,E.ok.bins,?_,?_⟩,hCa,⟨m,hC,fun i y v e1 e2=>?_⟩,fun y a ha=>?_,fun y z a h1 h2=>?_,fun i y e1=>?_,fun i v e=>?_⟩
  · exact c.kind
  · intro i y k hi
    rw [hnm] at hi
    show (compEnvC scope (d7 env.cells scope.names []) C env).scope.names.lookup y=some k
    rw [hnm]; exact cV c.sc.uniq hi
  · intro i y k hi
    rw [hnm] at hi
    exact c.sc.nodbg i y k hi
  · rw [hnm] at e1
    exfalso
    simp only [aR,dH,List.getElem?_map,e1] at e2
    simp at e2
  · have ha':=ew hcl ha
    obtain ⟨h1,h2,h3⟩:=E.ca y a ha'
    exact ⟨h1,hne y a ha',h3⟩
  · exact E.cd y z a (ew hcl h1) (ew hcl h2)
  · rw [hnm] at e1
    obtain ⟨h1,h2⟩:=c.cell_ e1
    obtain ⟨j,hj,hj'⟩:=fN h2
    obtain ⟨a,ha,hv⟩:=E.cv j y hj'
    refine ⟨a,(abG hcl h1).trans ha,fun v e2=>hv v ?_⟩
    simp only [aR,dH,List.getElem?_map,e1] at e2
    simp [hj] at e2
    cases hq:ρ[j]? with
    | none=>rw [hq] at e2; contradiction
    | some o=>rw [hq] at e2; simp at e2; rw [e2]
  · rw [hnm]
    simp only [aR,dH,List.getElem?_map] at e
    cases hq:(bf env.scope.names scope.names)[i]? with
    | none=>rw [hq] at e; contradiction
    | some p =>
      obtain ⟨y,k⟩:=p
      rw [hq] at e
      by_cases hk:k=.cell
      · exact ⟨y,k,rfl,.inr hk⟩
      · simp [hk] at e
end
end Mine
namespace Mine
open PySem PyProof.Rows
structure eI (K:Kt) (A:Around):Prop where
  ex:∃ l,A.frames=some l/\l.map (·.frame)=K.hb.fr.map some/\∀ e ∈ l,e.scope.kind ≠ .module
theorem rj {h base:Heap}:∀ {l:List Env} {fr:List Addr},l.map (·.frame)=fr.map some->(∀ e ∈ l,e.scope.kind ≠ .module)->(∀ a ∈ fr,base.get? a=none/\∃ o,h.get? a=some o/\dq o)->h.FunFrames base l/\l.filterMap (·.frame)=fr
  | [],[],_,_,_=>⟨trivial,rfl⟩
  | [],_::_,h,_,_=>by simp at h
  | _::_,[],h,_,_=>by simp at h
  | e::l,a::fr,h1,h2,h3=>by
    simp only [List.map_cons,List.cons.injEq] at h1
    obtain ⟨p,q⟩:=rj h1.2 (fun e he=>h2 e (List.mem_cons_of_mem _ he)) fun a ha=>h3 a (List.mem_cons_of_mem _ ha)
    obtain ⟨b1,o,b2,es,n,b3⟩:=h3 a List.mem_cons_self
    exact ⟨⟨h2 e List.mem_cons_self,⟨a,o,h1.1,b1,b2,fun vs z=>by rw [b3] at z; cases z⟩,p⟩,by rw [List.filterMap_cons,h1.1,q]⟩
section
variable {K:Kt} {A:Around} {env:Env} {s:Shared} {aM:Heap} {σ:ac} {α:AL}
theorem xO {oz:Env} {outer:List Env} {L:Addr} {base:Heap} {Q:Value->Shared->Prop} {E:Value->Shared->Prop} (hfr:A.frames=some (oz::outer)) (hl:s.heap.FunFrames base (oz::outer)) (hf0:oz.frame=some L) (hf:env.frame=some L)
    (h:∀ h',Heap.SlotsOnly ((oz::outer).filterMap (·.frame)) s.heap h'->Q (.ref L) { s with heap:=h' }):wpAny (model K.prog K.w) A (frameOf env) Q E s:=by
  unfold PySem.frameOf
  refine wpAny_bind (wpAny_frameEnvs hfr ?_)
  have hdw:((oz::outer).dropWhile fun x=>x.frame != env.frame)=oz::outer:=by simp [List.dropWhile,hf0,hf]
  rw [hdw]
  unfold frameObject
  refine wpAny_bind (wpAny_bind (wpAny_readyFrames_fun hl fun bx kj=>wpAny_pure ?_))
  rw [hf0]
  exact wpAny_pure (h bx kj)
theorem tS {i:Nat} {a L:Addr} {oe:Obj} {vs:Array Value} {head:Value} {hadNext:Bool} {Q:Unit->Shared->Prop} {E:Value->Shared->Prop} (hA:eI K A) (hN:aI K.hb env) (hL:env.frame=some L) (r:R K.hb aM σ α) (u:Up K.hb.fr aM s.heap)
    (new:aM.get? a=none) (he:s.heap.get? a=some oe) (hc:oe.cls=.ref i) (hd:oe.data=.fields vs) (hsz:1 < vs.size) (cx:∃ y,vs[2]?=some y/\(K.ph=false->y=.none))
    (hQ:∀ h',Up K.hb.fr aM h'->g0 K.ph aM h' i a true->Q () { s with heap:=h' }) :
    wpAny (model K.prog K.w) A (do let x <- frameOf env; let pl <- entryPlaceOf L hadNext; let b <- EntryCells.newEntry head x .none (rawInt L) .none pl; setField (.ref a) 1 b) Q E s:=by
  obtain ⟨l,hl1,hl2,hl3⟩:=hA.ex
  have r':=r.up u
  obtain ⟨hl,hfm⟩:=rj hl2 hl3 r'.frs
  obtain ⟨L',rest,hf,hfr⟩:=hN.f
  rw [hL] at hf; obtain rfl:=Option.some.inj hf
  cases l with
  | nil=>rw [hfr] at hl2; simp at hl2
  | cons oz outer =>
    have hf0:oz.frame=some L:=by rw [hfr] at hl2; simp at hl2; exact hl2.1
    have haf:a ∉ K.hb.fr:=fun q=>by
      obtain ⟨_,o,e,es,n,d⟩:=r'.frs a q
      rw [he] at e; obtain rfl:=Option.some.inj e
      rw [hd] at d; contradiction
    refine wpAny_bind (xO hl1 hl hf0 hL fun bx kj=>?_)
    rw [hfm] at kj
    refine wpAny_bind (wpAny_entryPlaceOf fun pl hpl=>?_)
    unfold EntryCells.newEntry newFields
    refine wpAny_bind (wpAny_newObj_type ?_ (hpl.sizeOk5 _ _ _ _ _))
    have adr:bx.get? a=some oe:=(kj.2.1 a haf).trans he
    have adq:=Heap.get?_push_of_some (h:=bx) { cls:=.type "traceback",dict:=none,data:=.fields ([head,.ref L,.none,rawInt L,.none]++(if pl.isEmpty then List.replicate 6 Value.none else pl)).toArray } adr
    refine wpAny_setField adq hd hsz (hQ _ ?_ ?_)
    · intro b o hb
      have hba:a ≠ b:=fun q=>by rw [<- q,new] at hb; contradiction
      have keep:∀ o',bx.get? b=some o'->((bx.push { cls:=.type "traceback",dict:=none,data:=.fields ([head,.ref L,.none,rawInt L,.none]++(if pl.isEmpty then List.replicate 6 Value.none else pl)).toArray }).update a (Obj.mapFields (·.setIfInBounds 1 (Value.ref bx.objs.size)))).get? b=some o':=fun o' q=>by
        rw [Heap.get?_update_other _ _ hba]; exact Heap.get?_push_of_some _ q
      rcases u b o hb with q | ⟨m,sl,q⟩
      · by_cases hm:b ∈ K.hb.fr
        · obtain ⟨sl,z⟩:=kj.2.2 b o q
          exact .inr ⟨hm,sl,keep _ z⟩
        · exact .inl (keep _ ((kj.2.1 b hm).trans q))
      · obtain ⟨sl',z⟩:=kj.2.2 b _ q
        exact .inr ⟨m,sl',keep _ z⟩
    · have hTe:bx.objs.size ≠ a:=Nat.ne_of_gt (Heap.lt_size adr)
      have ads:=Obj.data_mapFields hd (·.setIfInBounds 1 (Value.ref bx.objs.size))
      have afP:=Heap.get?_update_self (Obj.mapFields (·.setIfInBounds 1 (Value.ref bx.objs.size))) adq (Obj.isFreed_of_fields ads)
      have afQ:=(Heap.get?_update_other (bx.push { cls:=.type "traceback",dict:=none,data:=.fields ([head,.ref L,.none,rawInt L,.none]++(if pl.isEmpty then List.replicate 6 Value.none else pl)).toArray })
        (Obj.mapFields (·.setIfInBounds 1 (Value.ref bx.objs.size))) (Ne.symm hTe)).trans (Heap.get?_push_size bx rfl)
      refine ⟨new,_,_,.ref bx.objs.size,afP,(Obj.cls_mapFields _ _).trans hc,ads,by simp [hsz],.inr bx.objs.size _ _ rfl ?_ hTe afQ rfl rfl ?_,?_⟩
      · cases q:aM.get? bx.objs.size with
        | none=>rfl
        | some o =>
          have:∃ o',s.heap.get? bx.objs.size=some o':=by
            rcases u _ _ q with q | ⟨_,_,q⟩
            · exact ⟨_,q⟩
            · exact ⟨_,q⟩
          obtain ⟨o',z⟩:=this
          obtain ⟨sl,z'⟩:=kj.2.2 _ _ z
          exact absurd (Heap.lt_size z') (Nat.lt_irrefl _)
      · simp
      · obtain ⟨y,y1,y2⟩:=cx
        exact ⟨y,by rw [Array.getElem?_setIfInBounds_ne (by decide)]; exact y1,y2⟩
theorem vQ {i:Nat} {a:Addr} {nt:Bool} {Q:Unit->Shared->Prop} {E:Value->Shared->Prop} (hA:eI K A) (hN:aI K.hb env) (r:R K.hb aM σ α) (u:Up K.hb.fr aM s.heap) (x:g0 K.ph aM s.heap i a nt)
    (hQ:∀ h',Up K.hb.fr aM h'->g0 K.ph aM h' i a true->Q () { s with heap:=h' }):wpAny (model K.prog K.w) A (noteFrame (.ref a) env) Q E s:=by
  obtain ⟨new,oe,vs,xv,he,hc,hd,h1,ht,cx⟩:=x
  obtain ⟨L,rest,hf,hfr⟩:=id hN.f
  have hsz:=(Array.getElem?_eq_some_iff.mp h1).1
  unfold noteFrame
  simp only [hf]
  refine wpAny_bind (wpAny_field he hd h1 ?_)
  rcases ht with ⟨_,rfl⟩ | ⟨T,oT,ts,rfl,hT0,hTa,hT,hTc,hTd,hT3⟩
  · rw [if_neg (by decide)]
    exact tS hA hN hf r u new he hc hd hsz cx hQ
  · rw [if_pos (show (Value.ref T != Value.none)=true from by simp)]
    refine wpAny_bind (wpAny_field hT hTd (x:=ts[3]) (by simp [hT3]) ?_)
    by_cases hq:(ts[3] == rawInt L)=true
    · rw [if_pos hq]
      exact wpAny_pure (hQ _ u ⟨new,oe,vs,_,he,hc,hd,h1,.inr T oT ts rfl hT0 hTa hT hTc hTd hT3,cx⟩)
    · rw [if_neg hq]
      refine wpAny_bind (wpAny_setField hT hTd hT3 ?_)
      have other:∀ b,b ≠ T->(s.heap.update T (Obj.mapFields (·.setIfInBounds 3 Value.none))).get? b=s.heap.get? b:=fun b hb=>Heap.get?_update_other _ _ (Ne.symm hb)
      refine tS (s:={ s with heap:=s.heap.update T (Obj.mapFields (·.setIfInBounds 3 Value.none)) }) hA hN hf r (fun b o hb=>?_) new ((other a (Ne.symm hTa)).trans he) hc hd hsz cx hQ
      have hbT:b ≠ T:=fun q=>by rw [q,hT0] at hb; contradiction
      show (s.heap.update T _).get? b=_\/_
      rcases u b o hb with q | ⟨m,sl,q⟩
      · exact .inl ((other b hbT).trans q)
      · exact .inr ⟨m,sl,(other b hbT).trans q⟩
theorem ms {i:Nat} {a:Addr} {f:Option Addr} {Q:Unit->Shared->Prop} {E:Value->Shared->Prop} (r:R K.hb aM σ α) (u:Up K.hb.fr aM s.heap) (x:g0 K.ph aM s.heap i a true)
    (hQ:∀ h',Up K.hb.fr aM h'->g0 K.ph aM h' i a true->Q () { s with heap:=h' }):wpAny (model K.prog K.w) A (setFlight (.ref a) f) Q E s:=by
  obtain ⟨new,oe,vs,xv,he,hc,hd,h1,ht,cx⟩:=x
  rcases ht with ⟨z,_⟩ | ⟨T,oT,ts,rfl,hT0,hTa,hT,hTc,hTd,hT3⟩
  · contradiction
  unfold setFlight
  refine wpAny_bind (wpAny_field he hd h1 ?_)
  rw [if_pos (show (Value.ref T != Value.none)=true from by simp)]
  have other:∀ (g:Obj->Obj) b,b ≠ T->(s.heap.update T g).get? b=s.heap.get? b:=fun g b hb=>Heap.get?_update_other _ _ (Ne.symm hb)
  refine wpAny_setField hT hTd hT3 (hQ _ (fun b o hb=>?_) ⟨new,oe,vs,_,(other _ a (Ne.symm hTa)).trans he,hc,hd,h1,.inr T _ _ rfl hT0 hTa (Heap.get?_update_self _ hT (Obj.isFreed_of_fields (Obj.data_mapFields hTd _))) ((Obj.cls_mapFields _ _).trans hTc) (Obj.data_mapFields hTd _) (by simpa using hT3),cx⟩)
  have hbT:b ≠ T:=fun q=>by rw [q,hT0] at hb; contradiction
  rcases u b o hb with q | ⟨m,sl,q⟩
  · exact .inl ((other _ b hbT).trans q)
  · exact .inr ⟨m,sl,(other _ b hbT).trans q⟩
theorem aa5 {i:Nat} {a:Addr} {nt:Bool} {Q:Unit->Shared->Prop} {E:Value->Shared->Prop} (hA:eI K A) (hN:aI K.hb env) (r:R K.hb aM σ α) (u:Up K.hb.fr aM s.heap) (x:g0 K.ph aM s.heap i a nt)
    (hQ:∀ h',Up K.hb.fr aM h'->g0 K.ph aM h' i a true->Q () { s with heap:=h' }):wpAny (model K.prog K.w) A (leaving env (.ref a)) Q E s:=by
  unfold leaving
  refine wpAny_bind (vQ hA hN r u x fun h' u' x'=>?_)
  exact ms (s:={ s with heap:=h' }) r u' x' fun h'' u'' x''=>hQ h'' u'' x''
end
end Mine
namespace Mine
open PySem PyProof.Rows
noncomputable def eG (tC:PV->ac->af Bool) (eC:PV->ac->af PV) (x:PV) (σ:ac):af (Option PV):=
  (tC x σ).bind fun b σ=>if b then (eC x σ).bind fun v σ=>.ok (some v) σ else .ok none σ
theorem aK.snoc {h:Heap} {α:AL} {xs:List PV} {vs:List Value} {p:PV} {v:Value} (a:aK h α xs vs) (b:VR h α p v):aK h α (xs++[p]) (vs++[v]):=
  a.append (.cons b .nil)
section
variable {K:Kt} {A:Around} {s:Shared} {α:AL} {env:Env} {ρ:aw} {scope:Scope} {t:Nat} {x:Str}
inductive qz (K:Kt) (s:Shared) (α:AL) (c:af PV) (acc:Value) (C:Addr) (r:Result) (s':Shared):Prop
  | inl (e:r=.ok .next) (v:PV) (σ':ac) (α':AL) (m:Str->Option Value) (hc:c=.ok v σ') (x:aD [] α s.heap α' s'.heap) (rr:R K.hb s'.heap σ' α') (vr:VR s'.heap α' v acc) (sm:Sm s s') (ns:s'.heap.Ns C m) (h1:C ∉ α'.all) (h2:s.heap.get? C=none) (h3:K.hb.get? C=none) (h4:C ∉ K.hb.fr):qz K s α c acc C r s'
inductive yI (K:Kt) (s:Shared) (α:AL) (xs:List PV) (St:Nat->Heap->AL->Prop) (D:Addr) (cenv:Env) (t:Nat) (ρc:aw) (go:List PV->List PV->ac->af PV) (c:af PV) (n:Nat) (s₁:Shared):Prop
  | mk (i:Nat) (σ₁:ac) (α₁:AL) (ys:List PV) (us:List Value) (ρ₁:aw) (nn:Nat) (hn:n=xs.length - i) (hi:i <= xs.length) (hid:α₁.hid=D::α.hid) (x:aD [] α s.heap ⟨α₁.ix,α.hid,α₁.fr⟩ s₁.heap) (r:R K.hb s₁.heap σ₁ α₁) (st:St i s₁.heap α₁) (E:ag cenv ρ₁ s₁.heap α₁)
      (cE:∀ v,ρ₁.set t (some v)=ρc.set t (some v)) (hl:s₁.heap.get? D=some { cls:=.type "list",data:=.seq (List.toArray us) nn }) (vs:aK s₁.heap α₁ ys us) (m:Sm s s₁) (hgo:go ys (xs.drop i) σ₁=c) (hyl:ys.length <= i) (tk:K.Tk s₁):yI K s α xs St D cenv t ρc go c n s₁
theorem aeb {h:Heap} {C b:Addr} (hb:b ≠ C):(PySem.W.hideAll h [C]).get? b=h.get? b:=by
  cases e:h.get? b with
  | some o=>exact PySem.W.hideAll_get _ e (by simpa using hb)
  | none =>
    cases e':(PySem.W.hideAll h [C]).get? b with
    | none=>rfl
    | some o=>rw [PySem.W.of_hideAll _ e'] at e; contradiction
theorem R.unhide {hb h σ α} {hid:List Addr} (r:R hb h σ α) (hs:∀ a ∈ hid,a ∈ α.hid):R hb h σ ⟨α.ix,hid,α.fr⟩:=
  ⟨r.base,r.fresh,r.nodup,r.len,fun a ha=>r.hidden a (hs a ha),fun j m a e1 e2=>(r.obj j m a e1 e2).re (α:=α) (α':=⟨α.ix,hid,α.fr⟩) (fun _ _ e=>e) (fun a ha=>by
    rcases List.mem_append.mp ha with q | q
    · exact List.mem_append_left _ q
    · exact List.mem_append_right _ (hs a q)),fun a ha=>r.hfr a (hs a ha),r.fe,r.frs,r.frNot⟩
noncomputable def eA (n:Nat) (fz:Bool) (w:Option (Nat × List PV)) (tC:PV->ac->af Bool) (eC:PV->ac->af PV) (ys xs:List PV) (σ:ac):af PV:=
  cW n (bh w (eG tC eC) xs σ) fun zs σ=>bR fz (ys++zs) σ
theorem abh {n fz w tC eC ys xs σ} (h:eA n fz w tC eC ys xs σ ≠ .stuck):cn w σ:=by
  by_cases hw:cn w σ
  · exact hw
  · refine absurd ?_ h
    unfold eA
    cases xs with
    | nil=>rw [show bh w (eG tC eC) [] σ=.stuck from if_neg hw]; rfl
    | cons x xs=>rw [show bh w (eG tC eC) (x::xs) σ=.stuck from if_neg hw]; rfl
theorem aee {n fz w tC eC ys p xs σ} (hw:cn w σ):eA n fz w tC eC ys (p::xs) σ=cW n ((eG tC eC p σ).bind fun y σ=>(bh w (eG tC eC) xs σ).bind fun zs σ=>.ok (zW y zs) σ) fun zs σ=>bR fz (ys++zs) σ:=by
  unfold eA
  rw [show bh w (eG tC eC) (p::xs) σ=_ from if_pos hw]
theorem abi {n fz w tC eC ys p xs σ} (h:eA n fz w tC eC ys (p::xs) σ ≠ .stuck):cn w σ/\tC p σ ≠ .stuck/\(∀ i σ',tC p σ ≠ .exc i σ') ∧
    (∀ σ',tC p σ=.ok false σ'->eA n fz w tC eC ys (p::xs) σ=eA n fz w tC eC ys xs σ') ∧
    (∀ σ',tC p σ=.ok true σ'->eC p σ' ≠ .stuck/\(∀ i fB,eC p σ' ≠ .exc i fB)/\∀ v fB,eC p σ'=.ok v fB->eA n fz w tC eC ys (p::xs) σ=eA n fz w tC eC (ys++[v]) xs fB):=by
  have hw:=abh h
  rw [aee hw] at h ⊢
  have cf:∀ {c},(tC p σ).bind (fun b σ=>if b then (eC p σ).bind fun v σ=>.ok (some v) σ else .ok none σ)=c->eG tC eC p σ=c:=fun q=>q
  have ct:∀ {σ'},tC p σ=.ok true σ'->eG tC eC p σ=(eC p σ').bind fun v σ=>.ok (some v) σ:=fun q=>cf (by rw [q]; rfl)
  refine ⟨hw,fun e=>?_,fun i σ' e=>?_,fun σ' e=>?_,fun σ' e=>⟨fun e'=>?_,fun i fB e'=>?_,fun v fB e'=>?_⟩⟩
  · rw [cf (c:=.stuck) (by rw [e]; rfl)] at h; exact h rfl
  · rw [cf (c:=.exc i σ') (by rw [e]; rfl)] at h; exact h rfl
  · rw [cf (c:=.ok none σ') (by rw [e]; rfl)]
    unfold eA
    show cW n ((bh w (eG tC eC) xs σ').bind fun zs σ=>.ok zs σ) _=_
    cases bh w (eG tC eC) xs σ' <;> rfl
  · rw [ct e,e'] at h; exact h rfl
  · rw [ct e,e'] at h; exact h rfl
  · rw [ct e,e']
    unfold eA
    show cW n ((bh w (eG tC eC) xs fB).bind fun zs σ=>.ok (v::zs) σ) _=_
    cases bh w (eG tC eC) xs fB with
    | ok zs σ=>show bR _ _ _=bR _ _ _; rw [List.append_assoc]; rfl
    | exc i σ=>rfl
    | stuck=>rfl
theorem wi {n fz w tC eC ys xs σ} (hn:ys.length <= n) (h:eA n fz w tC eC ys xs σ ≠ .stuck):ys.length <= am:=by
  unfold eA at h
  cases hq:bh w (eG tC eC) xs σ with
  | ok zs σ' =>
    rw [hq] at h
    simp only [cW,bR] at h
    split at h
    · rename_i hl; simp at hl; omega
    · exact absurd rfl h
  | exc i σ'=>rw [hq] at h; exact absurd rfl h
  | stuck=>rw [hq] at h; exact absurd rfl h
theorem abE {elt iter:Expr} {px:Pos} {ifs:List Expr} {pos:Pos} {it:Value} {own:List Addr} {xs:List PV} {w:Option (Nat × List PV)} {St:Nat->Heap->AL->Prop} {D C:Addr}
    {tC:PV->ac->af Bool} {eC:PV->ac->af PV} {fz:Bool} {c:af PV} {cenv:Env} {ρc:aw}
    (I:fY K A false own it xs w St) (hx:cenv.scope.names[t]?=some (x,.local)) (hU:qx cenv.scope.names) (hCl:cenv.locals=C)
    (hown:∀ b ∈ own,s.heap.get? b=none) (hD:s.heap.get? D=none) (hC:s.heap.get? C=none) (hbD:K.hb.get? D=none) (hbC:K.hb.get? C=none)
    (hDx:D ∉ α.hid) (apart:mK cenv own) (hc:c ≠ .stuck) (hF:eI K A) (hNc:aI K.hb cenv) (hCf:C ∉ K.hb.fr)
    (htest:∀ v s σ α,ag cenv (ρc.set t (some v)) s.heap α->R K.hb s.heap σ α ->
      Runs K d8 A (forIn ifs true fun c r=>if r=true then do let ok <- isTrue c cenv (eval c cenv); pure (ForInStep.yield ok) else pure (ForInStep.yield r)) (tC v σ) s α)
    (helt:∀ v s σ α,ag cenv (ρc.set t (some v)) s.heap α->R K.hb s.heap σ α->Runs K VR A (eval elt cenv) (eC v σ) s α)
    {i:Nat} {σ₁:ac} {α₁:AL} {s₁:Shared} {ys:List PV} {us:List Value} {ρ₁:aw} {n:Nat}
    (hi:i <= xs.length) (hid:α₁.hid=D::α.hid) (nu:aD [] α s.heap ⟨α₁.ix,α.hid,α₁.fr⟩ s₁.heap) (kQ:R K.hb s₁.heap σ₁ α₁) (st:St i s₁.heap α₁) (j3:ag cenv ρ₁ s₁.heap α₁)
    (cE:∀ v,ρ₁.set t (some v)=ρc.set t (some v)) (hl:s₁.heap.get? D=some { cls:=.type "list",data:=.seq us.toArray n }) (vs:aK s₁.heap α₁ ys us) (kS:Sm s s₁)
    (hgo:eA xs.length fz w tC eC ys (xs.drop i) σ₁=c) (hyl:ys.length <= i) (j7:K.Tk s₁) :
    codeAny (model K.prog K.w) A (.compLoop (.ListComp elt [⟨.Name x px,iter,ifs,0⟩] scope pos) 0 it (.ref D) cenv) (qz K s α c (.ref D) C) s₁:=by
  refine codeAny_compLoop_tests (yI K s α xs St D cenv t ρc (eA xs.length fz w tC eC) c)
    (fun n s₁ inv=>?_) _ ⟨i,σ₁,α₁,ys,us,ρ₁,n,rfl,hi,hid,nu,kQ,st,j3,cE,hl,vs,kS,hgo,hyl,j7⟩
  clear j7 hyl hgo kS vs hl cE j3 st kQ nu hid hi
  obtain ⟨i,σ₁,α₁,ys,us,ρ₁,nn,rfl,hi,hid,nu,kQ,st,j3,cE,hl,vs,kS,hgo,hyl,j7⟩:=inv
  have hDh:D ∈ α₁.hid:=by rw [hid]; exact List.mem_cons_self
  have hDa:D ∈ α₁.all:=List.mem_append_right _ hDh
  by_cases hlt:i < xs.length
  ·
    have hdrop:xs.drop i=xs[i]::xs.drop (i + 1):=List.drop_eq_getElem_cons hlt
    rw [hdrop] at hgo
    obtain ⟨hw,ht1,ht2,ht3,ht4⟩:=abi (by rw [hgo]; exact hc)
    refine dS j7 (I.item i s₁ σ₁ α₁ xs[i] (by simp [hlt]) st kQ hw _ _ fun v au vr ze _ xo bV iJ qI=>?_)
    have ze:=ze rfl
    have dI:aD [] α s.heap ⟨α₁.ix,α.hid,α₁.fr⟩ au.heap:=aD.drop nu hown (by simp) (by simpa using xo.rehid α.hid)
    have lb:=j3.ext xo apart
    have rh:=xo.seqs D _ (kQ.hidden D hDh).1 hl .seq
    have uI:=vs.ext xo
    refine dS qI (wpAny_assign_Name (pu hU bV lb (by rw [hCl]; exact hbC) hx vr fun cy kP oN xc sb l8 lW=>?_))
    rw [cE] at oN
    rw [hCl] at xc sb
    have hCD:D ≠ C:=by rintro rfl; exact j3.la (by rw [hCl]; exact hDa)
    have af2:aD [] α s.heap ⟨α₁.ix,α.hid,α₁.fr⟩ cy.heap:=dI.sameBut hC sb
    have afO:cy.heap.get? D=_:=(sb D hCD).trans rh
    have afs:=uI.ext xc
    have jb:=I.frame _ _ _ _ _ _ ze xc (fun b hb q=>by simp at q; subst q; exact apart.1 (hCl ▸ hb))
    refine wpAny_mono (cF (htest xs[i] cy σ₁ α₁ oN kP ht1 lW)) (fun ok kO hp=>?_) fun e kO hx=>?_
    · obtain ⟨⟨b,uH,lS,hb,x4,vG,e4,zC⟩,afu⟩:=hp
      have oS:=Kt.Tk.up lW afu
      have e4':ok=b:=e4
      subst e4'
      have we:lS.hid=D::α.hid:=x4.hid.trans hid
      have yL:aD [] α s.heap ⟨lS.ix,α.hid,lS.fr⟩ kO.heap:=af2.trans (x4.rehid α.hid)
      have oM:=oN.ext x4 .nil
      have adp:=x4.seqs D _ (kP.hidden D hDh).1 afO .seq
      have ac6:=afs.ext x4
      have qK:=I.frame _ _ _ _ _ _ jb x4 (by simp)
      cases ok with
      | false =>
        rw [if_neg (by simp)]
        refine ⟨xs.length - (i + 1),Nat.sub_succ_lt_self _ _ hlt,i + 1,uH,lS,ys,us,_,nn,rfl,hlt,we,yL,vG,qK,oM,fun v=>by rw [List.set_set],adp,ac6,((kS.trans iJ).trans l8).trans zC,?_,by omega,oS⟩
        rw [<- ht3 _ hb]; exact hgo
      | true =>
        rw [if_pos rfl]
        obtain ⟨he1,he2,he3⟩:=ht4 _ hb
        refine wpAny_mono (cF (helt xs[i] kO uH lS oM vG he1 oS)) (fun u ny hp=>?_) fun e ny hx=>?_
        · obtain ⟨⟨v5,uG,j5,hv5,x5,sd,vr5,acs⟩,y9⟩:=hp
          have uK:=Kt.Tk.up oS y9
          have abe:j5.hid=D::α.hid:=x5.hid.trans we
          have abg:D ∈ j5.hid:=by rw [abe]; exact List.mem_cons_self
          have wg:D ∈ j5.all:=List.mem_append_right _ abg
          have uV:aD [] α s.heap ⟨j5.ix,α.hid,j5.fr⟩ ny.heap:=yL.trans (x5.rehid α.hid)
          have tc:=oM.ext x5 .nil
          have ado:=x5.seqs D _ (vG.hidden D (by rw [we]; exact List.mem_cons_self)).1 adp .seq
          have afr:=ac6.ext x5
          have uL:=I.frame _ _ _ _ _ _ qK x5 (by simp)
          refine wpAny_list_append_plain ⟨_,ado⟩ (fun agg uP afx=>?_) ?_
          · obtain ⟨n6,uP⟩:=uP
            have kb:∀ b,b ≠ D->agg.get? b=ny.heap.get? b:=fun b hb=>afx.2 b hb
            refine ⟨xs.length - (i + 1),Nat.sub_succ_lt_self _ _ hlt,i + 1,uG,j5,ys++[v5],us++[u],_,n6,rfl,hlt,abe,uV.sameBut hD kb,sd.sameHid abg hbD kb ⟨_,uP⟩ (fun o e=>by rw [ado] at e; obtain rfl:=Option.some.inj e; rintro ⟨_,_,q⟩; contradiction),I.but _ _ _ _ _ uL wg kb,tc.sameBut wg kb,fun v=>by rw [List.set_set],?_,(afr.snoc vr5).sameBut wg kb,(((kS.trans iJ).trans l8).trans zC).trans (acs.trans ⟨rfl,rfl⟩),?_,by simp; (assumption),uK⟩
            · rw [uP]; simp
            · rw [<- he3 _ _ hv5]; exact hgo
          · have:=wi (n:=xs.length) (ys:=ys) (by (exact Nat.le_trans (by assumption) (by assumption))) (by rw [hgo]; exact hc)
            have h2:=vs.1
            simp
            rw [<- h2]
            exact bL this
        · obtain ⟨⟨j,uG,e5,_⟩,_⟩:=hx
          exact absurd e5 (he2 _ _)
    · obtain ⟨⟨j,uG,e5,_⟩,_⟩:=hx
      exact absurd e5 (ht2 _ _)
  ·
    have hie:i=xs.length:=Nat.le_antisymm hi (Nat.not_lt.mp hlt)
    subst hie
    rw [List.drop_length] at hgo
    have hw:=abh (by rw [hgo]; exact hc)
    have hlim:=wi (n:=xs.length) (ys:=ys) (by (assumption)) (by rw [hgo]; exact hc)
    have hgo':bR fz ys σ₁=c:=by
      rw [<- hgo]
      unfold eA
      rw [show bh w (eG tC eC) [] σ₁=.ok [] σ₁ from if_pos hw]
      show _=bR fz (ys++[]) σ₁
      rw [List.append_nil]
    refine I.done s₁ σ₁ α₁ st kQ hw _ _ fun au xo bV iJ=>?_
    have dI:aD [] α s.heap ⟨α₁.ix,α.hid,α₁.fr⟩ au.heap:=aD.drop nu hown (by simp) (by simpa using xo.rehid α.hid)
    have lb:=j3.ext xo apart
    have hDi:=(bV.hidden D hDh).1
    have rh:=xo.seqs D _ (kQ.hidden D hDh).1 hl .seq
    have uI:=vs.ext xo
    obtain ⟨mC,nC,_⟩:=lb.ns
    rw [hCl] at nC
    have hCa:C ∉ α₁.all:=by rw [<- hCl]; exact j3.la
    have sub1:∀ a,a ∈ (⟨α₁.ix,α.hid,α₁.fr⟩:AL).all->a ∈ α₁.all:=fun a ha=>by
      rcases List.mem_append.mp ha with q | q
      · exact List.mem_append_left _ q
      · exact List.mem_append_right _ (by rw [hid]; exact List.mem_cons_of_mem _ q)
    unfold bR at hgo'
    rw [if_pos hlim] at hgo'
    cases fz with
    | true =>
      refine .inl rfl _ _ ⟨α₁.ix,α.hid,α₁.fr⟩ mC hgo'.symm dI (bV.unhide fun a ha=>by rw [hid]; exact List.mem_cons_of_mem _ ha) ?_ (kS.trans iJ) nC (fun q=>hCa (sub1 _ q)) hC hbC hCf
      refine VR.flI rh (fun q=>?_) (uI.re (α:=α₁) (α':=⟨α₁.ix,α.hid,α₁.fr⟩) (fun _ _ e=>e) sub1)
      rcases List.mem_append.mp q with q | q
      · exact hDi q
      · exact hDx q
    | false =>
      have get1:∀ (j:Nat) (a:Addr),α₁.ix[j]?=some a->(α₁.ix++[D])[j]?=some a:=fun j a e=>by
        rw [List.getElem?_append_left (List.getElem?_eq_some_iff.mp e).1]; exact e
      have sub2:∀ a,a ∈ (⟨α₁.ix++[D],α.hid,α₁.fr⟩:AL).all->a ∈ α₁.all:=fun a ha=>by
        rcases List.mem_append.mp ha with q | q
        · rcases List.mem_append.mp q with q | q
          · exact List.mem_append_left _ q
          · simp at q; subst q; exact hDa
        · exact List.mem_append_right _ (by rw [hid]; exact List.mem_cons_of_mem _ q)
      refine .inl rfl _ _ ⟨α₁.ix++[D],α.hid,α₁.fr⟩ mC hgo'.symm ?_ ⟨bV.base,?_,?_,?_,fun a ha=>⟨?_,(bV.hidden a (by rw [hid]; exact List.mem_cons_of_mem _ ha)).2⟩,fun j m a e1 e2=>?_,fun a ha=>bV.hfr a (by rw [hid]; exact List.mem_cons_of_mem _ ha),bV.fe,bV.frs,fun a ha q=>?_⟩ (.ref ?_) (kS.trans iJ) nC (fun q=>hCa (sub2 _ q)) hC hbC hCf
      · obtain ⟨β,q1,q2⟩:=dI.pre
        refine ⟨rfl,⟨β++[D],by show α₁.ix++[D]=_; rw [show α₁.ix=α.ix++β from q1,List.append_assoc],fun a ha=>?_⟩,dI.seqs,dI.rest,dI.alive,dI.fre⟩
        rcases List.mem_append.mp ha with q | q
        · exact q2 a q
        · simp at q; subst q; exact ⟨hD,by simp⟩
      · intro a ha
        rcases List.mem_append.mp ha with q | q
        · exact bV.fresh a q
        · simp at q; subst q; exact hbD
      · show (α₁.ix++[D]).Nodup
        rw [List.nodup_append]
        exact ⟨bV.nodup,by simp,fun a ha b hb=>by simp at hb; subst hb; rintro rfl; exact hDi ha⟩
      · simp [bV.len]
      · intro q
        rcases List.mem_append.mp q with q | q
        · exact (bV.hidden a (by rw [hid]; exact List.mem_cons_of_mem _ ha)).1 q
        · simp at q; subst q; exact hDx ha
      · by_cases hj:j < σ₁.length
        · rw [List.getElem?_append_left hj] at e1
          have e2':(α₁.ix++[D])[j]?=some a:=e2
          rw [List.getElem?_append_left (by rw [<- bV.len]; exact hj)] at e2'
          exact (bV.obj j m a e1 e2').re get1 sub2
        · have e3:j=σ₁.length:=by
            have:=(List.getElem?_eq_some_iff.mp e1).1
            simp at this; omega
          subst e3
          have e2':(α₁.ix++[D])[σ₁.length]?=some a:=e2
          rw [List.getElem?_append_right (Nat.le_refl _)] at e1
          rw [List.getElem?_append_right (by rw [bV.len]; exact Nat.le_refl _)] at e2'
          simp [bV.len] at e1 e2'
          subst e1 e2'
          exact ⟨us,nn,rh,uI.re get1 sub2⟩
      · rcases List.mem_append.mp q with q | q
        · exact bV.frNot a ha q
        · simp at q; subst q
          obtain ⟨_,o,e,es,n',d⟩:=bV.frs a ha
          rw [rh] at e; obtain rfl:=Option.some.inj e; contradiction
      · rw [bV.len]; simp
end
end Mine
namespace Mine
open PySem PyProof.Rows
section
variable {K:Kt} {A:Around} {s:Shared} {α:AL} {env:Env} {ρ:aw} {scope:Scope} {t:Nat} {x:Str}
noncomputable abbrev bC (scope:Scope) (C:Addr) (env:Env):Env:=compEnvC scope (d7 env.cells scope.names []) C env
noncomputable abbrev il (scope:Scope) (env:Env) (ρ:aw):aw:=aR (dH env.scope.names (bf env.scope.names scope.names)) ρ
noncomputable def gh (fz:Bool) (tC:PV->ac->af Bool) (eC:PV->ac->af PV) (ci:af (List PV × Option (Nat × List PV))):af PV:=
  ci.bind fun p σ=>eA p.1.length fz p.2 tC eC [] p.1 σ
theorem rO {elt iter:Expr} {px:Pos} {ifs:List Expr} {pos:Pos} {ci:af (List PV × Option (Nat × List PV))}
    {tC:PV->ac->af Bool} {eC:PV->ac->af PV} {fz:Bool} {RR:Value->Addr->Result->Shared->Prop} {E:Value->Shared->Prop}
    (c:ff env.scope.names scope t x) (qy:ag env ρ s.heap α) (hit:ei K A false (eval iter env) ci s α) (hc:gh fz tC eC ci ≠ .stuck) (tk:K.Tk s)
    (htest:∀ C v s σ α,aI K.hb (bC scope C env)->ag (bC scope C env) ((il scope env ρ).set t (some v)) s.heap α->R K.hb s.heap σ α ->
      Runs K d8 A (forIn ifs true fun c r=>if r=true then do let ok <- isTrue c (bC scope C env) (eval c (bC scope C env)); pure (ForInStep.yield ok) else pure (ForInStep.yield r)) (tC v σ) s α)
    (helt:∀ C v s σ α,aI K.hb (bC scope C env)->ag (bC scope C env) ((il scope env ρ).set t (some v)) s.heap α->R K.hb s.heap σ α->Runs K VR A (eval elt (bC scope C env)) (eC v σ) s α)
    (hF:eI K A) (hN:aI K.hb env) (lZ:∃ σ,R K.hb s.heap σ α)
    (hE:∀ e s',aZ K A ci s α e s'->E e s') (hRR:∀ acc C r s',qz K s α (gh fz tC eC ci) acc C r s'->RR acc C r s') :
    wpAny (model K.prog K.w) A (eval iter env) (fun xv s₁=>wpAny (model K.prog K.w) A (pyIter xv) (fun it au=>wpAny (model K.prog K.w) A (newList []) (fun acc cy =>
      wpAny (model K.prog K.w) A (newFunctionEnv scope env.globals (d7 env.cells scope.names []) [] env.qual none .none (some env)) (fun cenv kO =>
        codeAny (model K.prog K.w) A (.compStart (.ListComp elt [⟨.Name x px,iter,ifs,0⟩] scope pos) 0 it acc { cenv with scope:=relabel scope env }) (RR acc cenv.locals) kO) E cy) E au) E s₁) E s:=by
  have hci:ci ≠ .stuck:=by rintro rfl; exact hc rfl
  refine wpAny_mono (cF (hit hci tk)) (fun xv s₁ bx=>wpAny_mono (cF bx.1) (fun it au ez=>?_) fun e s' h=>hE e s' h.1) fun e s' h=>hE e s' h.1
  have qI:K.Tk au:=Kt.Tk.up tk (Nat.le_trans bx.2 ez.2)
  obtain ⟨xs,w,σ₂,aJ,own,St,hci2,dI,bV,iJ,I,st,ho⟩:=ez.1
  have cell:∀ y ∈ scope.names,y.2 ≠ .cell:=c.nocell
  refine wpAny_newObj_type (wpAny_newFunctionEnv cell (by intro y hy; simp at hy) (fun bx wd rg=>?_) c.kind)
  dsimp only at wd rg ⊢
  generalize hH2:au.heap.push { cls:=.type "list",dict:=none,data:=.seq ([]:List Value).toArray }=H2 at wd rg ⊢
  have hCs:H2.objs.size=au.heap.objs.size + 1:=by rw [<- hH2,Heap.size_push]
  have hDC:au.heap.objs.size ≠ H2.objs.size:=by rw [hCs]; exact Nat.ne_of_lt (Nat.lt_succ_self _)
  have old:∀ b o,au.heap.get? b=some o->bx.get? b=some o:=fun b o e=>rg.extBut b o (by rw [hCs]; exact Nat.ne_of_lt (Nat.lt_succ_of_lt (Heap.lt_size e))) (Heap.get?_push_of_some _ (hH2 ▸ Heap.get?_push_of_some _ e))
  have hacc:bx.get? au.heap.objs.size=some { cls:=.type "list",data:=.seq ([]:List Value).toArray }:=rg.extBut _ _ hDC (Heap.get?_push_of_some _ (hH2 ▸ Heap.get?_push_size _ rfl))
  have fresh:∀ a,au.heap.objs.size <= a->au.heap.get? a=none:=fun a ha=>by
    cases e:au.heap.get? a with
    | none=>rfl
    | some o'=>exact absurd (Heap.lt_size e) (Nat.not_lt.mpr ha)
  have hD2:=fresh au.heap.objs.size (Nat.le_refl _)
  have hC2:au.heap.get? H2.objs.size=none:=fresh _ (by rw [hCs]; exact Nat.le_succ _)
  have back:∀ a,au.heap.get? a=none->s.heap.get? a=none:=fun a ha=>by
    cases e:s.heap.get? a with
    | none=>rfl
    | some o=>obtain ⟨o',e'⟩:=dI.alive a o (by simp) e; rw [ha] at e'; contradiction
  have base:∀ a,au.heap.get? a=none->K.hb.get? a=none:=fun a ha=>by
    cases e:K.hb.get? a with
    | none=>rfl
    | some o=>rw [bV.base a o e] at ha; contradiction
  have lb:=qy.ext dI .nil
  have kP:R K.hb bx σ₂ ⟨aJ.ix,au.heap.objs.size::aJ.hid,aJ.fr⟩:=bV.hide hD2 old hacc
  have oN:ag env ρ bx ⟨aJ.ix,au.heap.objs.size::aJ.hid,aJ.fr⟩:=(lb.hide hD2).ext (.keeps (F:=[]) old) .nil
  have cells:∀ y a,env.cells.lookup y=some a->∃ o,s.heap.get? a=some o:=fun y a ha=>by
    obtain ⟨_,_,v,o,e,_⟩:=qy.ca y a ha; exact ⟨o,e⟩
  have hCa:H2.objs.size ∉ (⟨aJ.ix,au.heap.objs.size::aJ.hid,aJ.fr⟩:AL).all:=fun q=>by
    rcases List.mem_append.mp q with q | q
    · obtain ⟨o,e⟩:=bV.live q; rw [hC2] at e; contradiction
    · rcases List.mem_cons.mp q with q | q
      · exact hDC q.symm
      · obtain ⟨o,e⟩:=(bV.hidden _ q).2; rw [hC2] at e; contradiction
  have hne:∀ y a,env.cells.lookup y=some a->a ≠ H2.objs.size:=fun y a ha q=>by
    obtain ⟨o,e⟩:=cells y a ha
    rw [q,back _ hC2] at e; contradiction
  have oM:=acU c oN wd hCa hne
  have hcl:=kL c qy
  have apart:mK (bC scope H2.objs.size env) own:=by
    refine ⟨fun q=>?_,fun y a ha q=>?_⟩
    · obtain ⟨o,e⟩:=I.live _ _ _ st _ q
      have e':au.heap.get? H2.objs.size=some o:=e
      rw [hC2] at e'; contradiction
    · obtain ⟨o,e⟩:=cells y a (ew hcl ha)
      rw [(ho a q).1] at e; contradiction
  have hN':aI K.hb (bC scope H2.objs.size env):=⟨base _ hC2,fun y a ha=>hN.c y a (ew hcl ha),hN.f⟩
  have hCf:H2.objs.size ∉ K.hb.fr:=fun q=>by
    obtain ⟨_,o,e,_⟩:=bV.frs _ q
    rw [hC2] at e; contradiction
  have hnm:(bC scope H2.objs.size env).scope.names=bf env.scope.names scope.names:=iI qy.ok.kind
  have jb:St 0 bx ⟨aJ.ix,au.heap.objs.size::aJ.hid,aJ.fr⟩:=I.frame _ [] _ _ _ _ (I.hide _ _ _ _ st hD2) (.keeps old) (by simp)
  have loop:∀ cy:Shared,cy={ au with heap:=bx,toks:=au.toks + ([]:List (Str × Value)).length } ->
      codeAny (model K.prog K.w) A (.compLoop (.ListComp elt [⟨.Name x px,iter,ifs,0⟩] scope pos) 0 it (.ref au.heap.objs.size) (compEnvC scope (d7 env.cells scope.names []) H2.objs.size env))
        (RR (.ref au.heap.objs.size) H2.objs.size) cy:=by
    rintro cy rfl
    refine codeAny_mono (abE (s:=s) (α:=α) (D:=au.heap.objs.size) (C:=H2.objs.size) (fz:=fz) (c:=gh fz tC eC ci) (cenv:=bC scope H2.objs.size env) (ρc:=il scope env ρ) (t:=t) (tC:=tC) (eC:=eC)
      (i:=0) (σ₁:=σ₂) (α₁:=⟨aJ.ix,au.heap.objs.size::aJ.hid,aJ.fr⟩) (ys:=[]) (us:=[]) (ρ₁:=il scope env ρ) (n:=0) I (by rw [hnm]; exact c.tgt) (by rw [hnm]; exact c.sc.uniq) rfl (fun b hb=>(ho b hb).1) (back _ hD2) (back _ hC2) (base _ hD2) (base _ hC2) ?_ apart hc hF hN' hCf
      (fun v s σ α=>htest _ v s σ α hN') (fun v s σ α=>helt _ v s σ α hN') (Nat.zero_le _) (by show _::aJ.hid=_; rw [dI.hid]) ?_ kP jb oM (fun v=>rfl) hacc .nil ⟨iJ.gens,iJ.os⟩ ?_ (Nat.le_refl _) (Kt.Tk.up qI (Nat.le_add_right _ _))) (fun r s'=>hRR _ _ r s')
    · obtain ⟨σ,lZ⟩:=lZ
      intro q
      obtain ⟨o,e⟩:=(lZ.hidden _ q).2
      rw [back _ hD2] at e; contradiction
    · have h3:aD [] α s.heap ⟨aJ.ix,α.hid,aJ.fr⟩ au.heap:=by
        have:=dI.rehid α.hid
        exact this
      exact h3.trans (.keeps old)
    · rw [hci2]; rfl
  exact codeAny_compStart_list (loop _ rfl) (I.self 0 _ _ jb _ _ (loop _ rfl))
theorem sj {elt iter:Expr} {px:Pos} {ifs:List Expr} {pos:Pos} {ci:af (List PV × Option (Nat × List PV))} {σ:ac}
    {tC:PV->ac->af Bool} {eC:PV->ac->af PV} {fz:Bool}
    (c:ff env.scope.names scope t x) (qy:ag env ρ s.heap α) (hit:ei K A false (eval iter env) ci s α)
    (htest:∀ C v s σ α,aI K.hb (bC scope C env)->ag (bC scope C env) ((il scope env ρ).set t (some v)) s.heap α->R K.hb s.heap σ α ->
      Runs K d8 A (forIn ifs true fun c r=>if r=true then do let ok <- isTrue c (bC scope C env) (eval c (bC scope C env)); pure (ForInStep.yield ok) else pure (ForInStep.yield r)) (tC v σ) s α)
    (helt:∀ C v s σ α,aI K.hb (bC scope C env)->ag (bC scope C env) ((il scope env ρ).set t (some v)) s.heap α->R K.hb s.heap σ α->Runs K VR A (eval elt (bC scope C env)) (eC v σ) s α)
    (hF:eI K A) (hN:aI K.hb env) (lZ:R K.hb s.heap σ α) (hs:∀ x,foldedSetIterable iter env x=pure x) :
    Runs K VR A (eval (.ListComp elt [⟨.Name x px,iter,ifs,0⟩] scope pos) env) (gh fz tC eC ci) s α:=by
  intro hc tk
  rw [eval_ListComp]
  refine wpAny_comprehension_free (use:=none) rfl hs (m9 (kL c qy)) c.kind c.names (rO (fz:=fz) (RR:=fun acc C=>compPost (model K.prog K.w) A _ none _ acc C) c qy hit hc tk htest helt hF hN ⟨_,lZ⟩ (fun e s' hx=>?_) ?_)
  · obtain ⟨i,σ',e1,fx⟩:=hx
    exact ⟨i,σ',by rw [e1]; rfl,fx⟩
  · rintro acc C r s' ⟨rfl,v,σ',α',m,e,x',r',vr,sm,ns,ha,hC,hbC,hCf⟩
    · refine ⟨m,ns,fun h' hs'=>?_⟩
      obtain ⟨r'',x''⟩:=r'.but ha hbC (fun b o hb e=>(hs'.2 b hb).trans e) (fun o e=>by
        obtain ⟨o',es,ep,e',d,_⟩:=id ns
        rw [e] at e'; obtain rfl:=Option.some.inj e'
        exact dq.notSolid ⟨_,_,d⟩) fun q=>absurd q hCf
      exact ⟨v,σ',α',e,x'.sameBut hC (fun b hb=>hs'.2 b hb),r'',vr.ext x'',sm.trans ⟨rfl,rfl⟩⟩
end
end Mine
namespace Mine
open PySem PyProof.Rows
noncomputable def eP:Expr->Bool
  | .Set ..=>false
  | .Starred ..=>false
  | _=>true
theorem py {op:CmpOp} {e:Expr} (h:eP e=true):behindInMarks op e=false:=by
  cases e <;> first | rfl | contradiction
theorem jC {e:Expr} {env:Env} (h:eP e=true) (x:Value):foldedSetIterable e env x=pure x:=by
  cases e <;> first | rfl | contradiction
theorem bq {e:Expr} {rest:List Expr} {env:Env} (h:eP e=true):starEach (e::rest) env=(false,eval e env)::starEach rest env:=by
  cases e <;> first | rfl | contradiction
inductive adC (h:Heap) (c:Nat) (up:List Nat):Prop
  | mk (nm q:Str) (N:Addr) (bs:List Value) (hdct:Bool) (sn:List Str) (sub:List Value) (ab:Bool) (col:Option Bool) (dd:Option Addr) (k0 k1 k2 k3 k5:Option Value)
      (ho:h.get? c=some (excClassObj nm q c N bs (up.map Value.ref++[.type "ValueError",.type "Exception",.type "BaseException",.type "object"]) hdct sn sub ab col dd k0 k1 k2 k3 k5 "ValueError.__new__"))
      (mN:Str->Option Value) (hN:h.Ns N mN) (hi:mN "__init__" = none):adC h c up
structure lR (K:Kt) (x:Str) (c:Nat) (up:List Nat):Prop where
  mg:K.mg x=some (.ref c)
  ob:adC K.hb.h c up
  tail:OwnTail K.hb.h [.type "ValueError",.type "Exception",.type "BaseException",.type "object"] (up.map Value.ref++[.type "ValueError",.type "Exception",.type "BaseException",.type "object"])
open PySem.W in
noncomputable def mD (F:PySem.W.Frag) (T:aL) (c:Nat):Bool:=
  findIn F (.ref c) "__getattribute__" == some (some (.builtin "BaseException.__getattribute__")) && findIn F (.ref c) "__getattr__" == some none && findIn F (.ref c) "__class__" == some (some (.builtin "object.__class__")) &&
    subIn F (.ref c) (.type "BaseException") == some true && subIn F (.ref c) (.type "object") == some true && (clsIn F c).isSome &&
    T.excs.all (fun q=>kitOne F (.ref c) (.ref q.2.1) == some ((gl T q.2.1).contains c)) && kitOne F (.ref c) (.type "ValueError") == some true
open PySem.W in
structure fg (K:Kt) (F:Frag) (b:Str) (c:Addr):Prop where
  mg:K.mg b=some (.ref c)
  inn:F.In K.hb.h
  keep:keepIn F (.ref c)=true
  makes:makesIn F c=true
  plain:plainOver F c=true
  hasd:(clsIn F c).any (·.hasDict)=true
  seta:findIn F (.ref c) "__setattr__" = some (some (.builtin "object.__setattr__"))
  free:∀ n ∈ cT,takerIn F c n=some none
  geta:findIn F (.ref c) "__getattribute__" = some (some (.builtin "object.__getattribute__"))
  getr:findIn F (.ref c) "__getattr__" = some none
  none:∀ n ∈ cT,findIn F (.ref c) n=some none
noncomputable def aae (K:Kt) (A:Around):Prop:=∃ (a:Addr) (o:Obj) (vs:Array Value),A.handled=some (.ref a)/\K.hb.get? a=some o/\o.data=.fields vs/\vs[2]?=some .none
structure Ctx (K:Kt) (A:Around) (T:aL) (C:a8):Prop where
  hK:K.Ok
  hA:dF A
  hd:C.hd=false->A.handled=none
  ph:K.ph=C.hd
  rz:C.rz=true->C.hd=true->aae K A
  rp:T.repl=true->K.pos=true
  fr:eI K A
  exc:∃ F:PySem.W.Frag,F.In K.hb.h/\∀ p ∈ T.excs,lR K p.1 p.2.1 p.2.2/\mD F T p.2.1=true
  cst:∀ x v,T.cst.lookup x=some v->∃ u,K.mg x=some u/\∀ h σ α,R K.hb h σ α->VR h α v u
  fn:∀ f x,T.fns[f]?=some x->∃ a o fd,K.mg x=some (.ref a)/\K.hb.get? a=some o/\o.data=.func fd/\∀ vs us s σ α,R K.hb s.heap σ α->aK s.heap α vs us->Runs K VR A (call (.ref a) us) (C.call f vs σ) s α
  bin:∀ x,x ∈ T.bins->K.mg x=none/\∃ v,jn x=some v/\K.mb x=some v
  brd:∀ b c,T.brd=some (b,c)->∃ F,fg K F b c/\(∀ j,T.meths[j]?=some ("__init__" : Str)->∀ vs us s σ α,R K.hb s.heap σ α->aK s.heap α vs us->Runs K VR A (call (.ref c) us) (l7 C c (T.fns.length + j) vs σ) s α)
    /\ ∀ j n,T.meths[j]?=some n->∃ a o fd,PySem.W.findIn F (.ref c) n=some (some (.ref a))/\PySem.W.typeIn F (.ref a)=some (.type "function")/\K.hb.get? a=some o/\o.data=.func fd/\∀ vs us s σ α,R K.hb s.heap σ α->aK s.heap α vs us->Runs K VR A (call (.ref a) us) (C.call (T.fns.length + j) vs σ) s α
noncomputable def iY (K:Kt) (A:Around) (C:a8) (N:List (Str × NameKind)) (e:Expr) (x:X):Prop:=
  ∀ env ρ σ s α,env.scope.names=N->aI K.hb env->ag env ρ s.heap α->R K.hb s.heap σ α ->
    Runs K VR A (eval e env) (ev C x ρ σ) s α/\Runs K d8 A (isTrue e env (eval e env)) (tst C x ρ σ) s α
noncomputable def SE (K:Kt) (A:Around) (C:a8) (f:List (Str × NameKind)->Expr->Option X):Prop:=
  ∀ N e x,f N e=some x->eP e=true/\iY K A C N e x
section
variable {K:Kt} {A:Around} {β γ pq x9:Type} {Rel:Heap->AL->β->γ->Prop} {Rel':Heap->AL->pq->x9->Prop} {s:Shared} {α:AL} {σ:ac}
theorem Runs.operate {vs:List Value} {t:Sem Value} {Rel:Heap->AL->β->Value->Prop} {c:af β} (H:Runs K Rel A t c s α):Runs K Rel A (operate vs t) c s α:=
  fun h tk=>wpAny_operating (H h tk)
theorem aeg {t:Sem Value} {c:af PV} {p:Pos} (H:Runs K VR A t c s α):Runs K d8 A (do let v <- t; standAt p; holding [v] (truthy v)) (c.bind dJ) s α:=
  Runs.bind H fun b σ' α' y s' _ x r v m=>Runs.standAt (Runs.holding (im r v))
theorem dC.vr {h:Heap} {α:AL} {b:Bool} {y:Value} (v:dC h α b y):VR h α (.bool b) y:=by
  have:y=.bool b:=v
  subst this; exact .bool b
end
section
variable {K:Kt} {A:Around} {T:aL} {C:a8} {f:List (Str × NameKind)->Expr->Option X} {N:List (Str × NameKind)} {env:Env} {ρ:aw} {σ:ac} {s:Shared} {α:AL}
theorem k9 {c:Const} {v:PV} {k:Nat} {p:Pos} (h:lg c=some v) (r:R K.hb s.heap σ α):Runs K VR A (eval (.Constant c k p) env) (.ok v σ) s α:=by
  intro _ _
  cases c with
  | none=>obtain rfl:=Option.some.inj h; exact wpAny_Constant_none (aQ.here (tk:=s.toks) r .none)
  | bool b=>obtain rfl:=Option.some.inj h; exact wpAny_Constant_bool (aQ.here (tk:=s.toks) r (.bool b))
  | int i=>obtain rfl:=Option.some.inj h; exact wpAny_Constant_int (aQ.here r (.int i _))
  | str x =>
    change ay _ _=_ at h
    exact aA h fun hx h=>by obtain rfl:=Option.some.inj h; exact wpAny_Constant_str (aQ.here r (.str x _ hx))
  | _=>contradiction
theorem ba {e:Expr} {y:X} (he:∀ env whole,isTrue e env whole=(do let v <- whole; standAt e.pos; holding [v] (truthy v))) (ht:∀ ρ σ,tst C y ρ σ=(ev C y ρ σ).bind dJ)
    (H:∀ {env ρ σ s α},env.scope.names=N->aI K.hb env->ag env ρ s.heap α->R K.hb s.heap σ α->Runs K VR A (eval e env) (ev C y ρ σ) s α):iY K A C N e y:=fun env ρ σ s α hN hn E r =>
  ⟨H hN hn E r,by rw [he,ht]; exact aeg (H hN hn E r)⟩
theorem wb {N:List (Str × NameKind)} {x:Str} {i:Nat} {q:Str × NameKind} (hi:N.findIdx? (·.1 == x)=some i) (hq:N[i]?=some q):q.1=x:=by
  obtain ⟨h1,h2,_⟩:=List.findIdx?_eq_some_iff_getElem.mp hi
  obtain rfl:=Option.some.inj ((List.getElem?_eq_getElem h1).symm.trans hq)
  exact eq_of_beq h2
theorem u9 {x:Str} {y:X} {p:Pos} (c:Ctx K A T C) (h:vd T N x=some y):iY K A C N (.Name x p) y:=by
  unfold vd at h
  refine aE h fun i hi h=>aE h fun q hq h=>?_
  have hx:=wb hi hq
  obtain ⟨z,k⟩:=q
  dsimp only at hx
  subst hx
  cases k with
  | «local»=>obtain rfl:=Option.some.inj h; exact ba (fun _ _=>rfl) (fun _ _=>rfl) fun hN _ E r=>qU r E (by rw [hN]; exact hq)
  | cell=>obtain rfl:=Option.some.inj h; exact ba (fun _ _=>rfl) (fun _ _=>rfl) fun hN _ E r=>qU r E (by rw [hN]; exact hq)
  | globalImplicit =>
    change (T.cst.lookup z).map X.k=_ at h
    refine cr h fun v hv=>?_
    obtain ⟨u,h1,h2⟩:=c.cst z v hv
    exact ba (fun _ _=>rfl) (fun _ _=>rfl) fun {env ρ σ s α} hN _ E r _ _=>f9 c.hK r E.ok (by rw [hN]; exact hq) h1 ⟨v,σ,α,rfl,.refl,r,h2 _ _ _ r,.refl s⟩
  | _=>contradiction
theorem eJ {g:Expr->Option X} {e:Expr} {es:List Expr} {xs:X} (h:fH g (e::es)=some xs):∃ a b,g e=some a/\fH g es=some b/\xs=.cons a b:=by
  change o2 _ _ _=_ at h
  exact dy (M:=fun xs=>∃ a b,g e=some a/\fH g es=some b/\xs=.cons a b) h fun a b h1 h2=>⟨a,b,h1,h2,rfl⟩
theorem gd {es:List Expr} {xs:X} {pos:Pos} (S:SE K A C f) (h:fH (f N) es=some xs) (hN:env.scope.names=N) (hn:aI K.hb env) :
    ∀ {σ s α},ag env ρ s.heap α->R K.hb s.heap σ α->Runs K aK A (spliced (backTo pos (starEach es env))) (evs C xs ρ σ) s α:=by
  induction es generalizing xs with
  | nil =>
    obtain rfl:=Option.some.inj h
    intro σ s α E r
    simp only [jy,cJ]
    exact fun _ _=>wpAny_items_nil ⟨[],σ,α,rfl,.refl,r,.nil,.refl s⟩
  | cons e es ih =>
    obtain ⟨a,b,ha,hb,rfl⟩:=eJ h
    · skip
      intro σ s α E r
      obtain ⟨hp,H⟩:=S N e a ha
      have H:=(H env ρ σ s α hN hn E r).1
      simp only [jy,cJ]
      intro hc tk
      refine wpAny_items_cons ?_ (bq hp)
      have h1:ev C a ρ σ ≠ .stuck:=by intro q; rw [q] at hc; exact hc rfl
      refine wpAny_mono (cF (H h1 tk)) (fun v s₁ hp=>?_) fun e s₁ hx=>?_
      · obtain ⟨⟨pv,σ₁,α₁,e1,x1,r1,v1,m1⟩,tl1⟩:=hp
        rw [e1] at hc ⊢
        have h2:evs C b ρ σ₁ ≠ .stuck:=by intro q; simp [af.bind,q] at hc
        refine wpAny_mono (ih hb (E.ext x1 .nil) r1 h2 (Kt.Tk.up tk tl1)) (fun vs au hp=>?_) fun e au hx=>?_
        · obtain ⟨pvs,σ₂,aJ,e2,x2,r2,v2,m2⟩:=hp
          refine ⟨pv::pvs,σ₂,aJ,by simp [af.bind,e2],x1.trans x2,r2,.cons (v1.ext x2) v2,m1.trans m2⟩
        · obtain ⟨i,σ₂,e2,nt,fx⟩:=hx
          exact ⟨i,σ₂,by simp [af.bind,e2],nt,fx.lift x1 m1⟩
      · obtain ⟨⟨i,σ₁,e1,nt,fx⟩,_⟩:=hx
        exact ⟨i,σ₁,by rw [e1]; rfl,nt,fx⟩
theorem abQ {es:List Expr} {xs:X} {pos:Pos} (S:SE K A C f) (h:fH (f N) es=some xs) (hN:env.scope.names=N) (hn:aI K.hb env) :
    ∀ {σ s α},ag env ρ s.heap α->R K.hb s.heap σ α->Runs K VR A (boolOp pos .And (evalEach es env)) (evAnd C xs ρ σ) s α/\Runs K d8 A (allTrue .And es env) (tstAnd C xs ρ σ) s α:=by
  induction es generalizing xs with
  | nil =>
    obtain rfl:=Option.some.inj h
    intro σ s α E r
    refine ⟨fun hc=>absurd (by simp only [oC,oB,gV]) hc,?_⟩
    simp only [qB,cS]
    exact fun _ _=>wpAny_allTrue_And_nil ⟨true,σ,α,rfl,.refl,r,rfl,.refl s⟩
  | cons e es ih =>
    obtain ⟨a,b,ha,hb,rfl⟩:=eJ h
    · skip
      intro σ s α E r
      obtain ⟨hp,H⟩:=S N e a ha
      have H:=H env ρ σ s α hN hn E r
      constructor
      · cases es with
        | nil =>
          obtain rfl:=Option.some.inj hb
          simp only [oC,oB,gV]
          exact H.1
        | cons e2 es2 =>
          have hbc:∃ b1 b2,b=.cons b1 b2:=by
            obtain ⟨b1,b2,_,_,rfl⟩:=eJ hb
            exact ⟨_,_,rfl⟩
          obtain ⟨b1,b2,rfl⟩:=hbc
          simp only [oC,oB,gV]
          refine Runs.bind H.1 fun v σ₁ α₁ y s₁ e1 x1 r1 v1 m1=>Runs.standAt ?_
          refine Runs.bind (Runs.holding (im r1 v1)) fun t σ₂ aJ y2 au e2 x2 r2 v2 m2=>?_
          have:y2=t:=v2
          subst this
          cases y2 with
          | false=>simp only [Bool.false_eq_true,if_false]; exact Runs.pure r2 (v1.ext x2)
          | true=>simp only [if_true]; exact (ih hb ((E.ext x1 .nil).ext x2 .nil) r2).1
      · simp only [qB,cS]
        refine Runs.bind H.2 fun t σ₁ α₁ y s₁ e1 x1 r1 v1 m1=>?_
        have:y=t:=v1
        subst this
        cases y with
        | false=>simp only [Bool.false_eq_true,if_false]; exact Runs.pure r1 rfl
        | true=>simp only [if_true]; exact (ih hb (E.ext x1 .nil) r1).2
theorem acn {es:List Expr} {xs:X} {pos:Pos} (S:SE K A C f) (h:fH (f N) es=some xs) (hN:env.scope.names=N) (hn:aI K.hb env) :
    ∀ {σ s α},ag env ρ s.heap α->R K.hb s.heap σ α->Runs K VR A (boolOp pos .Or (evalEach es env)) (evOr C xs ρ σ) s α/\Runs K d8 A (allTrue .Or es env) (tstOr C xs ρ σ) s α:=by
  induction es generalizing xs with
  | nil =>
    obtain rfl:=Option.some.inj h
    intro σ s α E r
    refine ⟨fun hc=>absurd (by simp only [qm,ql,kI]) hc,?_⟩
    simp only [tf,dk]
    exact fun _ _=>wpAny_allTrue_Or_nil ⟨false,σ,α,rfl,.refl,r,rfl,.refl s⟩
  | cons e es ih =>
    obtain ⟨a,b,ha,hb,rfl⟩:=eJ h
    · skip
      intro σ s α E r
      obtain ⟨hp,H⟩:=S N e a ha
      have H:=H env ρ σ s α hN hn E r
      constructor
      · cases es with
        | nil =>
          obtain rfl:=Option.some.inj hb
          simp only [qm,ql,kI]
          exact H.1
        | cons e2 es2 =>
          have hbc:∃ b1 b2,b=.cons b1 b2:=by
            obtain ⟨b1,b2,_,_,rfl⟩:=eJ hb
            exact ⟨_,_,rfl⟩
          obtain ⟨b1,b2,rfl⟩:=hbc
          simp only [qm,ql,kI]
          refine Runs.bind H.1 fun v σ₁ α₁ y s₁ e1 x1 r1 v1 m1=>Runs.standAt ?_
          refine Runs.bind (Runs.holding (im r1 v1)) fun t σ₂ aJ y2 au e2 x2 r2 v2 m2=>?_
          have:y2=t:=v2
          subst this
          cases y2 with
          | true=>simp only [if_true]; exact Runs.pure r2 (v1.ext x2)
          | false=>simp only [Bool.false_eq_true,if_false]; exact (ih hb ((E.ext x1 .nil).ext x2 .nil) r2).1
      · simp only [tf,dk]
        refine Runs.bind H.2 fun t σ₁ α₁ y s₁ e1 x1 r1 v1 m1=>?_
        have:y=t:=v1
        subst this
        cases y with
        | true=>simp only [if_true]; exact Runs.pure r1 rfl
        | false=>simp only [Bool.false_eq_true,if_false]; exact (ih hb (E.ext x1 .nil) r1).2
end
end Mine
set_option maxRecDepth 100000
namespace Mine
open PySem PySem.W PyProof.Rows
section
variable {prog:Program} {w:World} {A:Around} {E:Value->Shared->Prop} {h:Heap} {g:Array GenState} {d:Drawn} {t:Nat} {os:OsState} {a c:Addr} {o:Obj} {Fg:Frag}
theorem yN {R:Result->Shared->Prop} (X:Fg.In h) (hx:h.get? a=some o) (hc:o.cls=.ref c) (ho:subIn Fg (.ref c) (.type "object")=some true) (hq:R (.ok (.ret (.ref c))) ⟨h,g,d,t,os⟩) :
    codeAny (model prog w) A (.call (.builtin "getset_descriptor.__get__") ⟨[.builtin "object.__class__",.ref a,.ref c],[]⟩) R ⟨h,g,d,t,os⟩:=by
  have hT5:(⟨h,g,d,t,os⟩:Shared).TypeIs (.builtin "object.__class__") "getset_descriptor" := F.typeOf_object_class
  have ho':subIn Fg (.ref c) (.type (".".intercalate ("object.__class__".cutAt '.').dropLast))=some true:=by rw [F.owner_object_class]; exact ho
  have L:=looks_subIn (M:=model prog w) X ho'
  refine codeAny_call_builtin F.slot_gs_get.plain F.entry_gs_get (F.slot_gs_get.check _ _ _ _ _ _ _ _ hT5 (F.args_gs_get _ _ _) ?_)
  repeat (any_goals (first | assumption | (with_reducible refine wpAny_loadPart_at hx ?_; rw [hc]) | with_reducible refine L.at ?_ | wp_step))
  refine ⟨Code.quiet_builtin _ (by decide +kernel),codeAny_builtin F.entry_object_class ?_⟩
  repeat (any_goals (first | assumption | (with_reducible refine wpAny_loadPart_at hx ?_; rw [hc]) | wp_step))
theorem uW {tk:Tok} {Q:Fin->Shared->Prop} (X:Fg.In h) (hx:h.get? a=some o) (hc:o.cls=.ref c) (ho:subIn Fg (.ref c) (.type "object")=some true) (hl:findIn Fg (.ref c) "__class__" = some (some (.builtin "object.__class__")))
    (hq:Q (.done (.ret (.ref c))) ⟨h,g,d,t,os⟩):wpAny (model prog w) A (Builtin.«object.__getattribute__» ⟨[.ref a,.str "__class__" tk],[]⟩) Q E ⟨h,g,d,t,os⟩:=by
  have hT5:(⟨h,g,d,t,os⟩:Shared).TypeIs (.builtin "object.__class__") "getset_descriptor" := F.typeOf_object_class
  have f5:=F.typeOf_object_class
  have f6:=F.slot_gs_get.lookup
  have f7:=F.slot_gs_set.lookup
  have L:=looks_findIn (M:=model prog w) X hl
  repeat (any_goals (first | assumption | (with_reducible refine wpAny_loadPart_at hx ?_; rw [hc]) | with_reducible refine L.at ?_ | wp_step))
  refine yN X hx hc ho ?_
  repeat (any_goals (first | assumption | wp_step))
theorem aaj {M:Model} {nameV:Value} {Q:Unit->Shared->Prop} (X:Fg.In h) (hx:h.get? a=some o) (hc:o.cls=.ref c) (hb:subIn Fg (.ref c) (.type "BaseException")=some true) (hq:Q () ⟨h,g,d,t,os⟩) :
    wpAny M A (checkBuiltinCall "BaseException.__getattribute__" ⟨[.ref a,nameV],[]⟩) Q E ⟨h,g,d,t,os⟩:=by
  have hk:builtinKind "BaseException.__getattribute__" = some .slot:=by decide +kernel
  have hsplit:splitId "BaseException.__getattribute__" = some ("BaseException", "__getattribute__"):=by decide +kernel
  have L:=looks_subIn (M:=M) X hb
  have ha:=F.args_bexc_ga (.ref a) nameV
  simp only [checkBuiltinCall,hk,hsplit]
  refine wpAny_bind ?_
  · unfold isInstance
    repeat (first | (with_reducible refine wpAny_loadPart_at hx ?_; rw [hc]) | with_reducible refine L.at ?_ | wp_step)
    exact hq
theorem aai {tk:Tok} {Q:Value->Shared->Prop} (X:Fg.In h) (hx:h.get? a=some o) (hc:o.cls=.ref c) (hb:subIn Fg (.ref c) (.type "BaseException")=some true) (ho:subIn Fg (.ref c) (.type "object")=some true)
    (hl:findIn Fg (.ref c) "__class__" = some (some (.builtin "object.__class__"))) (hga:findIn Fg (.ref c) "__getattribute__" = some (some (.builtin "BaseException.__getattribute__"))) (hgt:findIn Fg (.ref c) "__getattr__" = some none)
    (hq:Q (.ref c) ⟨h,g,d,t,os⟩):wpAny (model prog w) A (getAttrBy (.ref a) (.str "__class__" tk) false) Q E ⟨h,g,d,t,os⟩:=by
  have f3:=F.attr_ValueError.ga.bind (.ref a)
  have hx2:(Value.builtin "BaseException.__getattribute__" == Value.builtin "object.__getattribute__")=false:=by decide +kernel
  have hx1:(onTheHeap (Value.ref c) && Value.builtin "BaseException.__getattribute__" == Value.builtin "object.__getattribute__")=false:=by rw [hx2]; rfl
  have L1:=looks_findIn (M:=model prog w) X hga
  have L2:=looks_findIn (M:=model prog w) X hgt
  repeat (any_goals (first | assumption | (with_reducible refine wpAny_loadPart_at hx ?_; rw [hc]) | with_reducible refine L1.at ?_ | with_reducible refine L2.at ?_ | wp_step))
  refine codeAny_call_builtin F.attr_ValueError.ga.plain F.entry_bexc_ga (aaj X hx hc hb (uW X hx hc ho hl ?_))
  repeat (any_goals (first | assumption | wp_step))
theorem w7 {Q:Option Value->Shared->Prop} (X:Fg.In h) (hx:h.get? a=some o) (hc:o.cls=.ref c) (hb:subIn Fg (.ref c) (.type "BaseException")=some true) (ho:subIn Fg (.ref c) (.type "object")=some true)
    (hl:findIn Fg (.ref c) "__class__" = some (some (.builtin "object.__class__"))) (hga:findIn Fg (.ref c) "__getattribute__" = some (some (.builtin "BaseException.__getattribute__"))) (hgt:findIn Fg (.ref c) "__getattr__" = some none)
    (hq:Q (some (.ref c)) ⟨h,g,d,t + 1,os⟩):wpAny (model prog w) A (getAttr? (.ref a) "__class__") Q E ⟨h,g,d,t,os⟩:=by
  unfold getAttr? getAttrBy?
  repeat (any_goals (first | assumption | with_reducible apply aai X hx hc hb ho hl hga hgt | wp_step))
end
theorem mB {Fg:Frag} {T:aL} {c:Nat} (e:mD Fg T c=true):findIn Fg (.ref c) "__getattribute__" = some (some (.builtin "BaseException.__getattribute__"))/\findIn Fg (.ref c) "__getattr__" = some none/\findIn Fg (.ref c) "__class__" = some (some (.builtin "object.__class__")) ∧
    subIn Fg (.ref c) (.type "BaseException")=some true/\subIn Fg (.ref c) (.type "object")=some true/\(clsIn Fg c).isSome=true/\(∀ q ∈ T.excs,kitOne Fg (.ref c) (.ref q.2.1)=some ((gl T q.2.1).contains c))/\kitOne Fg (.ref c) (.type "ValueError")=some true:=by
  unfold mD at e
  simp only [Bool.and_eq_true,beq_iff_eq,List.all_eq_true] at e
  obtain ⟨⟨⟨⟨⟨⟨⟨h1,h2⟩,h3⟩,h4⟩,h5⟩,h6⟩,h7⟩,h8⟩:=e
  exact ⟨h1,h2,h3,h4,h5,h6,fun q hq=>by have:=h7 q hq; exact this,h8⟩
theorem acD {Fg:Frag} {T:aL} {a c:Addr} (e:mD Fg T c=true):KitX Fg (.ref a) (.ref c) (fun h=>∃ o,h.get? a=some o/\o.cls=.ref c) where
  ty:=fun M h _ p=>by
    obtain ⟨o,h1,h2⟩:=p
    exact h2 ▸ (Looks.ld h1).andThen .now
  it:=fun _ _ X _=>by
    have hc:=(mB e).2.2.2.2.2.1
    unfold clsIn at hc
    split at hc
    · rename_i c' d' cd' sl' ho
      intro A' Q' E' s' k q
      unfold isType loadHead
      exact wpAny_bind (wpAny_loadPart (k _ _ (X _ _ ho)) (wpAny_pure q))
    · contradiction
  ne:=fun h tp dd its n sl X htp=>by
    have hc:=(mB e).2.2.2.2.2.1
    refine Bool.eq_false_iff.mpr fun q=>?_
    have e:c=tp:=Value.ref.inj (beq_iff_eq.mp q)
    subst e
    unfold clsIn at hc
    split at hc
    · rename_i c' d' cd' sl' ho
      have z:=(X _ _ ho).symm.trans htp
      cases z
    · contradiction
  ca:=fun {_ _ _ _ _ s} X p k=>by
    obtain ⟨o,h1,h2⟩:=p
    obtain ⟨q1,q2,q3,q4,q5,_⟩:=mB e
    obtain ⟨h,g,d,t,os⟩:=s
    exact w7 X h1 h2 q4 q5 q3 q1 q2 k
section
variable {K:Kt} {A:Around} {T:aL} {C:a8} {s:Shared} {α:AL} {σ:ac}
theorem v7 {a:PV} {x cv:Value} {sup:List Nat} (ct:Ctx K A T C) (hcv:(∃ q ∈ T.excs,cv=.ref q.2.1/\sup=gl T q.2.1)\/(cv=.type "ValueError" /\ sup=T.excs.map (·.2.1)))
    (r:R K.hb s.heap σ α) (va:VR s.heap α a x):Runs K dC A (call (.builtin "isinstance") [x,cv]) (ra a sup (T.excs.map (·.2.1)) σ) s α:=by
  intro hc tk
  cases a with
  | exc c =>
    have e0:ra (.exc c) sup (T.excs.map (·.2.1)) σ=if (T.excs.map (·.2.1)).contains c then .ok (sup.contains c) σ else .stuck:=rfl
    rw [e0] at hc ⊢
    split at hc
    · rename_i hd
      rw [if_pos hd]
      cases va with
      | exc e hcl _ _ =>
        obtain ⟨p,hp,hpc⟩:=List.mem_map.mp (List.contains_iff_mem.mp hd)
        obtain ⟨Fg,X,H⟩:=ct.exc
        have he:=(H p hp).2
        rw [hpc] at he
        obtain ⟨_,_,_,_,_,_,q7,q8⟩:=mB he
        have hk:kitOne Fg (.ref c) cv=some (sup.contains c):=by
          rcases hcv with ⟨q,hq,rfl,rfl⟩ | ⟨rfl,rfl⟩
          · exact q7 q hq
          · rw [hd]; exact q8
        exact kia_one (acD he) (X.keeps r.base) ⟨_,e,hcl⟩ hk (by simp) fun tk=>⟨_,σ,α,rfl,.refl,r,rfl,⟨rfl,rfl⟩⟩
    · exact absurd rfl hc
  | _=>exact absurd rfl hc
end
end Mine
namespace Mine
open PySem PyProof.Rows
section
variable {K:Kt} {A:Around} {β γ pq x9:Type} {Rel:Heap->AL->β->γ->Prop} {Rel':Heap->AL->pq->x9->Prop} {s:Shared} {α:AL} {σ:ac}
theorem wR {a:β} {f:β->ac->af pq}:(af.ok a σ).bind f=f a σ:=rfl
theorem aQ.lift {c:af β} {s₁:Shared} {α₁:AL} {y:γ} {s':Shared} (x:aD [] α s.heap α₁ s₁.heap) (m:Sm s s₁) (p:aQ K Rel c s₁ α₁ y s'):aQ K Rel c s α y s':=by
  obtain ⟨b,σ',α',e,x',r,v,m'⟩:=p
  exact ⟨b,σ',α',e,x.trans x',r,v,m.trans m'⟩
theorem aZ.bind {c:af β} {f:β->ac->af pq} {y:Value} {s':Shared} (p:aZ K A c s α y s'):aZ K A (c.bind f) s α y s':=by
  obtain ⟨i,σ',e,fx⟩:=p
  exact ⟨i,σ',by rw [e]; rfl,fx⟩
theorem Runs.useL {t:Sem γ} {c:af β} {f:β->ac->af pq} {W:γ->Shared->Prop} {fC:Shared} {gi:AL} (yM:aD [] gi fC.heap α s.heap) (zD:Sm fC s) (H:Runs K Rel A t c s α) (hc:c.bind f ≠ .stuck) (tk:K.Tk s)
    (N:∀ b σ' α' y s',c=.ok b σ'->f b σ' ≠ .stuck->aD [] α s.heap α' s'.heap->R K.hb s'.heap σ' α'->Rel s'.heap α' b y->Sm s s'->K.Tk s'->W y s'):wpAny (model K.prog K.w) A t W (aZ K A (c.bind f) fC gi) s:=by
  have h1:c ≠ .stuck:=by rintro rfl; exact hc rfl
  refine wpAny_mono (cF (H h1 tk)) (fun y s' hp=>?_) fun e s' hx=>(hx.1.lift yM zD).bind
  obtain ⟨⟨b,σ',α',rfl,x,r,v,m⟩,tl⟩:=hp
  exact N b σ' α' y s' rfl hc x r v m (Kt.Tk.up tk tl)
theorem Runs.endL {t:Sem γ} {c:af β} {fC:Shared} {gi:AL} (yM:aD [] gi fC.heap α s.heap) (zD:Sm fC s) (H:Runs K Rel A t c s α) (hc:c ≠ .stuck) (tk:K.Tk s):wpAny (model K.prog K.w) A t (aQ K Rel c fC gi) (aZ K A c fC gi) s:=
  wpAny_mono (H hc tk) (fun _ _ h=>h.lift yM zD) fun _ _ h=>h.lift yM zD
theorem Runs.use {t:Sem γ} {c:af β} {f:β->ac->af pq} {W:γ->Shared->Prop} (H:Runs K Rel A t c s α) (hc:c.bind f ≠ .stuck) (tk:K.Tk s)
    (N:∀ b σ' α' y s',c=.ok b σ'->f b σ' ≠ .stuck->aD [] α s.heap α' s'.heap->R K.hb s'.heap σ' α'->Rel s'.heap α' b y->Sm s s'->K.Tk s'->W y s'):wpAny (model K.prog K.w) A t W (aZ K A (c.bind f) s α) s:=H.useL .refl (.refl s) hc tk N
theorem Runs.boolV {t:Sem Value} {c:af Bool} (H:Runs K dC A t c s α):Runs K VR A t (c.bind fun b σ=>.ok (.bool b) σ) s α:=by
  intro hc tk
  have h1:c ≠ .stuck:=by rintro rfl; exact hc rfl
  refine wpAny_mono (H h1 tk) (fun y s' hp=>?_) fun e s' hx=>hx.bind
  obtain ⟨b,σ',α',rfl,x,r,v,m⟩:=hp
  exact ⟨_,_,_,rfl,x,r,v.vr,m⟩
end
section
variable {K:Kt} {A:Around} {T:aL} {C:a8} {f:List (Str × NameKind)->Expr->Option X} {N:List (Str × NameKind)} {env:Env} {ρ:aw} {σ:ac} {s:Shared} {α:AL}
theorem jw {g:Str} (h:gb N g=true):∃ i:Nat,N[i]?=some (g,NameKind.globalImplicit):=by
  unfold gb at h
  obtain ⟨i,_,hi⟩:=fN (by simpa using h)
  exact ⟨i,hi⟩
theorem dA {g:Str} {bv:Value} {p:Pos} {Q X:Value->Shared->Prop} (c:Ctx K A T C) (hg:gb N g=true) (hbin:g ∈ T.bins) (hv:jn g=some bv) (hN:env.scope.names=N) (E:uS env) (r:R K.hb s.heap σ α) (h:Q bv s):wpAny (model K.prog K.w) A (eval (.Name g p) env) Q X s:=by
  obtain ⟨hm,v,hv1,hmb⟩:=c.bin _ hbin
  obtain ⟨j,hj⟩:=jw hg
  obtain rfl:=Option.some.inj (hv.symm.trans hv1)
  exact acr c.hK r E (hN ▸ hj) hm hmb h
theorem wQ {g:Str} {args:List Expr} {p pos:Pos} {i:Nat} {xs:X} (c:Ctx K A T C) (S:SE K A C f) (hi:T.fns[i]?=some g) (hg:gb N g=true) (hne:args ≠ []) (h:fH (f N) args=some xs)
    (hN:env.scope.names=N) (hn:aI K.hb env) (E:ag env ρ s.heap α) (r:R K.hb s.heap σ α) :
    Runs K VR A (eval (.Call (.Name g p) args [] pos) env) ((evs C xs ρ σ).bind fun vs σ=>C.call i vs σ) s α:=by
  intro hc tk
  obtain ⟨a,o,fd,hm,ho,hd,hcall⟩:=c.fn i g hi
  obtain ⟨j,hj⟩:=jw hg
  refine wpAny_Call_Name_kw (f9 c.hK r E.ok (by rw [hN]; exact hj) hm ?_)
  cases args with
  | nil=>exact absurd rfl hne
  | cons e es =>
    have H:=gd (pos:=pos) S h hN hn E r
    obtain ⟨a',b',ha',hb',_⟩:=eJ h
    rw [bq (S N e a' ha').1] at H ⊢
    refine Calls.callWith_function (o:=o) (fd:=fd) (Calls.evalArgs_plain (Runs.use H hc tk fun vs σ' α' us s' e1 hc' x' r' v' m' tk'=>?_))
    refine ⟨⟨r'.base _ _ ho,hd⟩,?_⟩
    rw [e1]
    exact (hcall vs us s' σ' α' r' v').endL x' m' hc' tk'
theorem ac1 {fz:Bool} {g:Str} {b:B1} (h:rU fz g=some b):jn g=some (mJ b):=
  (show ∀ p ∈ z6 fz,jn p.1=some (mJ p.2) from (by repeat (first | refine List.forall_mem_cons.mpr ⟨rfl,?_⟩ | exact fun _ h=>nomatch h))) _ (dY h)
theorem ac0 {g:Str} {t:Ty} (h:u0 g=some t):jn g=yT t:=
  (show ∀ p ∈ ac7,jn p.1=yT p.2 from (by repeat (first | refine List.forall_mem_cons.mpr ⟨rfl,?_⟩ | exact fun _ h=>nomatch h))) _ (dY h)
noncomputable def abb (b:B1):Bool:=
  match mJ b with
  | .none=>true
  | _=>false
theorem oH {fz:Bool} {g:Str} {b:B1} (h:rU fz g=some b):mJ b ≠ .none:=by
  have h:=(show ∀ p ∈ z6 fz,abb p.2=false from (by repeat (first | refine List.forall_mem_cons.mpr ⟨rfl,?_⟩ | exact fun _ h=>nomatch h))) _ (dY h)
  intro e
  unfold abb at h
  rw [e] at h
  contradiction
theorem abL {hd:Bool} {b:B1} {a:PV} {σ:ac} (h:kM hd b a σ ≠ .stuck):(uQ b=true->hd=false)/\kM hd b a σ=db b a σ:=by
  unfold kM at h ⊢
  cases hd with
  | false=>exact ⟨fun _=>rfl,rfl⟩
  | true =>
    cases hb:uQ b with
    | false=>exact ⟨fun q=>(by contradiction),rfl⟩
    | true=>rw [hb] at h; exact absurd rfl h
theorem ac2 {g:Str} {a:Expr} {p pos:Pos} {fz:Bool} {b:B1} {x:X} (c:Ctx K A T C) (S:SE K A C f) (hb:rU fz g=some b) (hg:gb N g=true) (hbin:g ∈ T.bins) (h:f N a=some x)
    (hN:env.scope.names=N) (hn:aI K.hb env) (E:ag env ρ s.heap α) (r:R K.hb s.heap σ α) :
    Runs K VR A (eval (.Call (.Name g p) [a] [] pos) env) ((ev C x ρ σ).bind fun v σ=>kM C.hd b v σ) s α:=by
  intro hc tk
  obtain ⟨hp,H⟩:=S N a x h
  have H:=(H env ρ σ s α hN hn E r).1
  refine wpAny_Call_Name_kw (dA c hg hbin (ac1 hb) hN E.ok r ?_)
  rw [bq hp]
  have fin:wpAny (model K.prog K.w) A (eval a env) (fun y s'=>wpAny (model K.prog K.w) A (call (mJ b) [y]) (aQ K VR ((ev C x ρ σ).bind fun v σ=>kM C.hd b v σ) s α) (aZ K A ((ev C x ρ σ).bind fun v σ=>kM C.hd b v σ) s α) s') (aZ K A ((ev C x ρ σ).bind fun v σ=>kM C.hd b v σ) s α) s:=by
    refine Runs.use H hc tk fun v σ' α' y s' e1 hc' x' r' v' m' tk'=>?_
    rw [e1]
    obtain ⟨z1,z2⟩:=abL hc'
    show wpAny _ _ _ (aQ K VR (kM C.hd b v σ') s α) (aZ K A (kM C.hd b v σ') s α) _
    rw [z2] at hc' ⊢
    exact (abK (oH hb) c.hA (fun q=>c.hd (z1 q)) r' v').endL x' m' hc' tk'
  cases b with
  | lenset=>exact absurd rfl (oH hb)
  | dict=>exact absurd rfl (oH hb)
  | len=>exact PySem.callWith_builtin1 fin
  | all=>exact PySem.callWith_builtin1 fin
  | list _=>exact PySem.callWith_type1 fin
  | tuple=>exact PySem.callWith_type1 fin
  | int=>exact PySem.callWith_type1 fin
  | str=>exact PySem.callWith_type1 fin
theorem ub {t:Str} {ty:Ty} {a:Expr} {p p2 pos:Pos} {x:X} (c:Ctx K A T C) (S:SE K A C f) (hb:u0 t=some ty) (hg:gb N "isinstance" = true) (hbin:("isinstance" : Str) ∈ T.bins)
    (hgt:gb N t=true) (hbt:t ∈ T.bins) (h:f N a=some x)
    (hN:env.scope.names=N) (hn:aI K.hb env) (E:ag env ρ s.heap α) (r:R K.hb s.heap σ α) :
    Runs K VR A (eval (.Call (.Name "isinstance" p) [a,.Name t p2] [] pos) env) ((ev C x ρ σ).bind fun v σ=>(fk v ty σ).bind fun b σ=>.ok (.bool b) σ) s α:=by
  intro hc tk
  obtain ⟨_,v2,hv2,_⟩:=c.bin _ hbt
  have hty:=(ac0 hb).symm.trans hv2
  obtain ⟨hp,H⟩:=S N a x h
  have H:=(H env ρ σ s α hN hn E r).1
  refine wpAny_Call_Name_kw (dA c hg hbin rfl hN E.ok r ?_)
  rw [bq hp]
  refine Calls.callWith_builtin rfl (Calls.evalArgs_plain (Calls.spliced_cons ?_))
  refine Runs.use H hc tk fun v σ' α' y s' e1 hc' x' r' v' m' tk'=>?_
  rw [e1]
  exact Calls.spliced_cons (dA c hgt hbt hv2 hN E.ok r' (Calls.spliced_nil ((v6 hty r' v').boolV.endL x' m' hc' tk')))
theorem qk {x:Str} {c:Nat} (h:mA T N x=some c):gb N x=true/\∃ q ∈ T.excs,q.1=x/\q.2.1=c:=by
  unfold mA at h
  refine aA h fun hg h=>⟨hg,?_⟩
  exact cr (M:=fun c=>∃ q ∈ T.excs,q.1=x/\q.2.1=c) h fun q hq=>⟨(x,q),dY hq,rfl,rfl⟩
theorem wa {t:Str} {sup:List Nat} {a:Expr} {p p2 pos:Pos} {x:X} (c:Ctx K A T C) (S:SE K A C f) (hsup:wK T N t=some sup) (hg:gb N "isinstance" = true) (hbin:("isinstance" : Str) ∈ T.bins)
    (h:f N a=some x) (hN:env.scope.names=N) (hn:aI K.hb env) (E:ag env ρ s.heap α) (r:R K.hb s.heap σ α) :
    Runs K VR A (eval (.Call (.Name "isinstance" p) [a,.Name t p2] [] pos) env) ((ev C x ρ σ).bind fun v σ=>(ra v sup (T.excs.map (·.2.1)) σ).bind fun b σ=>.ok (.bool b) σ) s α:=by
  intro hc tk
  have nm:∃ cv,((∃ q ∈ T.excs,cv=.ref q.2.1/\sup=gl T q.2.1)\/(cv=.type "ValueError" /\ sup=T.excs.map (·.2.1))) ∧
      ∀ {s':Shared} {σ':ac} {α':AL} {Q X:Value->Shared->Prop},R K.hb s'.heap σ' α'->Q cv s'->wpAny (model K.prog K.w) A (eval (.Name t p2) env) Q X s':=by
    unfold wK at hsup
    refine eQ hsup (fun c' hc' hsup=>?_) fun _ hsup=>aA hsup fun hb hsup=>?_
    · obtain rfl:=Option.some.inj hsup
      obtain ⟨hg',q,hq,rfl,rfl⟩:=qk hc'
      obtain ⟨j2,hj2⟩:=jw hg'
      obtain ⟨Fg,X,H⟩:=c.exc
      exact ⟨_,.inl ⟨q,hq,rfl,rfl⟩,fun r' k=>f9 c.hK r' E.ok (by rw [hN]; exact hj2) (H q hq).1.mg k⟩
    · · obtain rfl:=Option.some.inj hsup
        simp only [rd,Bool.and_eq_true,beq_iff_eq] at hb
        obtain ⟨rfl,hg',hb'⟩:=hb
        exact ⟨_,.inr ⟨rfl,rfl⟩,fun r' k=>dA c hg' (by simpa using hb') rfl hN E.ok r' k⟩
  obtain ⟨cv,hcv,nm⟩:=nm
  obtain ⟨hp,H⟩:=S N a x h
  have H:=(H env ρ σ s α hN hn E r).1
  refine wpAny_Call_Name_kw (dA c hg hbin rfl hN E.ok r ?_)
  rw [bq hp]
  refine Calls.callWith_builtin rfl (Calls.evalArgs_plain (Calls.spliced_cons ?_))
  refine Runs.use H hc tk fun v σ' α' y s' e1 hc' x' r' v' m' tk'=>?_
  rw [e1]
  exact Calls.spliced_cons (nm r' (Calls.spliced_nil ((v7 c hcv r' v').boolV.endL x' m' hc' tk')))
theorem z0 {o:Op} {l r':Expr} {op:Operator} {pos:Pos} {a b:X} (c:Ctx K A T C) (S:SE K A C f) (ho:aex op=some o) (h1:f N l=some a) (h2:f N r'=some b)
    (hN:env.scope.names=N) (hn:aI K.hb env) (E:ag env ρ s.heap α) (r:R K.hb s.heap σ α) :
    Runs K VR A (eval (.BinOp l op r' pos) env) (ev C (.bin o a b) ρ σ) s α:=by
  have hop:op=aeJ o:=by cases op <;> cases ho <;> rfl
  subst hop
  rw [arm_eval_BinOp]
  refine Runs.bind ((S N l a h1).2 env ρ σ s α hN hn E r).1 fun va σ₁ α₁ y s₁ e1 x1 r1 v1 m1=>?_
  refine Runs.bind (Runs.holding ((S N r' b h2).2 env ρ σ₁ s₁ α₁ hN hn (E.ext x1 .nil) r1).1) fun vb σ₂ aJ y2 au e2 x2 r2 v2 m2=>?_
  exact Runs.standAt (Runs.operate (xW c.hA r2 (v1.ext x2) v2))
theorem zX {o:Cm} {l r':Expr} {op:CmpOp} {pos:Pos} {a b:X} (c:Ctx K A T C) (S:SE K A C f) (ho:r8 op=some o) (h1:f N l=some a) (h2:f N r'=some b)
    (hN:env.scope.names=N) (hn:aI K.hb env) (E:ag env ρ s.heap α) (r:R K.hb s.heap σ α) :
    Runs K VR A (eval (.Compare l [op] [r'] pos) env) (ev C (.cmp a o b) ρ σ) s α/\Runs K d8 A (isTrue (.Compare l [op] [r'] pos) env (eval (.Compare l [op] [r'] pos) env)) (tst C (.cmp a o b) ρ σ) s α:=by
  have hop:op=fG o:=by cases op <;> cases ho <;> rfl
  subst hop
  obtain ⟨hp2,H2⟩:=S N r' b h2
  have hmk:markedBehindIn (fG o) r' (eval r' env)=eval r' env:=by unfold markedBehindIn; rw [py hp2]
  constructor
  · rw [arm_eval_Compare]
    refine Runs.bind ((S N l a h1).2 env ρ σ s α hN hn E r).1 fun va σ₁ α₁ y s₁ e1 x1 r1 v1 m1=>?_
    show Runs K VR A (do let rv <- holding [y] (markedBehindIn (fG o) r' (eval r' env)); standAt pos; operate [y,rv] (compareOp (fG o) y rv)) _ _ _
    rw [hmk]
    refine Runs.bind (Runs.holding (H2 env ρ σ₁ s₁ α₁ hN hn (E.ext x1 .nil) r1).1) fun vb σ₂ aJ y2 au e2 x2 r2 v2 m2=>Runs.standAt (Runs.operate ?_)
    exact (eu c.hK c.hA r2 (v1.ext x2) v2).boolV
  · rw [arm_isTrue_Compare]
    refine Runs.bind ((S N l a h1).2 env ρ σ s α hN hn E r).1 fun va σ₁ α₁ y s₁ e1 x1 r1 v1 m1=>?_
    show Runs K d8 A (do let rv <- holding [y] (markedBehindIn (fG o) r' (eval r' env)); standAt pos; let c <- operate [y,rv] (compareOp (fG o) y rv); holding [c] (truthy c)) _ _ _
    rw [hmk]
    refine Runs.bind (Runs.holding (H2 env ρ σ₁ s₁ α₁ hN hn (E.ext x1 .nil) r1).1) fun vb σ₂ aJ y2 au e2 x2 r2 v2 m2=>Runs.standAt ?_
    intro hc tk
    refine wpAny_bind (wpAny_operating (wpAny_mono (eu c.hK c.hA r2 (v1.ext x2) v2 hc tk) (fun y s'' hp=>?_) fun e s'' hx=>hx))
    obtain ⟨bb,fB,hB,e3,x3,r3,v3,m3⟩:=hp
    have:y=.bool bb:=v3
    subst this
    exact wpAny_holding (wpAny_truthy_bool ⟨bb,fB,hB,e3,x3,r3,rfl,m3⟩)
theorem Runs.release {vs ks:List Value} {β γ:Type} {Rel:Heap->AL->β->γ->Prop} {t:Sem γ} {c:af β}
    (H:Runs K Rel A t c s α):Runs K Rel A (do PySem.release vs ks; t) c s α:=
  fun h tk=>wpAny_bind (wpAny_release' (H h tk))
end
end Mine
namespace Mine
open PySem PyProof.Rows
section
variable {K:Kt} {A:Around} {T:aL} {C:a8} {f:List (Str × NameKind)->Expr->Option X} {N:List (Str × NameKind)} {env:Env} {ρ:aw} {σ:ac} {s:Shared} {α:AL}
theorem xT {o o2:Cm} {l r' r2':Expr} {op op2:CmpOp} {pos:Pos} {a b b2:X} (c:Ctx K A T C) (S:SE K A C f) (ho:r8 op=some o) (ho2:r8 op2=some o2) (h1:f N l=some a) (h2:f N r'=some b) (h3:f N r2'=some b2)
    (hN:env.scope.names=N) (hn:aI K.hb env) (E:ag env ρ s.heap α) (r:R K.hb s.heap σ α) :
    Runs K VR A (eval (.Compare l [op,op2] [r',r2'] pos) env) (ev C (.cmp2 a o b o2 b2) ρ σ) s α/\Runs K d8 A (isTrue (.Compare l [op,op2] [r',r2'] pos) env (eval (.Compare l [op,op2] [r',r2'] pos) env)) (tst C (.cmp2 a o b o2 b2) ρ σ) s α:=by
  have hop:op=fG o:=by cases op <;> cases ho <;> rfl
  subst hop
  have hop2:op2=fG o2:=by cases op2 <;> cases ho2 <;> rfl
  subst hop2
  obtain ⟨hp2,H2⟩:=S N r' b h2
  obtain ⟨hp3,H3⟩:=S N r2' b2 h3
  have hmk:markedBehindIn (fG o2) r2' (eval r2' env)=eval r2' env:=by unfold markedBehindIn; rw [py hp3]
  constructor
  · rw [arm_eval_Compare]
    refine Runs.bind ((S N l a h1).2 env ρ σ s α hN hn E r).1 fun va σ₁ α₁ y s₁ e1 x1 r1 v1 m1=>?_
    show Runs K VR A (do let rv <- holding [y] (eval r' env); standAt pos; let c <- holding [y,rv] (compareOp (fG o) y rv); release [y,rv] [c]; if <- holding [c,rv] (truthy c) then (do let rv' <- holding [rv] (markedBehindIn (fG o2) r2' (eval r2' env)); standAt pos; operate [rv,rv'] (compareOp (fG o2) rv rv')) else pure c) _ _ _
    rw [hmk]
    refine Runs.bind (Runs.holding (H2 env ρ σ₁ s₁ α₁ hN hn (E.ext x1 .nil) r1).1) fun vb σ₂ aJ y2 au e2 x2 r2 v2 m2=>Runs.standAt ?_
    refine Runs.bind (Runs.holding (eu c.hK c.hA r2 (v1.ext x2) v2)) fun bb σ₃ oP y3 cy e3 x3 r3 v3 m3=>Runs.release ?_
    have:y3=.bool bb:=v3
    subst this
    intro hc tk
    refine wpAny_bind (wpAny_holding (wpAny_truthy_bool ?_))
    cases bb with
    | false=>exact wpAny_pure ⟨_,_,_,rfl,.refl,r3,.bool _,.refl _⟩
    | true =>
      refine (Runs.bind (Runs.holding (H3 env ρ σ₃ cy oP hN hn (((E.ext x1 .nil).ext x2 .nil).ext x3 .nil) r3).1) fun vc uH lS y4 kO e4 x4 r4 v4 m4=>Runs.standAt (Runs.operate ?_)) hc tk
      exact (eu c.hK c.hA r4 ((v2.ext x3).ext x4) v4).boolV
  · rw [arm_isTrue_Compare]
    refine Runs.bind ((S N l a h1).2 env ρ σ s α hN hn E r).1 fun va σ₁ α₁ y s₁ e1 x1 r1 v1 m1=>?_
    show Runs K d8 A (do let rv <- holding [y] (eval r' env); standAt pos; let c <- holding [y,rv] (compareOp (fG o) y rv); release [y,rv] [c]; if <- holding [c,rv] (truthy c) then (do let rv' <- holding [rv] (markedBehindIn (fG o2) r2' (eval r2' env)); standAt pos; let c <- operate [rv,rv'] (compareOp (fG o2) rv rv'); holding [c] (truthy c)) else pure false) _ _ _
    rw [hmk]
    refine Runs.bind (Runs.holding (H2 env ρ σ₁ s₁ α₁ hN hn (E.ext x1 .nil) r1).1) fun vb σ₂ aJ y2 au e2 x2 r2 v2 m2=>Runs.standAt ?_
    refine Runs.bind (Runs.holding (eu c.hK c.hA r2 (v1.ext x2) v2)) fun bb σ₃ oP y3 cy e3 x3 r3 v3 m3=>Runs.release ?_
    have:y3=.bool bb:=v3
    subst this
    intro hc tk
    refine wpAny_bind (wpAny_holding (wpAny_truthy_bool ?_))
    cases bb with
    | false=>exact wpAny_pure ⟨_,_,_,rfl,.refl,r3,rfl,.refl _⟩
    | true =>
      refine (Runs.bind (Runs.holding (H3 env ρ σ₃ cy oP hN hn (((E.ext x1 .nil).ext x2 .nil).ext x3 .nil) r3).1) fun vc uH lS y4 kO e4 x4 r4 v4 m4=>Runs.standAt ?_) hc tk
      intro hc tk
      refine wpAny_bind (wpAny_operating (wpAny_mono (eu c.hK c.hA r4 ((v2.ext x3).ext x4) v4 hc tk) (fun y s'' hp=>?_) fun e s'' hx=>hx))
      obtain ⟨bb,fB,hB,e3,x3,r3,v3,m3⟩:=hp
      have:y=.bool bb:=v3
      subst this
      exact wpAny_holding (wpAny_truthy_bool ⟨bb,fB,hB,e3,x3,r3,rfl,m3⟩)
theorem zy {e:Expr} {pos:Pos} {x:X} (S:SE K A C f) (h1:f N e=some x)
    (hN:env.scope.names=N) (hn:aI K.hb env) (E:ag env ρ s.heap α) (r:R K.hb s.heap σ α) :
    Runs K VR A (eval (.UnaryOp .Not e pos) env) (ev C (.not x) ρ σ) s α/\Runs K d8 A (isTrue (.UnaryOp .Not e pos) env (eval (.UnaryOp .Not e pos) env)) (tst C (.not x) ρ σ) s α:=by
  have H:=(S N e x h1).2 env ρ σ s α hN hn E r
  constructor
  · rw [arm_eval_UnaryOp]
    refine Runs.bind H.1 fun v σ₁ α₁ y s₁ e1 x1 r1 v1 m1=>Runs.standAt (Runs.holding ?_)
    intro hc tk
    have h3:dJ v σ₁ ≠ .stuck:=by intro q; rw [q] at hc; exact hc rfl
    refine not_value (wpAny_mono (im r1 v1 h3 tk) (fun b s'' hp=>?_) fun e s'' hx=>hx.bind)
    obtain ⟨bb,fB,hB,e3,x3,r3,v3,m3⟩:=hp
    have:b=bb:=v3
    subst this
    exact ⟨.bool (!b),fB,hB,by simp [af.bind,e3],x3,r3,.bool _,m3⟩
  · rw [arm_isTrue_UnaryOp]
    refine Runs.bind H.2 fun b σ₁ α₁ y s₁ e1 x1 r1 v1 m1=>?_
    have:y=b:=v1
    subst this
    exact Runs.pure r1 rfl
theorem zA {e:Expr} {pos:Pos} {x:X} (S:SE K A C f) (h1:f N e=some x)
    (hN:env.scope.names=N) (hn:aI K.hb env) (E:ag env ρ s.heap α) (r:R K.hb s.heap σ α) :
    Runs K VR A (eval (.UnaryOp .USub e pos) env) (ev C (.neg x) ρ σ) s α:=by
  rw [arm_eval_UnaryOp]
  exact Runs.bind ((S N e x h1).2 env ρ σ s α hN hn E r).1 fun v σ₁ α₁ y s₁ e1 x1 r1 v1 m1=>Runs.standAt (Runs.holding (tD r1 v1))
theorem xM {es:List Expr} {pos:Pos} {xs:X} {fz:Bool} (S:SE K A C f) (h:fH (f N) es=some xs)
    (hN:env.scope.names=N) (hn:aI K.hb env) (E:ag env ρ s.heap α) (r:R K.hb s.heap σ α) :
    Runs K VR A (eval (.List es pos) env) (ev C (.lst fz xs) ρ σ) s α:=by
  rw [arm_eval_List]
  exact Runs.standAt (Runs.bind (gd S h hN hn E r) fun vs σ₁ α₁ us s₁ e1 x1 r1 v1 m1=>t9 r1 v1)
theorem yU {es:List Expr} {k:Nat} {pos:Pos} {xs:X} (S:SE K A C f) (h:fH (f N) es=some xs)
    (hN:env.scope.names=N) (hn:aI K.hb env) (E:ag env ρ s.heap α) (r:R K.hb s.heap σ α) :
    Runs K VR A (eval (.Tuple es k pos) env) (ev C (.tup xs) ρ σ) s α:=by
  rw [arm_eval_Tuple]
  exact Runs.standAt (Runs.bind (gd S h hN hn E r) fun vs σ₁ α₁ us s₁ e1 x1 r1 v1 m1=>sf r1 v1)
theorem zd {o i:Expr} {pos:Pos} {x y:X} (c:Ctx K A T C) (S:SE K A C f) (hns:∀ l u st p,i ≠ .Slice l u st p) (h1:f N o=some x) (h2:f N i=some y)
    (hN:env.scope.names=N) (hn:aI K.hb env) (E:ag env ρ s.heap α) (r:R K.hb s.heap σ α) :
    Runs K VR A (eval (.Subscript o i pos) env) (ev C (.sub x y) ρ σ) s α:=by
  rw [arm_eval_Subscript]
  refine Runs.bind ((S N o x h1).2 env ρ σ s α hN hn E r).1 fun va σ₁ α₁ y1 s₁ e1 x1 r1 v1 m1=>?_
  refine Runs.bind (Runs.holding ((S N i y h2).2 env ρ σ₁ s₁ α₁ hN hn (E.ext x1 .nil) r1).1) fun vb σ₂ aJ y2 au e2 x2 r2 v2 m2=>Runs.standAt ?_
  exact zc c.hA (fun l u p=>hns l u none p) r2 (v1.ext x2) v2
theorem jo {o:Expr} {m:Str} {whole:Sem Value} (h:eS o=true):attributeBase o m env whole=whole:=by
  cases o with
  | Call f a k p =>
    cases a with
    | nil=>contradiction
    | cons x r=>cases f <;> rfl
  | _=>rfl
theorem z9 {r:Nat} {a:Addr} {v:PV} {u:Value} {xs:List PV} (oI:R K.hb s.heap σ α) (ea:α.ix[r]?=some a) (hs:σ[r]?=some (.lst xs)) (hl:xs.length < am) (vu:VR s.heap α v u) {X:Value->Shared->Prop} :
    wpAny (model K.prog K.w) A (call (.builtin "list.append") [.ref a,u]) (aQ K VR (.ok .none (σ.set r (.lst (xs++[v])))) s α) X s:=by
  obtain ⟨ai,n,e1,w⟩:=oI.obj r _ a hs ea
  refine wpAny_list_append_plain ⟨n,e1⟩ (fun h' hl' sb=>?_) (by simp; rw [<- w.1]; exact bL (Nat.le_of_lt hl))
  obtain ⟨n',e'⟩:=hl'
  obtain ⟨r',x'⟩:=oI.set (m:=.lst (xs++[v])) ea (fun b o hb e=>(sb.2 b hb).trans e) e' fun x'=>⟨ai++[u],n',by rw [e']; simp,(w.snoc vu).ext x'⟩
  exact ⟨.none,_,α,rfl,x',r',.none,⟨rfl,rfl⟩⟩
end
end Mine
namespace Mine
open PySem PyProof.Rows
noncomputable def meT:Me->String
  | .get => "dict"
  | _ => "list"
noncomputable def zG:Me->String
  | .append => "list.append" | .extend => "list.extend" | .pop => "list.pop"
  | .get => "dict.get"
noncomputable def meN:Me->Str
  | .append => "append" | .extend => "extend" | .pop => "pop"
  | .get => "get"
theorem aaT {x:Str} {m:Me} (h:vV x=some m):x=meN m:=
  (show ∀ p ∈ adi,p.1=meN p.2 from (by repeat (first | refine List.forall_mem_cons.mpr ⟨rfl,?_⟩ | exact fun _ h=>nomatch h))) _ (dY h)
theorem zh {c:Nat} {x:Str} (h:PyData.strOk x=true) {a:Str} (ha:∀ d ∈ a.cps.toList,d ∈ x.cps.toList):PyData.strOk a=true:=by
  unfold PyData.strOk at h ⊢
  simp only [Array.all_eq_true'] at h ⊢
  intro d hd
  exact h d (by simpa using ha d (by simpa using hd))
section
variable {K:Kt} {A:Around} {s:Shared} {α:AL} {σ:ac}
theorem aK.eraseIdx {h:Heap}:∀ {xs:List PV} {vs:List Value} (k:Nat),aK h α xs vs->aK h α (xs.eraseIdx k) (vs.eraseIdx k)
  | [],vs,k,v=>by
    have:vs=[]:=List.eq_nil_of_length_eq_zero v.1.symm
    subst this; simpa using v
  | x::xs,vs,0,v=>by
    obtain ⟨u,us,rfl,v1,v2⟩:=v.inv_cons
    exact v2
  | x::xs,vs,k + 1,v=>by
    obtain ⟨u,us,rfl,v1,v2⟩:=v.inv_cons
    exact .cons v1 (v2.eraseIdx k)
theorem uZ {h:Heap} {a:Addr} {ai:Array Value} {n:Nat} {g:Array Value->Array Value} (e:h.get? a=some { cls:=.type "list",data:=.seq ai n }) :
    ∃ n',(h.update a (Obj.mapSeq g)).get? a=some { cls:=.type "list",data:=.seq (g ai) n' }:=by
  exact ⟨_,Heap.get?_update_self (Obj.mapSeq g) e rfl⟩
theorem uY {h:Heap} {a b:Addr} {g:Obj->Obj} (hb:b ≠ a):(h.update a g).get? b=h.get? b:=Heap.get?_update_ne h b a g hb
theorem adP {r:Nat} {a:Addr} {i:Int} {t:Tok} {v:PV} {xs:List PV} (oI:R K.hb s.heap σ α) (ea:α.ix[r]?=some a) (hs:σ[r]?=some (.lst xs)) (h0:0 <= i) (hl:xs.length <= am) (hv:xs[i.toNat]?=some v) {X:Value->Shared->Prop} :
    wpAny (model K.prog K.w) A (call (.builtin "list.pop") [.ref a,.int i t]) (aQ K VR (.ok v (σ.set r (.lst (xs.eraseIdx i.toNat)))) s α) X s:=by
  obtain ⟨ai,n,e1,w⟩:=oI.obj r _ a hs ea
  obtain ⟨u,hu,vu⟩:=w.get hv
  have hi:=(List.getElem?_eq_some_iff.mp hv).1
  have hl63:=mh hl
  have hlen:=w.1
  refine call_meets F.slot_list_pop ⟨_,e1,rfl⟩ F.entry_list_pop (F.args_list_pop_2 _ _) (MeetsSeq.list_pop_at a ai.toArray n i t i.toNat u ?_ ?_ (by simpa using hu) (by rw [List.size_toArray,<- w.1]; exact bL hl)) ⟨e1,?_⟩
  · unfold Builtin.List.listFitsIndex; simp; omega
  · rw [<- nD]; unfold cC; rw [if_pos h0,if_pos (by simp; omega)]
  · obtain ⟨n',e'⟩:=uZ (g:=fun xs=>xs.eraseIdxIfInBounds i.toNat) e1
    have e2:(ai.toArray.eraseIdxIfInBounds i.toNat)=(ai.eraseIdx i.toNat).toArray:=by
      simp
    rw [e2] at e'
    obtain ⟨r',x'⟩:=oI.set (m:=.lst (xs.eraseIdx i.toNat)) ea (fun b o hb e=>(uY hb).trans e) e' fun x'=>⟨_,n',e',(w.eraseIdx _).ext x'⟩
    exact ⟨v,_,α,rfl,x',r',vu.ext x',⟨rfl,rfl⟩⟩
theorem rJ {r:Nat} {a b:Addr} {xs ys:List PV} {vs:List Value} {m:Nat} {T:String} (hT:T = "tuple" \/ T = "list") (oI:R K.hb s.heap σ α) (ea:α.ix[r]?=some a) (hs:σ[r]?=some (.lst xs)) (hl:xs.length + ys.length <= am)
    (e2:s.heap.get? b=some { cls:=.type T,data:=.seq vs.toArray m }) (w2:aK s.heap α ys vs) {X:Value->Shared->Prop} :
    wpAny (model K.prog K.w) A (call (.builtin "list.extend") [.ref a,.ref b]) (aQ K VR (.ok .none (σ.set r (.lst (xs++ys)))) s α) X s:=by
  obtain ⟨ai,n,e1,w⟩:=oI.obj r _ a hs ea
  have hlen:=w.1
  have hlen2:=w2.1
  have hln:=bL hl
  have hll:=mh hl
  have door:¬(!ai.toArray.isEmpty && Builtin.List.listTooLong (ai.toArray.size + vs.toArray.size))=true:=by
    rw [List.size_toArray,List.size_toArray,<- hlen,<- hlen2]
    have:Builtin.List.listTooLong (xs.length + ys.length)=false:=by unfold Builtin.List.listTooLong; simpa using hln
    rw [this]; simp
  have fin:aQ K VR (.ok .none (σ.set r (.lst (xs++ys)))) s α .none { s with heap:=s.heap.update a (Obj.mapSeq fun x=>x++vs.toArray) }:=by
    obtain ⟨n',e'⟩:=uZ (g:=fun x=>x++vs.toArray) e1
    have e3:ai.toArray++vs.toArray=(ai++vs).toArray:=by simp
    simp only [e3] at e'
    obtain ⟨r',x'⟩:=oI.set (m:=.lst (xs++ys)) ea (fun b o hb e=>(uY hb).trans e) e' fun x'=>⟨_,n',e',(w.append w2).ext x'⟩
    exact ⟨.none,_,α,rfl,x',r',.none,⟨rfl,rfl⟩⟩
  rcases hT with rfl | rfl
  · exact call_meets F.slot_list_extend ⟨_,e1,rfl⟩ F.entry_list_extend (F.args_list_extend_2 _ _) (AutoSeq1.list_extend_list_tuple_0 a ai.toArray n b vs.toArray m door (by rw [List.size_toArray]; omega) (by rw [List.size_toArray,List.size_toArray]; omega)) ⟨e1,e2,fin⟩
  · exact call_meets F.slot_list_extend ⟨_,e1,rfl⟩ F.entry_list_extend (F.args_list_extend_2 _ _) (AutoSeq1.list_extend_list_list_0 a ai.toArray n b vs.toArray m door (by rw [List.size_toArray]; omega) (by rw [List.size_toArray,List.size_toArray]; omega)) ⟨e1,e2,fin⟩
theorem aaR {m:Me} {o v:PV} {x u:Value} (hK:K.Ok) (hA:dF A) (r:R K.hb s.heap σ α) (va:VR s.heap α o x) (vv:VR s.heap α v u):Runs K VR A (call (.builtin (zG m)) [x,u]) (kf m o [v] σ) s α:=by
  intro hc tk
  cases m with
  | append =>
    change cX o v σ ≠ .stuck at hc
    change wpAny _ _ _ (aQ K VR (cX o v σ) s α) (aZ K A (cX o v σ) s α) s
    unfold cX at hc ⊢
    split at hc
    · obtain ⟨a,rfl,ea⟩:=va.refE
      split at hc
      · rename_i hs
        split at hc
        · rename_i hl; rw [if_pos hl]; exact z9 r ea hs hl vv
        · exact absurd rfl hc
      · exact absurd rfl hc
    · exact absurd rfl hc
  | extend =>
    change dP o v σ ≠ .stuck at hc
    change wpAny _ _ _ (aQ K VR (dP o v σ) s α) (aZ K A (dP o v σ) s α) s
    unfold dP at hc ⊢
    split at hc
    · obtain ⟨a,rfl,ea⟩:=va.refE
      split at hc
      · rename_i hs
        split at hc
        · obtain ⟨b,vs,n,rfl,e1,_,w⟩:=vv.tupE
          split at hc
          · rename_i hl; rw [if_pos hl]; exact rJ (.inl rfl) r ea hs hl e1 w
          · exact absurd rfl hc
        · obtain ⟨b,vs,n,rfl,e1,_,w⟩:=vv.flE
          split at hc
          · rename_i hl; rw [if_pos hl]; exact rJ (.inr rfl) r ea hs hl e1 w
          · exact absurd rfl hc
        · exact absurd rfl hc
      · exact absurd rfl hc
    · exact absurd rfl hc
  | pop =>
    change pO o v σ ≠ .stuck at hc
    change wpAny _ _ _ (aQ K VR (pO o v σ) s α) (aZ K A (pO o v σ) s α) s
    unfold pO at hc ⊢
    split at hc
    · obtain ⟨a,rfl,ea⟩:=va.refE
      split at hc
      · rename_i hs
        split at hc
        · cases vv
          split at hc
          · rename_i hl; rw [if_pos hl]
            split at hc
            · rename_i w hw; exact adP r ea hs hl.1 hl.2 hw
            · exact absurd rfl hc
          · exact absurd rfl hc
        · exact absurd rfl hc
      · exact absurd rfl hc
    · exact absurd rfl hc
  | get =>
    change pU o v σ ≠ .stuck at hc
    change wpAny _ _ _ (aQ K VR (pU o v σ) s α) (aZ K A (pU o v σ) s α) s
    unfold pU at hc ⊢
    split at hc
    · obtain ⟨a,rfl,ea⟩:=va.refE
      split at hc
      · rename_i hs
        split at hc
        · obtain ⟨_,rfl,_⟩:=vv.strE; exact ae5 hK r hs ea
        · exact absurd rfl hc
      · rename_i hs
        split at hc
        · rename_i k hk; exact ae6 hK hA r hs ea hk vv
        · exact absurd rfl hc
      · exact absurd rfl hc
    · exact absurd rfl hc
theorem acv (m:Me):PlainAttrs (meT m)/\Slot (meT m) (meN m) (zG m)/\typeOf (.builtin (zG m))=pure (.type "method_descriptor"):=by
  cases m
  · exact ⟨F.plainAttrs_list,F.slot_list_append,F.type_list_append⟩
  · exact ⟨F.plainAttrs_list,F.slot_list_extend,F.type_list_extend⟩
  · exact ⟨F.plainAttrs_list,F.slot_list_pop,F.type_list_pop⟩
  · exact ⟨F.plainAttrs_dict,F.slot_dict_get,F.type_dict_get⟩
theorem yq {m:Me} {o:PV} {x:Value} (r:R K.hb s.heap σ α) (va:VR s.heap α o x) (h:pT m o σ=true):s.TypeIs x (meT m)/\∀ a,x=.ref a->∃ ob,s.heap.get? a=some ob/\ob.dict=none:=by
  have lst:∀ xs,aY σ o=some xs->s.TypeIs x "list" /\ ∀ a,x=.ref a->∃ ob,s.heap.get? a=some ob/\ob.dict=none:=fun xs e=>by
    obtain ⟨l,vs,n,rfl,e1,_⟩:=fb r va e
    exact ⟨⟨_,e1,rfl⟩,fun a ha=>by cases ha; exact ⟨_,e1,rfl⟩⟩
  have mutb:fm o σ=true->∃ xs,aY σ o=some xs:=fun h=>by
    unfold fm at h
    split at h
    · split at h
      · rename_i xs hs; exact ⟨xs,by simp [aY,hs]⟩
      · contradiction
    · contradiction
  have txt:afJ o=true->s.TypeIs x "str" /\ ∀ a,x=.ref a->∃ ob,s.heap.get? a=some ob/\ob.dict=none:=fun h=>by
    cases o with
    | str z=>obtain ⟨_,rfl,_⟩:=va.strE; exact ⟨typeIs_str _ _ _,fun a ha=>by cases ha⟩
    | _=>contradiction
  cases m with
  | append=>obtain ⟨xs,e⟩:=mutb h; exact lst xs e
  | extend=>obtain ⟨xs,e⟩:=mutb h; exact lst xs e
  | pop=>obtain ⟨xs,e⟩:=mutb h; exact lst xs e
  | get =>
    change rb o σ=true at h
    unfold rb at h
    split at h
    · obtain ⟨a,rfl,ea⟩:=va.refE
      split at h
      · rename_i hs
        obtain ⟨kvs,h1,_⟩:=o9 r hs ea
        exact ⟨h1.typeIs,h1.mapOf.noDict⟩
      · rename_i hs
        obtain ⟨xs,h1,_⟩:=pe r hs ea
        exact ⟨h1.typeIs,dictOfH_noDict h1⟩
      · contradiction
    · contradiction
end
section
variable {K:Kt} {A:Around} {T:aL} {C:a8} {f:List (Str × NameKind)->Expr->Option X} {N:List (Str × NameKind)} {env:Env} {ρ:aw} {σ:ac} {s:Shared} {α:AL}
theorem aaU {m:Me} {mn:Str} {o a:Expr} {apos pos:Pos} {x y:X} (c:Ctx K A T C) (S:SE K A C f) (hm:vV mn=some m) (hline:(apos.endLine == pos.line)=true) (hn0:eS o=true) (h1:f N o=some x) (h2:f N a=some y)
    (hN:env.scope.names=N) (hn:aI K.hb env) (E:ag env ρ s.heap α) (r:R K.hb s.heap σ α) :
    Runs K VR A (eval (.Call (.Attribute o mn apos) [a] [] pos) env) (ev C (.me m x (.cons y .nil)) ρ σ) s α:=by
  rw [aaT hm,adu]
  intro hc tk
  obtain ⟨hp,H2⟩:=S N a y h2
  refine Call_method1 (jo hn0) (bq hp) hline ?_
  refine Runs.use ((S N o x h1).2 env ρ σ s α hN hn E r).1 hc tk fun va σ₁ α₁ y1 s₁ e1 hc1 x1 r1 v1 m1 tk1=>?_
  rw [e1]
  split at hc1
  · rename_i hok
    obtain ⟨q1,q2,q3⟩:=acv m
    obtain ⟨q4,q5⟩:=yq r1 v1 hok
    refine ⟨meT m,zG m,q1,q2,q3,q4,q5,?_⟩
    refine Calls.callWith_builtin (by cases m <;> rfl) (Calls.evalArgs_plain (Calls.spliced_cons ?_))
    have ee:∀ {σ:ac},((evs C (.cons y .nil) ρ σ).bind fun vs σ=>kf m va vs σ)=(ev C y ρ σ).bind fun v σ=>kf m va [v] σ:=fun {σ}=>by
      show ((ev C y ρ σ).bind fun v σ=>.ok [v] σ).bind _=_
      cases ev C y ρ σ <;> rfl
    rw [wR,if_pos hok,ee]
    rw [ee] at hc1
    refine Runs.useL x1 m1 (f:=fun v σ=>kf m va [v] σ) (H2 env ρ σ₁ s₁ α₁ hN hn (E.ext x1 .nil) r1).1 hc1 tk1 fun pv σ₂ aJ u au e2 hc2 x2 r2 v2 m2 tk2=>Calls.spliced_nil ?_
    show wpAny _ _ _ (aQ K VR ((ev C y ρ σ₁).bind fun v σ=>kf m va [v] σ) _ _) (aZ K A ((ev C y ρ σ₁).bind fun v σ=>kf m va [v] σ) _ _) _
    rw [e2]
    exact (aaR c.hK c.hA r2 (v1.ext x2) v2).endL (x1.trans x2) (m1.trans m2) hc2 tk2
  · exact absurd rfl hc1
end
end Mine
namespace Mine
open PySem PyProof.Rows
theorem aK.drop {h:Heap} {α:AL}:∀ {xs:List PV} {vs:List Value} (k:Nat),aK h α xs vs->aK h α (xs.drop k) (vs.drop k)
  | _,_,0,v=>v
  | [],vs,k + 1,v=>by
    have:vs=[]:=List.eq_nil_of_length_eq_zero v.1.symm
    subst this; exact .nil
  | x::xs,vs,k + 1,v=>by
    obtain ⟨u,us,rfl,v1,v2⟩:=v.inv_cons
    exact v2.drop k
theorem aK.take {h:Heap} {α:AL}:∀ {xs:List PV} {vs:List Value} (k:Nat),aK h α xs vs->aK h α (xs.take k) (vs.take k)
  | _,_,0,v=>.nil
  | [],vs,k + 1,v=>by
    have:vs=[]:=List.eq_nil_of_length_eq_zero v.1.symm
    subst this; exact .nil
  | x::xs,vs,k + 1,v=>by
    obtain ⟨u,us,rfl,v1,v2⟩:=v.inv_cons
    exact .cons v1 (v2.take k)
section
variable {K:Kt} {A:Around} {s:Shared} {α:AL} {σ:ac}
theorem yl {p:PV} {v:Value} {k:Option Int} (h:gr p=some k) (r:VR s.heap α p v):IsPart v k:=by
  cases p with
  | none=>obtain rfl:=Option.some.inj h; obtain rfl:=r.noneE; exact .none
  | int i=>obtain rfl:=Option.some.inj h; obtain ⟨_,rfl⟩:=r.intE; exact .int _ _
  | _=>contradiction
theorem aK.slice {h:Heap} {xs:List PV} {vs:List Value} (v:aK h α xs vs) (lo hi:Option Int):aK h α (bo xs lo hi) (bo vs lo hi):=by
  unfold bo
  rw [v.1]
  exact (v.drop _).take _
theorem zv {vs:List Value} {lo hi:Option Int}:slicePick vs.toArray lo hi none=(bo vs lo hi).toArray:=by
  rw [slicePick_plain]; simp [bo]
noncomputable def kT (lo:Option Int) (n:Nat):Nat:=lo.elim 0 (clipAt n)
noncomputable def ss (hi:Option Int) (n:Nat):Nat:=hi.elim n (clipAt n)
theorem aeo {n:Nat} {i:Int}:clipAt n i <= n:=Int.toNat_le.mpr (Int.max_le.mpr ⟨Int.natCast_nonneg n,Int.min_le_right _ _⟩)
theorem aaw {β:Type} (xs:List β) (lo hi:Option Int):(bo xs lo hi).length <= xs.length:=by
  unfold bo
  exact Nat.le_trans (List.length_take_le' _ _) (by rw [List.length_drop]; exact Nat.sub_le _ _)
theorem zg (x:Str) (lo hi:Option Int):Builtin.Str.strSliceIndices lo hi 1 x.length=(List.range (ss hi x.length - kT lo x.length)).map (kT lo x.length + ·):=by
  rw [<- sliceRange_one]
  unfold Builtin.Str.strSliceIndices kT ss
  have h1:(1:Int) > 0:=by (decide)
  simp only [h1,if_true]
  cases lo <;> cases hi <;> simp only [Option.elim,clipAt_cast] <;> rfl
theorem xq {x:Str} {t:Tok} {l u:Option (Int × Tok)} {Q:Value->Shared->Prop} (hx:x.length <= am) (hQ:∀ t' k,Q (.str (eN x (l.map (·.1)) (u.map (·.1))) t') { s with toks:=k }):(sliceMade x t l u none).post Q s:=by
  have e1:slicePicked x l u none=(List.range (ss (u.map (·.1)) x.length - kT (l.map (·.1)) x.length)).map (kT (l.map (·.1)) x.length + ·):=zg x _ _
  have e2:(slicePicked x l u none).filterMap (x.cps[·]?)=bo x.cps.toList (l.map (·.1)) (u.map (·.1)):=by
    rw [e1,pick_run]
    show (x.cps.toList.drop (kT _ x.length)).take _=(x.cps.toList.drop (kT _ x.cps.toList.length)).take _
    rw [show x.cps.toList.length=x.length from by simp [Str.length]]
    rfl
  unfold sliceMade
  refine post_val_or_str ?_
  have e3:(if ((Option.map (fun (q:Int × Tok)=>q.1) none).getD 1 == 1 && (slicePicked x l u none).length == x.length)=true then x else ⟨((slicePicked x l u none).filterMap (x.cps[·]?)).toArray⟩)=eN x (l.map (·.1)) (u.map (·.1)):=by
    split
    · rename_i hc
      simp only [Bool.and_eq_true,beq_iff_eq] at hc
      have hl:=hc.2
      rw [e1,List.length_map,List.length_range] at hl
      have hz:bo x.cps.toList (l.map (·.1)) (u.map (·.1))=x.cps.toList:=by
        have hn:x.cps.toList.length=x.length:=by simp [Str.length]
        have hle:ss (u.map (·.1)) x.length <= x.length:=by
          unfold ss
          cases u with
          | none=>exact Nat.le_refl _
          | some q=>exact aeo
        show (x.cps.toList.drop (kT _ x.cps.toList.length)).take (ss _ x.cps.toList.length - kT _ x.cps.toList.length)=_
        rw [hn,hl]
        by_cases h0:x.length=0
        · have:x.cps.toList=[]:=List.eq_nil_of_length_eq_zero (hn.trans h0)
          rw [this]; simp
        · have z:kT (l.map (·.1)) x.length=0:=by
            have h3:=Nat.le_of_lt (Nat.lt_of_sub_ne_zero (hl ▸ h0))
            rw [(Nat.sub_eq_iff_eq_add h3).mp hl] at hle
            exact Nat.le_zero.mp (Nat.le_of_add_le_add_left hle)
          rw [z,List.drop_zero,<- hn,List.take_length]
      unfold eN
      rw [hz]
    · unfold eN; rw [e2]
  rw [e3]
  refine ⟨?_,hQ⟩
  show (bo x.cps.toList _ _).toArray.size <= sizeLine
  rw [List.size_toArray]
  exact Nat.le_trans (aaw _ _ _) (bL (by simpa [Str.length] using hx))
theorem xl {x:Str} {lo hi:Option Int} (h:PyData.strOk x=true):PyData.strOk (eN x lo hi)=true:=by
  refine zh (c:=0) h fun d hd=>?_
  have:d ∈ bo x.cps.toList lo hi:=by simpa [eN] using hd
  unfold bo at this
  exact List.mem_of_mem_drop (List.mem_of_mem_take this)
theorem vL {v:Value} {k:Option Int} (p:IsPart v k):∃ q:Option (Int × Tok),v=partValue q/\q.map (·.1)=k:=by
  cases p with
  | none=>exact ⟨none,rfl,rfl⟩
  | int i t=>exact ⟨some (i,t),rfl,rfl⟩
noncomputable def d9 (s:Shared) (y z:Value):Shared:={ s with heap:=s.heap.push { cls:=.type "slice",data:=.fields #[y,z,.none] } }
section
variable {a v:PV} {lo hi:Option Int} {x y z:Value} {value:Expr} {l u:Option Expr} {p:Pos} {E:Value->Shared->Prop}
theorem lU {b:Addr} {o:Obj} (e:s.heap.get? b=some o):(d9 s y z).heap.get? b=some o:=Heap.get?_push_of_some _ e
theorem vE {xs:List PV} (r:R K.hb s.heap σ α) (va:VR s.heap α a x) (pb:IsPart y lo) (pc:IsPart z hi) (e:aY σ a=some xs) (hl:xs.length <= am) :
    wpAny (model K.prog K.w) A (subscriptTail value (.Slice l u none p) x (.ref s.heap.objs.size)) (aQ K VR (.ok (.fl (bo xs lo hi)) σ) (d9 s y z) α) E (d9 s y z):=by
  obtain ⟨ad,vs,n,rfl,e1,w⟩:=fb r va e
  have k:∀ b o,s.heap.get? b=some o->(d9 s y z).heap.get? b=some o:=fun _ _=>lU
  have hL:(d9 s y z).heap.IsList ad vs.toArray:=⟨_,k _ _ e1,rfl,n,rfl⟩
  refine tail_any hL.typeIs slot_list_getitem.lookup (wpAny_getItem_list_slice hL (Heap.IsSliceOf.new ..) pb pc .none (by simp) ?_ (by rw [List.size_toArray,<- w.1]; exact bL hl)) rfl
  rw [zv]
  exact aQ.fl (r.keeps k) ((w.ext (.keeps (F:=[]) k)).slice lo hi)
theorem xr {w:Str} (r:R K.hb s.heap σ α) (va:VR s.heap α (.str w) x) (pb:IsPart y lo) (pc:IsPart z hi) (hl:w.length <= am) :
    wpAny (model K.prog K.w) A (subscriptTail value (.Slice l u none p) x (.ref s.heap.objs.size)) (aQ K VR (.ok (.str (eN w lo hi)) σ) (d9 s y z) α) E (d9 s y z):=by
  obtain ⟨t,rfl,hw⟩:=va.strE
  obtain ⟨q1,rfl,z1⟩:=vL pb
  obtain ⟨q2,rfl,z2⟩:=vL pc
  refine tail_any (typeIs_str _ w _) F.slot_str_getitem.lookup (wpAny_getItem_str_slice (l:=q1) (u:=q2) (st:=none) ⟨_,Heap.get?_push_size _ rfl,rfl,rfl⟩ rfl (xq hl fun t' tk'=>?_)) rfl
  rw [z1,z2]
  exact ⟨_,σ,α,rfl,.refl,r.keeps fun _ _=>lU,.str _ _ (xl hw),⟨rfl,rfl⟩⟩
theorem aaz (h:slV σ a lo hi=some v) (r:R K.hb s.heap σ α) (va:VR s.heap α a x) (pb:IsPart y lo) (pc:IsPart z hi) :
    wpAny (model K.prog K.w) A (subscriptTail value (.Slice l u none p) x (.ref s.heap.objs.size)) (aQ K VR (.ok v σ) (d9 s y z) α) E (d9 s y z):=by
  have gen:((aY σ a).bind fun xs=>if xs.length <= am then some (PV.fl (bo xs lo hi)) else none)=some v->wpAny (model K.prog K.w) A (subscriptTail value (.Slice l u none p) x (.ref s.heap.objs.size)) (aQ K VR (.ok v σ) (d9 s y z) α) E (d9 s y z):=fun h =>
    aE h fun xs e h=>uO h fun hl h=>Option.some.inj h ▸ vE r va pb pc e hl
  cases a with
  | str w=>exact uO h fun hl h=>Option.some.inj h ▸ xr r va pb pc hl
  | _=>exact gen h
end
theorem vB {value:Expr} {l u:Option Expr} {p:Pos} {a b c:PV} {x y z:Value} (r:R K.hb s.heap σ α) (va:VR s.heap α a x) (vb:VR s.heap α b y) (vc:VR s.heap α c z) :
    Runs K VR A (subscriptTail value (.Slice l u none p) x (.ref s.heap.objs.size)) (fJ a b c σ) (d9 s y z) α:=by
  intro hc tk
  cases h:(gr b).bind fun lo=>(gr c).bind fun hi=>slV σ a lo hi with
  | none=>unfold fJ at hc; rw [h] at hc; exact absurd rfl hc
  | some v =>
    unfold fJ
    rw [h]
    exact aE h fun lo h1 h=>aE h fun hi h2 h=>aaz h r va (yl h1 vb) (yl h2 vc)
theorem zF {a b:PV} {x y:Value} (hA:dF A) (hh:A.handled=none) (r:R K.hb s.heap σ α) (va:VR s.heap α a x) (vb:VR s.heap α b y):Runs K VR A (call (.builtin "min") [x,y]) (oZ a b σ) s α:=by
  intro hc tk
  cases a with
  | int i =>
    cases b with
    | int j =>
      obtain ⟨_,rfl⟩:=va.intE; obtain ⟨_,rfl⟩:=vb.intE
      refine min_two_ints hh fun h' tk k=>?_
      have:∀ {q:PV} {w:Value},q=.int (min i j)->VR h' α q w->aQ K VR (oZ (.int i) (.int j) σ) s α w { s with heap:=h',toks:=tk }:=fun {q w} e v=>⟨q,σ,α,by rw [e]; rfl,.keeps k,r.keeps k,v,⟨rfl,rfl⟩⟩
      split
      · rename_i h; exact this (by congr 1; omega) (.int j _)
      · rename_i h; exact this (by congr 1; omega) (.int i _)
    | _=>exact absurd rfl hc
  | _=>exact absurd rfl hc
end
section
variable {K:Kt} {A:Around} {T:aL} {C:a8} {f:List (Str × NameKind)->Expr->Option X} {N:List (Str × NameKind)} {env:Env} {ρ:aw} {σ:ac} {s:Shared} {α:AL}
theorem qR {o:Option Expr} {x:X} (S:SE K A C f) (h:qD (f N) o=some x) (hN:env.scope.names=N) (hn:aI K.hb env) (E:ag env ρ s.heap α) (r:R K.hb s.heap σ α) :
    Runs K VR A (valueOrNone (evalOpt o env)) (ev C x ρ σ) s α:=by
  cases o with
  | none=>obtain rfl:=Option.some.inj h; exact Runs.pure r .none
  | some e=>exact ((S N e x h).2 env ρ σ s α hN hn E r).1
theorem vD {o:Expr} {lo hi:Option Expr} {p pos:Pos} {x y z:X} (S:SE K A C f) (h1:f N o=some x) (h2:qD (f N) lo=some y) (h3:qD (f N) hi=some z)
    (hN:env.scope.names=N) (hn:aI K.hb env) (E:ag env ρ s.heap α) (r:R K.hb s.heap σ α) :
    Runs K VR A (eval (.Subscript o (.Slice lo hi none p) pos) env) (ev C (.slice x y z) ρ σ) s α:=by
  rw [wM,arm_eval_Subscript]
  refine Runs.bind ((S N o x h1).2 env ρ σ s α hN hn E r).1 fun va σ₁ α₁ u1 s₁ e1 x1 r1 v1 m1=>?_
  rw [arm_eval_Slice]
  intro hc tk
  refine wpAny_bind (wpAny_holding (wpAny_bind ?_))
  refine Runs.use (qR S h2 hN hn (E.ext x1 .nil) r1) hc tk fun vb σ₂ aJ u2 au e2 hc2 x2 r2 v2 m2 tk2=>?_
  refine wpAny_bind (wpAny_holding ?_)
  rw [e2]
  show wpAny _ _ _ _ (aZ K A ((ev C z ρ σ₂).bind fun b σ=>fJ va vb b σ) _ _) _
  refine Runs.useL x2 m2 (qR S h3 hN hn ((E.ext x1 .nil).ext x2 .nil) r2) hc2 tk2 fun vc σ₃ oP u3 cy e3 hc3 x3 r3 v3 m3 tk3=>?_
  refine wpAny_bind (wpAny_holding (wpAny_pure ?_))
  refine wpAny_newObj_type ?_ (by size_fits)
  refine wpAny_bind (wpAny_standAt ?_)
  show wpAny _ _ _ (aQ K VR ((ev C z ρ σ₂).bind _) _ _) (aZ K A ((ev C z ρ σ₂).bind _) _ _) _
  rw [e3]
  have mm:=m2.trans m3
  exact (vB (value:=o) (l:=lo) (u:=hi) (p:=p) r3 ((v1.ext x2).ext x3) (v2.ext x3) v3).endL ((x2.trans x3).trans (.keeps fun _ _=>lU)) ⟨mm.gens,mm.os⟩ hc3 tk3
theorem xH {a b:Expr} {p pos:Pos} {x y:X} (c:Ctx K A T C) (S:SE K A C f) (hg:gb N "min" = true) (hbin:("min" : Str) ∈ T.bins) (h1:f N a=some x) (h2:f N b=some y)
    (hN:env.scope.names=N) (hn:aI K.hb env) (E:ag env ρ s.heap α) (r:R K.hb s.heap σ α) :
    Runs K VR A (eval (.Call (.Name "min" p) [a,b] [] pos) env) (ev C (.min2 x y) ρ σ) s α:=by
  rw [yz]
  cases hhd:C.hd with
  | true=>exact fun hc=>absurd rfl hc
  | false =>
  simp only [cond_false]
  intro hc tk
  obtain ⟨hp1,H1⟩:=S N a x h1
  obtain ⟨hp2,H2⟩:=S N b y h2
  refine wpAny_Call_Name_kw (dA c hg hbin rfl hN E.ok r ?_)
  rw [bq hp1,bq hp2]
  refine Calls.callWith_builtin rfl (Calls.evalArgs_plain (Calls.spliced_cons ?_))
  refine Runs.use (H1 env ρ σ s α hN hn E r).1 hc tk fun v1 σ₁ α₁ u1 s₁ e1 hc1 x1 r1 w1 m1 tk1=>?_
  rw [e1]
  refine Calls.spliced_cons ?_
  show wpAny _ _ _ _ (aZ K A ((ev C y ρ σ₁).bind fun y σ=>oZ v1 y σ) _ _) _
  refine Runs.useL x1 m1 (H2 env ρ σ₁ s₁ α₁ hN hn (E.ext x1 .nil) r1).1 hc1 tk1 fun v2 σ₂ aJ u2 au e2 hc2 x2 r2 w2 m2 tk2=>Calls.spliced_nil ?_
  show wpAny _ _ _ (aQ K VR ((ev C y ρ σ₁).bind _) _ _) (aZ K A ((ev C y ρ σ₁).bind _) _ _) _
  rw [e2]
  exact (zF c.hA (c.hd hhd) r2 (w1.ext x2) w2).endL (x1.trans x2) (m1.trans m2) hc2 tk2
theorem ua {a:Expr} {p p2 pos pos2:Pos} {x:X} (c:Ctx K A T C) (S:SE K A C f) (hg:gb N "len" = true) (hbin:("len" : Str) ∈ T.bins) (hg2:gb N "set" = true) (hbin2:("set" : Str) ∈ T.bins) (h:f N a=some x)
    (hN:env.scope.names=N) (hn:aI K.hb env) (E:ag env ρ s.heap α) (r:R K.hb s.heap σ α) :
    Runs K VR A (eval (.Call (.Name "len" p) [.Call (.Name "set" p2) [a] [] pos2] [] pos) env) (ev C (.b1 .lenset x) ρ σ) s α:=by
  rw [adv]
  intro hc tk
  obtain ⟨hp,H⟩:=S N a x h
  refine wpAny_Call_Name_kw (dA c hg hbin rfl hN E.ok r ?_)
  rw [bq (e:=.Call (.Name "set" p2) [a] [] pos2) rfl]
  refine PySem.callWith_builtin1 ?_
  refine wpAny_Call_Name_kw (dA c hg2 hbin2 rfl hN E.ok r ?_)
  rw [bq hp]
  refine PySem.callWith_type1 ?_
  refine Runs.use (H env ρ σ s α hN hn E r).1 hc tk fun v1 σ₁ α₁ u1 s₁ e1 hc1 x1 r1 w1 m1 tk1=>?_
  rw [e1]
  have q:db .lenset v1 σ₁=match (a5 σ₁ v1).bind dj with
      | some l=>if l.length <= 1000 then .ok (.int (cm l).length) σ₁ else .stuck
      | none=>.stuck:=by cases v1 <;> rfl
  obtain ⟨z1,z2⟩:=abL hc1
  have hhd:=z1 rfl
  show wpAny _ _ _ (fun v s₁=>wpAny _ _ _ (aQ K VR (kM C.hd .lenset v1 σ₁) s α) (aZ K A (kM C.hd .lenset v1 σ₁) s α) s₁) _ _
  rw [z2,q] at hc1 ⊢
  split at hc1
  · rename_i l hl
    split at hc1
    · rename_i hn2
      rw [if_pos hn2]
      refine zK c.hA (c.hd hhd) r1 w1 hl hn2 fun D h' tk k hlen=>hlen _ _ fun t tk'=>?_
      exact ⟨_,σ₁,α₁,rfl,x1.trans (.keeps k),r1.keeps k,.int _ _,⟨m1.gens,m1.os⟩⟩
    · exact absurd rfl hc1
  · exact absurd rfl hc1
end
end Mine
namespace Mine
open PySem PyProof.Rows
section
variable {K:Kt} {A:Around} {T:aL} {C:a8} {f:List (Str × NameKind)->Expr->Option X} {N:List (Str × NameKind)} {env:Env} {ρ:aw} {σ:ac} {s:Shared} {α:AL}
theorem nG {es:List Expr} {xs:X} {pos:Pos} (S:SE K A C f) (h:fH (f N) es=some xs):(backTo pos (starEach es env)).all (fun x=>!x.1)=true/\(backTo pos (starEach es env)).any (·.1)=false:=by
  have:∀ {es:List Expr} {xs:X},fH (f N) es=some xs->∀ x ∈ starEach es env,x.1=false:=by
    intro es
    induction es with
    | nil=>intro xs h x hx; contradiction
    | cons e es ih =>
      intro xs h x hx
      obtain ⟨a,b,ha,hb,_⟩:=eJ h
      rw [bq (S N e a ha).1] at hx
      rcases List.mem_cons.mp hx with q | q
      · rw [q]
      · exact ih hb x q
  have key:∀ x ∈ backTo pos (starEach es env),x.1=false:=by
    intro x hx
    unfold backTo at hx
    first
      | (obtain ⟨y,hy,rfl⟩:=List.mem_map.mp hx; exact this h y hy)
      | (split at hx <;> first | (obtain ⟨y,hy,rfl⟩:=List.mem_map.mp hx; exact this h y hy) | exact this h x hx)
  exact ⟨List.all_eq_true.mpr fun x hx=>by rw [key x hx]; rfl,List.any_eq_false.mpr fun x hx=>by rw [key x hx]; simp⟩
theorem rX {F:Value} {es:List Expr} {pos:Pos} {Q:Args->Shared->Prop} {E:Value->Shared->Prop} (h:wpAny (model K.prog K.w) A (spliced (backTo pos (starEach es env))) (fun vs s₁=>Q ⟨vs,[]⟩ s₁) E s)
    (pl:(backTo pos (starEach es env)).any (·.1)=false):wpAny (model K.prog K.w) A (evalArgs F true (backTo pos (starEach es env)) []) Q E s:=by
  cases hq:backTo pos (starEach es env) with
  | nil =>
    rw [hq] at h
    unfold evalArgs
    show wpAny _ A (spliced [] >>= _) Q E s
    refine wpAny_bind (wpAny_mono h (fun vs s' h'=>?_) fun _ _ x=>x)
    refine wpAny_bind (wpAny_pure (wpAny_holding ?_))
    exact wpAny_bind (wpAny_pure (wpAny_bind (wpAny_pure (wpAny_pure h'))))
  | cons p r =>
    rw [hq] at h pl
    obtain ⟨b,t⟩:=p
    rw [List.any_cons,Bool.or_eq_false_iff] at pl
    obtain rfl:b=false:=pl.1
    exact Calls.evalArgs_plain h
theorem xJ {o:Expr} {es:List Expr} {mn:Str} {apos pos:Pos} {x xs:X} {TT id:String} {fo:PV->List PV->ac->af PV} {ok:PV->ac->Bool} (S:SE K A C f) (hn0:eS o=true) (hline:(apos.endLine == pos.line)=true) (hlen:es.length < 20)
    (pa:PlainAttrs TT) (sl:Slot TT mn id) (ty:typeOf (.builtin id)=pure (.type "method_descriptor"))
    (hok:∀ {v σ} {s:Shared} {α:AL} {u:Value},ok v σ=true->R K.hb s.heap σ α->VR s.heap α v u->s.TypeIs u TT/\∀ a,u=.ref a->∃ ob,s.heap.get? a=some ob/\ob.dict=none)
    (hcall:∀ {v vs σ} {s:Shared} {α:AL} {u us},R K.hb s.heap σ α->VR s.heap α v u->aK s.heap α vs us->Runs K VR A (call (.builtin id) (u::us)) (fo v vs σ) s α)
    (h1:f N o=some x) (h2:fH (f N) es=some xs) (hN:env.scope.names=N) (hn:aI K.hb env) (E:ag env ρ s.heap α) (r:R K.hb s.heap σ α) :
    Runs K VR A (eval (.Call (.Attribute o mn apos) es [] pos) env) ((ev C x ρ σ).bind fun v σ=>if ok v σ then (evs C xs ρ σ).bind fun vs σ=>fo v vs σ else .stuck) s α:=by
  intro hc tk
  obtain ⟨pl1,pl2⟩:=nG (env:=env) (pos:=pos) S h2
  refine wpAny_Call_method_lateS (jo hn0) (by rw [pl1]; simp [backToKw,show keywordEach [] env=[] from rfl]; omega) hline ?_
  refine Runs.use ((S N o x h1).2 env ρ σ s α hN hn E r).1 hc tk fun va σ₁ α₁ y1 s₁ e1 hc1 x1 r1 v1 m1 tk1=>?_
  rw [e1]
  split at hc1
  · rename_i hk
    obtain ⟨q4,q5⟩:=hok hk r1 v1
    refine ⟨TT,id,pa,sl,ty,q4,q5,?_⟩
    have H:=gd (pos:=pos) S h2 hN hn (E.ext x1 .nil) r1
    refine Calls.callWith_builtin pl2 (rX ?_ pl2)
    rw [wR,if_pos hk]
    refine Runs.useL x1 m1 H hc1 tk1 fun vs σ₂ aJ us au e2 hc2 x2 r2 v2 m2 tk2=>?_
    rw [e2]
    exact (hcall r2 (v1.ext x2) v2).endL (x1.trans x2) (m1.trans m2) hc2 tk2
  · exact absurd rfl hc1
noncomputable def m0T:M0->String
  | .clear => "list"
noncomputable def acx:M0->String
  | .clear => "list.clear"
noncomputable def m0N:M0->Str
  | .clear => "clear"
theorem aaV {x:Str} {m:M0} (h:vW x=some m):x=m0N m:=
  (show ∀ p ∈ adk,p.1=m0N p.2 from fun p hp=>by
    repeat (rcases List.mem_cons.mp hp with rfl | hp; exact rfl)
    contradiction) _ (dY h)
theorem acw (m:M0):PlainAttrs (m0T m)/\Slot (m0T m) (m0N m) (acx m)/\typeOf (.builtin (acx m))=pure (.type "method_descriptor"):=by
  cases m
  · exact ⟨F.plainAttrs_list,F.slot_list_clear,F.type_list_clear⟩
noncomputable def si (m:M0) (o:PV) (σ:ac):Bool:=
  match m with
  | .clear=>fm o σ
theorem adV {m:M0} {o:PV} {u:Value} (h:si m o σ=true) (r:R K.hb s.heap σ α) (v:VR s.heap α o u):s.TypeIs u (m0T m)/\∀ a,u=.ref a->∃ ob,s.heap.get? a=some ob/\ob.dict=none:=by
  cases m with
  | clear=>exact yq (m:=.append) r v h
theorem adU {m:M0} {o:PV} (h:iL m o σ ≠ .stuck):si m o σ=true:=by
  cases m with
  | clear =>
    unfold iL at h
    dsimp only at h
    split at h
    · split at h
      · rename_i hs; simp only [si,fm,hs]
      · exact absurd rfl h
    · exact absurd rfl h
theorem zH {m:M0} {o:PV} {u:Value} (r:R K.hb s.heap σ α) (v:VR s.heap α o u):Runs K VR A (call (.builtin (acx m)) [u]) (iL m o σ) s α:=by
  intro hc tk
  cases m with
  | clear =>
    unfold iL at hc ⊢
    dsimp only at hc ⊢
    split at hc
    · rename_i i
      obtain ⟨a,rfl,ea⟩:=v.refE
      split at hc
      · rename_i xs hs
        split at hc
        · rename_i hl
          rw [if_pos hl]
          obtain ⟨ai,n,e1,w⟩:=r.obj i _ a hs ea
          refine call_meets F.slot_list_clear ⟨_,e1,rfl⟩ F.entry_list_clear (F.args_list_clear_1 _) (AutoSeq1.list_clear_list_0 a ai.toArray n (by rw [List.size_toArray,<- w.1]; exact bL hl)) ⟨e1,?_⟩
          obtain ⟨n',e'⟩:=uZ (g:=fun _=>#[]) e1
          obtain ⟨r',x'⟩:=r.set (m:=.lst []) ea (fun b o hb e=>(uY hb).trans e) e' fun x'=>⟨[],n',e',.nil⟩
          exact ⟨.none,_,α,rfl,x',r',.none,⟨rfl,rfl⟩⟩
        · exact absurd rfl hc
      · exact absurd rfl hc
    · exact absurd rfl hc
theorem zI {m:M0} {mn:Str} {o:Expr} {apos pos:Pos} {x:X} (S:SE K A C f) (hm:vW mn=some m) (hline:(apos.endLine == pos.line)=true) (hn0:eS o=true) (h1:f N o=some x)
    (hN:env.scope.names=N) (hn:aI K.hb env) (E:ag env ρ s.heap α) (r:R K.hb s.heap σ α) :
    Runs K VR A (eval (.Call (.Attribute o mn apos) [] [] pos) env) (ev C (.me0 m x) ρ σ) s α:=by
  rw [aaV hm,abt]
  obtain ⟨q1,q2,q3⟩:=acw m
  have H:=xJ (K:=K) (A:=A) (ρ:=ρ) (σ:=σ) (s:=s) (α:=α) (env:=env) (apos:=apos) (pos:=pos) (es:=[]) (xs:=.nil) (fo:=fun v vs σ=>match vs with | []=>iL m v σ | _=>.stuck) (ok:=si m) S hn0 hline (by simp) q1 q2 q3
    (fun h r v=>adV h r v) (fun {v vs σ s α u us} r v w=>by
      cases vs with
      | nil =>
        have:us=[]:=List.eq_nil_of_length_eq_zero w.1.symm
        subst this
        exact zH r v
      | cons _ _=>exact fun hc=>absurd rfl hc) h1 rfl hN hn E r
  intro hc tk
  have e:((ev C x ρ σ).bind fun v σ=>if si m v σ then (evs C .nil ρ σ).bind fun vs σ=>(match vs with | []=>iL m v σ | _=>.stuck) else .stuck)=(ev C x ρ σ).bind fun x σ=>iL m x σ:=by
    cases hx:ev C x ρ σ with
    | ok v σ₁ =>
      rw [hx] at hc
      have hc':iL m v σ₁ ≠ .stuck:=hc
      show (if si m v σ₁=true then _ else _)=_
      rw [if_pos (adU hc')]
      rfl
    | exc i σ₁=>rfl
    | stuck=>rfl
  rw [e] at H
  exact H hc tk
theorem zq {o:Expr} {p p1 p2 pos:Pos} {k:Nat} {x:X} (S:SE K A C f) (h1:f N o=some x)
    (hN:env.scope.names=N) (hn:aI K.hb env) (E:ag env ρ s.heap α) (r:R K.hb s.heap σ α) :
    Runs K VR A (eval (.Subscript o (.Slice none none (some (.UnaryOp .USub (.Constant (.int 1) k p1) p2)) p) pos) env) (ev C (.rev x) ρ σ) s α:=by
  rw [abq,arm_eval_Subscript]
  refine Runs.bind ((S N o x h1).2 env ρ σ s α hN hn E r).1 fun va σ₁ α₁ u1 s₁ e1 x1 r1 v1 m1=>?_
  rw [arm_eval_Slice]
  intro hc tk
  refine wpAny_bind (wpAny_holding (wpAny_bind (wpAny_pure (wpAny_bind (wpAny_holding (wpAny_pure (wpAny_bind (wpAny_holding ?_))))))))
  show wpAny _ _ (eval (.UnaryOp .USub (.Constant (.int 1) k p1) p2) env) _ _ _
  have hneg:Runs K VR A (eval (.UnaryOp .USub (.Constant (.int 1) k p1) p2) env) (.ok (.int (-1)) σ₁) s₁ α₁:=by
    rw [arm_eval_UnaryOp]
    exact Runs.bind (c:=.ok (PV.int 1) σ₁) (f:=acp) (k9 (c:=.int 1) (v:=.int 1) (k:=k) (p:=p1) (env:=env) rfl r1) fun v σ' α' y s' e x' r' v' m'=>Runs.standAt (Runs.holding (tD r' v'))
  refine wpAny_mono (hneg (by simp) tk) (fun u au hp=>?_) fun e au hx=>?_
  · obtain ⟨vv,σ₂,aJ,e2,x2,r2,v2,m2⟩:=hp
    (first | contradiction | (obtain rfl:=Option.some.inj e2) | cases e2)
    obtain ⟨tt,rfl⟩:=v2.intE
    refine wpAny_newObj_type ?_ (by size_fits)
    refine wpAny_bind (wpAny_standAt ?_)
    have kp:∀ b o,au.heap.get? b=some o->(au.heap.push { cls:=.type "slice",data:=.fields #[.none,.none,.int (-1) tt] }).get? b=some o:=fun b o e=>Heap.get?_push_of_some _ e
    unfold vH at hc ⊢
    cases hl:aY σ₁ va with
    | none=>rw [hl] at hc; exact absurd rfl hc
    | some xs =>
      rw [hl] at hc
      dsimp only at hc ⊢
      split at hc
      · rename_i hlim
        rw [if_pos hlim]
        have r3:=r2.keeps kp
        obtain ⟨ad,vs,n,rfl,e3,v⟩:=fb r2 (v1.ext x2) hl
        have hL:(au.heap.push { cls:=.type "slice",data:=.fields #[.none,.none,.int (-1) tt] }).IsList ad vs.toArray:=⟨_,kp _ _ e3,rfl,n,rfl⟩
        refine tail_any (s:={ au with heap:=au.heap.push { cls:=.type "slice",data:=.fields #[.none,.none,.int (-1) tt] } }) hL.typeIs slot_list_getitem.lookup
          (wpAny_getItem_list_slice hL (Heap.IsSliceOf.new ..) .none .none (.int (-1) tt) (by simp) ?_ (by rw [List.size_toArray,<- v.1]; exact bL hlim)) rfl
        rw [W.krv_pick]
        have vr:aK (au.heap.push { cls:=.type "slice",data:=.fields #[.none,.none,.int (-1) tt] }) aJ xs.reverse vs.reverse:=by
          have v':=v.ext (.keeps (F:=[]) kp)
          refine ⟨by simp [v'.1],fun i a b h1 h2=>?_⟩
          have hi:i < xs.length:=by have:=(List.getElem?_eq_some_iff.mp h1).1; simpa using this
          rw [List.getElem?_reverse hi] at h1
          rw [List.getElem?_reverse (by rw [<- v'.1]; exact hi)] at h2
          rw [<- v'.1] at h2
          exact v'.2 _ a b h1 h2
        exact aQ.lift (s₁:={ au with heap:=au.heap.push { cls:=.type "slice",data:=.fields #[.none,.none,.int (-1) tt] } }) (x2.trans (.keeps kp)) ⟨m2.gens,m2.os⟩ (aQ.fl (s:={ au with heap:=au.heap.push { cls:=.type "slice",data:=.fields #[.none,.none,.int (-1) tt] } }) r3 vr)
      · exact absurd rfl hc
  · obtain ⟨i,σ₂,e2,_⟩:=hx
    contradiction
end
end Mine
namespace Mine
open PySem PyProof.Rows
section
variable {K:Kt} {A:Around} {T:aL} {C:a8} {f:List (Str × NameKind)->Expr->Option X} {N:List (Str × NameKind)} {env:Env} {ρ:aw} {σ:ac} {s:Shared} {α:AL}
noncomputable def rY (kk:List Str) (vv:List PV) (us:List (Value × Value)):Prop:=
  us.length=kk.length/\∀ (i:Nat) k v,kk[i]?=some k->vv[i]?=some v->∃ t u,us[i]?=some (Value.str k t,u)/\∀ h α,VR h α v u
theorem rY.cons {kk:List Str} {vv:List PV} {us:List (Value × Value)} {k:Str} {v:PV} {t:Tok} {u:Value} (hu:∀ h α,VR h α v u) (H:rY kk vv us):rY (k::kk) (v::vv) ((.str k t,u)::us):=by
  refine ⟨congrArg Nat.succ H.1,fun i k' v' e1 e2=>?_⟩
  cases i with
  | zero=>obtain rfl:=Option.some.inj e1; obtain rfl:=Option.some.inj e2; exact ⟨t,u,rfl,hu⟩
  | succ i=>exact H.2 i k' v' e1 e2
theorem acA {e:Expr} {v:PV} (h:aeU e=some v) {s:Shared} {Q X:Value->Shared->Prop} (hQ:∀ u tk,(∀ h α,VR h α v u)->Q u { s with toks:=tk }):wpAny (model K.prog K.w) A (eval e env) Q X s:=by
  cases e with
  | Constant c ck cp =>
    change lg c=_ at h
    cases c with
    | none=>obtain rfl:=Option.some.inj h; exact wpAny_Constant_none (hQ _ s.toks fun h α=>.none)
    | bool b=>obtain rfl:=Option.some.inj h; exact wpAny_Constant_bool (hQ _ s.toks fun h α=>.bool b)
    | int i=>obtain rfl:=Option.some.inj h; exact wpAny_Constant_int (hQ _ _ fun h α=>.int i _)
    | str z =>
      change ay _ _=_ at h
      exact aA h fun hz h=>by obtain rfl:=Option.some.inj h; exact wpAny_Constant_str (hQ _ _ fun h α=>.str z _ hz)
    | _=>contradiction
  | _=>contradiction
theorem yr {e:Expr} {x:Str} (h:acz e=some x):∃ k p,e=.Constant (.str x) k p/\PyData.strOk x=true:=by
  cases e with
  | Constant c k p =>
    cases c with
    | str z =>
      change ay _ _=_ at h
      exact aA h fun hz h=>by obtain rfl:=Option.some.inj h; exact ⟨_,_,rfl,hz⟩
    | _=>contradiction
  | _=>contradiction
noncomputable def yH (K:Kt) (A:Around) (env:Env) (pos:Pos) (ks:List (Option Expr)) (vs:List Expr) (kk:List Str) (vv:List PV):Prop:=
  ∃ pairs:List (Sem Value × Sem Value),(evalEachOpt ks env).zip ((evalEach vs env).map fun v=>do let x <- v; standAt pos; pure x)=pairs.map (fun p=>(some p.1,p.2))/\pairs.length=kk.length/\vv.length=kk.length ∧
      ∀ {s:Shared} {Q:List (Value × Value)->Shared->Prop} {X:Value->Shared->Prop},(∀ us tk,rY kk vv us->Q us { s with toks:=tk })->wpAny (model K.prog K.w) A (evalPairs pairs) Q X s
theorem xw {pos:Pos} {ks:List (Option Expr)}:∀ {vs:List Expr} {kk:List Str} {vv:List PV},mE ks=some kk->zJ vs=some vv->vs.length=ks.length->yH K A env pos ks vs kk vv:=by
  induction ks with
  | nil =>
    intro vs kk vv h1 h2 hl
    obtain rfl:=Option.some.inj h1
    obtain rfl:=List.eq_nil_of_length_eq_zero hl
    obtain rfl:=Option.some.inj h2
    exact ⟨[],rfl,rfl,rfl,fun hQ=>evalPairs_nil (hQ [] _ ⟨rfl,fun i k v e=>nomatch e⟩)⟩
  | cons k ks ih =>
    intro vs kk vv h1 h2 hl
    cases vs with
    | nil=>contradiction
    | cons e es =>
      change o2 _ _ _=_ at h1 h2
      refine dy (M:=fun kk=>yH K A env pos (k::ks) (e::es) kk vv) h1 fun s1 kk' hs hr=>?_
      refine dy h2 fun v vv' hc hv=>?_
      refine aE hs fun ke hk hs=>?_
      obtain ⟨kp,p,rfl,hok⟩:=yr hs
      subst hk
      obtain ⟨pairs,e1,e2,e3,H⟩:=ih hr hv (Nat.succ.inj hl)
      refine ⟨(eval (.Constant (.str s1) kp p) env,do let x <- eval e env; standAt pos; pure x)::pairs,?_,congrArg Nat.succ e2,congrArg Nat.succ e3,fun hQ=>?_⟩
      · rw [List.map_cons,<- e1]; rfl
      · exact evalPairs_cons (wpAny_Constant_str (wpAny_bind (acA hc fun u tk hu=>wpAny_bind (wpAny_standAt (wpAny_pure (H fun us tk' hk=>hQ _ tk' (hk.cons hu)))))))
theorem tw:∀ {ks:List Str} {vals:List PV} {us:List (Value × Value)} {kvs:List (Str × Value)} {k:Str},ks.length=us.length->vals.length=ks.length->kvs=(ks.zip us).map (fun p=>(p.1,p.2.2)) ->
    (∀ (i:Nat) k v,ks[i]?=some k->vals[i]?=some v->∃ t u,us[i]?=some (Value.str k t,u)/\∀ h α,VR h α v u) ->
    (∀ v,hH k (ks.zip vals)=some v->∃ u,valueAt kvs k=some u/\∀ h α,VR h α v u)/\(hH k (ks.zip vals)=none->valueAt kvs k=none)
  | [],vals,us,kvs,k,h1,h2,h3,h4=>by
    subst h3
    simp [hH,valueAt]
  | a::ks,vals,us,kvs,k,h1,h2,h3,h4=>by
    cases vals with
    | nil=>contradiction
    | cons v vals =>
      cases us with
      | nil=>contradiction
      | cons u us =>
        subst h3
        obtain ⟨t,u',q1,q2⟩:=h4 0 a v (by simp) (by simp)
        simp at q1
        subst q1
        have ih:=@tw ks vals us _ k (by simpa using h1) (by simpa using h2) rfl (fun i k v e1 e2=>by
          have:=h4 (i + 1) k v (by simpa using e1) (by simpa using e2); simpa using this)
        by_cases hk:a=k
        · subst hk
          simp only [List.zip_cons_cons,hH,if_true,valueAt,List.map_cons,List.find?_cons,decide_true]
          exact ⟨fun w hw=>by obtain rfl:=Option.some.inj hw; exact ⟨u',rfl,q2⟩,fun hw=>by cases hw⟩
        · simp only [List.zip_cons_cons,hH,if_neg hk,valueAt,List.map_cons,List.find?_cons,hk,decide_false] at ih ⊢
          exact ih
theorem rR:∀ {ks:List Str} {vals:List PV} {us:List (Value × Value)},ks.length=us.length->vals.length=ks.length ->
    (∀ (i:Nat) k v,ks[i]?=some k->vals[i]?=some v->∃ t u,us[i]?=some (Value.str k t,u)/\∀ h α,VR h α v u)->Carries (strKind K.prog K.w) us ((ks.zip us).map fun p=>(p.1,p.2.2))
  | [],vals,us,h1,h2,h4=>by
    cases us with
    | nil=>trivial
    | cons u us=>contradiction
  | a::ks,vals,us,h1,h2,h4=>by
    cases vals with
    | nil=>contradiction
    | cons v vals =>
      cases us with
      | nil=>contradiction
      | cons u us =>
        obtain ⟨t,u',q1,q2⟩:=h4 0 a v (by simp) (by simp)
        simp at q1
        subst q1
        refine ⟨?_,rfl,rR (vals:=vals) (by simpa using h1) (by simpa using h2) fun i k v e1 e2=>by have:=h4 (i + 1) k v (by simpa using e1) (by simpa using e2); simpa using this⟩
        show Value.isStrOf a (.str a t)=true
        simp [Value.isStrOf]
end
end Mine
namespace Mine
open PySem PyProof.Rows
section
variable {K:Kt} {A:Around} {T:aL} {C:a8} {f:List (Str × NameKind)->Expr->Option X} {N:List (Str × NameKind)} {env:Env} {ρ:aw} {σ:ac} {s:Shared} {α:AL}
theorem xA (hK:K.Ok) (r:R K.hb s.heap σ α):(s.heap.objs.size == sysModules)=false:=by
  obtain ⟨o,es,ep,e,_⟩:=hK.g
  have h1:=Heap.lt_size (r.base _ _ e)
  have h2:mainGlobals < s.heap.objs.size:=h1
  have h3:sysModules <= mainGlobals:=by decide
  have:s.heap.objs.size ≠ sysModules:=Nat.ne_of_gt (Nat.lt_of_le_of_lt h3 h2)
  simpa using this
theorem afv {a b:Expr} (h1:eP a=true) (h2:eP b=true):starEach [a,b] env=[(false,eval a env),(false,eval b env)]:=by
  rw [bq h1,bq h2]; rfl
theorem wm {ks:List (Option Expr)} {vs:List Expr} {dpos apos pos:Pos} {k d:Expr} {kk:List Str} {vv:List PV} {x y:X} (c:Ctx K A T C) (S:SE K A C f) (hline:(apos.endLine == pos.line)=true)
    (hk:mE ks=some kk) (hv:qo ks.length vs=some vv) (hnd:kk.Nodup) (hlen:kk.length <= 15) (hne:kk ≠ []) (h1:f N k=some x) (h2:f N d=some y)
    (hN:env.scope.names=N) (hn:aI K.hb env) (E:ag env ρ s.heap α) (r:R K.hb s.heap σ α) :
    Runs K VR A (eval (.Call (.Attribute (.Dict ks vs dpos) "get" apos) [k,d] [] pos) env) (ev C (.fdget kk vv x y) ρ σ) s α:=by
  show Runs K VR A _ ((ev C x ρ σ).bind fun k σ=>(ev C y ρ σ).bind fun d σ=>rm kk vv k d σ) s α
  intro hc tp
  obtain ⟨hp1,H1⟩:=S N k x h1
  obtain ⟨hp2,H2⟩:=S N d y h2
  refine Call_method2 rfl (afv hp1 hp2) hline ?_
  unfold qo at hv
  refine aA hv fun hvl hv=>?_
  obtain ⟨pairs,sh,pl,vl,H⟩:=xw (K:=K) (A:=A) (env:=env) (pos:=dpos) hk hv (eq_of_beq hvl)
  refine wpAny_Dict_pairs (knd:=strKind K.prog K.w) sh (fun q=>hne (by cases kk with | nil=>rfl | cons=>rw [q] at pl; contradiction)) (by omega) (dS tp (H fun us tk kat tp1=>?_))
  obtain ⟨ul,ui⟩:=kat
  have car:=rR (K:=K) ul.symm vl ui
  refine ⟨_,car,Heap.DictOf.new _,fun h' hd' sb=>?_⟩
  have hkeys:((kk.zip us).map fun p=>(p.1,p.2.2)).map (·.1)=kk:=by
    rw [List.map_map]
    show (kk.zip us).map Prod.fst=kk
    rw [List.map_fst_zip (by omega)]
  rw [merged_nil_of_nodup _ (by rw [hkeys]; exact hnd)] at hd'
  obtain ⟨oD,es,ep,eD,dD⟩:=id hd'
  have kp:∀ b o,s.heap.get? b=some o->h'.get? b=some o:=fun b o e=>(sb.2 b (Nat.ne_of_lt (Heap.lt_size e))).trans (Heap.get?_push_of_some _ e)
  have hDa:s.heap.objs.size ∉ α.all:=fun q=>by obtain ⟨o,e⟩:=r.liveAll q; rw [dM] at e; contradiction
  have x0:aD [] α s.heap α h':=.keeps kp
  have r0:=r.keeps kp
  refine ⟨"dict", "dict.get",F.plainAttrs_dict,F.slot_dict_get,F.type_dict_get,hd'.typeIs,hd'.mapOf.noDict,?_⟩
  refine wpAny_dict_get2 (knd:=strKind K.prog K.w) (xA c.hK r) ?_
  have tk0:K.Tk { s with heap:=h',toks:=tk + us.length }:=Kt.Tk.up tp1 (Nat.le_add_right _ _)
  refine Runs.useL (s:={ s with heap:=h',toks:=tk + us.length }) x0 ⟨rfl,rfl⟩ (H1 env ρ σ { s with heap:=h',toks:=tk + us.length } α hN hn (E.ext x0 .nil) r0).1 hc tk0 fun pk σ₁ α₁ uk s₁ e1 hc1 x1 r1 v1 m1 tk1=>?_
  rw [e1]
  show wpAny _ _ _ _ (aZ K A ((ev C y ρ σ₁).bind fun d σ=>rm kk vv pk d σ) _ _) _
  refine Runs.useL (x0.trans x1) ⟨m1.gens,m1.os⟩ (H2 env ρ σ₁ s₁ α₁ hN hn ((E.ext x0 .nil).ext x1 .nil) r1).1 hc1 tk1 fun pd σ₂ aJ ud au e2 hc2 x2 r2 v2 m2 tk2=>?_
  cases pk with
  | str kq =>
    obtain ⟨tq,rfl,hq⟩:=v1.strE
    have hDf:s.heap.objs.size ∉ α.fr:=fun q=>by
      obtain ⟨_,o,e,_⟩:=r.frs _ (r.fe ▸ q)
      rw [dM] at e; contradiction
    have eD1:=(x1.rest _ _ (AL.not_ix hDa) (by simp) eD).not hDf
    have eD2:=(x2.rest _ _ (x1.notMem (AL.not_ix hDa) eD) (by simp) eD1).not (x1.fre ▸ hDf)
    have hd2:au.heap.DictOf (strKind K.prog K.w) s.heap.objs.size ((kk.zip us).map fun p=>(p.1,p.2.2)):=⟨_,es,ep,eD2,dD⟩
    obtain ⟨g1,g2⟩:=tw (k:=kq) ul.symm vl rfl ui
    refine ⟨kq,_,by show Value.isStrOf kq (.str kq tq)=true; simp [Value.isStrOf],hd2.mapOf,?_⟩
    show aQ K VR ((ev C y ρ σ₁).bind _) _ _ _ _
    rw [e2]
    refine ⟨_,σ₂,aJ,rfl,(x0.trans x1).trans x2,r2,?_,⟨(m1.trans m2).gens,(m1.trans m2).os⟩⟩
    cases hq2:hH kq (kk.zip vv) with
    | none=>rw [g2 hq2]; exact v2
    | some w=>obtain ⟨u,q1,q2⟩:=g1 w hq2; rw [q1]; exact q2 _ _
  | _=>exact absurd rfl hc2
variable {en:Bool}
theorem aea {x:X} (h:acH x=false):evIt C x ρ σ=(ev C x ρ σ).bind g4:=by
  cases x <;> first | (contradiction; done) | (rfl)
theorem aeX {e:Expr} {x:X} (c:Ctx K A T C) (hhd:C.hd=false) (S:SE K A C f) (h:f N e=some x) (hi:acH x=false) (hN:env.scope.names=N) (hn:aI K.hb env) (E:ag env ρ s.heap α) (r:R K.hb s.heap σ α) :
    ei K A en (eval e env) (evIt C x ρ σ) s α:=by
  rw [aea hi]
  intro hc tk
  refine Runs.use ((S N e x h).2 env ρ σ s α hN hn E r).1 hc tk fun v σ₁ α₁ y s₁ e1 hc1 x1 r1 v1 m1 tk1=>?_
  rw [e1]
  exact wpAny_mono (acE c.hA (c.hd hhd) r1 v1 hc1) (fun it au hp=>hp.lift x1 m1) fun _ _ e=>e
theorem acF {a:Expr} {p pos:Pos} {x:X} (c:Ctx K A T C) (hhd:C.hd=false) (S:SE K A C f) (h:f N a=some x) (hg:gb N "range" = true) (hbin:("range" : Str) ∈ T.bins) (hN:env.scope.names=N) (hn:aI K.hb env) (E:ag env ρ s.heap α) (r:R K.hb s.heap σ α) :
    ei K A en (eval (.Call (.Name "range" p) [a] [] pos) env) (evIt C (.range1 x) ρ σ) s α:=by
  show ei K A en _ ((ev C x ρ σ).bind ju) s α
  intro hc tk
  obtain ⟨hp,H⟩:=S N a x h
  refine wpAny_Call_Name_kw (dA c hg hbin rfl hN E.ok r ?_)
  rw [bq hp]
  refine PySem.callWith_type1 (Runs.use (H env ρ σ s α hN hn E r).1 hc tk fun v σ₁ α₁ y s₁ e1 hc1 x1 r1 v1 m1 tk1=>?_)
  rw [e1]
  exact wpAny_mono (xN c.hA (c.hd hhd) r1 v1 hc1) (fun it au hp=>wpAny_mono hp (fun y cy hp=>hp.lift x1 m1) fun _ _ e=>e) fun _ _ e=>e
theorem ad7 {a:Expr} {p pos:Pos} {x:X} (c:Ctx K A T C) (hhd:C.hd=false) (S:SE K A C f) (h:f N a=some x) (hg:gb N "enumerate" = true) (hbin:("enumerate" : Str) ∈ T.bins) (hN:env.scope.names=N) (hn:aI K.hb env) (E:ag env ρ s.heap α) (r:R K.hb s.heap σ α) :
    ei K A true (eval (.Call (.Name "enumerate" p) [a] [] pos) env) (evIt C (.enum x) ρ σ) s α:=by
  show ei K A true _ ((ev C x ρ σ).bind kJ) s α
  intro hc tk
  obtain ⟨hp,H⟩:=S N a x h
  refine wpAny_Call_Name_kw (dA c hg hbin rfl hN E.ok r ?_)
  rw [bq hp]
  refine PySem.callWith_type1 (Runs.use (H env ρ σ s α hN hn E r).1 hc tk fun v σ₁ α₁ y s₁ e1 hc1 x1 r1 v1 m1 tk1=>?_)
  rw [e1]
  exact wpAny_mono (aa8 (c.hd hhd) r1 v1 hc1) (fun it au hp=>wpAny_mono hp (fun y cy hp=>hp.lift x1 m1) fun _ _ e=>e) fun _ _ e=>e
theorem eU {e:Expr} {q:Str × Pos} (h:jH e=some q):e=.Name q.1 q.2:=by
  cases e with
  | Name x p=>obtain rfl:=Option.some.inj h; rfl
  | _=>contradiction
theorem mI {e:Expr} {q:aaf} (h:rS e=some q):e=.Call (.Name q.g q.p) [q.a] [] q.pos:=by
  cases e with
  | Call f as ks pos =>
    change ay _ _=_ at h
    refine aA h fun h0 h=>dy (M:=fun q:aaf=>Expr.Call f as ks pos=.Call (.Name q.g q.p) [q.a] [] q.pos) h fun n a h1 h2=>?_
    rw [eU h1,nJ h2,List.isEmpty_iff.mp h0]
  | _=>contradiction
theorem i9 {e:Expr} {x:X} (c:Ctx K A T C) (hhd:C.hd=false) (S:SE K A C f) (h:pK T N (f N) e=some x) (hN:env.scope.names=N) (hn:aI K.hb env) (E:ag env ρ s.heap α) (r:R K.hb s.heap σ α) :
    ei K A en (eval e env) (evIt C x ρ σ) s α/\eP e=true:=by
  unfold pK at h
  refine eQ h (fun y hy h=>?_) fun _ h=>?_
  · obtain rfl:=Option.some.inj h
    unfold yc at hy
    refine aE hy fun q hq hy1=>aA hy1 fun hg hy2=>?_
    clear hy1 hy
    simp only [Bool.and_eq_true,rd,beq_iff_eq] at hg
    have hq:=mI hq
    obtain ⟨g,p,a,pos⟩:=q
    obtain ⟨h1,hg,hb⟩:=hg
    dsimp only at h1
    subst h1 hq
    refine cr (M:=fun y=>ei K A en (eval (.Call (.Name "range" p) [a] [] pos) env) (evIt C y ρ σ) s α/\eP (.Call (.Name "range" p) [a] [] pos)=true) hy2 fun z hz=>⟨acF c hhd S hz hg (by simpa using hb) hN hn E r,rfl⟩
  · unfold ac9 at h
    refine aE h fun y hq h=>aA h fun hi h=>?_
    obtain rfl:=Option.some.inj h
    exact ⟨aeX c hhd S hq (by simpa using hi) hN hn E r,(S N e _ hq).1⟩
theorem xf {e:Expr} {x:X} (c:Ctx K A T C) (hhd:C.hd=false) (S:SE K A C f) (h:uJ T N (f N) e=some x) (hN:env.scope.names=N) (hn:aI K.hb env) (E:ag env ρ s.heap α) (r:R K.hb s.heap σ α) :
    ∃ en,ei K A en (eval e env) (evIt C x ρ σ) s α/\eP e=true:=by
  unfold uJ at h
  refine eQ h (fun y hy h=>?_) fun _ h=>?_
  · obtain rfl:=Option.some.inj h
    unfold aao at hy
    refine aE hy fun q hq hy1=>aA hy1 fun hg hy2=>?_
    clear hy1 hy
    simp only [Bool.and_eq_true,rd,beq_iff_eq] at hg
    have hq:=mI hq
    obtain ⟨g,p,a,pos⟩:=q
    obtain ⟨h1,hg,hb⟩:=hg
    dsimp only at h1
    subst h1 hq
    refine cr (M:=fun y=>∃ en,ei K A en (eval (.Call (.Name "enumerate" p) [a] [] pos) env) (evIt C y ρ σ) s α/\eP (.Call (.Name "enumerate" p) [a] [] pos)=true) hy2 fun z hz=>⟨true,ad7 c hhd S hz hg (by simpa using hb) hN hn E r,rfl⟩
  exact ⟨false,i9 c hhd S h hN hn E r⟩
end
end Mine
namespace Mine
open PySem PyProof.Rows
section
variable {K:Kt} {A:Around} {T:aL} {C:a8} {f:List (Str × NameKind)->Expr->Option X} {N:List (Str × NameKind)} {env:Env} {ρ:aw} {σ:ac} {s:Shared} {α:AL}
theorem xP {pos:Pos} {pk:Bool} (r:R K.hb s.heap σ α):Runs K VR A (eval (.Dict [] [] pos) env) (ev C (.dnew pk) ρ σ) s α:=by
  intro hc tk
  refine wpAny_Dict_empty ?_
  have k:∀ b o,s.heap.get? b=some o->(s.heap.push { cls:=.type "dict",data:=.dict #[] }).get? b=some o:=fun b o e=>Heap.get?_push_of_some _ e
  cases pk with
  | true =>
    obtain ⟨r',x⟩:=r.add (D:=s.heap.objs.size) (m:=.dp []) k (dM s) ⟨[],Heap.DictOfH.new _,rfl,(fun x hx=>nomatch hx),.nil⟩
    refine ⟨_,_,_,rfl,x,r',.ref ?_,⟨rfl,rfl⟩⟩
    rw [r.len]; simp [AL.add]
  | false =>
    obtain ⟨r',x⟩:=r.add (D:=s.heap.objs.size) (m:=.ds []) k (dM s) ⟨[],Heap.DictOf.new _,rfl,.nil⟩
    refine ⟨_,_,_,rfl,x,r',.ref ?_,⟨rfl,rfl⟩⟩
    rw [r.len]; simp [AL.add]
theorem xe {g:Str} {args:List Expr} {p pos:Pos} {x:X} (c:Ctx K A T C) (S:SE K A C f) (hg:gb N g=true) (h:yZ T (f N) g args=some x):iY K A C N (.Call (.Name g p) args [] pos) x:=by
  unfold yZ at h
  refine aE h fun q hb h=>aA h fun hc h=>aE h fun j hj h=>cr h fun xs hxs=>ba (fun _ _=>rfl) (fun _ _=>rfl) fun {env ρ σ s α} hN hn E r hc' tk=>?_
  obtain ⟨b,cl⟩:=q
  rw [abr] at hc' ⊢
  obtain ⟨h1,h2⟩:=Bool.and_eq_true_iff.mp hc
  obtain rfl:=eq_of_beq h1
  have hj':T.meths[j]?=some ("__init__" : Str):=by
    obtain ⟨h1,h2,_⟩:=List.findIdx?_eq_some_iff_getElem.mp hj
    rw [List.getElem?_eq_getElem h1,eq_of_beq h2]
  obtain ⟨F,B,hcall,_⟩:=c.brd _ cl hb
  have hcall:=hcall j hj'
  obtain ⟨i,hi⟩:=jw hg
  refine wpAny_Call_Name_kw (f9 c.hK r E.ok (by rw [hN]; exact hi) B.mg ?_)
  cases args with
  | nil=>contradiction
  | cons e es =>
    have H:=gd (pos:=pos) S hxs hN hn E r
    obtain ⟨a',b',ha',hb',_⟩:=eJ hxs
    refine PySem.W.callWith_K B.inn B.keep ?_ (bq (S N e a' ha').1) (nG S hb').2
    refine Runs.use H hc' tk fun vs σ' α' us s' e1 hc1 x' r' v' m' tk'=>⟨fun a o e=>r'.base a o (B.inn a o e),?_⟩
    show wpAny (model K.prog K.w) A (call (.ref cl) us) (aQ K VR ((evs C xs ρ σ).bind fun vs σ=>l7 C cl (T.fns.length + j) vs σ) s α) (aZ K A ((evs C xs ρ σ).bind fun vs σ=>l7 C cl (T.fns.length + j) vs σ) s α) s'
    rw [e1]
    exact wpAny_mono (hcall vs us s' σ' α' r' v' hc1 tk') (fun y s'' hp=>hp.lift x' m') fun e s'' hx=>hx.lift x' m'
end
end Mine
namespace Mine
open PySem PyProof.Rows
section
variable {K:Kt} {A:Around} {T:aL} {C:a8} {f:List (Str × NameKind)->Expr->Option X} {N:List (Str × NameKind)} {env:Env} {ρ:aw} {σ:ac} {s:Shared} {α:AL}
open PySem.W
theorem R.frag {F:Frag} {h:Heap} (x:F.In K.hb.h) (r:R K.hb h σ α):F.In h:=fun a o e=>r.base a o (x a o e)
theorem yu {c i:Nat} {x:Value} (v:VR s.heap α (.inst c i) x):∃ a D,x=.ref a/\s.heap.get? a=some (instObj c D)/\a ∉ α.all/\α.ix[i]?=some D:=by
  cases v with | inst e hn hi=>exact ⟨_,_,rfl,e,hn,hi⟩
theorem aaZ {o:Obj} {es:Array DictEntry} {ep:Nat} {n:Str} (hd:o.data=.dict es ep) (hk:StrKeys es):lookIn n o=some (nsFind es n):=by
  unfold lookIn
  rw [hd]
  dsimp only
  unfold nsFind findBy
  have h0:(es.toList.any fun x=>x.refKey)=false:=by
    rw [List.any_eq_false]
    intro e he
    obtain ⟨m,t,h⟩:=hk e (by simpa using he)
    simp [DictEntry.refKey,h]
  rw [h0,<- Array.find?_toList]
  cases es.toList.find? (fun e=>e.key.isStr n) <;> rfl
theorem yv {c i:Nat} {x:Value} {fs:List (Str × PV)} (r:R K.hb s.heap σ α) (vx:VR s.heap α (.inst c i) x) (hs:σ[i]?=some (.ns fs)) :
    ∃ a D oD,x=.ref a/\InstAt s.heap a (instObj c D) c (some oD)/\∀ n,∃ q,lookIn n oD=some q/\(∀ v,az n fs=some v->∃ u,q=some u/\VR s.heap α v u)/\(az n fs=none->q=none):=by
  obtain ⟨a,D,rfl,ea,ha,hi⟩:=yu vx
  obtain ⟨m,ns1,o1,o2⟩:=r.obj i _ D hs hi
  obtain ⟨oD,esD,epD,eD,dD,kD,_,fD⟩:=ns1
  refine ⟨a,D,oD,rfl,⟨ea,rfl,rfl,eD⟩,fun n=>⟨m n,?_,o1 n,o2 n⟩⟩
  rw [aaZ dD kD,fD]
theorem abf {v:PV} {u:Value} (h:VR s.heap α v u):handedIn u=true:=by cases h <;> rfl
theorem xX {F:Frag} {b n:Str} {c:Nat} {o:PV} {x:Value} (B:fg K F b c) (hn:n ∈ cT) (r:R K.hb s.heap σ α) (vx:VR s.heap α o x):Runs K VR A (getAttr x n true) (rV c o n σ) s α:=by
  intro hc tk
  unfold rV at hc ⊢
  cases o with
  | inst c' i =>
    dsimp only at hc ⊢
    by_cases q:c'=c
    · subst q
      rw [if_pos rfl] at hc ⊢
      cases hs:σ[i]? with
      | none=>rw [hs] at hc; exact absurd rfl hc
      | some mo =>
        rw [hs] at hc
        cases mo with
        | ns fs =>
          dsimp only at hc ⊢
          cases hv:az n fs with
          | none=>rw [hv] at hc; exact absurd rfl hc
          | some v =>
            obtain ⟨a,D,oD,rfl,I,H⟩:=yv r vx hs
            obtain ⟨q,h1,h2,_⟩:=H n
            obtain ⟨u,rfl,vu⟩:=h2 v hv
            exact get_value (r.frag B.inn) I B.geta (findObj_own B.hasd (B.none n hn) rfl h1) (abf vu) (.here r vu)
        | _=>exact absurd rfl hc
    · rw [if_neg q] at hc; exact absurd rfl hc
  | _=>exact absurd rfl hc
theorem xY {o:Expr} {n:Str} {pos:Pos} {x:X} {b:Str} {cl:Nat} (c:Ctx K A T C) (S:SE K A C f) (hb:T.brd=some (b,cl)) (hn0:eS o=true) (hm:n ∈ cT) (h1:f N o=some x)
    (hN:env.scope.names=N) (hn:aI K.hb env) (E:ag env ρ s.heap α) (r:R K.hb s.heap σ α):Runs K VR A (eval (.Attribute o n pos) env) (ev C (.attr cl x n) ρ σ) s α:=by
  obtain ⟨F,B,_⟩:=c.brd b cl hb
  rw [yB,arm_eval_Attribute,jo hn0]
  refine Runs.bind ((S N o x h1).2 env ρ σ s α hN hn E r).1 fun va σ₁ α₁ u1 s₁ e1 x1 r1 v1 m1=>Runs.standAt ?_
  intro hc tk
  exact wpAny_bind (wpAny_holding (wpAny_mono (xX B hm r1 v1 hc tk) (fun u s' hp=>wpAny_bind (wpAny_letTemporaryGo (wpAny_pure hp))) fun _ _ e=>e))
theorem abI {prog:Program} {w:World} {o:Expr} {name:Str} {apos pos:Pos} {args:List Expr} {Q:Value->Shared->Prop} {E:Value->Shared->Prop}
    (hbase:attributeBase o name env (eval o env)=eval o env)
    (hfew:methodCallForm (args.length + ([]:List Keyword).length) (backTo pos (starEach args env)) (backToKw pos (keywordEach [] env))=true) (hline:(apos.endLine == pos.line)=true)
    (h:wpAny (model prog w) A (eval o env) (fun ov s₁=>∀ pl,wpAny (model prog w) A (getMethod ov name pl) (fun q au=>wpAny (model prog w) A (callWith pos q.1 q.2 (backTo pos (starEach args env)) []) Q E au) E s₁) E s) :
    wpAny (model prog w) A (eval (.Call (.Attribute o name apos) args [] pos) env) Q E s:=by
  rw [arm_eval_Call,hbase]
  refine wpAny_bind (wpAny_mono h (fun ov s₁ bx=>wpAny_bind (wpAny_standAt ?_)) fun _ _ e=>e)
  have hpos:methodCallPos true o env apos pos=pure pos:=by unfold methodCallPos; simp [hline]
  unfold methodCall
  rw [hfew]
  refine wpAny_bind (wpAny_holding ?_)
  exact wpAny_mono (bx _) (fun q au ez=>wpAny_bind (wpAny_of_eq hpos ez)) fun _ _ e=>e
theorem xI {o:Expr} {es:List Expr} {mn:Str} {apos pos:Pos} {x xs:X} {b:Str} {cl j:Nat} (c:Ctx K A T C) (S:SE K A C f) (hb:T.brd=some (b,cl)) (hj:T.meths[j]?=some mn) (hn0:eS o=true) (hline:(apos.endLine == pos.line)=true) (hlen:es.length < 20)
    (h1:f N o=some x) (h2:fH (f N) es=some xs) (hN:env.scope.names=N) (hn:aI K.hb env) (E:ag env ρ s.heap α) (r:R K.hb s.heap σ α) :
    Runs K VR A (eval (.Call (.Attribute o mn apos) es [] pos) env) (ev C (.meth cl (T.fns.length + j) mn x xs) ρ σ) s α:=by
  obtain ⟨F,B,_,HM⟩:=c.brd b cl hb
  obtain ⟨ma,mo,fd,q1,q2,q3,q4,hcall⟩:=HM j mn hj
  rw [yA]
  intro hc tk
  obtain ⟨pl1,pl2⟩:=nG (env:=env) (pos:=pos) S h2
  refine abI (jo hn0) (by unfold methodCallForm; rw [pl1]; simp [backToKw,show keywordEach [] env=[] from rfl]; omega) hline ?_
  refine Runs.use ((S N o x h1).2 env ρ σ s α hN hn E r).1 hc tk fun va σ₁ α₁ y1 s₁ e1 hc1 x1 r1 v1 m1 tk1 pl=>?_
  rw [e1]
  change kg C cl (T.fns.length + j) mn va _ σ₁ ≠ _ at hc1
  show wpAny _ _ _ (fun q au=>wpAny _ _ _ (aQ K VR (kg C cl (T.fns.length + j) mn va _ σ₁) s α) (aZ K A (kg C cl (T.fns.length + j) mn va _ σ₁) s α) au) (aZ K A (kg C cl (T.fns.length + j) mn va _ σ₁) s α) _
  unfold kg at hc1 ⊢
  cases va with
  | inst c' i =>
    dsimp only at hc1 ⊢
    by_cases q:c'=cl
    · subst q
      rw [if_pos rfl] at hc1 ⊢
      cases hs:σ₁[i]? with
      | none=>rw [hs] at hc1; exact absurd rfl hc1
      | some mo' =>
        rw [hs] at hc1
        cases mo' with
        | ns fs =>
          dsimp only at hc1 ⊢
          cases hv:az mn fs with
          | some v=>rw [hv] at hc1; exact absurd rfl hc1
          | none =>
            rw [hv] at hc1
            dsimp only at hc1 ⊢
            obtain ⟨a,D,oD,rfl,I,H⟩:=yv r1 v1 hs
            obtain ⟨q,g1,_,g2⟩:=H mn
            obtain rfl:=g2 hv
            refine method_fn (r1.frag B.inn) I B.geta B.getr q1 q2 (by show (lookIn mn oD).map (·.isSome)=_; rw [g1]; rfl) ?_
            have He:=gd (pos:=pos) S h2 hN hn (E.ext x1 .nil) r1
            refine Calls.callWith_function (o:=mo) (fd:=fd) (rX ?_ pl2)
            refine Runs.useL x1 m1 He hc1 tk1 fun vs σ₂ aJ us au e2 hc2 x2 r2 v2 m2 tk2=>⟨⟨r2.base _ _ q3,q4⟩,?_⟩
            rw [e2]
            exact (hcall (.inst c' i::vs) _ au σ₂ aJ r2 (.cons (v1.ext x2) v2)).endL (x1.trans x2) (m1.trans m2) hc2 tk2
        | _=>exact absurd rfl hc1
    · rw [if_neg q] at hc1; exact absurd rfl hc1
  | _=>exact absurd rfl hc1
end
end Mine
namespace Mine
open PySem PyProof.Rows
theorem jt:∀ {names:List (Str × NameKind)},lY names=true->ac3 names
  | [],_=>⟨fun i j x k k' h=>by simp at h,fun i x k h=>by simp at h,fun i x k h=>by simp at h⟩
  | (y,k0)::r,h=>by
    simp only [lY,Bool.and_eq_true,Bool.not_eq_true',Bool.or_eq_true,beq_iff_eq] at h
    obtain ⟨⟨⟨h1,h2⟩,h3⟩,h4⟩:=h
    have ih:=jt h4
    have no:∀ (i:Nat) (k:NameKind),r[i]? ≠ some (y,k):=fun i k e=>by
      have hm:=List.mem_of_getElem? e
      rw [List.any_eq_false] at h1
      exact h1 _ hm (by simp)
    refine ⟨fun i j x k k' e1 e2=>?_,fun i x k e=>?_,fun i x k e=>?_⟩
    · cases i with
      | zero =>
        cases j with
        | zero=>rfl
        | succ j =>
          simp at e1 e2
          obtain ⟨rfl,rfl⟩:=e1
          exact absurd e2 (no j k')
      | succ i =>
        cases j with
        | zero =>
          simp at e1 e2
          obtain ⟨rfl,rfl⟩:=e2
          exact absurd e1 (no i k)
        | succ j =>
          simp at e1 e2
          rw [ih.uniq i j x k k' e1 e2]
    · cases i with
      | zero=>simp at e; obtain ⟨rfl,rfl⟩:=e; exact h2
      | succ i=>simp at e; exact ih.nodbg i x k e
    · cases i with
      | zero =>
        simp at e; obtain ⟨rfl,rfl⟩:=e
        rcases h3 with (h3 | h3) | h3
        · exact .inl h3
        · exact .inr (.inl h3)
        · exact .inr (.inr h3)
      | succ i=>simp at e; exact ih.kinds i x k e
section
variable {K:Kt} {A:Around} {T:aL} {C:a8} {f:List (Str × NameKind)->Expr->Option X} {N:List (Str × NameKind)} {env:Env} {ρ:aw} {σ:ac} {s:Shared} {α:AL}
theorem rP {fz:Bool} {t:Nat} {cap:List (Option Nat)} {elt cond it:X} (hhd:C.hd=false):ev C (.comp fz t cap elt cond it) ρ σ =
    gh fz (fun v σ=>tst C cond ((aR cap ρ).set t (some v)) σ) (fun v σ=>ev C elt ((aR cap ρ).set t (some v)) σ) (evIt C it ρ σ):=by
  rw [et,hhd]
  unfold gh eA
  rw [cond_false]
  congr 1
structure oO (T:aL) (N:List (Str × NameKind)) (f:List (Str × NameKind)->Expr->Option X) (elt:Expr) (x:Str) (iter:Expr) (ifs:List Expr) (scope:Scope) (fz:Bool) (t:Nat) (e c i:X):Prop where
  kind:scope.kind=.function
  sc:lY (bf N scope.names)=true
  cells:∀ p ∈ scope.names,p.2 ≠ .cell
  tgt:(bf N scope.names)[t]?=some (x,NameKind.local)
  it:pK T N (f N) iter=some i
  elt:f (bf N scope.names) elt=some e
  cond:ab3 (f (bf N scope.names)) ifs=some c
theorem ti {elt iter:Expr} {x:Str} {pos:Pos} {ifs:List Expr} {scope:Scope} {y:X} {P:X->Prop} (h:qG T N f elt x iter ifs scope pos=some y)
    (k:∀ t e c i,oO T N f elt x iter ifs scope (!(T.muts.contains (pos.line,pos.col))) t e c i->P (.comp (!(T.muts.contains (pos.line,pos.col))) t (dH N (bf N scope.names)) e c i)):P y:=by
  unfold qG at h
  refine aA h fun hk h=>aE h fun t _ h=>aA h fun ht h=>jE h fun i e c h1 h2 h3=>k t e c i ?_
  obtain ⟨hk,hk3⟩:=Bool.and_eq_true_iff.mp hk
  obtain ⟨hk1,hk2⟩:=Bool.and_eq_true_iff.mp hk
  exact ⟨eq_of_beq hk1,hk2,fun p hp=>bne_iff_ne.mp (List.all_eq_true.mp hk3 p hp),eq_of_beq ht,h1,h2,h3⟩
theorem oO.ok {elt iter:Expr} {x:Str} {ifs:List Expr} {scope:Scope} {fz:Bool} {t:Nat} {e c i:X} (q:oO T N f elt x iter ifs scope fz t e c i) (hN:env.scope.names=N):ff env.scope.names scope t x:=by
  subst hN; exact ⟨q.kind,jt q.sc,q.cells,q.tgt⟩
theorem jl {scope:Scope} {C':Addr} (hN:env.scope.names=N) (E:ag env ρ s.heap α):(bC scope C' env).scope.names=bf N scope.names:=by rw [<- hN]; exact iI E.ok.kind
theorem mF {scope:Scope} (hN:env.scope.names=N):il scope env ρ=aR (dH N (bf N scope.names)) ρ:=by rw [<- hN]
theorem rN {ifs:List Expr} {cond:X} {M:List (Str × NameKind)} {cenv:Env} (S:SE K A C f) (h:ab3 (f M) ifs=some cond) (hM:cenv.scope.names=M) (n':aI K.hb cenv) (E':ag cenv ρ s.heap α) (r':R K.hb s.heap σ α) :
    Runs K d8 A (forIn ifs true fun c r=>if r=true then do let ok <- isTrue c cenv (eval c cenv); pure (ForInStep.yield ok) else pure (ForInStep.yield r)) (tst C cond ρ σ) s α:=by
  cases ifs with
  | nil =>
    obtain rfl:=Option.some.inj h
    exact fun _ _=>wpAny_tests_nil ⟨true,σ,α,rfl,.refl,r',rfl,.refl _⟩
  | cons c1 cs =>
    change ay _ _=_ at h
    refine aA h fun h0 h=>?_
    rw [List.isEmpty_iff.mp h0]
    exact fun hc tk=>wpAny_tests_one (((S _ c1 cond h).2 _ _ σ s α hM n' E' r').2 hc tk)
theorem pD {elt iter:Expr} {x:Str} {px pos:Pos} {ifs:List Expr} {scope:Scope} {fz:Bool} {t:Nat} {e cc i:X} (c:Ctx K A T C) (S:SE K A C f) (q:oO T N f elt x iter ifs scope fz t e cc i)
    (hN:env.scope.names=N) (hn:aI K.hb env) (E:ag env ρ s.heap α) (r:R K.hb s.heap σ α) :
    Runs K VR A (eval (.ListComp elt [⟨.Name x px,iter,ifs,0⟩] scope pos) env) (ev C (.comp fz t (dH N (bf N scope.names)) e cc i) ρ σ) s α:=by
  cases hhd:C.hd with
  | true=>rw [et,hhd]; exact fun hc=>absurd rfl hc
  | false =>
  rw [rP hhd]
  obtain ⟨hit',hpl⟩:=i9 c hhd S q.it hN hn E r
  refine sj (q.ok hN) E hit' (fun C' v s' σ' α' n' E' r'=>?_) (fun C' v s' σ' α' n' E' r'=>?_) c.fr hn r (jC hpl)
  · rw [mF hN] at E'
    exact rN S q.cond (jl hN E) n' E' r'
  · rw [mF hN] at E'
    exact ((S _ elt e q.elt).2 _ _ σ' s' α' (jl hN E) n' E' r').1
theorem xi {l:Expr} {os:List CmpOp} {rs:List Expr} {pos:Pos} {x:X} (c:Ctx K A T C) (S:SE K A C f) (h:y7 (f N) l os rs=some x):iY K A C N (.Compare l os rs pos) x:=by
  unfold y7 at h
  cases os with
  | nil=>contradiction
  | cons o os =>
    cases rs with
    | nil=>contradiction
    | cons r1 rs =>
      cases os with
      | nil =>
        change ay _ _=_ at h
        refine aA h fun h0 h=>?_
        rw [List.isEmpty_iff.mp h0]
        exact jE h fun o' a b h1 h2 h3 env ρ σ s α hN hn E r=>zX c S h1 h2 h3 hN hn E r
      | cons o2 os =>
        cases rs with
        | nil=>contradiction
        | cons r2 rs =>
          change ay _ _=_ at h
          refine aA h fun h0 h=>aE h fun o' h1 h=>?_
          obtain ⟨h0,h0'⟩:=Bool.and_eq_true_iff.mp h0
          rw [List.isEmpty_iff.mp h0,List.isEmpty_iff.mp h0']
          exact agd h fun a b o2' b2 h2 h3 h4 h5 env ρ σ s α hN hn E r=>xT c S h1 h4 h2 h3 h5 hN hn E r
theorem xd {g:Str} {a:Expr} {p pos:Pos} {x:X} (c:Ctx K A T C) (S:SE K A C f) (hg:gb N g=true) (hb':g ∈ T.bins) (h:yY T N (f N) pos g a=some x):iY K A C N (.Call (.Name g p) [a] [] pos) x:=by
  unfold yY at h
  refine eQ h (fun y hls h'=>?_) fun _ h=>dy h fun b1 x1 hb1 hx1=>ba (fun _ _=>rfl) (fun _ _=>rfl) fun hN hn E r=>ac2 c S hb1 hg hb' hx1 hN hn E r
  unfold aa3 at hls
  clear h
  refine aE hls fun q hq hls1=>aA hls1 fun hcond hls2=>?_
  clear hls1 hls
  have hq:=mI hq
  obtain ⟨g2,p2,a2,pos2⟩:=q
  obtain rfl:=Option.some.inj hls2
  simp only [Bool.and_eq_true,beq_iff_eq,rd] at hcond
  obtain ⟨⟨h1,h2⟩,hg2,hb2⟩:=hcond
  subst h1 h2 hq
  exact cr h' fun z hz=>ba (fun _ _=>rfl) (fun _ _=>rfl) fun hN hn E r=>ua c S hg hb' hg2 (by simpa using hb2) hz hN hn E r
theorem xa {g:Str} {a b:Expr} {p pos:Pos} {x:X} (c:Ctx K A T C) (S:SE K A C f) (hg:gb N g=true) (hb':g ∈ T.bins) (h:yW T N (f N) g a b=some x):iY K A C N (.Call (.Name g p) [a,b] [] pos) x:=by
  unfold yW at h
  refine abD h (fun hcond h=>?_) fun h=>aA h fun hcond h=>?_
  · obtain rfl:=eq_of_beq hcond
    refine aE h fun q hq h=>?_
    rw [eU hq]
    refine eQ h (fun sup hsup h=>cr h fun z hz=>ba (fun _ _=>rfl) (fun _ _=>rfl) fun hN hn E r=>wa c S hsup hg hb' hz hN hn E r) fun _ h=>?_
    refine aA h fun hcond h=>?_
    obtain ⟨hgt,hbt⟩:=Bool.and_eq_true_iff.mp hcond
    exact dy h fun x1 ty hx1 hty=>ba (fun _ _=>rfl) (fun _ _=>rfl) fun hN hn E r=>ub c S hty hg hb' hgt (by simpa using hbt) hx1 hN hn E r
  · obtain rfl:=eq_of_beq hcond
    exact dy h fun x1 y1 hx1 hy1=>ba (fun _ _=>rfl) (fun _ _=>rfl) fun hN hn E r=>xH c S hg hb' hx1 hy1 hN hn E r
theorem vk {g:Str} {args:List Expr} {p pos:Pos} {x:X} (c:Ctx K A T C) (S:SE K A C f) (h:vm T N (f N) pos g args=some x):iY K A C N (.Call (.Name g p) args [] pos) x:=by
  unfold vm at h
  refine aA h fun hg h=>eQ h (fun i hi h=>aA h fun hne h=>cr h fun xs hq=>ba (fun _ _=>rfl) (fun _ _=>rfl) fun hN hn E r=>?_) fun _ h=>eQ h (fun y hy h=>by obtain rfl:=Option.some.inj h; exact xe c S hg hy) fun _ h=>aA h fun hb h=>?_
  · have hi':T.fns[i]?=some g:=by
      obtain ⟨h1,h2,_⟩:=List.findIdx?_eq_some_iff_getElem.mp hi
      rw [List.getElem?_eq_getElem h1,eq_of_beq h2]
    exact wQ c S hi' hg (fun q=>by subst q; contradiction) hq hN hn E r
  · have hb':g ∈ T.bins:=by simpa using hb
    cases args with
    | nil=>contradiction
    | cons a r =>
      cases r with
      | nil=>exact xd c S hg hb' h
      | cons b r =>
        change ay _ _=_ at h
        refine aA h fun h0 h=>?_
        rw [List.isEmpty_iff.mp h0]
        exact xa c S hg hb' h
theorem abc {e:Expr} {q:List (Option Expr) × List Expr × Pos} (h:abd e=some q):e=.Dict q.1 q.2.1 q.2.2:=by
  cases e with
  | Dict ks vs p=>obtain rfl:=Option.some.inj h; rfl
  | _=>contradiction
theorem aa0 {e:Expr} (h:aa1 e=true):∃ k p,e=.Constant (.int 1) k p:=by
  cases e with
  | Constant c k p =>
    cases c with
    | int i=>obtain rfl:=eq_of_beq (show (i == 1)=true from h); exact ⟨_,_,rfl⟩
    | _=>contradiction
  | _=>contradiction
theorem xg {ks:List (Option Expr)} {vs:List Expr} {m:Str} {args:List Expr} {dpos apos pos:Pos} {x:X} (c:Ctx K A T C) (S:SE K A C f) (hl:(apos.endLine == pos.line)=true) (h:y6 (f N) ks vs m args=some x):iY K A C N (.Call (.Attribute (.Dict ks vs dpos) m apos) args [] pos) x:=by
  unfold y6 at h
  cases args with
  | nil=>contradiction
  | cons k r1 =>
    dsimp only at h
    refine aE h fun d h0 h=>aA h fun hm h=>aE h fun l h1 h=>aA h fun hc h'=>?_
    obtain rfl:=eq_of_beq hm
    obtain rfl:=nJ h0
    simp only [Bool.and_eq_true,decide_eq_true_eq,Bool.not_eq_true',List.isEmpty_eq_false_iff] at hc
    obtain ⟨⟨q1,q2⟩,q3⟩:=hc
    exact jE h' fun vv kx dx h2 h3 h4=>ba (fun _ _=>rfl) (fun _ _=>rfl) fun hN hn E r=>wm c S hl h1 h2 q1 q2 q3 h3 h4 hN hn E r
theorem vf {o:Expr} {m:Str} {args:List Expr} {apos pos:Pos} {x:X} (c:Ctx K A T C) (S:SE K A C f) (hl:(apos.endLine == pos.line)=true) (h:vg T (f N) o m args=some x):iY K A C N (.Call (.Attribute o m apos) args [] pos) x:=by
  unfold vg at h
  refine eQ h (fun q hd h=>?_) fun _ h=>aA h fun hnc h=>?_
  · rw [abc hd]; exact xg c S hl h
  · refine abD h (fun hm h=>aE h fun q hb h=>aE h fun j hj h=>aA h fun hlen h=>dy h fun ox xs h1 h2=>ba (fun _ _=>rfl) (fun _ _=>rfl) fun hN hn E r=>?_) fun h=>?_
    · have hj':T.meths[j]?=some m:=by
        obtain ⟨g1,g2,_⟩:=List.findIdx?_eq_some_iff_getElem.mp hj
        rw [List.getElem?_eq_getElem g1,eq_of_beq g2]
      exact xI (b:=q.1) c S hb hj' hnc hl (of_decide_eq_true hlen) h1 h2 hN hn E r
    cases args with
    | nil=>exact dy h fun mm ox h0 h1=>ba (fun _ _=>rfl) (fun _ _=>rfl) fun hN hn E r=>zI S h0 hl hnc h1 hN hn E r
    | cons a r =>
      cases r with
      | nil=>exact jE h fun mm ox ax h0 h1 h2=>ba (fun _ _=>rfl) (fun _ _=>rfl) fun hN hn E r=>aaU c S h0 hl hnc h1 h2 hN hn E r
      | cons b r =>
        contradiction
theorem ad9 {e:Expr} (h:ae1 e=true):∃ k p p2,e=.UnaryOp .USub (.Constant (.int 1) k p) p2:=by
  obtain ⟨a,ha⟩:=Option.isSome_iff_exists.mp h
  refine aE ha fun b hb h=>aA h fun h _=>?_
  obtain ⟨k,p,rfl⟩:=aa0 h
  cases e with
  | UnaryOp o a p2 =>
    cases o with
    | USub=>obtain rfl:=Option.some.inj hb; exact ⟨_,_,_,rfl⟩
    | _=>contradiction
  | _=>contradiction
theorem z8 {e:Expr} {q:Option Expr × Option Expr × Option Expr × Pos} (h:yE e=some q):e=.Slice q.1 q.2.1 q.2.2.1 q.2.2.2:=by
  cases e with
  | Slice lo hi st p=>obtain rfl:=Option.some.inj h; rfl
  | _=>contradiction
theorem u6 {o i:Expr} {pos:Pos} {x:X} (c:Ctx K A T C) (S:SE K A C f) (h:u7 (f N) o i=some x):iY K A C N (.Subscript o i pos) x:=by
  unfold u7 at h
  refine eQ h (fun q hi h=>?_) fun hi h=>dy h fun a b h1 h2=>ba (fun _ _=>rfl) (fun _ _=>rfl) fun hN hn E r=>zd c S (fun l u st p q=>by subst q; contradiction) h1 h2 hN hn E r
  have hi:=z8 hi
  obtain ⟨lo,hi,st,p⟩:=q
  subst hi
  cases st with
  | none=>exact jE h fun ox lx hx h1 h2 h3=>ba (fun _ _=>rfl) (fun _ _=>rfl) fun hN hn E r=>vD S h1 h2 h3 hN hn E r
  | some st =>
    change ay _ _=_ at h
    refine aA h fun hcond h=>?_
    simp only [Bool.and_eq_true,Option.isNone_iff_eq_none] at hcond
    obtain ⟨⟨h1,h2⟩,hm⟩:=hcond
    obtain ⟨k,p1,p2,rfl⟩:=ad9 hm
    subst h1 h2
    exact cr h fun y hy=>ba (fun _ _=>rfl) (fun _ _=>rfl) fun hN hn E r=>zq S hy hN hn E r
theorem qE {elt:Expr} {gens:List Comprehension} {scope:Scope} {pos:Pos} {x:X} (h:lh T N f elt gens scope pos=some x):∃ z p iter ifs,gens=[⟨.Name z p,iter,ifs,0⟩]/\qG T N f elt z iter ifs scope pos=some x:=by
  unfold lh at h
  refine aE h fun g hg h=>aA h fun ha h=>aE h fun q hq h=>?_
  obtain ⟨tg,iter,ifs,asy⟩:=g
  obtain rfl:=eU hq
  obtain rfl:=eq_of_beq ha
  exact ⟨q.1,q.2,iter,ifs,nJ hg,h⟩
theorem t6 {elt:Expr} {gens:List Comprehension} {scope:Scope} {pos:Pos} {x:X} (c:Ctx K A T C) (S:SE K A C f) (h:lh T N f elt gens scope pos=some x):iY K A C N (.ListComp elt gens scope pos) x:=by
  obtain ⟨z,p,iter,ifs,rfl,h⟩:=qE h
  exact ti h fun t e cc i q=>ba (fun _ _=>rfl) (fun _ _=>rfl) fun hN hn E r=>pD c S q hN hn E r
theorem u8 (c:Ctx K A T C) (S:SE K A C f):SE K A C (aam T f):=by
  intro N e x h
  cases e with
  | Constant cc _ _=>exact ⟨rfl,cr h fun v hq=>ba (fun _ _=>rfl) (fun _ _=>rfl) fun _ _ _ r=>k9 hq r⟩
  | Name z p=>exact ⟨rfl,u9 c h⟩
  | BoolOp o es pos =>
    cases o with
    | And=>exact ⟨rfl,cr h fun v hq env ρ σ s α hN hn E r=>abQ S hq hN hn E r⟩
    | Or=>exact ⟨rfl,cr h fun v hq env ρ σ s α hN hn E r=>acn S hq hN hn E r⟩
  | UnaryOp o a pos =>
    cases o with
    | Not=>exact ⟨rfl,cr h fun v hq env ρ σ s α hN hn E r=>zy S hq hN hn E r⟩
    | USub=>exact ⟨rfl,cr h fun v hq=>ba (fun _ _=>rfl) (fun _ _=>rfl) fun hN hn E r=>zA S hq hN hn E r⟩
    | _=>contradiction
  | BinOp l o r' pos=>exact ⟨rfl,jE h fun _ _ _ ho ha hb=>ba (fun _ _=>rfl) (fun _ _=>rfl) fun hN hn E r=>z0 c S ho ha hb hN hn E r⟩
  | Compare l os rs pos=>exact ⟨rfl,xi c S h⟩
  | List es pos=>exact ⟨rfl,cr h fun v hq=>ba (fun _ _=>rfl) (fun _ _=>rfl) fun hN hn E r=>xM S hq hN hn E r⟩
  | Tuple es k pos=>exact ⟨rfl,cr h fun v hq=>ba (fun _ _=>rfl) (fun _ _=>rfl) fun hN hn E r=>yU S hq hN hn E r⟩
  | Call fn args kws pos =>
    refine ⟨rfl,?_⟩
    change ay _ _=_ at h
    refine aA h fun hk h=>?_
    rw [List.isEmpty_iff.mp hk]
    cases fn with
    | Name g p=>exact vk c S h
    | Attribute o m apos =>
      change ay _ _=_ at h
      exact aA h fun hl h=>vf c S hl h
    | _=>contradiction
  | Attribute o n pos =>
    refine ⟨rfl,aE h fun q hb h=>aA h fun hc h=>cr h fun ox h1=>?_⟩
    obtain ⟨hc1,hc2⟩:=Bool.and_eq_true_iff.mp hc
    exact ba (fun _ _=>rfl) (fun _ _=>rfl) fun hN hn E r=>xY (b:=q.1) c S hb hc1 (List.contains_iff_mem.mp hc2) h1 hN hn E r
  | Subscript o i pos=>exact ⟨rfl,u6 c S h⟩
  | Dict ks vs pos =>
    change ay _ _=_ at h
    refine ⟨rfl,aA h fun hc h=>?_⟩
    obtain ⟨h1,h2⟩:=Bool.and_eq_true_iff.mp hc
    rw [List.isEmpty_iff.mp h1,List.isEmpty_iff.mp h2]
    obtain rfl:=Option.some.inj h
    exact ba (fun _ _=>rfl) (fun _ _=>rfl) fun _ _ _ r=>xP r
  | ListComp elt gens scope pos=>exact ⟨rfl,t6 c S h⟩
  | _=>contradiction
theorem th (c:Ctx K A T C):∀ n,SE K A C (yd T n)
  | 0=>fun N e x h=>by contradiction
  | n + 1=>u8 c (th c n)
end
end Mine
namespace Mine
open PySem PyProof.Rows
section
variable {K:Kt} {A:Around} {s:Shared} {α:AL} {σ:ac}
end
noncomputable def eB (env:Env):List Addr:=env.locals::env.cells.map (·.2)
theorem bO {env:Env} {ρ:aw} {h:Heap} {α:AL} (E:ag env ρ h α) (hd:∀ p ∈ env.cells,env.cells.lookup p.1=some p.2):∀ b ∈ eB env,∃ o,h.get? b=some o:=by
  intro b hb
  rcases List.mem_cons.mp hb with q | q
  · subst q
    obtain ⟨m,⟨o,_,_,e,_⟩,_⟩:=E.ns
    exact ⟨o,e⟩
  · obtain ⟨p,hp,rfl⟩:=List.mem_map.mp q
    obtain ⟨_,_,v,o,e,_⟩:=E.ca p.1 p.2 (hd p hp)
    exact ⟨o,e⟩
structure bX (hb:Bs) (env:Env):Prop where
  sc:ac3 env.scope.names
  new:aI hb env
  cl:∀ p ∈ env.cells,env.cells.lookup p.1=some p.2
  inter:interactive env=false
noncomputable def afl (c:bQ) (h:Heap) (α:AL) (fl:Flow) (ρ:aw) (σ:ac):Prop:=
  match c with
  | .next ρ' σ'=>fl=.next/\ρ'=ρ/\σ'=σ
  | .brk ρ' σ'=>fl=.brk/\ρ'=ρ/\σ'=σ
  | .cont ρ' σ'=>fl=.cont/\ρ'=ρ/\σ'=σ
  | .ret v ρ' σ'=>(∃ u,fl=.ret u/\VR h α v u)/\ρ'=ρ/\σ'=σ
  | _=>False
inductive fT (K:Kt) (env:Env) (c:bQ) (s:Shared) (α:AL) (fl:Flow) (s':Shared):Prop where
  | mk (ρ':aw) (σ':ac) (α':AL) (x:aD (eB env) α s.heap α' s'.heap) (r:R K.hb s'.heap σ' α') (er:ag env ρ' s'.heap α') (m:Sm s s') (fo:afl c s'.heap α' fl ρ' σ'):fT K env c s α fl s'
inductive fc (K:Kt) (_A:Around) (env:Env) (c:bQ) (s:Shared) (α:AL) (e:Value) (s':Shared):Prop where
  | mk (i:Nat) (ρ:aw) (σ':ac) (s₁:Shared) (α₁:AL) (nt:Bool) (h:c=.exc i ρ σ') (x:aD (eB env) α s.heap α₁ s₁.heap) (er:ag env ρ s₁.heap α₁) (m:Sm s s₁) (fx:FX K s₁ α₁ i σ' nt e s'):fc K _A env c s α e s'
noncomputable def cR (K:Kt) (env:Env) (A:Around) (t:Sem Flow) (c:bQ) (s:Shared) (α:AL):Prop:=
  c ≠ .stuck->K.Tk s->wpAny (model K.prog K.w) A t (fT K env c s α) (fc K A env c s α) s
section
variable {K:Kt} {A:Around} {T:aL} {C:a8} {N:List (Str × NameKind)} {env:Env} {ρ:aw} {σ:ac} {s:Shared} {α:AL}
theorem fT.lift {c:bQ} {s₁:Shared} {α₁:AL} {fl:Flow} {s':Shared} (x:aD (eB env) α s.heap α₁ s₁.heap) (m:Sm s s₁) (p:fT K env c s₁ α₁ fl s'):fT K env c s α fl s':=by
  obtain ⟨ρ',σ',α',x',r,E,m',fo⟩:=p
  exact ⟨ρ',σ',α',x.trans x',r,E,m.trans m',fo⟩
theorem fc.lift {c:bQ} {s₁:Shared} {α₁:AL} {e:Value} {s':Shared} (x:aD (eB env) α s.heap α₁ s₁.heap) (m:Sm s s₁) (p:fc K A env c s₁ α₁ e s'):fc K A env c s α e s':=by
  obtain ⟨i,ρ,σ',au,aJ,nt,h,x',E,m',fx⟩:=p
  exact ⟨i,ρ,σ',au,aJ,nt,h,x.trans x',E,m.trans m',fx⟩
theorem aZ.toS {β:Type} {c:af β} {f:β->ac->bQ} {e:Value} {s':Shared} (E:ag env ρ s.heap α) (p:aZ K A c s α e s'):fc K A env (c.toS ρ f) s α e s':=by
  obtain ⟨i,σ',h,nt,fx⟩:=p
  exact ⟨i,ρ,σ',s,α,nt,by rw [h]; rfl,.refl,E,.refl s,fx⟩
theorem dG (F:bX K.hb env) (E:ag env ρ s.heap α) {α':AL} {h':Heap} (x:aD [] α s.heap α' h'):aD (eB env) α s.heap α' h':=
  x.mono (by simp) (bO E F.cl)
theorem Runs.useS {β γ:Type} {Rel:Heap->AL->β->γ->Prop} {t:Sem γ} {c:af β} {f:β->ac->bQ} {W:γ->Shared->Prop} (E:ag env ρ s.heap α) (H:Runs K Rel A t c s α) (hc:c.toS ρ f ≠ .stuck) (tk:K.Tk s)
    (N:∀ b σ' α' y s',c=.ok b σ'->f b σ' ≠ .stuck->aD [] α s.heap α' s'.heap->R K.hb s'.heap σ' α'->Rel s'.heap α' b y->Sm s s'->K.Tk s'->W y s'):wpAny (model K.prog K.w) A t W (fc K A env (c.toS ρ f) s α) s:=by
  have h1:c ≠ .stuck:=by rintro rfl; exact hc rfl
  refine wpAny_mono (cF (H h1 tk)) (fun y s' hp=>?_) fun e s' hx=>hx.1.toS E
  obtain ⟨⟨b,σ',α',rfl,x,r,v,m⟩,tl⟩:=hp
  exact N b σ' α' y s' rfl hc x r v m (Kt.Tk.up tk tl)
theorem f0 {i:Nat} {x:Str} {k:NameKind} {v:PV} {u:Value} {Q:Unit->Shared->Prop} {X:Value->Shared->Prop} (F:bX K.hb env) (r:R K.hb s.heap σ α) (E:ag env ρ s.heap α)
    (hn:env.scope.names[i]?=some (x,k)) (hk:k=.local\/k=.cell) (vu:VR s.heap α v u)
    (hQ:∀ s',R K.hb s'.heap σ α->ag env (ρ.set i (some v)) s'.heap α->aD (eB env) α s.heap α s'.heap->Sm s s'->Q () s') :
    wpAny (model K.prog K.w) A (storeName env x u) Q X s:=by
  rcases hk with rfl | rfl
  · refine pu F.sc.uniq r E F.new.l hn vu fun s' r' E' x' _ m'=>hQ s' r' E' (x'.mono (by simp [eB]) (bO E F.cl)) m'
  · refine zi F.sc.uniq r E F.new hn vu fun c s' hc r' E' x' m'=>hQ s' r' E' (x'.mono ?_ (bO E F.cl)) m'
    intro b hb
    simp at hb; subst hb
    exact List.mem_cons_of_mem _ (List.mem_map.mpr ⟨_,mem_of_lookup hc,rfl⟩)
theorem io {e:Expr} {t:Option Expr} {line:Nat} (h:gy e=false):swapsWith e t line env=pure false:=by
  cases e <;> first | rfl | contradiction
theorem abN {x:Str} {p pos:Pos} {e:Expr} {i:Nat} {k:NameKind} {y:X} (F:bX K.hb env) (hcp:gy e=false) (hn:env.scope.names[i]?=some (x,k)) (hk:k=.local\/k=.cell)
    (H:Runs K VR A (eval e env) (ev C y ρ σ) s α) (E:ag env ρ s.heap α) {n:Nat} :
    cR K env A (exec (.Assign [.Name x p] e pos) env) (ex C n (.asg i y) ρ σ) s α:=by
  change cR K env A _ ((ev C y ρ σ).toS ρ fun v σ=>.next (ρ.set i (some v)) σ) s α
  intro hc tk
  refine wpAny_Assign_Name (Runs.useS E H hc tk fun v σ₁ α₁ u s₁ e1 hc1 x1 r1 v1 m1 tk1=>?_) (io hcp)
  refine f0 F r1 (E.ext x1 .nil) hn hk v1 fun au r2 E2 x2 m2=>?_
  rw [e1]
  exact ⟨_,_,_,(dG F E x1).trans x2,r2,E2,m1.trans m2,rfl,rfl,rfl⟩
theorem zT {e:Expr} {pos:Pos} {y:X} (F:bX K.hb env) (hcp:gy e=false)
    (H:Runs K VR A (eval e env) (ev C y ρ σ) s α) (E:ag env ρ s.heap α) {n:Nat} :
    cR K env A (exec (.Expr e pos) env) (ex C n (.expr y) ρ σ) s α:=by
  change cR K env A _ ((ev C y ρ σ).toS ρ fun _ σ=>.next ρ σ) s α
  intro hc tk
  refine wpAny_Expr_any (Runs.useS E H hc tk fun v σ₁ α₁ u s₁ e1 hc1 x1 r1 v1 m1 tk1=>?_) F.inter (io hcp)
  rw [e1]
  exact ⟨ρ,σ₁,α₁,dG F E x1,r1,E.ext x1 .nil,m1,rfl,rfl,rfl⟩
theorem aaC {e:Expr} {pos:Pos} {y:X} (F:bX K.hb env)
    (H:Runs K VR A (eval e env) (ev C y ρ σ) s α) (E:ag env ρ s.heap α) {n:Nat} :
    cR K env A (exec (.Return (some e) pos) env) (ex C n (.ret y) ρ σ) s α:=by
  change cR K env A _ ((ev C y ρ σ).toS ρ fun v σ=>.ret v ρ σ) s α
  intro hc tk
  refine wpAny_Return_some (Runs.useS E H hc tk fun v σ₁ α₁ u s₁ e1 hc1 x1 r1 v1 m1 tk1=>?_)
  rw [e1]
  exact ⟨ρ,σ₁,α₁,dG F E x1,r1,E.ext x1 .nil,m1,⟨u,rfl,v1⟩,rfl,rfl⟩
theorem xn {q:Nat} {l:Addr} {es:List ((Str × Int) × PV)} {p v:PV} {k:Str × Int} {x u:Value} {Q:Unit->Shared->Prop} {X:Value->Shared->Prop} (hA:dF A) (r:R K.hb s.heap σ α) (hs:σ[q]?=some (.dp es)) (el:α.ix[q]?=some l)
    (hk:fE p=some k) (vp:VR s.heap α p x) (vv:VR s.heap α v u) (hl:es.length < am)
    (hQ:∀ s',R K.hb s'.heap (σ.set q (.dp (bW k v es))) α->aD [] α s.heap α s'.heap->Sm s s'->Q () s'):wpAny (model K.prog K.w) A (setItem (.ref l) x u) Q X s:=by
  obtain ⟨xs,h1,h2,h3,h4⟩:=pe r hs el
  obtain ⟨b,rfl,hb,hbn⟩:=qY (K:=K) hk vp
  have hlen:xs.length <= sizeLine:=by
    have e:=congrArg List.length h2
    simp only [List.length_map,kvsOf] at e
    rw [e]
    exact bL (Nat.le_of_lt hl)
  refine wpAny_setItem_heap (hsz:=hlen) (qO hA) hb h1 fun h' hd' sb=>?_
  obtain ⟨o',es',ep',e',_⟩:=id hd'
  have hkv:=wV mj (k:=k) h2 h4 vv
  obtain ⟨r',x'⟩:=r.set (m:=.dp (bW k v es)) el (fun b o hb e=>(sb.2 b hb).trans e) e' fun x'=>⟨storedH xs (kU k) b u,hd',by
      have:=hkv.1
      rw [<- kvsOf_storedH,kvsOf,List.map_map] at this
      exact this,fun y hy=>by
      rcases mem_storedH hy with ⟨z,hz,_,e2⟩ | ⟨_,e2⟩
      · rw [e2]; exact h3 z hz
      · rw [e2]; exact hbn,by
      have:=hkv.2
      rw [<- kvsOf_storedH,kvsOf,List.map_map] at this
      exact this.ext x'⟩
  exact hQ _ r' x' ⟨rfl,rfl⟩
theorem xm {q:Nat} {l:Addr} {es:List (Str × PV)} {v:PV} {k:Str} {t:Tok} {u:Value} {Q:Unit->Shared->Prop} {X:Value->Shared->Prop} (r:R K.hb s.heap σ α) (hs:σ[q]?=some (.ds es)) (el:α.ix[q]?=some l)
    (vv:VR s.heap α v u) (hl:es.length < am)
    (hQ:∀ s',R K.hb s'.heap (σ.set q (.ds (bW k v es))) α->aD [] α s.heap α s'.heap->Sm s s'->Q () s'):wpAny (model K.prog K.w) A (setItem (.ref l) (.str k t) u) Q X s:=by
  obtain ⟨kvs,h1,h2,h4⟩:=o9 r hs el
  have hlen:kvs.length <= sizeLine:=by
    have e:=congrArg List.length h2
    simp only [List.length_map] at e
    rw [e]
    exact bL (Nat.le_of_lt hl)
  refine wpAny_setItem_pairs (hsz:=hlen) nz h1 fun h' hd' sb=>?_
  obtain ⟨o',es',ep',e',_⟩:=id hd'
  have hkv:=wV (g:=id) (fun _ _ h=>h) (k:=k) h2 h4 vv
  obtain ⟨r',x'⟩:=r.set (m:=.ds (bW k v es)) el (fun b o hb e=>(sb.2 b hb).trans e) e' fun x'=>⟨stored kvs k u,hd',hkv.1,hkv.2.ext x'⟩
  exact hQ _ r' x' ⟨rfl,rfl⟩
theorem vA {q:Nat} {l:Addr} {m m':MO} {i v:PV} {x u:Value} {Q:Unit->Shared->Prop} {X:Value->Shared->Prop} (hA:dF A) (r:R K.hb s.heap σ α) (hs:σ[q]?=some m) (el:α.ix[q]?=some l)
    (h:li m i v=some m') (vi:VR s.heap α i x) (vv:VR s.heap α v u)
    (hQ:∀ s',R K.hb s'.heap (σ.set q m') α->aD [] α s.heap α s'.heap->Sm s s'->Q () s'):wpAny (model K.prog K.w) A (setItem (.ref l) x u) Q X s:=by
  cases m with
  | ds es =>
    cases i with
    | str k =>
      refine uO h fun hl h=>?_
      obtain rfl:=Option.some.inj h
      obtain ⟨_,rfl,_⟩:=vi.strE
      exact xm r hs el vv hl hQ
    | _=>contradiction
  | dp es =>
    refine aE h fun k hk h=>uO h fun hl h=>?_
    obtain rfl:=Option.some.inj h
    exact xn hA r hs el hk vi vv hl hQ
  | _=>contradiction
theorem zk {o i v:PV} {P:Prop} (h:cg o i v ρ σ ≠ .stuck) (k:∀ q m m',o=.ref q->σ[q]?=some m->li m i v=some m'->cg o i v ρ σ=.next ρ (σ.set q m')->P):P:=by
  cases o with
  | ref q =>
    cases hm:(σ[q]?).bind fun m=>li m i v with
    | none=>exact absurd (by unfold cg; dsimp only; rw [hm]) h
    | some m'=>exact aE hm fun m h1 h2=>k q m m' rfl h1 h2 (by unfold cg; dsimp only; rw [hm])
  | _=>exact absurd rfl h
theorem wU {o i v:Expr} {p pos:Pos} {x y z:X} (hA:dF A) (F:bX K.hb env) (hcp:gy v=false) {n:Nat}
    (H1:∀ {σ s α},ag env ρ s.heap α->R K.hb s.heap σ α->Runs K VR A (eval v env) (ev C z ρ σ) s α)
    (H2:∀ {σ s α},ag env ρ s.heap α->R K.hb s.heap σ α->Runs K VR A (eval o env) (ev C x ρ σ) s α)
    (H3:∀ {σ s α},ag env ρ s.heap α->R K.hb s.heap σ α->Runs K VR A (eval i env) (ev C y ρ σ) s α) (E:ag env ρ s.heap α) (r:R K.hb s.heap σ α) :
    cR K env A (exec (.Assign [.Subscript o i p] v pos) env) (ex C n (.asgSub x y z) ρ σ) s α:=by
  change cR K env A _ ((ev C z ρ σ).toS ρ fun v σ=>(ev C x ρ σ).toS ρ fun o σ=>(ev C y ρ σ).toS ρ fun i σ=>cg o i v ρ σ) s α
  intro hc tk
  refine wpAny_Assign_Subscript (Runs.useS E (H1 E r) hc tk fun vv σ₁ α₁ u s₁ e1 hc1 x1 r1 v1 m1 tk1=>?_) (io hcp)
  rw [e1]
  have E1:=E.ext x1 .nil
  refine wpAny_mono (Runs.useS (env:=env) (s:=s₁) (α:=α₁) E1 (H2 E1 r1) hc1 tk1 fun vo σ₂ aJ uo au e2 hc2 x2 r2 v2 m2 tk2=>?_) (fun _ _ q=>q) (fun _ _ q=>fc.lift (dG F E x1) m1 q)
  have E2:=E1.ext x2 .nil
  refine wpAny_mono (Runs.useS (env:=env) (s:=au) (α:=aJ) E2 (H3 E2 r2) hc2 tk2 fun vi σ₃ oP ui cy e3 hc3 x3 r3 v3 m3 tk3=>?_) (fun _ _ q=>q) (fun _ _ q=>by
    show fc K A env ((ev C x ρ σ₁).toS ρ _) s α _ _
    rw [e2]; exact fc.lift (dG F E (x1.trans x2)) (m1.trans m2) q)
  show wpAny (model K.prog K.w) A (setItem uo ui u) _ _ cy
  refine zk hc3 fun q m m' ho hs hm he=>?_
  subst ho
  obtain ⟨l,rfl,el⟩:=v2.refE
  refine vA hA r3 hs (x3.get el) hm v3 ((v1.ext x2).ext x3) fun s' r' x' m'=>?_
  show fT K env ((ev C x ρ σ₁).toS ρ _) _ _ _ _
  rw [e2]
  show fT K env ((ev C y ρ σ₂).toS ρ _) _ _ _ _
  rw [e3]
  show fT K env (cg (.ref q) vi vv ρ σ₃) _ _ _ _
  rw [he]
  exact ⟨ρ,_,oP,dG F E (((x1.trans x2).trans x3).trans x'),r',(E2.ext x3 .nil).ext x' .nil,((m1.trans m2).trans m3).trans m',rfl,rfl,rfl⟩
end
end Mine
namespace Mine
open PySem PyProof.Rows
theorem aa9 {q:Prop} {_:Decidable q} {a b:bQ} (h:(if q then a else .stuck)=b) (hb:b ≠ .stuck):q/\a=b:=by
  by_cases hq:q
  · rw [if_pos hq] at h; exact ⟨hq,h⟩
  · rw [if_neg hq] at h; exact absurd h.symm hb
section
variable {K:Kt} {A:Around} {T:aL} {C:a8} {N:List (Str × NameKind)} {env:Env} {ρ:aw} {σ:ac} {s:Shared} {α:AL}
theorem abm {own:List Addr} {h:Heap} (E:ag env ρ h α) (F:bX K.hb env) (ho:∀ b ∈ own,h.get? b=none):mK env own/\∀ b ∈ own,b ∉ eB env:=by
  have al:=bO E F.cl
  refine ⟨⟨fun q=>?_,fun x c hc q=>?_⟩,fun b hb q=>?_⟩
  · obtain ⟨o,e⟩:=al env.locals List.mem_cons_self
    rw [ho _ q] at e; contradiction
  · obtain ⟨_,_,v,o,e,_⟩:=E.ca x c hc
    rw [ho _ q] at e; contradiction
  · obtain ⟨o,e⟩:=al b q
    rw [ho _ hb] at e; contradiction
noncomputable def aab (K:Kt) (A:Around) (en:Bool) (env:Env) (target:Expr) (bind:PV->aw->Option aw):Prop:=
  ((en=false/\∀ it v,letOwnedTupleGo target it v=pure ())\/∃ elts k pos,target=.Tuple elts k pos)/\∀ (s:Shared) (σ:ac) (α:AL) (ρ ρ':aw) (p:PV) (u:Value),bind p ρ=some ρ'->ag env ρ s.heap α->R K.hb s.heap σ α->VR s.heap α p u ->
    ∀ (Q:Unit->Shared->Prop) (X:Value->Shared->Prop),(∀ s',R K.hb s'.heap σ α->ag env ρ' s'.heap α->aD (eB env) α s.heap α s'.heap->Sm s s'->Q () s')->wpAny (model K.prog K.w) A (assign target env u) Q X s
theorem ab5 {i:Nat} {x:Str} {k:NameKind} {p:Pos} (F:bX K.hb env) (hn:env.scope.names[i]?=some (x,k)) (hk:k=.local\/k=.cell):aab K A false env (.Name x p) (cI i):=
  ⟨.inl ⟨rfl,fun _ _=>rfl⟩,fun s σ α ρ ρ' pv u hb E r v Q X hQ=>by
    obtain rfl:=Option.some.inj hb
    exact wpAny_assign_Name (f0 F r E hn hk v hQ)⟩
inductive abT (K:Kt) (env:Env) (s:Shared) (xs:List PV) (Ex:AL->Heap->Prop) (St:Nat->Heap->AL->Prop) (go:List PV->aw->ac->bQ) (c:bQ) (k:Nat) (s₁:Shared):Prop
  | mk (i:Nat) (σ₁:ac) (α₁:AL) (ρ₁:aw) (hk:k=xs.length - i) (hi:i <= xs.length) (x:Ex α₁ s₁.heap) (r:R K.hb s₁.heap σ₁ α₁) (st:St i s₁.heap α₁) (E:ag env ρ₁ s₁.heap α₁) (m:Sm s s₁) (hgo:go (xs.drop i) ρ₁ σ₁=c) (tk:K.Tk s₁):abT K env s xs Ex St go c k s₁
theorem tN {target it:Expr} {body:List Stmt} {pos:Pos} {bind:PV->aw->Option aw} {ix:X} {b:S} {n:Nat} {c:bQ} {en:Bool} (F:bX K.hb env) (tg:aab K A en env target bind) (hpl:eP it=true)
    (hit:ei K A en (eval it env) (evIt C ix ρ σ) s α) (hb:∀ {ρ σ s α},ag env ρ s.heap α->R K.hb s.heap σ α->cR K env A (execs body env) (ex C n b ρ σ) s α) (E:ag env ρ s.heap α)
    (hcc:c=(evIt C ix ρ σ).toS ρ fun p σ=>bB p.2 bind (fun ρ σ=>ex C n b ρ σ) p.1 ρ σ) :
    cR K env A (exec (.For target it body [] pos) env) c s α:=by
  subst hcc
  intro hc tk
  have hci:evIt C ix ρ σ ≠ .stuck:=by intro q; rw [q] at hc; exact hc rfl
  refine wpAny_For (wpAny_mono (cF (hit hci tk)) (fun xv s₁ bx=>wpAny_mono (cF bx.1) (fun g4 au ez=>?_) fun _ _ q=>q.1.toS E) fun _ _ q=>q.1.toS E) (jC hpl)
  have qI:K.Tk au:=Kt.Tk.up tk (Nat.le_trans bx.2 ez.2)
  obtain ⟨xs,w,σ₂,aJ,own,St,hci2,dI,bV,iJ,I,st,ho⟩:=ez.1
  obtain ⟨ap,apF⟩:=abm E F fun b hb=>(ho b hb).1
  rw [hci2] at hc ⊢
  generalize hcq:(af.ok (xs,w) σ₂).toS ρ (fun p σ=>bB p.2 bind (fun ρ σ=>ex C n b ρ σ) p.1 ρ σ)=c at hc ⊢
  have hgo:bB w bind (fun ρ σ=>ex C n b ρ σ) xs ρ σ₂=c:=hcq
  have lb:=E.ext dI .nil
  have al2:∀ b ∈ own++eB env,∃ o,au.heap.get? b=some o:=fun b hb=>by
    rcases List.mem_append.mp hb with q | q
    · exact I.live _ _ _ st b q
    · exact bO lb F.cl b q
  refine codeAny_forLoop_any (abT K env s xs (aD (own++eB env) aJ au.heap) St (bB w bind fun ρ σ=>ex C n b ρ σ) c) (fun k s₁ inv=>?_) _ ⟨0,σ₂,aJ,ρ,rfl,Nat.zero_le _,.refl,bV,st,lb,iJ,by simpa using hgo,qI⟩
  obtain ⟨i,σ₁,α₁,ρ₁,rfl,hi,nu,kQ,zf,j3,kS,bN,j7⟩:=inv
  have al1:∀ b ∈ own++eB env,∃ o,s₁.heap.get? b=some o:=fun b hb=>by
    rcases List.mem_append.mp hb with q | q
    · exact I.live _ _ _ zf b q
    · exact bO j3 F.cl b q
  by_cases hlt:i < xs.length
  · have hdrop:xs.drop i=xs[i]::xs.drop (i + 1):=List.drop_eq_getElem_cons hlt
    rw [hdrop] at bN
    obtain ⟨hw,bN⟩:=aa9 bN hc
    cases hbi:bind xs[i] ρ₁ with
    | none=>rw [hbi] at bN; exact absurd bN.symm hc
    | some ρ1 =>
    rw [hbi] at bN
    change jF _ (ex C n b ρ1 σ₁)=c at bN
    have hf1:ex C n b ρ1 σ₁ ≠ .stuck:=by intro q; rw [q] at bN; exact hc bN.symm
    refine dS j7 (I.item i s₁ σ₁ α₁ xs[i] (by simp [hlt]) zf kQ hw _ _ fun v cy vr jb ow xo kP l8 lW=>?_)
    have go:∀ {Q:Unit->Shared->Prop} {E:Value->Shared->Prop},(∀ s',VR s'.heap α₁ xs[i] v->St (i + 1) s'.heap α₁->aD own α₁ s₁.heap α₁ s'.heap->R K.hb s'.heap σ₁ α₁->Sm s₁ s'->K.Tk s'->Q () s')->wpAny (model K.prog K.w) A (letOwnedTupleGo target g4 v) Q E cy:=fun h=>by
      rcases tg.1 with ⟨he,hgo⟩ | ⟨elts,k,pos,rfl⟩
      · exact wpAny_of_eq (hgo g4 v) (h cy vr (jb he) xo kP l8 lW)
      · exact dS lW (ow elts k pos _ _ fun s' ⟨a,b,c,d,e⟩ tk'=>h s' a b (xo.trans c) d (l8.trans e) tk')
    refine go fun cy vr jb xo kP l8 lW=>?_
    have oN:=j3.ext xo ap
    refine dS lW (tg.2 cy σ₁ α₁ ρ₁ ρ1 xs[i] v hbi oN kP vr _ _ fun kO vG oM x4 zC oS=>?_)
    have qK:=I.frame _ _ _ _ _ _ jb x4 apF
    have al3:∀ b ∈ own++eB env,∃ o,cy.heap.get? b=some o:=fun b hb=>by
      rcases List.mem_append.mp hb with q | q
      · exact I.live _ _ _ jb b q
      · exact bO oN F.cl b q
    have al4:∀ b ∈ own++eB env,∃ o,kO.heap.get? b=some o:=fun b hb=>by
      rcases List.mem_append.mp hb with q | q
      · exact I.live _ _ _ qK b q
      · exact bO oM F.cl b q
    have yL:aD (own++eB env) aJ au.heap α₁ kO.heap:=(nu.trans (xo.mono (fun b hb=>List.mem_append_left _ hb) al1)).trans (x4.mono (fun b hb=>List.mem_append_right _ hb) al3)
    refine wpAny_mono (cF (hb oM vG hf1 oS)) (fun fl ny hp=>?_) fun e ny hx=>?_
    · obtain ⟨⟨agt,uG,j5,x5,sd,tc,acs,fo⟩,y9⟩:=hp
      have uK:=Kt.Tk.up oS y9
      have uL:=I.frame _ _ _ _ _ _ qK x5 apF
      have uV:=yL.trans (x5.mono (fun b hb=>List.mem_append_right _ hb) al4)
      have mm:=((kS.trans l8).trans zC).trans acs
      have out:aD (eB env) α s.heap j5 ny.heap:=aD.drop dI (fun b hb=>(ho b hb).1) (bO E F.cl) uV
      cases hq:ex C n b ρ1 σ₁ with
      | next ρ' σ' =>
        rw [hq] at fo bN
        obtain ⟨rfl,rfl,rfl⟩:=fo
        exact ⟨xs.length - (i + 1),Nat.sub_succ_lt_self _ _ hlt,i + 1,_,_,_,rfl,hlt,uV,sd,uL,tc,mm,bN,uK⟩
      | cont ρ' σ' =>
        rw [hq] at fo bN
        obtain ⟨rfl,rfl,rfl⟩:=fo
        exact ⟨xs.length - (i + 1),Nat.sub_succ_lt_self _ _ hlt,i + 1,_,_,_,rfl,hlt,uV,sd,uL,tc,mm,bN,uK⟩
      | brk ρ' σ' =>
        rw [hq] at fo bN
        obtain ⟨rfl,rfl,rfl⟩:=fo
        subst bN
        exact ⟨_,_,_,out,sd,tc,mm,rfl,rfl,rfl⟩
      | ret v ρ' σ' =>
        rw [hq] at fo bN
        obtain ⟨⟨u,rfl,vu⟩,rfl,rfl⟩:=fo
        subst bN
        exact ⟨_,_,_,out,sd,tc,mm,⟨u,rfl,vu⟩,rfl,rfl⟩
      | exc i ρ' σ'=>rw [hq] at bN; exact absurd bN.symm hc
      | stuck=>exact absurd hq hf1
    · obtain ⟨⟨j,ρ',σ',_,_,_,e5,_⟩,_⟩:=hx
      rw [e5] at bN; exact absurd bN.symm hc
  · have hie:i=xs.length:=Nat.le_antisymm hi (Nat.not_lt.mp hlt)
    subst hie
    rw [List.drop_length] at bN
    obtain ⟨hw,hgo'⟩:=aa9 bN hc
    refine I.done s₁ σ₁ α₁ zf kQ hw _ _ fun cy xo kP l8=>wpAny_execs_nil ?_
    show fT K env c s α .next cy
    rw [<- hgo']
    exact ⟨_,_,_,aD.drop dI (fun b hb=>(ho b hb).1) (bO E F.cl) (nu.trans (xo.mono (fun b hb=>List.mem_append_left _ hb) al1)),kP,j3.ext xo ap,kS.trans l8,rfl,rfl,rfl⟩
end
end Mine
namespace Mine
open PySem PyProof.Rows
end Mine
namespace Mine
open PySem PyProof.Rows
noncomputable def Kt.wx (K:Kt) (h:Heap):Kt:={ K with hb:={ K.hb with h:=h },ph:=true }
noncomputable def s9 (K:Kt) (h:Heap) (a:Addr) (C:a8):Prop:=
  (∀ b o,K.hb.h.get? b=some o->h.get? b=some o)/\(C.hd=false->∃ (o:Obj) (vs:Array Value),h.get? a=some o/\o.data=.fields vs/\vs[2]?=some .none)
theorem adE {h hb:Heap} {a:Addr} {o:Obj} (base:∀ b o,hb.get? b=some o->h.get? b=some o) (e:h.get? a=some o) :
    ∃ h':Heap,(∀ b o,hb.get? b=some o->h'.get? b=some o)/\h'.get? a=some o/\∀ b o',h'.get? b=some o'->b=a\/hb.get? b=some o':=by
  refine ⟨PySem.W.hideAll h ((List.range h.objs.size).filter fun b=>b != a && (hb.get? b).isNone),fun b o' q=>PySem.W.hideAll_get _ (base b o' q) fun z=>?_,PySem.W.hideAll_get _ e fun z=>?_,fun b o' q=>?_⟩
  · have:=(List.mem_filter.mp z).2
    rw [q] at this
    simp at this
  · have:=(List.mem_filter.mp z).2
    simp at this
  · have q':=PySem.W.of_hideAll _ q
    by_cases hba:b=a
    · exact .inl hba
    · right
      cases hq:hb.get? b with
      | some o2=>rw [base b o2 hq] at q'; exact q'
      | none =>
        have:b ∈ (List.range h.objs.size).filter fun b=>b != a && (hb.get? b).isNone:=List.mem_filter.mpr ⟨List.mem_range.mpr (Heap.lt_size q'),by simp [hba,hq]⟩
        rw [PySem.W.hideAll_none _ this] at q; contradiction
section
variable {K:Kt} {A:Around} {T:aL} {C:a8} {N:List (Str × NameKind)} {env:Env} {ρ:aw} {σ:ac} {s:Shared} {α:AL}
theorem OR.wx {h h':Heap} {m:MO} {a:Addr} (o:OR K.hb h α m a):OR (K.wx h').hb h α m a:=by cases m <;> exact o
theorem OR.unwx {h h':Heap} {m:MO} {a:Addr} (o:OR (K.wx h').hb h α m a):OR K.hb h α m a:=by cases m <;> exact o
theorem R.wx {h h':Heap} {a:Addr} {o:Obj} {vs:Array Value} (r:R K.hb h σ α) (e:h.get? a=some o) (hd:o.data=.fields vs) (ha:a ∉ α.all) (e':h'.get? a=some o) (only:∀ b o',h'.get? b=some o'->b=a\/K.hb.h.get? b=some o'):R (K.wx h').hb h σ α:=by
  have no:∀ {b:Addr},b ≠ a->K.hb.get? b=none->(K.wx h').hb.get? b=none:=fun {b} hb hn=>by
    cases q:(K.wx h').hb.get? b with
    | none=>rfl
    | some o' =>
      rcases only b o' q with z | z
      · exact absurd z hb
      · rw [show K.hb.get? b=some o' from z] at hn; contradiction
  refine ⟨fun b o' q=>?_,fun b hb=>no (fun z=>ha (z ▸ List.mem_append_left _ hb)) (r.fresh b hb),r.nodup,r.len,r.hidden,fun i m b e1 e2=>(r.obj i m b e1 e2).wx,fun b hb=>no (fun z=>ha (z ▸ List.mem_append_right _ hb)) (r.hfr b hb),r.fe,fun b hb=>?_,r.frNot⟩
  · rcases only b o' q with z | z
    · subst z
      rw [show (K.wx h').hb.get? b=some o from e'] at q
      obtain rfl:=Option.some.inj q; exact e
    · exact r.base b o' z
  · obtain ⟨q1,o',q2,q3⟩:=r.frs b hb
    refine ⟨no (fun z=>?_) q1,o',q2,q3⟩
    rw [z,e] at q2
    obtain rfl:=Option.some.inj q2
    obtain ⟨es,n,d⟩:=q3
    rw [hd] at d; contradiction
theorem R.unwx {h h':Heap} (k:∀ b o,K.hb.h.get? b=some o->h'.get? b=some o) (r:R (K.wx h').hb h σ α):R K.hb h σ α:=by
  have no:∀ {b:Addr},(K.wx h').hb.get? b=none->K.hb.get? b=none:=fun {b} hn=>by
    cases q:K.hb.get? b with
    | none=>rfl
    | some o'=>rw [show (K.wx h').hb.get? b=some o' from k b o' q] at hn; contradiction
  exact ⟨fun b o q=>r.base b o (k b o q),fun b hb=>no (r.fresh b hb),r.nodup,r.len,r.hidden,fun i m b e1 e2=>(r.obj i m b e1 e2).unwx,fun b hb=>no (r.hfr b hb),r.fe,fun b hb=>let ⟨q1,q2⟩:=r.frs b hb; ⟨no q1,q2⟩,r.frNot⟩
theorem bX.wx {h':Heap} {a:Addr} {o:Obj} {vs:Array Value} (F:bX K.hb env) (E:ag env ρ s.heap α) (e:s.heap.get? a=some o) (hd:o.data=.fields vs) (only:∀ b o',h'.get? b=some o'->b=a\/K.hb.h.get? b=some o'):bX (K.wx h').hb env:=by
  have no:∀ {b:Addr},b ≠ a->K.hb.get? b=none->(K.wx h').hb.get? b=none:=fun {b} hb hn=>by
    cases q:(K.wx h').hb.get? b with
    | none=>rfl
    | some o' =>
      rcases only b o' q with z | z
      · exact absurd z hb
      · rw [show K.hb.get? b=some o' from z] at hn; contradiction
  refine ⟨F.sc,⟨no (fun z=>?_) F.new.l,fun x c hc=>no (fun z=>?_) (F.new.c x c hc),F.new.f⟩,F.cl,F.inter⟩
  · obtain ⟨m,⟨o',es,ep,e',d,_⟩,_⟩:=E.ns
    rw [z,e] at e'
    obtain rfl:=Option.some.inj e'
    rw [hd] at d; contradiction
  · obtain ⟨_,_,v,o',e',d⟩:=E.ca x c hc
    rw [z,e] at e'
    obtain rfl:=Option.some.inj e'
    rw [hd] at d; contradiction
theorem uA:entryFor table "proto.unchain" = some Builtin.«proto.unchain»:=entryFor_of_fast (by kernel_rfl)
theorem xu {prog:Program} {w:World} {β:Type} {e h:Addr} {oe oh:Obj} {ve vh:Array Value} {Q:β->Shared->Prop} {E:Value->Shared->Prop} (hh:A.handled=some (.ref h)) (hne:h ≠ e) (h1:s.heap.get? h=some oh) (h2:oh.data=.fields vh) (h3:vh[2]?=some .none)
    (e1:s.heap.get? e=some oe) (e2:oe.data=.fields ve) (e3:2 < ve.size) (hE:E (.ref e) { s with heap:=s.heap.update e (Obj.mapFields (·.setIfInBounds 2 (.ref h))) }):wpAny (model prog w) A (raiseNew (.ref e):Sem β) Q E s:=by
  unfold raiseNew
  refine wpAny_bind (wpAny_handled ?_)
  rw [hh]
  dsimp only
  rw [if_pos (show (Value.ref h != Value.ref e)=true by simpa using hne)]
  refine wpAny_bind (wpAny_holding (wpAny_runValue (codeAny_builtin uA ?_)))
  show wpAny _ _ (field (.ref h) 2 >>= _) _ _ s
  refine wpAny_bind (wpAny_field h1 h2 h3 ?_)
  rw [if_pos (by decide)]
  refine wpAny_bind (wpAny_pure (wpAny_pure ?_))
  show wpAny _ A (setField (.ref e) 2 (.ref h) >>= fun _=>throw (.ref e)) Q E s
  exact wpAny_bind (wpAny_setField e1 e2 e3 (wpAny_throw hE))
end
section
variable {prog:Program} {w:World} {A:Around} {E:Value->Shared->Prop} {s:Shared} {env:Env}
variable {nm q:Str} {C N:Addr} {bs bm bmB:List Value} {hdct:Bool} {sn:List Str} {sub:List Value} {ab:Bool} {col:Option Bool} {dd:Option Addr} {k0 k1 k2 k3 k5:Option Value} {B newId initId:String}
theorem zt {x:Sem Value} {Q:Flow->Shared->Prop} (hbase:bm.contains (.type "BaseException")=true)
    (h:wpAny (model prog w) A x (fun v s₁=>∃ e t,v=.ref e/\s₁.heap.get? C=some (excClassObj nm q C N bs bm hdct sn sub ab col dd k0 k1 k2 k3 k5 newId) ∧
      s₁.heap.get? e=some { cls:=.ref C,data:=.fields #[.ref t,.none,.none,.none,.bool false,.none] }/\wpAny (model prog w) A (raiseNew (.ref e):Sem Flow) Q E s₁) E s):wpAny (model prog w) A (raiseStmt env (some x) none) Q E s:=by
  have hcB:(Value.ref C::bm).contains (.type "BaseException")=true:=by rw [List.contains_cons,hbase,Bool.or_true]
  unfold raiseStmt
  refine wpAny_bind (wpAny_mono h (fun v s₁ bx=>?_) fun _ _ x=>x)
  obtain ⟨e,t,rfl,hC,he,hE⟩:=bx
  obtain ⟨hp,g,d,tk,os⟩:=s₁
  repeat (first | with_reducible refine wpAny_loadPart_at he ?_ | with_reducible refine wpAny_loadPart_at hC ?_ | (with_reducible refine wpAny_isSubtype_exc hC ?_; rw [hcB]) | wp_step)
  exact hE
theorem zu (F:ExcBaseFacts B newId initId bmB) {mN:Str->Option Value} {x:Str} {np cpos pos:Pos} {args:List Expr} {Q:Flow->Shared->Prop}
    (hbase:bm.contains (.type "BaseException")=true) (hplain:(backTo cpos (starEach args env)).any (·.1)=false) (hni:mN "__init__" = none)
    (h:wpAny (model prog w) A (eval (.Name x np) env) (fun f s₁=>f=.ref C/\wpAny (model prog w) A (evalArgs (.ref C) true (backTo cpos (starEach args env)) [])
      (fun a au=>a.kw=[]/\a.pos.length <= sizeLine/\au.heap.get? C=some (excClassObj nm q C N bs bm hdct sn sub ab col dd k0 k1 k2 k3 k5 newId)/\au.heap.Ns N mN/\OwnTail au.heap bmB bm ∧
        ∀ h' e,Heap.MadeExcOf au.heap h' e (.ref C) a.pos->wpAny (model prog w) A (raiseNew (.ref e):Sem Flow) Q E { au with heap:=h' }) E s₁) E s) :
    wpAny (model prog w) A (exec (.Raise (some (.Call (.Name x np) args [] cpos)) none pos) env) Q E s:=by
  rw [arm_exec_Raise]
  refine wpAny_bind (wpAny_standAt (zt (C:=C) (nm:=nm) (q:=q) (N:=N) (bs:=bs) (bm:=bm) (hdct:=hdct) (sn:=sn) (sub:=sub) (ab:=ab) (col:=col) (dd:=dd) (k0:=k0) (k1:=k1) (k2:=k2) (k3:=k3) (k5:=k5) (newId:=newId) hbase (wpAny_bind (wpAny_mono (wpAny_Call_ofName (wpAny_mono h (fun f s₁ bx=>?_) fun _ _ x=>x)) (fun v cy wc=>wpAny_bind (wpAny_standAt (wpAny_pure wc))) fun _ _ x=>x))))
  obtain ⟨rfl,bx⟩:=bx
  unfold callWith
  refine wpAny_bind (wpAny_holding (wpAny_mono bx (fun a au ez=>wpAny_bind (wpAny_standAt ?_)) fun _ _ x=>x))
  obtain ⟨apos,akw⟩:=a
  obtain ⟨hkw,hlen,hC,hn,T,ez⟩:=ez
  obtain rfl:akw=[]:=hkw
  obtain ⟨hp,g,d,tk,os⟩:=au
  simp only [hplain]
  refine wpAny_bind (wpAny_keeperOf_exc hC ?_)
  refine wpAny_bind (wpAny_call_exc_subT (hrest:=hlen) F T hC hn hni fun h' e hm=>wpAny_bind (wpAny_holding (wpAny_point (wpAny_pure ?_))))
  obtain ⟨t,ht,_,_⟩:=hm.there
  exact ⟨e,t,rfl,hm.keeps _ _ hC,ht,ez h' e hm⟩
end
end Mine
namespace Mine
open PySem PyProof.Rows
theorem ag.wipe {env:Env} {ρ:aw} {h h':Heap} {α:AL} {m:Str->Option Value} (E:ag env ρ h α) (n:h'.Ns env.locals m) (sb:∀ b,b ≠ env.locals->h'.get? b=h.get? b):ag env (ρ.map fun _=>none) h' α:=by
  have no:∀ (i:Nat) (v:PV),(ρ.map fun _=>(none:Option PV))[i]? ≠ some (some v):=fun i v e=>by
    rw [List.getElem?_map] at e
    cases hq:ρ[i]? <;> rw [hq] at e <;> (first | contradiction | (obtain rfl:=Option.some.inj e) | cases e)
  refine ⟨E.ok,E.la,⟨m,n,fun i x v _ e=>absurd e (no i v)⟩,fun x c hc=>?_,E.cd,fun i x e1=>?_,fun i v e=>absurd e (no i v)⟩
  · obtain ⟨h1,h2,v,o,e,d⟩:=E.ca x c hc
    exact ⟨h1,h2,v,o,(sb c h2).trans e,d⟩
  · obtain ⟨c,hc,_⟩:=E.cv i x e1
    exact ⟨c,hc,fun v e=>absurd e (no i v)⟩
section
variable {K:Kt} {A:Around} {T:aL} {C:a8} {N:List (Str × NameKind)} {env:Env} {ρ:aw} {σ:ac} {s:Shared} {α:AL} {n:Nat}
theorem FX.made {c:Nat} {a:Addr} {h':Heap} {args:List Value} (r:R K.hb s.heap σ α) (m:Heap.MadeExcOf s.heap h' a (.ref c) args):FX K s α c σ false (.ref a) { s with heap:=h' }:=by
  obtain ⟨t,e1,e2,e3⟩:=m.there
  exact ⟨a,s.heap,α,rfl,.refl,r,.keeps m.keeps,⟨m.new,_,_,.none,e1,rfl,rfl,rfl,.inl rfl rfl,.none,rfl,fun _=>rfl⟩,⟨rfl,rfl⟩⟩
theorem FX.made2 {c:Nat} {a x:Addr} {h':Heap} {args:List Value} (hp:K.ph=true) (r:R K.hb s.heap σ α) (m:Heap.MadeExcOf s.heap h' a (.ref c) args):FX K s α c σ false (.ref a) { s with heap:=h'.update a (Obj.mapFields (·.setIfInBounds 2 (.ref x))) }:=by
  obtain ⟨t,e1,e2,e3⟩:=m.there
  refine ⟨a,s.heap,α,rfl,.refl,r,.keeps fun b o e=>?_,⟨m.new,_,_,.none,Heap.get?_update_self _ e1 rfl,rfl,rfl,rfl,.inl rfl rfl,.ref x,rfl,fun z=>?_⟩,⟨rfl,rfl⟩⟩
  · have hba:a ≠ b:=fun z=>by rw [<- z,m.new] at e; contradiction
    exact (Heap.get?_update_other _ _ hba).trans (m.keeps b o e)
  · rw [hp] at z; contradiction
theorem xt {x:Str} {np cp pos:Pos} {z:Str} {k:Nat} {zp:Pos} {c:Nat} (ct:Ctx K A T C) (hx:mA T N x=some c) (hz:PyData.strOk z=true) (hN:env.scope.names=N) (E:ag env ρ s.heap α) (r:R K.hb s.heap σ α) :
    cR K env A (exec (.Raise (some (.Call (.Name x np) [.Constant (.str z) k zp] [] cp)) none pos) env) (ex C n (.raise c) ρ σ) s α:=by
  have e0:ex C n (.raise c) ρ σ=bif C.rz then .exc c ρ σ else .stuck:=rfl
  rw [e0]
  cases hrz:C.rz with
  | false=>exact fun hc=>absurd rfl hc
  | true =>
  intro _ tk
  obtain ⟨hg,q,hq,rfl,rfl⟩:=qk hx
  obtain ⟨j,hj⟩:=jw hg
  obtain ⟨Fg,X,H⟩:=ct.exc
  obtain ⟨⟨hmg,hob,htl⟩,_⟩:=H q hq
  obtain ⟨nm,qn,Nn,bs,hdct,sn,sub,ab,col,dd,k0,k1,k2,k3,k5,hC,mN,hNs,hni⟩:=hob
  refine zu (mN:=mN) (C:=q.2.1) (nm:=nm) (q:=qn) (N:=Nn) (bs:=bs) (hdct:=hdct) (sn:=sn) (sub:=sub) (ab:=ab) (col:=col) (dd:=dd) (k0:=k0) (k1:=k1) (k2:=k2) (k3:=k3) (k5:=k5) F.excBase_ValueError (htl.hasType rfl) rfl hni ?_
  refine f9 ct.hK r E.ok (by rw [hN]; exact hj) hmg ⟨rfl,?_⟩
  refine Calls.evalArgs_plain (Calls.spliced_cons (wpAny_mono (k9 (c:=.str z) (v:=.str z) (k:=k) (p:=zp) (env:=env) (by simp [lg,ay,hz]) r (by simp) tk) (fun v s₁ hp=>Calls.spliced_nil ?_) fun e s₁ hx=>?_))
  · obtain ⟨b,σ₁,α₁,e1,x1,r1,_,m1⟩:=hp
    (first | contradiction | (obtain rfl:=Option.some.inj e1) | cases e1)
    refine ⟨rfl,by show 1 <= sizeLine; decide,r1.base _ _ hC,hNs.keeps r1.base,htl.keeps r1.base,fun h' e hm=>?_⟩
    cases hhd:C.hd with
    | false=>exact wpAny_raiseNew_none (ct.hd hhd) ⟨_,_,_,s,α,_,rfl,.refl,E,.refl s,FX.lift x1 m1 (FX.made r1 hm)⟩
    | true =>
      obtain ⟨ha,oa,va,hq1,hq2,hq3,hq4⟩:=ct.rz hrz hhd
      obtain ⟨t,e1,e2,e3⟩:=hm.there
      have hb:=r1.base _ _ hq2
      refine xu (s:={ s₁ with heap:=h' }) hq1 (fun z=>?_) (hm.keeps _ _ hb) hq3 hq4 e1 rfl (show 2 < 6 by decide) ⟨_,_,_,s,α,_,rfl,.refl,E,.refl s,FX.lift x1 m1 (FX.made2 (ct.ph.trans hhd) r1 hm)⟩
      rw [z,hm.new] at hb; contradiction
  · obtain ⟨i,σ₁,e1,_⟩:=hx
    (first | contradiction | (obtain rfl:=Option.some.inj e1) | cases e1)
theorem ab8 {c d:Nat} (h:(gl T d).contains c=true):∃ p ∈ T.excs,p.2.1=c/\(c=d\/d ∈ p.2.2):=by
  obtain ⟨p,hp,rfl⟩:=List.mem_map.mp (List.contains_iff_mem.mp h)
  obtain ⟨h1,h2⟩:=List.mem_filter.mp hp
  refine ⟨p,h1,rfl,?_⟩
  simp only [Bool.or_eq_true,beq_iff_eq,List.contains_iff_mem] at h2
  exact h2
theorem xK {a:Addr} {o:Obj} {c d:Nat} {Q:Bool->Shared->Prop} {X:Value->Shared->Prop} (ct:Ctx K A T C) (r:R K.hb s.heap σ α) (he:s.heap.get? a=some o) (hcl:o.cls=.ref c) (hd:∃ q ∈ T.excs,q.2.1=d)
    (hs:(gl T d).contains c=true) (hQ:Q true s) {A':Around}:wpAny (model K.prog K.w) A' (excMatches (.ref a) (.ref d)) Q X s:=by
  obtain ⟨Fg,XF,H⟩:=ct.exc
  obtain ⟨p,hp,rfl,hpd⟩:=ab8 hs
  obtain ⟨q,hq,rfl⟩:=hd
  obtain ⟨⟨_,⟨nm,qn,Nn,bs,hdct,sn,sub,ab,col,dd,k0,k1,k2,k3,k5,hC,_⟩,t1⟩,_⟩:=H p hp
  obtain ⟨⟨_,⟨nm',qn',Nn',bs',hdct',sn',sub',ab',col',dd',k0',k1',k2',k3',k5',hD,_⟩,t2⟩,_⟩:=H q hq
  have hC':=r.base _ _ hC
  have hD':=r.base _ _ hD
  have hcB:(Value.ref q.2.1::(q.2.2.map Value.ref++[.type "ValueError",.type "Exception",.type "BaseException",.type "object"])).contains (.type "BaseException")=true:=by
    rw [List.contains_cons,t2.hasType (X := "BaseException") (b:=true) (by decide),Bool.or_true]
  have hcC:(Value.ref p.2.1::(p.2.2.map Value.ref++[.type "ValueError",.type "Exception",.type "BaseException",.type "object"])).contains (.ref q.2.1)=true:=by
    rw [List.contains_iff_mem]
    rcases hpd with e | e
    · rw [e]; exact List.mem_cons_self
    · exact List.mem_cons_of_mem _ (List.mem_append_left _ (List.mem_map.mpr ⟨_,e,rfl⟩))
  have f:=tc_notTuple
  obtain ⟨h,g,dr,t,os⟩:=s
  unfold excMatches
  repeat (first | (with_reducible refine wpAny_loadPart_at he ?_; rw [hcl]) | with_reducible refine wpAny_loadPart_at hD' ?_ | (with_reducible refine wpAny_isSubtype_exc hD' ?_; rw [hcB]) | (with_reducible refine wpAny_isSubtype_exc hC' ?_; rw [hcC]) | wp_step)
  exact hQ
theorem aal {x y:Str} {xp pos hpos:Pos} {b hb:List Stmt} {c i:Nat} {b' h':S} (ct:Ctx K A T C) (F:bX K.hb env) (hx:mA T N x=some c) (hN:env.scope.names=N) (hi:N[i]?=some (y,.local)) (hne:hb ≠ [])
    (H:cR K env A (execs b env) (ex C n b' ρ σ) s α)
    (Hh:C.rz=true->∀ (hx:Heap) (a:Addr),s9 K hx a C->bX (K.wx hx).hb env->∀ {ρ σ s α},ag env ρ s.heap α->R (K.wx hx).hb s.heap σ α->cR (K.wx hx) env (A.mark (some (.ref a))) (execs hb env) (ex C.inH n h' ρ σ) s α) :
    cR K env A (exec (.Try b [.ExceptHandler (some (.Name x xp)) (some y) hb hpos] [] [] pos) env) (ex C n (.tryE b' (gl T c) i h') ρ σ) s α:=by
  have e0:ex C n (.tryE b' (gl T c) i h') ρ σ=(match ex C n b' ρ σ with
    | .exc c' ρ σ=>bif C.rz then (if (gl T c).contains c'/\i < ρ.length then iG (ex C.inH n h' (ρ.set i (some (.exc c'))) σ) else .stuck) else .stuck
    | o=>o):=rfl
  rw [e0]
  intro hc tk
  have h1:ex C n b' ρ σ ≠ .stuck:=by intro q; rw [q] at hc; exact hc rfl
  refine wpAny_Try_except (wpAny_mono (cF (H h1 tk)) (fun fl s₁ hp=>?_) fun e s₁ hxx=>?_)
  · obtain ⟨⟨ρ₁,σ₁,α₁,x1,r1,E1,m1,fo⟩,_⟩:=hp
    cases hb:ex C n b' ρ σ with
    | next ρ' σ'=>rw [hb] at fo; obtain ⟨rfl,rfl,rfl⟩:=fo; exact wpAny_execs_nil ⟨_,_,α₁,x1,r1,E1,m1,rfl,rfl,rfl⟩
    | cont ρ' σ'=>rw [hb] at fo; have fo':=fo; obtain ⟨rfl,_⟩:=fo'; exact ⟨ρ₁,σ₁,α₁,x1,r1,E1,m1,fo⟩
    | brk ρ' σ'=>rw [hb] at fo; have fo':=fo; obtain ⟨rfl,_⟩:=fo'; exact ⟨ρ₁,σ₁,α₁,x1,r1,E1,m1,fo⟩
    | ret v ρ' σ'=>rw [hb] at fo; have fo':=fo; obtain ⟨⟨u,rfl,_⟩,_⟩:=fo'; exact ⟨ρ₁,σ₁,α₁,x1,r1,E1,m1,fo⟩
    | exc i ρ' σ'=>rw [hb] at fo; exact fo.elim
    | stuck=>exact absurd hb h1
  · obtain ⟨⟨c',ρ₁,σ₁,fC,α₁,nt,e1,x1,E1,m1,fx⟩,tl1⟩:=hxx
    have tk1:=Kt.Tk.up tk tl1
    rw [e1] at hc ⊢
    dsimp only at hc ⊢
    cases hrz:C.rz with
    | false=>rw [hrz] at hc; exact absurd rfl hc
    | true =>
    rw [hrz] at hc
    rw [cond_true] at hc ⊢
    split at hc
    · rename_i hcond
      rw [if_pos hcond]
      obtain ⟨hsup,hlen⟩:=hcond
      obtain ⟨a,aM,α',rfl,x',r',u,ea,m'⟩:=fx
      obtain ⟨hg,q,hq,rfl,rfl⟩:=qk hx
      obtain ⟨j,hj⟩:=jw hg
      obtain ⟨Fg,XF,HX⟩:=ct.exc
      have hmg:=(HX q hq).1.mg
      have hin:env.scope.names[i]?=some (y,.local):=by rw [hN]; exact hi
      refine vQ ct.fr F.new r' u ea fun ez af4 afT=>?_
      refine ms (s:={ s₁ with heap:=ez }) r' af4 afT fun wc abZ adx=>?_
      have E0:=E1.ext x' .nil
      have x3:=r'.upExt abZ
      have r3:=r'.up abZ
      obtain ⟨_,oe,vs,xv,he,hcl,hd,_,_,_⟩:=id adx
      refine wpAny_handleBy_cons (codeAny_handlers_test (f9 (s:={ s₁ with heap:=wc }) ct.hK r3 E0.ok (by rw [hN]; exact hj) hmg (xK (s:={ s₁ with heap:=wc }) ct r3 he hcl ⟨q,hq,rfl⟩ hsup ?_))) (by intro z; (first | contradiction | (obtain rfl:=Option.some.inj z) | cases z))
      cases hb with
      | nil=>exact absurd rfl hne
      | cons b0 bs =>
      refine codeAny_handlers_suite_as ?_
      refine ms (s:={ s₁ with heap:=wc }) r' abZ adx fun ae2 aeu adw=>?_
      have x4:=r'.upExt aeu
      have r4:=r'.up aeu
      have E4:=E0.ext x4 .nil
      obtain ⟨_,oe4,vs4,xv4,he4,hcl4,hd4,_,_,cx4⟩:=id adw
      have ha:a ∉ α'.all:=fun z=>by
        obtain ⟨o,e⟩:=r'.liveAll z
        rw [adw.new] at e; (first | contradiction | (obtain rfl:=Option.some.inj e) | cases e)
      refine dS (s:={ s₁ with heap:=ae2 }) tk1 <| f0 (s:={ s₁ with heap:=ae2 }) F r4 E4 hin (.inl rfl) (.exc he4 hcl4 hd4 ha) fun ny r5 E5 x5 m5 tk5=>?_
      have hne5:ex C.inH n h' (ρ₁.set i (some (.exc c'))) σ₁ ≠ .stuck:=by intro z; rw [z] at hc; exact hc rfl
      have he5:ny.heap.get? a=some oe4:=x5.seqs a oe4 (AL.not_ix ha) he4 (.inr (.inl ⟨_,_,hcl4,hd4⟩))
      obtain ⟨hx,hxk,hxa,hxo⟩:=adE (hb:=K.hb.h) (fun b o e=>r5.base b o e) he5
      have ov:s9 K hx a C:=⟨hxk,fun hhd=>by
        obtain ⟨y,y1,y2⟩:=cx4
        rw [y2 (ct.ph.trans hhd)] at y1
        exact ⟨oe4,vs4,hxa,hd4,y1⟩⟩
      refine wpAny_mono (Hh hrz hx a ov (F.wx E5 he5 hd4 hxo) E5 (r5.wx he5 hd4 ha hxa hxo) hne5 tk5) (fun fl zb hp=>?_) fun e zb hxx=>?_
      · obtain ⟨afo,afn,yK,x6,r6,E6,m6,fo⟩:=hp
        have r6:R K.hb zb.heap afn yK:=r6.unwx hxk
        obtain ⟨m,ns,_⟩:=id E6.ns
        refine wpAny_nameGoes (E6.ok.ws i y _ hin) ns (by rw [E6.ok.kind]; rfl) fun acM mm ns7 sb7=>?_
        obtain ⟨r7,x7⟩:=r6.but E6.la F.new.l (fun b o hb e=>(sb7.2 b hb).trans e) (fun o e=>by
          obtain ⟨o',es,ep,e',d,_⟩:=id ns
          rw [e] at e'; (first | contradiction | (obtain rfl:=Option.some.inj e') | cases e')
          exact dq.notSolid ⟨_,_,d⟩) fun _ o e _=>by
          obtain ⟨o',es,ep,e',d,_⟩:=id ns7
          exact ⟨o',e',es,ep,d⟩
        have E7:ag env (afo.map fun _=>none) acM yK:=E6.wipe ns7 fun b hb=>sb7.2 b hb
        have xx:aD (eB env) α s.heap yK acM:=(((x1.trans (x'.mono (by simp) (bO E1 F.cl))).trans (x4.mono (by simp) (bO E0 F.cl))).trans (x5.trans x6)).trans (x7.mono (by simp [eB]) (bO E6 F.cl))
        have sm:Sm s { zb with heap:=acM,toks:=zb.toks + 1 }:=((m1.trans m').trans ⟨(m5.trans m6).gens,(m5.trans m6).os⟩).trans ⟨rfl,rfl⟩
        cases hq6:ex C.inH n h' (ρ₁.set i (some (.exc c'))) σ₁ with
        | next ρ' σ' =>
          rw [hq6] at fo
          obtain ⟨rfl,rfl,rfl⟩:=fo
          exact ⟨_,_,_,xx,r7,E7,sm,rfl,rfl,rfl⟩
        | ret v ρ' σ' =>
          rw [hq6] at fo
          obtain ⟨⟨uv,rfl,vu⟩,rfl,rfl⟩:=fo
          exact ⟨_,_,_,xx,r7,E7,sm,⟨uv,rfl,vu.ext x7⟩,rfl,rfl⟩
        | cont ρ' σ'=>rw [hq6] at hc; exact absurd rfl hc
        | brk ρ' σ'=>rw [hq6] at hc; exact absurd rfl hc
        | exc i ρ' σ'=>rw [hq6] at hc; exact absurd rfl hc
        | stuck=>exact absurd hq6 hne5
      · obtain ⟨c6,ρ6,xZ,_,_,_,e6,_⟩:=hxx
        rw [e6] at hc; exact absurd rfl hc
    · exact absurd rfl hc
end
end Mine
namespace Mine
open PySem PyProof.Rows
theorem aav {N:List (Str × NameKind)} {x:Str} {i:Nat} (h:gq N x=some i):∃ k,N[i]?=some (x,k)/\(k=NameKind.local\/k=.cell):=by
  unfold gq at h
  refine aE h fun j hj h1=>aE h1 fun q hq h2=>aA h2 fun hk h3=>?_
  clear h h1 h2
  have hx:=wb hj hq
  obtain ⟨z,k⟩:=q
  dsimp only at hx
  subst hx
  obtain rfl:=Option.some.inj h3
  refine ⟨k,hq,?_⟩
  cases k with
  | «local»=>exact .inl rfl
  | cell=>exact .inr rfl
  | _=>contradiction
theorem oU {N:List (Str × NameKind)} {env:Env} {x:Str} {i:Nat} (hN:env.scope.names=N) (h:gq N x=some i):∃ k,env.scope.names[i]?=some (x,k)/\(k=NameKind.local\/k=.cell):=by
  subst hN; exact aav h
theorem wX {κ:Type} [DecidableEq κ] {k k':κ} {v:PV}:∀ {es:List (κ × PV)},az k' (bW k v es)=if k'=k then some v else az k' es:=by
  intro es
  have cons:∀ (e:κ × PV) (es:List (κ × PV)),az k' (e::es)=if e.1=k' then some e.2 else az k' es:=fun e es=>by
    unfold az
    rw [List.find?_cons]
    by_cases q:e.1=k'
    · rw [decide_eq_true q,if_pos q]; rfl
    · rw [decide_eq_false q,if_neg q]
  unfold bW
  by_cases h:(es.any fun e=>decide (e.1=k))=true
  · rw [if_pos h]
    induction es with
    | nil=>contradiction
    | cons e es ih =>
      rw [List.map_cons,cons,cons]
      by_cases q:e.1=k
      · rw [if_pos q]
        by_cases q2:k'=k
        · rw [if_pos (q.trans q2.symm),if_pos q2]
        · rw [if_neg (fun z=>q2 (z.symm.trans q)),if_neg q2,if_neg (fun z=>q2 (z.symm.trans q))]
          by_cases h2:(es.any fun e=>decide (e.1=k))=true
          · rw [ih h2,if_neg q2]
          · congr 1
            rw [List.map_congr_left (g:=id) fun e he=>?_,List.map_id]
            rw [if_neg]; rfl
            intro z; exact h2 (List.any_eq_true.mpr ⟨e,he,decide_eq_true z⟩)
      · rw [if_neg q]
        rw [List.any_cons,decide_eq_false q,Bool.false_or] at h
        rw [ih h]
        by_cases q2:k'=k
        · rw [if_pos q2,if_neg (fun z=>q (z.trans q2)),if_pos q2]
        · rw [if_neg q2,if_neg q2]
  · rw [if_neg h]
    induction es with
    | nil =>
      show az k' [(k,v)]=_
      rw [cons]
      by_cases q:k'=k
      · rw [if_pos q.symm,if_pos q]
      · rw [if_neg (fun z=>q z.symm),if_neg q]
    | cons e es ih =>
      rw [List.any_cons,Bool.or_eq_true,not_or] at h
      have h1:e.1 ≠ k:=fun z=>h.1 (decide_eq_true z)
      rw [List.cons_append,cons,cons,ih h.2]
      by_cases q2:k'=k
      · rw [if_pos q2,if_neg (fun z=>h1 (z.trans q2)),if_pos q2]
      · rw [if_neg q2,if_neg q2]
section
variable {K:Kt} {A:Around} {T:aL} {C:a8} {f:List (Str × NameKind)->Expr->Option X} {N:List (Str × NameKind)} {env:Env} {ρ:aw} {σ:ac} {s:Shared} {α:AL}
open PySem.W
theorem t8 {F:Frag} {b n:Str} {c i:Nat} {x u:Value} {v:PV} {fs:List (Str × PV)} {Q:Unit->Shared->Prop} {E:Value->Shared->Prop} (B:fg K F b c) (hn:n ∈ cT) (r:R K.hb s.heap σ α) (vx:VR s.heap α (.inst c i) x) (vv:VR s.heap α v u)
    (hs:σ[i]?=some (.ns fs)) (hl:fs.length < 100) (hQ:∀ s',R K.hb s'.heap (σ.set i (.ns (bW n v fs))) α->aD [] α s.heap α s'.heap->Sm s s'->Q () s'):wpAny (model K.prog K.w) A (setAttr x n u) Q E s:=by
  obtain ⟨a,D,rfl,ea,ha,hi⟩:=yu vx
  obtain ⟨m,ns1,o1,o2⟩:=r.obj i _ D hs hi
  obtain ⟨oD,esD,epD,eD,dD,_⟩:=id ns1
  have X:F.In s.heap:=r.frag B.inn
  have I:InstAt s.heap a (instObj c D) c (some oD):=⟨ea,rfl,rfl,eD⟩
  obtain ⟨cd,hc,hd'⟩:=any_some B.hasd
  refine set_plain X I B.seta (osa_open (s:={ s with toks:=s.toks + 1 }) X I B.plain (B.free n hn) fun bb=>?_)
  refine wpAny_bind (wpAny_pure (wpAny_bind (wpAny_bind (wpAny_loadPart ea (wpAny_bind (Looks.here (s:={ s with toks:=s.toks + 1 }) (looks_clsIn X hc) ?_))))))
  rw [hd']
  refine wpAny_pure (a:=some D) (wpAny_bind (wpAny_pure (wpAny_bind (wpAny_nsSet1 (s:={ s with toks:=s.toks + 1 }) ns1 fun h' hn' hsb=>?_))))
  have hw:Within m (fs.map (·.1)):=fun y hy=>by
    cases hg:az y fs with
    | none=>exact absurd (o2 y hg) hy
    | some w =>
      obtain ⟨e,he,_⟩:=Option.map_eq_some_iff.mp hg
      exact List.mem_map.mpr ⟨e,List.mem_of_find?_eq_some he,by simpa using List.find?_some he⟩
  obtain ⟨oD',esD',epD',hoD,hdD,hcD⟩:=hn'.count (Within.cons n u hw)
  refine wpAny_bind (wpAny_lookBehind hoD (by rw [hdD]; exact pastItsLine_dict (Nat.le_trans hcD (by rw [List.length_cons,List.length_map,sizeLine_eq]; omega))) ?_)
  refine wpAny_pure ?_
  have key:∀ x':aD [] α s.heap α h',OR K.hb h' α (.ns (bW n v fs)) D:=fun x'=>by
    refine ⟨_,hn',fun n' v' e=>?_,fun n' e=>?_⟩
    · rw [wX] at e
      by_cases q:n'=n
      · rw [if_pos q] at e ⊢; obtain rfl:=Option.some.inj e; exact ⟨u,rfl,vv.ext x'⟩
      · rw [if_neg q] at e ⊢
        obtain ⟨w,w1,w2⟩:=o1 n' v' e
        exact ⟨w,w1,w2.ext x'⟩
    · rw [wX] at e
      by_cases q:n'=n
      · rw [if_pos q] at e; contradiction
      · rw [if_neg q] at e ⊢; exact o2 n' e
  obtain ⟨r',x'⟩:=r.set (m:=.ns (bW n v fs)) hi (fun b o hb e=>(hsb.2 b hb).trans e) hoD key
  exact hQ _ r' x' ⟨rfl,rfl⟩
theorem uE {o v:Expr} {n b:Str} {p pos:Pos} {x z:X} {c k:Nat} {Fg:Frag} (B:fg K Fg b c) (hn:n ∈ cT) (F:bX K.hb env) (hcp:gy v=false)
    (H1:∀ {σ s α},ag env ρ s.heap α->R K.hb s.heap σ α->Runs K VR A (eval v env) (ev C z ρ σ) s α)
    (H2:∀ {σ s α},ag env ρ s.heap α->R K.hb s.heap σ α->Runs K VR A (eval o env) (ev C x ρ σ) s α) (E:ag env ρ s.heap α) (r:R K.hb s.heap σ α) :
    cR K env A (exec (.Assign [.Attribute o n p] v pos) env) (ex C k (.asgAttr c x n z) ρ σ) s α:=by
  change cR K env A _ ((ev C z ρ σ).toS ρ fun v σ=>(ev C x ρ σ).toS ρ fun o σ=>eM c o n v ρ σ) s α
  intro hc tk
  refine plainObj_wpAny_Assign_Attribute (Runs.useS E (H1 E r) hc tk fun vv σ₁ α₁ u s₁ e1 hc1 x1 r1 v1 m1 tk1=>?_) (io hcp)
  rw [e1] at hc ⊢
  have E1:=E.ext x1 .nil
  refine wpAny_mono (Runs.useS (env:=env) (s:=s₁) (α:=α₁) E1 (H2 E1 r1) hc1 tk1 fun vo σ₂ aJ uo au e2 hc2 x2 r2 v2 m2 tk2=>?_) (fun _ _ q=>q) (fun _ _ q=>fc.lift (dG F E x1) m1 q)
  have E2:=E1.ext x2 .nil
  show wpAny (model K.prog K.w) A (setAttr uo n u) _ _ au
  simp only [af.toS,e2] at hc ⊢
  cases vo with
  | inst c' i =>
    unfold eM at hc2 ⊢
    dsimp only at hc2 ⊢
    by_cases hcc:c'=c
    · subst hcc
      rw [if_pos rfl] at hc2 ⊢
      cases hs:σ₂[i]? with
      | none=>rw [hs] at hc2; exact absurd rfl hc2
      | some mo =>
        rw [hs] at hc2
        cases mo with
        | ns fs =>
          dsimp only at hc2 ⊢
          by_cases hl:fs.length < 100
          · rw [if_pos hl]
            exact t8 B hn r2 v2 (v1.ext x2) hs hl fun s' r' x' m'=>⟨ρ,_,aJ,dG F E ((x1.trans x2).trans x'),r',E2.ext x' .nil,(m1.trans m2).trans m',rfl,rfl,rfl⟩
          · rw [if_neg hl] at hc2; exact absurd rfl hc2
        | _=>exact absurd rfl hc2
    · rw [if_neg hcc] at hc2; exact absurd rfl hc2
  | _=>exact absurd rfl hc2
end
section
variable {K:Kt} {A:Around} {T:aL} {C:a8} {f:List (Str × NameKind)->Expr->Option X} {N:List (Str × NameKind)} {env:Env} {σ:ac} {α:AL}
theorem wT (F:bX K.hb env) (hN:env.scope.names=N) {ts:List Expr}:∀ {is:List Nat} {xs:List PV} {us:List Value} {ρ ρ':aw} {s:Shared} {Q:Unit->Shared->Prop} {X:Value->Shared->Prop},f8 N ts=some is->lj is xs ρ=some ρ'->aK s.heap α xs us->ag env ρ s.heap α->R K.hb s.heap σ α ->
    (∀ s',R K.hb s'.heap σ α->ag env ρ' s'.heap α->aD (eB env) α s.heap α s'.heap->Sm s s'->Q () s')->wpAny (model K.prog K.w) A (assignInOrder ((assignEach ts env).map (·.2)) us) Q X s:=by
  induction ts with
  | nil =>
    intro is xs us ρ ρ' s Q X h1 h2 v E r hQ
    obtain rfl:=Option.some.inj h1
    cases xs with
    | nil=>obtain rfl:=Option.some.inj h2; exact assignInOrder_nil (hQ s r E .refl (.refl s))
    | cons _ _=>contradiction
  | cons t ts ih =>
    intro is xs us ρ ρ' s Q X h1 h2 v E r hQ
    change o2 _ _ _=_ at h1
    refine dy (M:=fun is=>lj is xs ρ=some ρ'->wpAny (model K.prog K.w) A (assignInOrder ((assignEach (t::ts) env).map (·.2)) us) Q X s) h1 (fun i l hi hl h2=>?_) h2
    refine aE hi fun q hq hi=>?_
    obtain rfl:=eU hq
    cases xs with
    | nil=>contradiction
    | cons p ps =>
      obtain ⟨u,us',rfl,v1,v2⟩:=v.inv_cons
      obtain ⟨k,hk1,hk2⟩:=oU hN hi
      refine assignInOrder_cons (wpAny_assign_Name (f0 F r E hk1 hk2 v1 fun s₁ r1 E1 x1 m1=>?_))
      exact ih hl h2 (v2.ext x1) E1 r1 fun s' r' E' x' m'=>hQ s' r' E' (x1.trans x') (m1.trans m')
theorem xB {ts:List Expr}:∀ {is:List Nat},f8 N ts=some is->(assignEach ts env).length=is.length/\(assignEach ts env).findIdx? (·.1)=none:=by
  induction ts with
  | nil=>intro is h; obtain rfl:=Option.some.inj h; exact ⟨rfl,rfl⟩
  | cons t ts ih =>
    intro is h
    change o2 _ _ _=_ at h
    refine dy (M:=fun is=>(assignEach (t::ts) env).length=List.length is/\(assignEach (t::ts) env).findIdx? (·.1)=none) h fun i l hi hl=>?_
    refine aE hi fun q hq hi=>?_
    obtain rfl:=eU hq
    obtain ⟨h1,h2⟩:=ih hl
    refine ⟨congrArg Nat.succ h1,?_⟩
    show ((false,assign (.Name q.1 q.2) env)::assignEach ts env).findIdx? (·.1)=none
    rw [List.findIdx?_cons,h2]; rfl
theorem qM:∀ {is:List Nat} {xs:List PV} {ρ ρ':aw},lj is xs ρ=some ρ'->is.length=xs.length
  | [],[],_,_,_=>rfl
  | i::is,x::xs,_,_,h=>congrArg Nat.succ (qM (is:=is) (xs:=xs) h)
  | [],_::_,_,_,h=>nomatch h
  | _::_,[],_,_,h=>nomatch h
theorem tm {ts:List Expr} {kk:Nat} {pp:Pos} {is:List Nat} {en:Bool} (hh:A.handled=none) (F:bX K.hb env) (hN:env.scope.names=N) (h1:f8 N ts=some is):aab K A en env (.Tuple ts kk pp) (jm is):=
  ⟨.inr ⟨_,_,_,rfl⟩,fun s σ α ρ ρ' pv u hb E r v Q X hQ=>by
    cases pv with
    | tup xs =>
      obtain ⟨t,us,k,rfl,ht,hnt,vs⟩:=v.tupE
      have eb:jm is (.tup xs) ρ=if xs.length <= 100 then lj is xs ρ else none:=rfl
      rw [eb] at hb
      by_cases hl:xs.length <= 100
      · rw [if_pos hl] at hb
        obtain ⟨g1,g2⟩:=xB (env:=env) h1
        refine wpAny_assign_Tuple hh ⟨_,ht,rfl,k,rfl⟩ (by rw [g1,qM hb,vs.1]; rfl) g2 fun h' hx=>?_
        have kp:∀ b o,s.heap.get? b=some o->h'.get? b=some o:=fun b o e=>hx b o (Nat.ne_of_lt (Heap.lt_size e)) e
        have x2:aD [] α s.heap α h':=.keeps kp
        exact wT (s:={ s with heap:=h' }) F hN h1 hb (vs.ext x2) (E.ext x2 .nil) (r.keeps kp) fun s' r' E' x' m'=>hQ s' r' E' ((dG F E x2).trans x') ⟨m'.gens,m'.os⟩
      · rw [if_neg hl] at hb; contradiction
    | _=>contradiction⟩
theorem z7 {ts:List Expr} {v0:Expr} {kk:Nat} {pp pos:Pos} {is:List Nat} {x:X} {n:Nat} {ρ:aw} {s:Shared} (c:Ctx K A T C) (F:bX K.hb env) (hN:env.scope.names=N) (h1:f8 N ts=some is) (hv:vJ v0=true)
    (H:Runs K VR A (eval v0 env) (ev C x ρ σ) s α) (E:ag env ρ s.heap α) :
    cR K env A (exec (.Assign [.Tuple ts kk pp] v0 pos) env) (ex C n (.asgT is x) ρ σ) s α:=by
  have e0:ex C n (.asgT is x) ρ σ=bif C.hd then .stuck else (ev C x ρ σ).toS ρ fun v σ=>match jm is v ρ with
    | some ρ=>.next ρ σ
    | none=>.stuck:=rfl
  rw [e0]
  cases hhd:C.hd with
  | true=>exact fun hc=>absurd rfl hc
  | false =>
  rw [cond_false]
  intro hc tk
  refine Assign_Tuple (Runs.useS E H hc tk fun v σ₁ α₁ u s₁ e1 hc1 x1 r1 v1 m1 tk1=>?_) (by cases v0 <;> first | rfl | contradiction) (by cases v0 <;> first | rfl | contradiction)
  rw [e1]
  cases hb:jm is v ρ with
  | none=>rw [hb] at hc1; exact absurd rfl hc1
  | some ρ' =>
    refine (tm (en:=true) (c.hd hhd) F hN h1).2 s₁ σ₁ α₁ ρ ρ' v u hb (E.ext x1 .nil) r1 v1 _ _ fun s' r' E' x' m'=>?_
    show fT K env (match jm is v ρ with | some ρ=>.next ρ σ₁ | none=>.stuck) s α .next s'
    rw [hb]
    exact ⟨ρ',σ₁,α₁,(dG F E x1).trans x',r',E',m1.trans m',rfl,rfl,rfl⟩
end
end Mine
namespace Mine
open PySem PyProof.Rows
section
variable {K:Kt} {A:Around} {T:aL} {C:a8} {f:List (Str × NameKind)->Expr->Option X} {N:List (Str × NameKind)} {env:Env} {ρ:aw} {σ:ac} {s:Shared} {α:AL}
theorem uD {elt iter:Expr} {x z:Str} {px pz pos spos:Pos} {ifs:List Expr} {scope:Scope} {fz:Bool} {t:Nat} {elt' cond it:X} {i n:Nat} {k:NameKind} (c:Ctx K A T C) (S:SE K A C f) (F:bX K.hb env) (h:oO T N f elt x iter ifs scope fz t elt' cond it)
    (hn:env.scope.names[i]?=some (z,k)) (hk:k=.local\/k=.cell)
    (hN:env.scope.names=N) (E:ag env ρ s.heap α) (r:R K.hb s.heap σ α) (hsw:swapsWith (.ListComp elt [⟨.Name x px,iter,ifs,0⟩] scope pos) (some (.Name z pz)) spos.line env=pure true) :
    cR K env A (exec (.Assign [.Name z pz] (.ListComp elt [⟨.Name x px,iter,ifs,0⟩] scope pos) spos) env) (ex C n (.asg i (.comp fz t (dH N (bf N scope.names)) elt' cond it)) ρ σ) s α:=by
  have e0:ex C n (.asg i (.comp fz t (dH N (bf N scope.names)) elt' cond it)) ρ σ=(ev C (.comp fz t (dH N (bf N scope.names)) elt' cond it) ρ σ).toS ρ fun v σ=>.next (ρ.set i (some v)) σ:=rfl
  rw [e0]
  intro hc tk
  cases hhd:C.hd with
  | true=>rw [et,hhd] at hc; exact absurd rfl hc
  | false =>
  rw [rP hhd] at hc ⊢
  have co:=h.ok hN
  obtain ⟨hit',hpl⟩:=i9 (en:=false) c hhd S h.it hN F.new E r
  rw [exec_Assign_Name_used _ _ _ _ hsw]
  refine wpAny_bind (wpAny_standAt (wpAny_bind ?_))
  show wpAny _ A (do let _ <- comprehension (.ListComp elt [⟨.Name x px,iter,ifs,0⟩] scope pos) scope env _ (newList []) false (eval iter env) (some (assign (.Name z pz) env))) _ _ s
  generalize hcq:gh fz (fun v σ=>tst C cond ((aR (dH N (bf N scope.names)) ρ).set t (some v)) σ) (fun v σ=>ev C elt' ((aR (dH N (bf N scope.names)) ρ).set t (some v)) σ) (evIt C it ρ σ)=cc at hc ⊢
  have hcc:cc ≠ .stuck:=by intro q; rw [q] at hc; exact hc rfl
  refine wpAny_bind (wpAny_mono (wpAny_comprehension_free (use:=some (assign (.Name z pz) env)) (Q:=fun _ s'=>fT K env (cc.toS ρ fun v σ=>.next (ρ.set i (some v)) σ) s α .next s')
    rfl (jC hpl) (m9 (kL co E)) co.kind co.names
    (rO (fz:=fz) (t:=t) (ρ:=ρ) (tC:=fun v σ=>tst C cond ((aR (dH N (bf N scope.names)) ρ).set t (some v)) σ) (eC:=fun v σ=>ev C elt' ((aR (dH N (bf N scope.names)) ρ).set t (some v)) σ) (RR:=fun acc C'=>compPost (model K.prog K.w) A _ (some (assign (.Name z pz) env)) _ acc C')
      co E hit' (by rw [hcq]; exact hcc) tk (fun C' v s' σ' α' n' E' r'=>?_) (fun C' v s' σ' α' n' E' r'=>?_) c.fr F.new ⟨_,r⟩ (fun e s' hx=>?_) ?_)) (fun _ s' hq=>wpAny_pure (wpAny_pure hq)) fun _ _ e=>e)
  · rw [mF hN] at E'
    exact rN S h.cond (jl hN E) n' E' r'
  · rw [mF hN] at E'
    exact ((S _ elt elt' h.elt).2 _ _ σ' s' α' (jl hN E) n' E' r').1
  · obtain ⟨i',σ',e1,nt,fx⟩:=hx
    refine ⟨i',ρ,σ',s,α,nt,?_,.refl,E,.refl s,fx⟩
    rw [<- hcq]
    show (gh _ _ _ _).toS ρ _=_
    rw [e1]; rfl
  · rw [hcq]
    rintro acc C' rr s' ⟨rfl,v,σ',α',m,e,x',r',vr,sm,ns,ha,hC,hbC,hCfr⟩
    subst e
    have E':=E.ext x' .nil
    show wpAny _ A (assign (.Name z pz) env acc) _ _ _
    refine wpAny_assign_Name (f0 F r' E' hn hk vr fun au bV lb dI iJ=>?_)
    have hCf:C' ∉ eB env:=fun q=>by
      obtain ⟨o,eo⟩:=bO E F.cl C' q
      rw [hC] at eo; contradiction
    have adg:au.heap.Ns C' m:=vP dI (AL.not_ix ha) hCf ns
    refine ⟨m,adg,fun h' hs'=>?_⟩
    obtain ⟨r'',x''⟩:=bV.but ha hbC (fun b o hb e=>(hs'.2 b hb).trans e) (fun o e=>by
      obtain ⟨o',es,ep,e',d,_⟩:=id adg
      rw [e] at e'; obtain rfl:=Option.some.inj e'
      exact dq.notSolid ⟨_,_,d⟩) fun q=>absurd q hCfr
    have ap:mK env [C']:=⟨fun q=>by simp at q; exact hCf (q ▸ List.mem_cons_self),fun y c' hc' q=>by
      simp at q; subst q
      exact hCf (List.mem_cons_of_mem _ (List.mem_map.mpr ⟨_,mem_of_lookup hc',rfl⟩))⟩
    exact ⟨_,_,_,((dG F E x').trans dI).sameBut hC (fun b hb=>hs'.2 b hb),r'',lb.ext x'' ap,(sm.trans iJ).trans ⟨rfl,rfl⟩,rfl,rfl,rfl⟩
end
theorem abO {e:Expr} {q:Expr × List Comprehension × Scope × Pos} (h:abP e=some q):e=.ListComp q.1 q.2.1 q.2.2.1 q.2.2.2:=by
  cases e with
  | ListComp=>obtain rfl:=Option.some.inj h; rfl
  | _=>contradiction
section
variable {K:Kt} {A:Around} {T:aL} {C:a8} {N:List (Str × NameKind)} {env:Env} {n:Nat}
noncomputable def BS (K:Kt) (A:Around) (C:a8) (n:Nat) (env:Env) (t:Sem Flow) (b:S):Prop:=
  ∀ ρ σ s α,ag env ρ s.heap α->R K.hb s.heap σ α->cR K env A t (ex C n b ρ σ) s α
noncomputable def SS (K:Kt) (A:Around) (C:a8) (n:Nat) (env:Env) (g:Stmt->Option S):Prop:=
  ∀ st b,g st=some b->BS K A C n env (exec st env) b
theorem dT {g:Stmt->Option S} (H:SS K A C n env g) {sts:List Stmt}:∀ {b:S},jz g sts=some b->BS K A C n env (execs sts env) b:=by
  induction sts with
  | nil =>
    intro b h ρ σ s α E r
    obtain rfl:=Option.some.inj h
    exact fun _ _=>wpAny_execs_nil ⟨ρ,σ,α,.refl,r,E,.refl s,rfl,rfl,rfl⟩
  | cons st sts ih =>
    intro b h
    change o2 _ _ _=_ at h
    refine dy h fun a b' ha hb ρ σ s α E r hc tk=>?_
    have e0:ex C n (.cons a b') ρ σ=(match ex C n a ρ σ with
      | .next ρ σ=>ex C n b' ρ σ
      | o=>o):=rfl
    rw [e0] at hc ⊢
    refine wpAny_execs_cons ?_
    have h1:ex C n a ρ σ ≠ .stuck:=by intro q; rw [q] at hc; exact hc rfl
    refine wpAny_mono (cF (H st a ha _ _ _ _ E r h1 tk)) (fun fl s₁ hp=>?_) fun e s₁ hx=>?_
    · obtain ⟨⟨ρ₁,σ₁,α₁,x1,r1,E1,m1,fo⟩,tl1⟩:=hp
      cases hq:ex C n a ρ σ with
      | next ρ' σ' =>
        rw [hq] at fo hc
        obtain ⟨rfl,rfl,rfl⟩:=fo
        exact wpAny_mono (ih hb _ _ _ _ E1 r1 hc (Kt.Tk.up tk tl1)) (fun _ _ q=>q.lift x1 m1) fun _ _ q=>q.lift x1 m1
      | cont ρ' σ'=>rw [hq] at fo; have fo':=fo; obtain ⟨rfl,_⟩:=fo'; exact ⟨ρ₁,σ₁,α₁,x1,r1,E1,m1,fo⟩
      | brk ρ' σ'=>rw [hq] at fo; have fo':=fo; obtain ⟨rfl,_⟩:=fo'; exact ⟨ρ₁,σ₁,α₁,x1,r1,E1,m1,fo⟩
      | ret v ρ' σ'=>rw [hq] at fo; have fo':=fo; obtain ⟨⟨u,rfl,_⟩,_⟩:=fo'; exact ⟨ρ₁,σ₁,α₁,x1,r1,E1,m1,fo⟩
      | exc i ρ' σ'=>rw [hq] at fo; exact fo.elim
      | stuck=>exact absurd hq h1
    · obtain ⟨⟨i,ρ',σ',au,aJ,nt,e1,q1,q2,q3,q4⟩,_⟩:=hx
      exact ⟨i,ρ',σ',au,aJ,nt,by rw [e1],q1,q2,q3,q4⟩
section
variable {f:List (Str × NameKind)->Expr->Option X} {g:Stmt->Option S}
theorem SE.val (Sf:SE K A C f) (F:bX K.hb env) (hN:env.scope.names=N) {e:Expr} {x:X} (h:f N e=some x) {ρ σ s α} (E:ag env ρ s.heap α) (r:R K.hb s.heap σ α):Runs K VR A (eval e env) (ev C x ρ σ) s α:=
  ((Sf N _ _ h).2 env ρ σ s α hN F.new E r).1
theorem SE.tst (Sf:SE K A C f) (F:bX K.hb env) (hN:env.scope.names=N) {e:Expr} {x:X} (h:f N e=some x) {ρ σ s α} (E:ag env ρ s.heap α) (r:R K.hb s.heap σ α):Runs K d8 A (isTrue e env (eval e env)) (tst C x ρ σ) s α:=
  ((Sf N _ _ h).2 env ρ σ s α hN F.new E r).2
theorem uC {z:Str} {pz spos:Pos} {v:Expr} {b:S} (c:Ctx K A T C) (Sf:SE K A C f) (F:bX K.hb env) (hN:env.scope.names=N) (h:ada T N f (f N) (.Name z pz) v=some b):BS K A C n env (exec (.Assign [.Name z pz] v spos) env) b:=by
  change hV _ _ _=_ at h
  refine eQ h (fun q hac h=>?_) fun _ h=>aA h fun hcp h=>dy h fun i y hi hy=>?_
  · rw [abO hac]
    refine dy h fun i y hi hy=>?_
    obtain ⟨x,px,iter,ifs,hg,hy⟩:=qE hy
    rw [hg]
    obtain ⟨k,hk1,hk2⟩:=oU hN hi
    refine ti (P:=fun y=>BS K A C n env _ (.asg i y)) hy fun t e cc it qq ρ σ s α E r=>?_
    cases hq:(env.blockKind == .function && env.kindOf z == some .local && pz.line == q.2.2.2.line && !(q.2.2.1.names.any fun (n,k)=>n == z && (k == .local || k == .cell))) with
    | true=>exact uD c Sf F qq hk1 hk2 hN E r (congrArg pure hq)
    | false =>
      intro hc tk
      refine wpAny_Assign_Name (Runs.useS E (pD c Sf qq hN F.new E r) hc tk fun v σ₁ α₁ u s₁ e1 hc1 x1 r1 v1 m1 tk1=>?_) (congrArg pure hq)
      refine f0 F r1 (E.ext x1 .nil) hk1 hk2 v1 fun au r2 E2 x2 m2=>?_
      show fT K env (af.toS _ _ _) _ _ _ _
      rw [e1]
      exact ⟨_,_,_,(dG F E x1).trans x2,r2,E2,m1.trans m2,rfl,rfl,rfl⟩
  · obtain ⟨k,hk1,hk2⟩:=oU hN hi
    exact fun _ _ _ _ E r=>abN F (by simpa using hcp) hk1 hk2 (Sf.val F hN hy E r) E
theorem y5 {t:Expr} {b0 o0:List Stmt} {pos:Pos} {t':X} {b' o':S} (Sf:SE K A C f) (F:bX K.hb env) (hN:env.scope.names=N) (h1:f N t=some t') (h2:BS K A C n env (execs b0 env) b') (h3:BS K A C n env (execs o0 env) o') :
    BS K A C n env (exec (.If t b0 o0 pos) env) (.ife t' b' o'):=fun ρ σ s α E r hc tk=>by
  have e0:ex C n (.ife t' b' o') ρ σ=(tst C t' ρ σ).toS ρ fun t σ=>if t then ex C n b' ρ σ else ex C n o' ρ σ:=rfl
  rw [e0] at hc ⊢
  refine wpAny_If (Runs.useS E (Sf.tst F hN h1 E r) hc tk fun t σ₁ α₁ y s₁ e1 hc1 x1 r1 v1 m1 tk1=>?_)
  have:y=t:=v1
  subst this
  rw [e1]
  have E1:=E.ext x1 .nil
  cases y with
  | true=>exact wpAny_mono (h2 _ _ _ _ E1 r1 hc1 tk1) (fun _ _ q=>q.lift (dG F E x1) m1) fun _ _ q=>q.lift (dG F E x1) m1
  | false=>exact wpAny_mono (h3 _ _ _ _ E1 r1 hc1 tk1) (fun _ _ q=>q.lift (dG F E x1) m1) fun _ _ q=>q.lift (dG F E x1) m1
theorem xh {x:Str} {px pos:Pos} {it:Expr} {b0:List Stmt} {i':Nat} {it':X} {b':S} (c:Ctx K A T C) (Sf:SE K A C f) (F:bX K.hb env) (hN:env.scope.names=N) (h1:gq N x=some i') (h2:pK T N (f N) it=some it') (h3:BS K A C n env (execs b0 env) b') :
    BS K A C n env (exec (.For (.Name x px) it b0 [] pos) env) (.for1 i' it' b'):=fun ρ σ s α E r=>by
  obtain ⟨k,hk1,hk2⟩:=oU hN h1
  have e0:ex C n (.for1 i' it' b') ρ σ=bif C.hd then .stuck else (evIt C it' ρ σ).toS ρ fun p σ=>bB p.2 (cI i') (fun ρ σ=>ex C n b' ρ σ) p.1 ρ σ:=rfl
  rw [e0]
  cases hhd:C.hd with
  | true=>exact fun hc=>absurd rfl hc
  | false =>
  obtain ⟨q1,q2⟩:=i9 c hhd Sf h2 hN F.new E r
  exact tN F (ab5 F hk1 hk2) q2 q1 (h3 _ _ _ _) E rfl
theorem vj {ts:List Expr} {kk:Nat} {pp pos:Pos} {it:Expr} {b0:List Stmt} {is:List Nat} {it':X} {b':S} (c:Ctx K A T C) (Sf:SE K A C f) (F:bX K.hb env) (hN:env.scope.names=N) (h1:f8 N ts=some is) (h2:uJ T N (f N) it=some it') (h3:BS K A C n env (execs b0 env) b') :
    BS K A C n env (exec (.For (.Tuple ts kk pp) it b0 [] pos) env) (.forT is it' b'):=fun ρ σ s α E r=>by
  have e0:ex C n (.forT is it' b') ρ σ=bif C.hd then .stuck else (evIt C it' ρ σ).toS ρ fun p σ=>bB p.2 (jm is) (fun ρ σ=>ex C n b' ρ σ) p.1 ρ σ:=rfl
  rw [e0]
  cases hhd:C.hd with
  | true=>exact fun hc=>absurd rfl hc
  | false =>
  obtain ⟨en,q1,q2⟩:=xf c hhd Sf h2 hN F.new E r
  exact tN F (tm (c.hd hhd) F hN h1) q2 q1 (h3 _ _ _ _) E rfl
theorem t5 {e:Option Expr} {pos:Pos} {b:S} (c:Ctx K A T C) (hN:env.scope.names=N) (h:rZ T N e=some b):BS K A C n env (exec (.Raise e none pos) env) b:=by
  unfold rZ at h
  refine aE h fun q hq h=>aE h fun z hz h=>cr h fun c' hc=>?_
  refine aE hq fun e1 he hq=>?_
  subst he
  rw [mI hq]
  obtain ⟨k,p,hz,hok⟩:=yr hz
  rw [hz]
  exact fun _ _ _ _ E r=>xt c hc hok hN E r
theorem xb {b0:List Stmt} {hs:List ExceptHandler} {pos:Pos} {b:S} (c:Ctx K A T C) (F:bX K.hb env) (hN:env.scope.names=N) (H:SS K A C n env g) (Hh:C.rz=true->∀ (hx:Heap) (a:Addr),s9 K hx a C->bX (K.wx hx).hb env->SS (K.wx hx) (A.mark (some (.ref a))) C.inH n env g) (h:yX T N g b0 hs=some b) :
    BS K A C n env (exec (.Try b0 hs [] [] pos) env) b:=by
  unfold yX at h
  refine aE h fun hd h0 h=>?_
  rw [nJ h0]
  obtain ⟨t,y,hb,hpos⟩:=hd
  change Option.bind _ _=_ at h
  refine aE h fun q hq h=>aE h fun y' hy h=>aE h fun c' hc h=>aE h fun i hi h=>aA h fun hcond h=>dy h fun b1 h1 hb1 hh1=>?_
  refine aE hq fun t' ht hq=>?_
  subst ht hy
  rw [eU hq]
  simp only [Bool.and_eq_true,beq_iff_eq,Bool.not_eq_true',List.isEmpty_eq_false_iff] at hcond
  exact fun _ _ _ _ E r=>aal c F hc hN hcond.1 hcond.2 (dT H hb1 _ _ _ _ E r) fun hrz hx a ov F' {_ _ _ _} E' r'=>dT (Hh hrz hx a ov F') hh1 _ _ _ _ E' r'
end
theorem tZ {f:List (Str × NameKind)->Expr->Option X} {g:Stmt->Option S} (c:Ctx K A T C) (Sf:SE K A C f) (F:bX K.hb env) (hN:env.scope.names=N) (H:SS K A C n env g) (Hh:C.rz=true->∀ (hx:Heap) (a:Addr),s9 K hx a C->bX (K.wx hx).hb env->SS (K.wx hx) (A.mark (some (.ref a))) C.inH n env g):SS K A C n env (yb T N f (f N) g):=by
  intro st b h
  cases st with
  | Assign ts v spos =>
    change Option.bind _ _=_ at h
    refine aE h fun t h0 h=>?_
    rw [nJ h0]
    cases t with
    | Name z pz=>exact uC c Sf F hN h
    | Subscript o i pp =>
      change ay _ _=_ at h
      exact aA h fun hcp h=>jE h fun o' i' v' h1 h2 h3 _ _ _ _ E r=>wU c.hA F (by simpa using hcp) (Sf.val F hN h3) (Sf.val F hN h1) (Sf.val F hN h2) E r
    | Attribute o nm pp =>
      change Option.bind _ _=_ at h
      refine aE h fun q hb h=>aA h fun hc h=>dy h fun o' v' h1 h3=>?_
      obtain ⟨b,cl⟩:=q
      obtain ⟨hc1,hc2⟩:=Bool.and_eq_true_iff.mp hc
      obtain ⟨Fg,B,_⟩:=c.brd b cl hb
      exact fun _ _ _ _ E r=>uE B (List.contains_iff_mem.mp hc2) F (by simpa using hc1) (Sf.val F hN h3) (Sf.val F hN h1) E r
    | Tuple ts kk pp =>
      change ay _ _=_ at h
      refine aA h fun hc h=>dy h fun is v' h1 h3=>?_
      exact fun _ _ _ _ E r=>z7 c F hN h1 hc (Sf.val F hN h3 E r) E
    | _=>contradiction
  | Expr e pos =>
    change ay _ _=_ at h
    exact aA h fun hcp h=>cr h fun y hq _ _ _ _ E r=>zT F (by simpa using hcp) (Sf.val F hN hq E r) E
  | Return v pos =>
    cases v with
    | some e=>exact cr h fun y hq _ _ _ _ E r=>aaC F (Sf.val F hN hq E r) E
    | none=>contradiction
  | If t b0 o0 pos=>exact jE h fun t' b' o' h1 h2 h3=>y5 Sf F hN h1 (dT H h2) (dT H h3)
  | For t it b0 o pos =>
    change ay _ _=_ at h
    refine aA h fun ho h=>eQ h (fun q hq h=>jE h fun i' it' b' h1 h2 h3=>?_) fun _ h=>aE h fun ts ht h=>jE h fun is it' b' h1 h2 h3=>?_
    · rw [List.isEmpty_iff.mp ho,eU hq]
      exact xh c Sf F hN h1 h2 (dT H h3)
    · rw [List.isEmpty_iff.mp ho]
      cases t with
      | Tuple ts' kk pp =>
        obtain rfl:=Option.some.inj ht
        exact vj c Sf F hN h1 h2 (dT H h3)
      | _=>contradiction
  | Break pos=>obtain rfl:=Option.some.inj h; exact fun ρ σ s α E r _ _=>wpAny_Break ⟨ρ,σ,α,.refl,r,E,.refl s,rfl,rfl,rfl⟩
  | Raise e1 e2 pos =>
    change ay _ _=_ at h
    refine aA h fun he h=>?_
    rw [Option.isNone_iff_eq_none.mp he]
    exact t5 c hN h
  | Try bd hs o fi pos =>
    change ay _ _=_ at h
    refine aA h fun hcond h=>?_
    obtain ⟨h1,h2⟩:=Bool.and_eq_true_iff.mp hcond
    rw [List.isEmpty_iff.mp h1,List.isEmpty_iff.mp h2]
    exact xb c F hN H Hh h
  | _=>contradiction
theorem nw {f:List (Str × NameKind)->Expr->Option X} {Good:Kt->Around->a8->Prop} (hN:env.scope.names=N)
    (G:∀ K A C,Good K A C->Ctx K A T C/\SE K A C f/\(C.rz=true->∀ (hx:Heap) (a:Addr),s9 K hx a C->Good (K.wx hx) (A.mark (some (.ref a))) C.inH)):∀ m {K:Kt} {A:Around} {C:a8},bX K.hb env->Good K A C->SS K A C n env (trS T N f m)
  | 0,_,_,_,_,_=>fun st b h=>by contradiction
  | m + 1,K,A,C,F,g=>tZ (G K A C g).1 (G K A C g).2.1 F hN (nw hN G m F g) fun hrz hx a ov F'=>nw hN G m F' ((G K A C g).2.2 hrz hx a ov)
end
end Mine
namespace Mine
open PySem PyProof.Rows
structure dE (d:Nat) (A:Around):Prop where
  depth:A.depth + 2 * d + 200 < recursionLimit
  units:A.units + 20 * d + 200 < cLine
theorem dE.ok {d:Nat} {A:Around} (h:dE d A):dF A:=⟨by have:=h.depth; omega,by have:=h.units; omega⟩
theorem dE.deeper {d:Nat} {A:Around} {env:Env} (h:dE (d + 1) A):dE d (A.deeper env):=by
  refine ⟨?_,?_⟩
  · have:=h.depth
    show A.depth + 1 + 2 * d + 200 < recursionLimit
    omega
  · have:=h.units
    show A.units + 3 + 20 * d + 200 < cLine
    omega
theorem dE.mark {d:Nat} {A:Around} {e:Option Value} (h:dE d A):dE d (A.mark e):=⟨h.depth,h.units⟩
theorem VR.refr {h:Heap} {α:AL} {p:PV} {v:Value} {fr:List Addr} (r:VR h α p v):VR h ⟨α.ix,α.hid,fr⟩ p v:=VR.re (α:=α) (α':=⟨α.ix,α.hid,fr⟩) (fun _ _ e=>e) (fun _ h=>h) r
noncomputable def Kt.wf (K:Kt) (fr:List Addr):Kt:={ K with hb:=⟨K.hb.h,fr,K.hb.prog,K.hb.w⟩ }
theorem eI.push {K:Kt} {A:Around} {fr:List Addr} {env:Env} {L:Addr} (h:eI (K.wf fr) A) (hf:env.frame=some L) (hk:env.scope.kind=.function):eI (K.wf (L::fr)) (A.deeper env):=by
  obtain ⟨l,h1,h2,h3⟩:=h.ex
  refine ⟨env::l,?_,?_,fun e he=>?_⟩
  · show A.frames.map (env::·)=_
    rw [h1]; rfl
  · show (env::l).map (·.frame)=(L::fr).map some
    rw [List.map_cons,List.map_cons,hf,h2]; rfl
  · rcases List.mem_cons.mp he with q | q
    · rw [q,hk]; decide
    · exact h3 e q
theorem eI.mark {K:Kt} {A:Around} {e:Option Value} (h:eI K A):eI K (A.mark e):=⟨h.ex⟩
theorem OR.wf {K:Kt} {fr fr':List Addr} {h:Heap} {α:AL} {m:MO} {a:Addr} (o:OR (K.wf fr).hb h α m a):OR (K.wf fr').hb h α m a:=by
  cases m <;> exact o
theorem R.pushFr {K:Kt} {fr:List Addr} {h:Heap} {σ:ac} {α:AL} {L:Addr} {o:Obj} (r:R (K.wf fr).hb h σ α) (hL:K.hb.get? L=none) (e:h.get? L=some o) (d:dq o) (hLi:L ∉ α.ix):R (K.wf (L::fr)).hb h σ ⟨α.ix,α.hid,L::fr⟩:=
  ⟨r.base,r.fresh,r.nodup,r.len,r.hidden,fun j m a e1 e2=>((r.obj j m a e1 e2).wf (fr':=L::fr)).re (α:=α) (α':=⟨α.ix,α.hid,L::fr⟩) (fun _ _ e=>e) (fun _ h=>h),r.hfr,rfl,fun a ha=>by
    rcases List.mem_cons.mp ha with q | q
    · subst q; exact ⟨hL,o,e,d⟩
    · exact r.frs a q,fun a ha=>by
    rcases List.mem_cons.mp ha with q | q
    · subst q; exact hLi
    · exact r.frNot a q⟩
theorem R.popFr {K:Kt} {fr:List Addr} {h:Heap} {σ:ac} {α:AL} {L:Addr} (r:R (K.wf (L::fr)).hb h σ α):R (K.wf fr).hb h σ ⟨α.ix,α.hid,fr⟩:=
  ⟨r.base,r.fresh,r.nodup,r.len,r.hidden,fun j m a e1 e2=>((r.obj j m a e1 e2).wf (fr':=fr)).re (α:=α) (α':=⟨α.ix,α.hid,fr⟩) (fun _ _ e=>e) (fun _ h=>h),r.hfr,rfl,fun a ha=>r.frs a (List.mem_cons_of_mem _ ha),fun a ha=>r.frNot a (List.mem_cons_of_mem _ ha)⟩
theorem aD.ofCall {own:List Addr} {α aJ:AL} {h bx ez:Heap} {L:Addr} {fr:List Addr} (hfr:α.fr=fr) (k:∀ b o,h.get? b=some o->bx.get? b=some o) (hown:∀ b ∈ own,h.get? b=none) (hL:h.get? L=none)
    (y:aD own ⟨α.ix,α.hid,L::fr⟩ bx aJ ez):aD [] α h ⟨aJ.ix,aJ.hid,fr⟩ ez:=by
  have no:∀ b o,h.get? b=some o->b ∉ own:=fun b o e q=>by rw [hown b q] at e; contradiction
  obtain ⟨β,q1,q2⟩:=y.pre
  refine ⟨y.hid,⟨β,q1,fun x hx=>⟨?_,by simp⟩⟩,fun b o hb e hs=>y.seqs b o hb (k b o e) hs,fun b o hb _ e=>?_,fun b o _ e=>y.alive b o (no b o e) (k b o e),hfr.symm⟩
  · cases e:h.get? x with
    | none=>rfl
    | some o=>have:=k x o e; rw [(q2 x hx).1] at this; contradiction
  · rcases y.rest b o hb (no b o e) (k b o e) with q | ⟨f,d,sl,q⟩
    · exact .inl q
    · refine .inr ⟨?_,d,sl,q⟩
      rcases List.mem_cons.mp f with z | z
      · rw [z,hL] at e; contradiction
      · rw [hfr]; exact z
theorem FX.leave {K:Kt} {fr:List Addr} {s fC s₁ au:Shared} {α gi:AL} {i:Nat} {σ:ac} {nt:Bool} {e:Value} {env:Env} {A:Around} {L:Addr} {ρ:aw} {Q:Unit->Shared->Prop} {E:Value->Shared->Prop} (hA:eI (K.wf (L::fr)) A) (hF:bX (K.wf (L::fr)).hb env)
    (hfr:α.fr=fr) (k:∀ b o,s.heap.get? b=some o->s₁.heap.get? b=some o) (hown:∀ b ∈ eB env,s.heap.get? b=none) (hl:env.locals=L) (lZ:∃ σ,R (K.wf fr).hb s.heap σ α) (m:Sm s fC)
    (y:aD (eB env) ⟨α.ix,α.hid,L::fr⟩ s₁.heap gi fC.heap) (En:ag env ρ fC.heap gi) (f:FX (K.wf (L::fr)) fC gi i σ nt e au)
    (hQ:∀ s',FX (K.wf fr) s α i σ true e s'->Q () s'):wpAny (model K.prog K.w) A (leaving env e) Q E au:=by
  obtain ⟨a,aM,α',rfl,x',r',u,ea,m'⟩:=f
  subst hl
  have hL:s.heap.get? env.locals=none:=hown _ List.mem_cons_self
  have hLf:env.locals ∉ fr:=fun q=>by
    obtain ⟨σ',r0⟩:=lZ
    obtain ⟨_,o,e,_⟩:=r0.frs _ q
    rw [hL] at e; contradiction
  have hla:=(En.ext x' .nil).la
  have keep:∀ b,b ≠ env.locals->(PySem.W.hideAll aM [env.locals]).get? b=aM.get? b:=fun b hb=>aeb hb
  have none0:∀ b,aM.get? b=none->(PySem.W.hideAll aM [env.locals]).get? b=none:=fun b hb=>by
    cases q:(PySem.W.hideAll aM [env.locals]).get? b with
    | none=>rfl
    | some o=>rw [PySem.W.of_hideAll _ q] at hb; contradiction
  have r1:=r'.popFr
  obtain ⟨r2,_⟩:=r1.but (h':=PySem.W.hideAll aM [env.locals]) (I:=env.locals) hla hF.new.l (fun b o hb e=>(keep b hb).trans e) (fun o e=>by
    obtain ⟨_,o',e',d⟩:=r'.frs env.locals List.mem_cons_self
    rw [e] at e'; obtain rfl:=Option.some.inj e'; exact d.notSolid) fun q=>absurd q hLf
  have x1:aD [] α s.heap ⟨α'.ix,α'.hid,fr⟩ aM:=aD.ofCall hfr k hown hL (y.trans (x'.mono (by simp) (bO En hF.cl)))
  have x2:=x1.sameBut hL keep
  refine aa5 (K:=K.wf (env.locals::fr)) hA hF.new r' u ea fun h'' u'' ea''=>hQ _ ⟨a,_,_,rfl,x2,r2,fun b o hb=>?_,?_,⟨(m.trans m').gens,(m.trans m').os⟩⟩
  · have hbL:b ≠ env.locals:=fun q=>by rw [q,PySem.W.hideAll_none _ (by simp)] at hb; contradiction
    rcases u'' b o (PySem.W.of_hideAll _ hb) with q | ⟨f,sl,q⟩
    · exact .inl q
    · rcases List.mem_cons.mp f with z | z
      · exact absurd z hbL
      · exact .inr ⟨z,sl,q⟩
  · obtain ⟨new,oe,vs,xv,he,hc,hd,h1,ht,cx⟩:=ea''
    refine ⟨none0 a new,oe,vs,xv,he,hc,hd,h1,?_,cx⟩
    rcases ht with ⟨q,q'⟩ | ⟨T,oT,ts,q,hT0,z1,z2,z3,z4,z5⟩
    · exact .inl q q'
    · exact .inr T oT ts q (none0 T hT0) z1 z2 z3 z4 z5
theorem fR:∀ {names:List (Str × NameKind)} {n:Nat} {acc:List (Str × Addr)} {x:Str},(x,NameKind.cell) ∈ names->∃ c,(x,c) ∈ cellsFrom n names acc
  | (y,k)::r,n,acc,x,h=>by
    have keep:∀ {r:List (Str × NameKind)} {n:Nat} {acc:List (Str × Addr)} {p:Str × Addr},p ∈ acc->p ∈ cellsFrom n r acc:=by
      intro r
      induction r with
      | nil=>intro n acc p hp; exact hp
      | cons q r ih =>
        intro n acc p hp
        obtain ⟨y,k⟩:=q
        unfold cellsFrom
        split
        · exact ih (List.mem_cons_of_mem _ hp)
        · exact ih hp
    unfold cellsFrom
    rcases List.mem_cons.mp h with e | h
    · cases e
      rw [if_pos (by rfl)]
      exact ⟨n,keep List.mem_cons_self⟩
    · split
      · exact fR h
      · exact fR h
theorem gX:∀ {names:List (Str × NameKind)} {n:Nat} {acc:List (Str × Addr)},qx names->(acc.map (·.1)).Nodup->(∀ p ∈ acc,∀ k,(p.1,k) ∉ names)->((cellsFrom n names acc).map (·.1)).Nodup
  | [],_,_,_,h,_=>h
  | (y,k)::r,n,acc,hU,h,hd=>by
    have hU':qx r:=fun i j x k k' h1 h2=>by have:=hU (i + 1) (j + 1) x k k' (by simpa using h1) (by simpa using h2); omega
    have hy:∀ k',(y,k') ∉ r:=fun k' hm=>by
      obtain ⟨i,hi⟩:=List.mem_iff_getElem?.mp hm
      have:=hU 0 (i + 1) y k k' (by simp) (by simpa using hi)
      omega
    unfold cellsFrom
    split
    · refine gX hU' ?_ fun p hp k' hm=>?_
      · simp only [List.map_cons,List.nodup_cons]
        refine ⟨fun q=>?_,h⟩
        obtain ⟨p,hp,rfl⟩:=List.mem_map.mp q
        exact hd p hp k List.mem_cons_self
      · rcases List.mem_cons.mp hp with e | hp
        · subst e; exact hy k' hm
        · exact hd p hp k' (List.mem_cons_of_mem _ hm)
    · exact gX hU' h fun p hp k' hm=>hd p hp k' (List.mem_cons_of_mem _ hm)
theorem nN:∀ {l:List (Str × Addr)},(l.map (·.1)).Nodup->∀ p ∈ l,l.lookup p.1=some p.2
  | [],_,p,hp=>by simp at hp
  | (k,v)::r,h,p,hp=>by
    simp only [List.map_cons,List.nodup_cons] at h
    rw [List.lookup_cons]
    rcases List.mem_cons.mp hp with e | hp
    · subst e; simp
    · have:(p.1 == k)=false:=by
        cases hb:p.1 == k with
        | false=>rfl
        | true =>
          have:p.1=k:=by simpa using hb
          exact absurd (List.mem_map.mpr ⟨p,hp,this⟩) h.1
      rw [this]
      exact nN h.2 p hp
theorem pE {kd:Str->Option NameKind}:∀ {ps:List Str} {vals:List Value} {m:Str->Option Value} {y:Str},y ∉ ps->bindL kd (ps.zip vals) m y=m y
  | [],vals,m,y,h=>by simp [bindL]
  | p::ps,[],m,y,h=>by simp [bindL]
  | p::ps,v::vals,m,y,h=>by
    simp only [List.mem_cons,not_or] at h
    simp only [List.zip_cons_cons,bindL]
    rw [pE h.2]
    split
    · simp [h.1]
    · rfl
theorem pF {kd:Str->Option NameKind}:∀ {ps:List Str} {vals:List Value} {m:Str->Option Value} {y:Str},y ∉ ps->bindC kd (ps.zip vals) m y=m y
  | [],vals,m,y,h=>by simp [bindC]
  | p::ps,[],m,y,h=>by simp [bindC]
  | p::ps,v::vals,m,y,h=>by
    simp only [List.mem_cons,not_or] at h
    simp only [List.zip_cons_cons,bindC]
    rw [pF h.2]
    split
    · rfl
    · simp [h.1]
theorem tU {kd:Str->Option NameKind}:∀ {ps:List Str} {vals:List Value} {m:Str->Option Value} {i:Nat} {y:Str} {v:Value},ps.Nodup->ps[i]?=some y->vals[i]?=some v->kd y=some .local->bindL kd (ps.zip vals) m y=some v
  | [],vals,m,i,y,v,_,h,_,_=>by simp at h
  | p::ps,[],m,i,y,v,_,_,h,_=>by simp at h
  | p::ps,w::vals,m,i,y,v,hn,h1,h2,hk=>by
    rw [List.nodup_cons] at hn
    simp only [List.zip_cons_cons,bindL]
    cases i with
    | zero =>
      simp at h1 h2
      subst h1 h2
      rw [pE hn.1,if_pos hk]; simp
    | succ i=>exact tU hn.2 (by simpa using h1) (by simpa using h2) hk
theorem tV {kd:Str->Option NameKind}:∀ {ps:List Str} {vals:List Value} {m:Str->Option Value} {i:Nat} {y:Str} {v:Value},ps.Nodup->ps[i]?=some y->vals[i]?=some v->kd y=some .cell->bindC kd (ps.zip vals) m y=some v
  | [],vals,m,i,y,v,_,h,_,_=>by simp at h
  | p::ps,[],m,i,y,v,_,_,h,_=>by simp at h
  | p::ps,w::vals,m,i,y,v,hn,h1,h2,hk=>by
    rw [List.nodup_cons] at hn
    simp only [List.zip_cons_cons,bindC]
    cases i with
    | zero =>
      simp at h1 h2
      subst h1 h2
      rw [pF hn.1,if_neg (by rw [hk]; decide)]; simp
    | succ i=>exact tV hn.2 (by simpa using h1) (by simpa using h2) hk
structure dR (K:Kt) (T:aL) (fn:Fn) (a:Addr) (o:Obj) (fd:FuncData) (body:List Stmt) (ps:List Str) (n1 n2:Nat):Prop where
  ho:K.hb.get? a=some o
  hd:o.data=.func fd
  code:K.hb.h.CodeRec fd.code fd.qualname
  hbody:fd.body=.stmts body
  glob:fd.globals=mainGlobals
  bins:fd.builtins=builtinsNs
  clo:fd.closure=[]
  kind:fd.scope.kind=.function
  co:fd.scope.isCoroutine=false
  gen:fd.scope.isGenerator=false
  sc:lY fd.scope.names=true
  tr:jz (trS T fd.scope.names (yd T n1) n2) body=some fn.body
  params:fn.params=ps.length
  slots:fn.slots=fd.scope.names.length
  pk:∀ (i:Nat) (p:Str),ps[i]?=some p->∃ k,fd.scope.names[i]?=some (p,k)/\(k=NameKind.local\/k=.cell)
  bind:∀ vals:List Value,vals.length=ps.length->bindArgs fd ⟨vals,[]⟩=pure (ps.zip vals)
theorem dR.nodup {K T fn a o fd body ps n1 n2} (f:dR K T fn a o fd body ps n1 n2):ps.Nodup:=by
  rw [List.Nodup,List.pairwise_iff_getElem]
  intro i j hi hj hij e
  obtain ⟨k,h1,_⟩:=f.pk i ps[i] (by simp [hi])
  obtain ⟨k',h2,_⟩:=f.pk j ps[j] (by simp [hj])
  rw [e] at h1
  have:=(jt f.sc).uniq i j _ _ _ h1 h2
  omega
section
variable {K:Kt} {A:Around} {T:aL} {C:a8} {s:Shared} {α:AL} {σ:ac}
theorem acX {fr:List Addr} {fn:Fn} {a:Addr} {o:Obj} {fd:FuncData} {body:List Stmt} {ps:List Str} {n1 n2:Nat} (f:dR K T fn a o fd body ps n1 n2) {vs:List PV} {us:List Value} {s₁:Shared}
    (hl:vs.length=ps.length) (r:R (K.wf fr).hb s.heap σ α) (v:aK s.heap α vs us)
    (I:InCallC s (callEnvC fd s.heap.objs.size a).locals (bindL (callEnvC fd s.heap.objs.size a).kindOf (ps.zip us) fun _=>none) (callEnvC fd s.heap.objs.size a).cells (bindC (callEnvC fd s.heap.objs.size a).kindOf (ps.zip us) fun _=>none) s₁) :
    ag (callEnvC fd s.heap.objs.size a) (vs.map some++List.replicate (fn.slots - fn.params) none) s₁.heap ⟨α.ix,α.hid,s.heap.objs.size::fr⟩/\bX (K.wf (s.heap.objs.size::fr)).hb (callEnvC fd s.heap.objs.size a)/\R (K.wf (s.heap.objs.size::fr)).hb s₁.heap σ ⟨α.ix,α.hid,s.heap.objs.size::fr⟩/\Sm s s₁/\(∀ b o,s.heap.get? b=some o->s₁.heap.get? b=some o)/\∀ b ∈ eB (callEnvC fd s.heap.objs.size a),s.heap.get? b=none:=by
  have sc:=jt f.sc
  have keep:=I.toInCall.keep
  have hnm:(callEnvC fd s.heap.objs.size a).scope=fd.scope:=rfl
  have hcells:(callEnvC fd s.heap.objs.size a).cells=cellsFrom (s.heap.objs.size + 1) fd.scope.names []:=rfl
  have hloc:(callEnvC fd s.heap.objs.size a).locals=s.heap.objs.size:=rfl
  have fresh:∀ b,s.heap.objs.size <= b->s.heap.get? b=none:=fun b hb=>by
    cases e:s.heap.get? b with
    | none=>rfl
    | some o'=>exact absurd (Heap.lt_size e) (Nat.not_lt.mpr hb)
  have notAll:∀ b,s.heap.get? b=none->b ∉ α.all:=fun b hb q=>by obtain ⟨o,e⟩:=r.liveAll q; rw [hb] at e; contradiction
  have base:∀ b,s.heap.get? b=none->K.hb.get? b=none:=fun b hb=>by
    cases e:K.hb.get? b with
    | none=>rfl
    | some o=>rw [r.base b o e] at hb; contradiction
  have cfresh:∀ n c,(n,c) ∈ (callEnvC fd s.heap.objs.size a).cells->s.heap.get? c=none:=fun n c h=>fresh c (Nat.le_of_lt (I.above n c h))
  have kd:∀ (i:Nat) (y:Str) (k:NameKind),fd.scope.names[i]?=some (y,k)->(callEnvC fd s.heap.objs.size a).kindOf y=some k:=fun i y k h=>cV sc.uniq h
  have hnd:=gX (n:=s.heap.objs.size + 1) (acc:=[]) sc.uniq (by simp) (by simp)
  have cl:∀ p ∈ (callEnvC fd s.heap.objs.size a).cells,(callEnvC fd s.heap.objs.size a).cells.lookup p.1=some p.2:=nN hnd
  have xk:aD [] α s.heap α s₁.heap:=.keeps keep
  have hrho:∀ (i:Nat) (w:PV),(vs.map some++List.replicate (fn.slots - fn.params) (none:Option PV))[i]?=some (some w)->vs[i]?=some w:=fun i w e=>by
    by_cases hi:i < vs.length
    · rw [List.getElem?_append_left (by simpa using hi)] at e
      simpa using e
    · rw [List.getElem?_append_right (by simpa using hi)] at e
      rw [List.getElem?_replicate] at e
      split at e <;> cases e
  have arg:∀ (i:Nat) (w:PV),vs[i]?=some w->∃ p k u,ps[i]?=some p/\fd.scope.names[i]?=some (p,k)/\(k=.local\/k=.cell)/\us[i]?=some u/\VR s.heap α w u:=fun i w e=>by
    have hi:i < vs.length:=(List.getElem?_eq_some_iff.mp e).1
    have hp:i < ps.length:=by omega
    obtain ⟨k,h1,h2⟩:=f.pk i ps[i] (by simp [hp])
    have hu:i < us.length:=by rw [<- v.1]; exact hi
    exact ⟨ps[i],k,us[i],by simp [hp],h1,h2,by simp [hu],v.2 i w us[i] e (by simp [hu])⟩
  refine ⟨⟨⟨f.kind,f.glob,f.bins,kd,sc.nodbg⟩,notAll _ (fresh _ (Nat.le_refl _)),⟨_,I.toInCall.ns,fun i y w e1 e2=>?_⟩,fun y c hc=>?_,fun y z c h1 h2=>?_,fun i y e1=>?_,fun i w e=>?_⟩,
    ⟨sc,⟨base _ (fresh _ (Nat.le_refl _)),fun y c hc=>base _ (cfresh y c (mem_of_lookup hc)),⟨_,_,rfl,rfl⟩⟩,cl,?_⟩,?_,?_,keep,fun b hb=>?_⟩
  · obtain ⟨p,k,u,q1,q2,q3,q4,q5⟩:=arg i w (hrho i w e2)
    rw [hnm] at e1
    rw [q2] at e1
    cases e1
    exact ⟨u,tU f.nodup q1 q4 (kd i _ _ q2),(q5.ext xk).refr⟩
  · have hm:=mem_of_lookup hc
    exact ⟨notAll _ (cfresh y c hm),Nat.ne_of_gt (I.above y c hm),_,I.cell y c hc⟩
  · exact name_of_addr I.apart (mem_of_lookup h1) (mem_of_lookup h2)
  · rw [hnm] at e1
    obtain ⟨c,hc⟩:=fR (n:=s.heap.objs.size + 1) (acc:=[]) (List.mem_of_getElem? e1)
    have hc':=cl (y,c) hc
    refine ⟨c,hc',fun w e2=>?_⟩
    obtain ⟨p,k,u,q1,q2,q3,q4,q5⟩:=arg i w (hrho i w e2)
    rw [q2] at e1
    cases e1
    refine ⟨u,?_,(q5.ext xk).refr⟩
    have:=I.cell _ c hc'
    rw [tV f.nodup q1 q4 (kd i _ _ q2)] at this
    exact this
  · obtain ⟨p,k,u,q1,q2,q3,q4,q5⟩:=arg i w (hrho i w e)
    exact ⟨p,k,q2,q3⟩
  · show (fd.scope.kind == .module && _)=false
    rw [f.kind]; rfl
  · obtain ⟨o',es,ep,e',d,_⟩:=I.toInCall.ns
    exact (r.keeps keep).pushFr (base _ (fresh _ (Nat.le_refl _))) e' ⟨es,ep,d⟩ (AL.not_ix (notAll _ (fresh _ (Nat.le_refl _))))
  · obtain ⟨h',tk,rfl⟩:=I.toInCall.same
    exact ⟨rfl,rfl⟩
  · rcases List.mem_cons.mp hb with q | q
    · rw [q]; exact fresh _ (Nat.le_refl _)
    · obtain ⟨p,hp,rfl⟩:=List.mem_map.mp q
      exact cfresh p.1 p.2 hp
noncomputable def w5 (K:Kt):Prop:=∃ a o fd n r,K.mg "law" = some (.ref a)/\K.hb.get? a=some o/\o.data=.func fd/\fd.scope.names=(n,NameKind.local)::r
inductive ta (K:Kt) (T:aL) (P:g9) (f:Nat) (L:Addr->Prop):Prop
  | mk (fn:Fn) (a:Addr) (o:Obj) (fd:FuncData) (body:List Stmt) (ps:List Str) (n1 n2:Nat) (hf:P.fns[f]?=some fn) (hl:L a) (F:dR K T fn a o fd body ps n1 n2):ta K T P f L
structure PrgOk (K:Kt) (T:aL) (P:g9):Prop where
  hK:K.Ok
  rp:T.repl=true->K.pos=true
  l0:T.repl=true->w5 K
  cst:∀ x v,T.cst.lookup x=some v->∃ u,K.mg x=some u/\∀ fr h σ α,R (K.wf fr).hb h σ α->VR h α v u
  bin:∀ x,x ∈ T.bins->K.mg x=none/\∃ v,jn x=some v/\K.mb x=some v
  exc:∃ F:PySem.W.Frag,F.In K.hb.h/\∀ p ∈ T.excs,lR K p.1 p.2.1 p.2.2/\mD F T p.2.1=true
  fns:∀ (f:Nat) (x:Str),T.fns[f]?=some x->ta K T P f fun a=>K.mg x=some (.ref a)
  brd:∀ b c,T.brd=some (b,c)->∃ F:PySem.W.Frag,fg K F b c/\∀ (j:Nat) (n:Str),T.meths[j]?=some n->ta K T P (T.fns.length + j) fun a=>PySem.W.findIn F (.ref c) n=some (some (.ref a))/\PySem.W.typeIn F (.ref a)=some (.type "function")
theorem ta.wx {P:g9} {h':Heap} {f:Nat} {L:Addr->Prop} (k:∀ b o,K.hb.h.get? b=some o->h'.get? b=some o) (q:ta K T P f L):ta (K.wx h') T P f L:=by
  obtain ⟨fn,a,o,fd,body,ps,n1,n2,hf,hl,F⟩:=q
  exact ⟨fn,a,o,fd,body,ps,n1,n2,hf,hl,⟨k _ _ F.ho,F.hd,F.code.keeps k,F.hbody,F.glob,F.bins,F.clo,F.kind,F.co,F.gen,F.sc,F.tr,F.params,F.slots,F.pk,F.bind⟩⟩
theorem PrgOk.wx {P:g9} {h':Heap} (k:∀ b o,K.hb.h.get? b=some o->h'.get? b=some o) (p:PrgOk K T P):PrgOk (K.wx h') T P:=by
  refine ⟨⟨p.hK.g.keeps k,p.hK.b.keeps k,p.hK.nolimit.keeps k,let ⟨o,e⟩:=p.hK.mods; ⟨o,k _ _ e⟩⟩,p.rp,fun q=>let ⟨a,o,fd,n,r,h1,h2,h3⟩:=p.l0 q; ⟨a,o,fd,n,r,h1,k _ _ h2,h3⟩,
    fun x v h=>let ⟨u,h1,h2⟩:=p.cst x v h; ⟨u,h1,fun fr h σ α r=>h2 fr h σ α (R.unwx (K:=K.wf fr) k r)⟩,p.bin,?_,fun f x hx=>(p.fns f x hx).wx k
    ,fun b c hb=>?_
    ⟩
  · obtain ⟨Fg,X,H⟩:=p.exc
    refine ⟨Fg,fun a o e=>k a o (X a o e),fun q hq=>⟨⟨(H q hq).1.mg,?_,(H q hq).1.tail.keeps k⟩,(H q hq).2⟩⟩
    obtain ⟨nm,qn,Nn,bs,hdct,sn,sub,ab,col,dd,k0,k1,k2,k3,k5,hC,mN,hNs,hni⟩:=(H q hq).1.ob
    exact ⟨nm,qn,Nn,bs,hdct,sn,sub,ab,col,dd,k0,k1,k2,k3,k5,k _ _ hC,mN,hNs.keeps k,hni⟩
  · obtain ⟨Fg,B,H⟩:=p.brd b c hb
    exact ⟨Fg,⟨B.mg,fun a o e=>k a o (B.inn a o e),B.keep,B.makes,B.plain,B.hasd,B.seta,B.free
      ,B.geta,B.getr,B.none
      ⟩,fun j n hj=>(H j n hj).wx k⟩
structure gZ (K:Kt) (A:Around) (m:Nat):Prop where
  hd:m=0->A.handled=none
  ph:K.ph=(m != 0)
  rz:m=1->aae K A
theorem gZ.ctx {K:Kt} {A:Around} {m d N:Nat} {P:g9} (h:gZ K A m):((eY P N m d).hd=false->A.handled=none)/\K.ph=(eY P N m d).hd/\((eY P N m d).rz=true->(eY P N m d).hd=true->aae K A):=
  ⟨fun q=>h.hd (by simpa [a8.hd,eY] using q),h.ph,fun q1 q2=>h.rz (by
    have z1:m <= 1:=Nat.le_of_ble_eq_true q1
    have z2:m ≠ 0:=by simpa [a8.hd,eY] using q2
    omega)⟩
theorem gZ.mark {K:Kt} {A:Around} {m d N:Nat} {P:g9} {hx:Heap} {a:Addr} (ov:s9 K hx a (eY P N m d)):gZ (K.wx hx) (A.mark (some (.ref a))) (m + 1):=
  ⟨fun q=>by contradiction,by show true=_; simp,fun q=>by
    obtain ⟨o,vs,h1,h2,h3⟩:=ov.2 (by show (m != 0)=false; rw [Nat.succ.inj q]; rfl)
    exact ⟨a,o,vs,rfl,h1,h2,h3⟩⟩
theorem lR.wf {x:Str} {c:Nat} {up fr:List Nat} (e:lR K x c up):lR (K.wf fr) x c up:=⟨e.mg,e.ob,e.tail⟩
theorem xj {M:Model} {Γ:PySem.Ctx} {γ:Type} {x:Str} {f:Value->Sem γ} {Q:γ->Pos->Shared->Prop} {E:Value->Pos->Shared->Prop} {p:Pos} {s:Shared} (h:Sem.wp M Γ (mkText x >>= f) Q E p s):Sem.wp M Γ (mkText x >>= f) (fun a p s=>Q a p s/\1 <= s.toks) E p s:=by
  have h2:Sem.wp M Γ (f (.str x s.toks)) Q E p { s with toks:=s.toks + 1 }:=h
  have h3:Sem.wp M Γ (f (.str x s.toks)) (fun a p s=>Q a p s/\1 <= s.toks) E p { s with toks:=s.toks + 1 }:=
    Sem.wp_mono M Γ _ (fun _ _ _ h=>h) (fun _ _ _ h=>h.1) _ _ (oQ (n:=1) (f (.str x s.toks)) (Nat.le_add_left 1 s.toks) h2)
  exact h3
theorem vy {M:Model} {Γ:PySem.Ctx} {env:Env} {x:Str} {v:Value} {Q:Unit->Pos->Shared->Prop} {E:Value->Pos->Shared->Prop} {p:Pos} {s:Shared} (hk:env.scope.kind=.function) (hl:env.kindOf x=some .local)
   (h:Sem.wp M Γ (storeName env x v) Q E p s):Sem.wp M Γ (storeName env x v) (fun a p s=>Q a p s/\1 <= s.toks) (fun e p s=>E e p s) p s:=by
  have e:storeName env x v=nsSet env.locals x v:=by
    unfold storeName
    rw [hl,hk]; rfl
  rw [e] at h ⊢
  unfold nsSet at h ⊢
  rw [Sem.wp_bind'] at h ⊢
  refine Sem.wp_mono M Γ _ (fun a p s h=>?_) (fun _ _ _ h=>h) _ _ h
  exact xj h
theorem zz {scope:Scope} {g:Addr} {clo:List (Str × Addr)} {x:Str} {v:Value} {rest:List (Str × Value)} {qual:Str} {func:Option Addr} {code:Value} {b:Addr} {Q:Env->Shared->Prop} {E:Value->Shared->Prop} (hk:scope.kind=.function) (hl:scope.names.lookup x=some .local)
    (h:wpAny (model K.prog K.w) A (newFunctionEnv scope g clo ((x,v)::rest) qual func code none b) (fun e s'=>0 < s'.toks->Q e s') E s):wpAny (model K.prog K.w) A (newFunctionEnv scope g clo ((x,v)::rest) qual func code none b) Q E s:=by
  intro Γ p hΓ
  have h':=h Γ p hΓ
  unfold newFunctionEnv at h' ⊢
  rw [Sem.wp_bind'] at h' ⊢
  refine Sem.wp_mono _ _ _ (fun a p s h=>?_) (fun _ _ _ h=>h) _ _ h'
  rw [Sem.wp_bind'] at h ⊢
  refine Sem.wp_mono _ _ _ (fun a p s h=>?_) (fun _ _ _ h=>h) _ _ h
  dsimp only at h ⊢
  rw [List.forIn_cons] at h ⊢
  rw [Sem.wp_bind',Sem.wp_bind'] at h ⊢
  rw [Sem.wp_bind'] at h ⊢
  refine Sem.wp_mono _ _ _ (fun a p s h=>?_) (fun _ _ _ h=>h) _ _ (vy hk hl h)
  obtain ⟨h,ht⟩:=h
  refine Sem.wp_mono _ _ _ (fun a p s h=>?_) (fun _ _ _ h=>h.1) _ _ (oQ (n:=1) _ ht h)
  obtain ⟨h,ht⟩:=h
  exact Sem.wp_mono _ _ _ (fun a p s h=>h.1 h.2) (fun _ _ _ h=>h.1) _ _ (oQ (n:=1) _ ht h)
theorem sW {R:Result->Shared->Prop} {a:Addr} {o:Obj} {fd:FuncData} {body:List Stmt} {vals:List Value} {binds:List (Str × Value)} (tk:K.Tk s\/∃ x v rest,binds=(x,v)::rest/\fd.scope.names.lookup x=some .local)
    (hroom:A.depth < recursionLimit) (ho:s.heap.get? a=some o) (hdata:o.data=.func fd) (hlim:s.heap.NoLimit) (hcd:s.heap.CodeRec fd.code fd.qualname)
    (hbody:fd.body=.stmts body) (hbind:bindArgs fd ⟨vals,[]⟩=pure binds) (hclo:fd.closure=[])
    (hkind:∀ x ∈ binds,fd.scope.names.lookup x.1=some .local\/(fd.scope.names.lookup x.1=some .cell/\((cellsFrom (s.heap.objs.size + 1) fd.scope.names []).lookup x.1).isSome=true))
    (h:∀ s₁,InCallC s (callEnvC fd s.heap.objs.size a).locals (bindL (callEnvC fd s.heap.objs.size a).kindOf binds fun _=>none) (callEnvC fd s.heap.objs.size a).cells (bindC (callEnvC fd s.heap.objs.size a).kindOf binds fun _=>none) s₁->K.Tk s₁ ->
      wpAny (model K.prog K.w) (A.deeper (callEnvC fd s.heap.objs.size a)) (execs body (callEnvC fd s.heap.objs.size a)) (fun f s'=>R (.ok (.ret (match f with | .ret v=>v | _=>.none))) s')
        (fun e s'=>wpAny (model K.prog K.w) (A.deeper (callEnvC fd s.heap.objs.size a)) (leaving (callEnvC fd s.heap.objs.size a) e) (fun _ s''=>R (.error e) s'') (fun e' s''=>R (.error e') s'') s') s₁)
    (hco:fd.scope.isCoroutine=false) (hgen:fd.scope.isGenerator=false) (hk:fd.scope.kind=.function):codeAny (model K.prog K.w) A (.call (.ref a) ⟨vals,[]⟩) R s:=by
  refine codeAny_call_function hroom ho hdata hco hgen hbody hcd ?_
  rw [hbind,hclo]
  refine wpAny_pure ?_
  rcases tk with tk | ⟨y,v,rest,rfl,hl⟩
  · refine dS tk (wpAny_newFunctionEnv_cells hk hkind fun env he s' x tk'=>?_)
    subst he
    exact ⟨hlim.keeps x.toInCall.keep,codeAny_func (h s' x tk')⟩
  · refine zz hk hl (wpAny_newFunctionEnv_cells hk hkind fun env he s' x tk'=>?_)
    subst he
    exact ⟨hlim.keeps x.toInCall.keep,codeAny_func (h s' x fun _=>tk')⟩
theorem tT {P:g9} (p:PrgOk K T P) {N d:Nat} {hd:Nat} {fr:List Addr} (hroom:A.depth < recursionLimit) (hA:∀ env,dE d (A.deeper env)) (hh:gZ K A hd) (hF:eI (K.wf fr) A)
    (eZ:∀ {K:Kt} (p:PrgOk K T P) (m:Nat) (A:Around) (fr:List Addr),dE d A->gZ K A m->eI (K.wf fr) A->Ctx (K.wf fr) A T (eY P N m d))
    {f:Nat} {fn:Fn} {a:Addr} {o:Obj} {fd:FuncData} {body:List Stmt} {ps:List Str} {n1 n2:Nat} (hf:P.fns[f]?=some fn) (F:dR K T fn a o fd body ps n1 n2)
    {vs:List PV} {us:List Value} {s:Shared} {σ:ac} {α:AL} (r:R (K.wf fr).hb s.heap σ α) (v:aK s.heap α vs us) (hc:bE P N hd (d + 1) f vs σ ≠ .stuck)
    (tk:K.Tk s\/∃ x q,ps=x::q/\us ≠ []/\fd.scope.names.lookup x=some .local) {Rr:Result->Shared->Prop} (hok:∀ v s',aQ (K.wf fr) VR (bE P N hd (d + 1) f vs σ) s α v s'->Rr (.ok (.ret v)) s') (herr:∀ e s',aZ (K.wf fr) A (bE P N hd (d + 1) f vs σ) s α e s'->Rr (.error e) s') :
    codeAny (model K.prog K.w) A (.call (.ref a) ⟨us,[]⟩) Rr s:=by
  simp only [bE,hf] at hc hok herr
  split at hc
  · rename_i hl
    rw [if_pos hl] at hok herr
    rw [F.params] at hl
    have sc:=jt F.sc
    refine sW (tk.imp id fun ⟨x,q,e1,e2,e3⟩=>by
      cases us with
      | nil=>exact absurd rfl e2
      | cons u us=>exact ⟨x,u,q.zip us,by rw [e1]; rfl,e3⟩) hroom (r.base _ _ F.ho) F.hd (p.hK.nolimit.keeps r.base) (F.code.keeps r.base) F.hbody (F.bind us (by rw [<- v.1]; exact hl)) F.clo (fun q hq=>?_) (fun s₁ I j7=>?_) F.co F.gen F.kind
    · obtain ⟨i,hi⟩:=List.mem_iff_getElem?.mp hq
      obtain ⟨h1,h2⟩:=List.getElem?_zip_eq_some.mp hi
      obtain ⟨k,h3,h4⟩:=F.pk i q.1 h1
      rcases h4 with rfl | rfl
      · exact .inl (cV sc.uniq h3)
      · refine .inr ⟨cV sc.uniq h3,?_⟩
        obtain ⟨c,hc'⟩:=fR (n:=s.heap.objs.size + 1) (acc:=[]) (List.mem_of_getElem? h3)
        obtain ⟨c',hc''⟩:=mM hc'
        rw [hc'']; rfl
    · obtain ⟨E,Fr,r1,m1,kp,own⟩:=acX F hl r v I
      have hA':dE d (A.deeper (callEnvC fd s.heap.objs.size a)):=hA _
      have hF':eI (K.wf (s.heap.objs.size::fr)) (A.deeper (callEnvC fd s.heap.objs.size a)):=hF.push rfl F.kind
      have body_ok:=dT (n:=N) (nw (T:=T) (f:=yd T n1) (Good:=fun afj w6 afm=>∃ K' fr' m,afj=Kt.wf K' fr'/\afm=eY P N m d/\PrgOk K' T P/\dE d w6/\gZ K' w6 m/\eI (Kt.wf K' fr') w6) rfl (fun afj w6 afm g=>by
        obtain ⟨K',fr',m,rfl,rfl,p',a',h',f'⟩:=g
        have ctx:=eZ p' m w6 fr' a' h' f'
        exact ⟨ctx,th ctx n1,fun _ hx a ov=>⟨K'.wx hx,fr',m + 1,rfl,rfl,p'.wx ov.1,a'.mark,gZ.mark (K:=K') ov,⟨f'.ex⟩⟩⟩) n2 Fr ⟨K,_,hd,rfl,rfl,p,hA',⟨hh.hd,hh.ph,hh.rz⟩,hF'⟩) F.tr _ _ _ _ E r1
      have e0:(⟨fun m=>bE P N m d,hd⟩:a8)=eY P N hd d:=rfl
      rw [e0] at hc hok herr
      generalize hcq:ex (eY P N hd d) N fn.body (vs.map some++List.replicate (fn.slots - fn.params) none) σ=cc at hc body_ok hok herr
      have hcc:cc ≠ .stuck:=by rintro rfl; exact hc rfl
      have hfr:α.fr=fr:=r.fe
      have hLn:s.heap.get? s.heap.objs.size=none:=own _ List.mem_cons_self
      refine wpAny_mono (body_ok hcc j7) (fun fl au hp=>?_) fun e au hx=>?_
      · obtain ⟨ρ₂,σ₂,aJ,x2,r2,E2,m2,fo⟩:=hp
        have xx:aD [] α s.heap ⟨aJ.ix,aJ.hid,fr⟩ au.heap:=aD.ofCall hfr kp own hLn x2
        cases cc with
        | next ρ' σ' =>
          obtain ⟨rfl,rfl,rfl⟩:=fo
          exact hok _ _ ⟨.none,_,_,rfl,xx,r2.popFr,.none,m1.trans m2⟩
        | ret w ρ' σ' =>
          obtain ⟨⟨u,rfl,vu⟩,rfl,rfl⟩:=fo
          exact hok _ _ ⟨w,_,_,rfl,xx,r2.popFr,vu.refr,m1.trans m2⟩
        | brk ρ' σ'=>exact absurd rfl hc
        | cont ρ' σ'=>exact absurd rfl hc
        | exc i ρ' σ'=>exact fo.elim
        | stuck=>exact absurd rfl hcc
      · obtain ⟨i,ρ',σ',fC,gi,nt,e1,y,En,m0,fx⟩:=hx
        subst e1
        exact FX.leave hF' Fr hfr kp own rfl ⟨_,r⟩ (m1.trans m0) y En fx fun s' f=>herr _ _ ⟨i,σ',rfl,_,f⟩
  · exact absurd rfl hc
theorem abH {P:g9} (p:PrgOk K T P) {N d:Nat} {hd:Nat} {fr:List Addr} (hA:dE (d + 1) A) (hh:gZ K A hd) (hF:eI (K.wf fr) A)
    (eZ:∀ {K:Kt} (p:PrgOk K T P) (m:Nat) (A:Around) (fr:List Addr),dE d A->gZ K A m->eI (K.wf fr) A->Ctx (K.wf fr) A T (eY P N m d))
    {f:Nat} {fn:Fn} {a:Addr} {o:Obj} {fd:FuncData} {body:List Stmt} {ps:List Str} {n1 n2:Nat} (hf:P.fns[f]?=some fn) (F:dR K T fn a o fd body ps n1 n2)
    {vs:List PV} {us:List Value} {s:Shared} {σ:ac} {α:AL} (r:R (K.wf fr).hb s.heap σ α) (v:aK s.heap α vs us) (hc:bE P N hd (d + 1) f vs σ ≠ .stuck)
    (tk:K.Tk s\/∃ x q,ps=x::q/\us ≠ []/\fd.scope.names.lookup x=some .local) :
    wpAny (model K.prog K.w) A (call (.ref a) us) (aQ (K.wf fr) VR (bE P N hd (d + 1) f vs σ) s α) (aZ (K.wf fr) A (bE P N hd (d + 1) f vs σ) s α) s:=
  wpAny_call (tT p (by have:=hA.depth; omega) (fun _=>hA.deeper) hh hF eZ hf F r v hc tk (fun _ _ h=>h) fun _ _ h=>h)
open PySem.W in
theorem ab6 {c:Addr} {us:List Value} {d:Nat} (h:dE (d + 1) A):(A.under (.builtin "type.__call__" ⟨.ref c::us,[]⟩)).depth < recursionLimit/\∀ env,dE d ((A.under (.builtin "type.__call__" ⟨.ref c::us,[]⟩)).deeper env):=by
  have w:(Code.builtin "type.__call__" ⟨.ref c::us,[]⟩).weight <= 1:=Nat.le_of_ble_eq_true (by kernel_rfl)
  have u:(Code.builtin "type.__call__" ⟨.ref c::us,[]⟩).cUnits <= 4:=Nat.le_of_ble_eq_true rfl
  have h1:=h.depth
  have h2:=h.units
  refine ⟨?_,fun env=>⟨?_,?_⟩⟩
  · show A.depth + (Code.builtin "type.__call__" ⟨.ref c::us,[]⟩).weight < recursionLimit; omega
  · show A.depth + (Code.builtin "type.__call__" ⟨.ref c::us,[]⟩).weight + 1 + 2 * d + 200 < recursionLimit; omega
  · show A.units + (Code.builtin "type.__call__" ⟨.ref c::us,[]⟩).cUnits + 3 + 20 * d + 200 < cLine; omega
theorem fg.wf {F:PySem.W.Frag} {b:Str} {c:Addr} {fr:List Addr} (B:fg K F b c):fg (K.wf fr) F b c:=⟨B.mg,B.inn,B.keep,B.makes,B.plain,B.hasd,B.seta,B.free
    ,B.geta,B.getr,B.none
    ⟩
open PySem.W in
theorem aco {P:g9} (p:PrgOk K T P) {N d:Nat} {hd:Nat} {fr:List Addr} (hA:dE (d + 1) A) (hh:gZ K A hd) (hF:eI (K.wf fr) A)
    (eZ:∀ {K:Kt} (p:PrgOk K T P) (m:Nat) (A:Around) (fr:List Addr),dE d A->gZ K A m->eI (K.wf fr) A->Ctx (K.wf fr) A T (eY P N m d))
    {f:Nat} {fn:Fn} {a:Addr} {o:Obj} {fd:FuncData} {body:List Stmt} {ps:List Str} {n1 n2:Nat} (hf:P.fns[f]?=some fn) (F:dR K T fn a o fd body ps n1 n2)
    {Fg:Frag} {b:Str} {c:Addr} (B:fg K Fg b c) (hi:findIn Fg (.ref c) "__init__" = some (some (.ref a))) (hty:typeIn Fg (.ref a)=some (.type "function"))
    {vs:List PV} {us:List Value} {s:Shared} {σ:ac} {α:AL} (r:R (K.wf fr).hb s.heap σ α) (v:aK s.heap α vs us) :
    Runs (K.wf fr) VR A (call (.ref c) us) (l7 (eY P N hd (d + 1)) c f vs σ) s α:=by
  intro hc tk
  have X:Fg.In s.heap:=fun x o e=>r.base x o (B.inn x o e)
  obtain ⟨h,g,dr,t,os⟩:=s
  refine wpAny_call (make_core (makes_of X B.makes) (looks_findIn X hi) (fun self=>bind_fn X self hty) (.inl rfl) ?_)
  have k:∀ b o,h.get? b=some o->((h.push emptyDict).push (instObj c h.objs.size)).get? b=some o:=fun b o e=>Heap.get?_push_of_some _ (Heap.get?_push_of_some _ e)
  have hn:∀ b,h.objs.size <= b->h.get? b=none:=fun b hb=>by
    cases e:h.get? b with
    | none=>rfl
    | some o=>exact absurd (Heap.lt_size e) (Nat.not_lt.mpr hb)
  have hD:((h.push emptyDict).push (instObj c h.objs.size)).get? h.objs.size=some emptyDict:=Heap.get?_push_of_some _ (Heap.get?_push_size _ rfl)
  have hx:((h.push emptyDict).push (instObj c h.objs.size)).get? (h.objs.size + 1)=some (instObj c h.objs.size):=by
    have:=Heap.get?_push_size (h.push emptyDict) (o:=instObj c h.objs.size) rfl
    rwa [Heap.size_push] at this
  have nsD:((h.push emptyDict).push (instObj c h.objs.size)).Ns1 h.objs.size fun _=>none:=
    Heap.Ns1.of_empty ⟨_,#[],_,hD,rfl,fun e he=>absurd he (by simp),fun _=>rfl⟩
  obtain ⟨r',x'⟩:=r.add (D:=h.objs.size) (m:=.ns []) k (hn _ (Nat.le_refl _)) ⟨_,nsD,fun n v e=>(nomatch e),fun _ _=>rfl⟩
  have hix:(α.add h.objs.size).ix[σ.length]?=some h.objs.size:=by rw [r.len]; simp [AL.add]
  have hxn:h.objs.size + 1 ∉ (α.add h.objs.size).all:=fun q=>by
    obtain ⟨o,e⟩:=r'.liveAll q
    rcases List.mem_append.mp q with q | q
    · rcases List.mem_append.mp q with q | q
      · obtain ⟨o,e⟩:=r.liveAll (List.mem_append_left _ q)
        rw [hn _ (Nat.le_succ _)] at e; contradiction
      · exact absurd (List.mem_singleton.mp q) (Nat.succ_ne_self _)
    · obtain ⟨o,e⟩:=r.liveAll (List.mem_append_right _ q)
      rw [hn _ (Nat.le_succ _)] at e; contradiction
  have vx:VR ((h.push emptyDict).push (instObj c h.objs.size)) (α.add h.objs.size) (.inst c σ.length) (.ref (h.objs.size + 1)):=.inst hx hxn hix
  obtain ⟨g1,g2⟩:=ab6 (c:=c) (us:=us) hA
  unfold l7 at hc ⊢
  have hcc:bE P N hd (d + 1) f (.inst c σ.length::vs) (σ++[.ns []]) ≠ .stuck:=fun q=>hc (by
    show (bE P N hd (d + 1) f (.inst c σ.length::vs) (σ++[.ns []])).bind _=_
    rw [q]; rfl)
  refine tT p (s:=⟨(h.push emptyDict).push (instObj c h.objs.size),g,dr,t,os⟩) g1 g2 ⟨hh.hd,hh.ph,hh.rz⟩ ⟨hF.ex⟩ eZ hf F (vs:=.inst c σ.length::vs) r' (.cons vx (v.ext x')) hcc (.inl tk) (fun w s' hp=>?_) fun e s' hp=>?_
  · obtain ⟨bb,σ',α',e,x2,r2,v2,m2⟩:=hp
    change (bE P N hd (d + 1) f (.inst c σ.length::vs) (σ++[.ns []])).bind _ ≠ _ at hc
    rw [e] at hc
    cases bb with
    | none =>
      obtain rfl:=v2.noneE
      refine ⟨rfl,?_⟩
      show aQ (K.wf fr) VR ((bE P N hd (d + 1) f (.inst c σ.length::vs) (σ++[.ns []])).bind _) _ _ _ _
      rw [e]
      exact ⟨_,σ',α',rfl,x'.trans x2,r2,vx.ext x2,⟨m2.gens,m2.os⟩⟩
    | _=>exact absurd rfl hc
  · have hp2:aZ (K.wf fr) (A.under (.builtin "type.__call__" ⟨.ref c::us,[]⟩)) (bE P N hd (d + 1) f (.inst c σ.length::vs) (σ++[.ns []])) ⟨h,g,dr,t,os⟩ α e s':=hp.lift (s₁:=⟨(h.push emptyDict).push (instObj c h.objs.size),g,dr,t,os⟩) x' ⟨rfl,rfl⟩
    obtain ⟨i,σ',e1,fx⟩:=hp2
    show aZ (K.wf fr) A ((bE P N hd (d + 1) f (.inst c σ.length::vs) (σ++[.ns []])).bind _) _ _ _ _
    rw [e1]
    exact ⟨i,σ',rfl,fx⟩
theorem aaO {P:g9} {N d m:Nat} {fr:List Addr} (p:PrgOk K T P) (hA:dE d A) (hh:gZ K A m) (hF:eI (K.wf fr) A)
    (hcall:∀ {f fn a o fd body ps n1 n2},P.fns[f]?=some fn->dR K T fn a o fd body ps n1 n2->∀ vs us s σ α,R (K.wf fr).hb s.heap σ α->aK s.heap α vs us->Runs (K.wf fr) VR A (call (.ref a) us) (bE P N m d f vs σ) s α)
    (hnew:∀ {f fn a o fd body ps n1 n2},P.fns[f]?=some fn->dR K T fn a o fd body ps n1 n2->∀ {Fg b c},fg K Fg b c->PySem.W.findIn Fg (.ref c) "__init__" = some (some (.ref a))->PySem.W.typeIn Fg (.ref a)=some (.type "function") ->
      ∀ vs us s σ α,R (K.wf fr).hb s.heap σ α->aK s.heap α vs us->Runs (K.wf fr) VR A (call (.ref c) us) (l7 (eY P N m d) c f vs σ) s α)
    : Ctx (K.wf fr) A T (eY P N m d):=by
  refine ⟨⟨p.hK.g,p.hK.b,p.hK.nolimit,p.hK.mods⟩,hA.ok,hh.ctx.1,hh.ctx.2.1,hh.ctx.2.2,p.rp,hF,?_,fun x v h=>?_,fun f x hx=>?_,p.bin
    ,fun b c hb=>?_
    ⟩
  · obtain ⟨Fg,X,H⟩:=p.exc
    exact ⟨Fg,X,fun q hq=>⟨(H q hq).1.wf,(H q hq).2⟩⟩
  · obtain ⟨u,h1,h2⟩:=p.cst x v h
    exact ⟨u,h1,fun h σ α r=>h2 fr h σ α r⟩
  · obtain ⟨fn,a,o,fd,body,ps,n1,n2,hf,hmg,F⟩:=p.fns f x hx
    exact ⟨a,o,fd,hmg,F.ho,F.hd,hcall hf F⟩
  · obtain ⟨Fg,B,H⟩:=p.brd b c hb
    refine ⟨Fg,B.wf,fun j hj=>?_
      ,fun j n hj=>?_
      ⟩
    · obtain ⟨fn,a,o,fd,body,ps,n1,n2,hf,⟨q1,q2⟩,F⟩:=H j _ hj
      exact hnew hf F B q1 q2
    · obtain ⟨fn,a,o,fd,body,ps,n1,n2,hf,⟨q1,q2⟩,F⟩:=H j n hj
      exact ⟨a,o,fd,q1,q2,F.ho,F.hd,hcall hf F⟩
theorem eZ {P:g9} {N:Nat} (d:Nat):∀ {K:Kt} (p:PrgOk K T P) (m:Nat) (A:Around) (fr:List Addr),dE d A->gZ K A m->eI (K.wf fr) A->Ctx (K.wf fr) A T (eY P N m d):=by
  induction d with
  | zero =>
    exact fun p m A fr hA hh hF=>aaO p hA hh hF (fun _ _ _ _ _ _ _ _ _ hc=>absurd rfl hc)
      (fun _ _ _ _ _ _ _ _ _ _ _ _ _ _ _ hc=>absurd rfl hc)
  | succ d ih =>
    exact fun p m A fr hA hh hF=>aaO p hA hh hF (fun hf F vs us s σ α r v hc tk=>abH p hA hh hF ih hf F r v hc (.inl tk))
      (fun hf F _ _ _ B q1 q2 vs us s σ α r v=>aco p hA hh hF ih hf F B q1 q2 r v)
end
end Mine
namespace Mine
open PySem PySem.W PyProof.Rows
theorem mf:∀ {ps:List Str} {vals:List Value} {i:Nat} {p:Str} {v:Value},ps.Nodup->ps[i]?=some p->vals[i]?=some v->(ps.zip vals).lookup p=some v
  | [],_,_,_,_,_,h,_=>by simp at h
  | _::_,[],_,_,_,_,_,h=>by simp at h
  | q::ps,w::vals,i,p,v,hn,h1,h2=>by
    rw [List.nodup_cons] at hn
    rw [List.zip_cons_cons,List.lookup_cons]
    cases i with
    | zero=>simp at h1 h2; subst h1 h2; simp
    | succ i =>
      have h1':ps[i]?=some p:=by simpa using h1
      have:(p == q)=false:=by
        cases hb:p == q with
        | false=>rfl
        | true =>
          have:p=q:=by simpa using hb
          subst this; exact absurd (List.mem_of_getElem? h1') hn.1
      rw [this]
      exact mf hn.2 h1' (by simpa using h2)
theorem uc {ps:List Str} {vals:List Value} (hn:ps.Nodup) (hl:vals.length=ps.length):(ps.filterMap fun n=>((ps.zip vals).lookup n).map (n,·))=ps.zip vals:=by
  have key:∀ (qs:List Str) (ws:List Value),qs.length=ws.length->(∀ (i:Nat) q w,qs[i]?=some q->ws[i]?=some w->(ps.zip vals).lookup q=some w)->(qs.filterMap fun n=>((ps.zip vals).lookup n).map (n,·))=qs.zip ws:=by
    intro qs
    induction qs with
    | nil=>intro ws _ _; simp
    | cons q qs ih =>
      intro ws hl h
      cases ws with
      | nil=>contradiction
      | cons w ws =>
        have h0:=h 0 q w (by simp) (by simp)
        simp only [List.filterMap_cons,h0,Option.map_some,List.zip_cons_cons]
        rw [ih ws (by simpa using hl) fun i q w h1 h2=>h (i + 1) q w (by simpa using h1) (by simpa using h2)]
  exact key ps vals hl.symm fun i q w h1 h2=>mf hn h1 h2
theorem acZ {fd:FuncData} {ps:List Str} (hp:fd.params.posonlyargs=[]) (ha:fd.params.args.map (·.arg)=ps) (hk:fd.params.kwonlyargs=[]) (hv:fd.params.vararg=none) (hw:fd.params.kwarg=none) (hdf:fd.defaults=.none)
    (hn:ps.Nodup) {vals:List Value} (hl:vals.length=ps.length):bindArgs fd ⟨vals,[]⟩=pure (ps.zip vals):=by
  obtain ⟨nm,q,⟨po,ar,va,ko,kd,kw,df⟩,body,sc,g,cl,dfs,kwd,doc,pm,an,code,ct,bl⟩:=fd
  dsimp only at hp ha hk hv hw hdf
  subst hp hk hv hw hdf
  refine (if_neg ?_).trans ((if_neg ?_).trans ?_)
  · show ¬ (decide (vals.length > (ar.map (·.arg)).length) && true)=true
    rw [ha,hl,decide_eq_false (Nat.lt_irrefl _)]; exact nofun
  · show ¬ (!(((ar.map (·.arg)).take ((ar.map (·.arg)).length - (List.drop (0 - (ar.map (·.arg)).length) ([]:List Value)).length)).filter fun n=>(((ar.map (·.arg)).zip vals).lookup n).isNone).isEmpty)=true
    rw [ha,List.drop_nil,List.length_nil,Nat.sub_zero,List.take_length,List.filter_eq_nil_iff.mpr]
    · exact nofun
    intro a ha'
    obtain ⟨i,hi,rfl⟩:=List.mem_iff_getElem.mp ha'
    rw [mf hn (i:=i) (v:=vals[i]) (List.getElem?_eq_getElem hi) (List.getElem?_eq_getElem _)]
    exact nofun
  · have hz:∀ (l:List Str),l.zip ([]:List Value)=[]:=fun l=>List.zip_nil_right
    dsimp only
    rw [show (none.getD #[]:Array Value).toList=[] from rfl,List.drop_nil,hz]
    show (pure:_->Sem _) ((List.map (fun x:Arg=>x.arg) ar++[]).filterMap fun n=>(((List.map (fun x:Arg=>x.arg) ar).zip vals).lookup n).map (n,·))=_
    rw [ha,List.append_nil,uc hn hl]
noncomputable def zr:Value->Option Addr
  | .ref a=>some a
  | _=>none
noncomputable def adm:Value->Option Int
  | .int i _=>some i
  | _=>none
noncomputable def adc:Value->Option Str
  | .str s _=>some s
  | _=>none
noncomputable def abl:Data->Option FuncData
  | .func fd=>some fd
  | _=>none
noncomputable def ade:Data->Option (Array Value × Nat)
  | .seq xs n=>some (xs,n)
  | _=>none
noncomputable def yj:FuncBody->Option (List Stmt)
  | .stmts b=>some b
  | _=>none
theorem vI {v:Value} {a:Addr} (h:zr v=some a):v=.ref a:=by
  cases v with
  | ref b=>rw [Option.some.inj h]
  | _=>contradiction
theorem acK {v:Value} {i:Int} (h:adm v=some i):∃ t,v=.int i t:=by
  cases v with
  | int j t=>exact ⟨t,by rw [Option.some.inj h]⟩
  | _=>contradiction
theorem ab9 {v:Value} {s:Str} (h:adc v=some s):∃ t,v=.str s t:=by
  cases v with
  | str j t=>exact ⟨t,by rw [Option.some.inj h]⟩
  | _=>contradiction
theorem abk {d:Data} {fd:FuncData} (h:abl d=some fd):d=.func fd:=by
  cases d with
  | func f=>rw [Option.some.inj h]
  | _=>contradiction
theorem acf {d:Data} {q:Array Value × Nat} (h:ade d=some q):d=.seq q.1 q.2:=by
  cases d with
  | seq f n=>rw [<- Option.some.inj h]
  | _=>contradiction
theorem zl {d:FuncBody} {b:List Stmt} (h:yj d=some b):d=.stmts b:=by
  cases d with
  | stmts f=>rw [Option.some.inj h]
  | _=>contradiction
noncomputable def aeD (q:Str × Str × NameKind):Bool:=q.1 == q.2.1 && zn q.2.2
noncomputable def adf (ps:List Str) (names:List (Str × NameKind)):Bool:=decide (ps.length <= names.length) && (ps.zip names).all aeD
noncomputable def isNone:Value->Bool
  | .none=>true
  | _=>false
noncomputable def acQ (K:Frag) (fd:FuncData):Bool:=
  codeIn K fd.code fd.qualname && fd.globals == mainGlobals && fd.builtins == builtinsNs && fd.closure.isEmpty && fd.scope.kind == .function && !fd.scope.isCoroutine && !fd.scope.isGenerator && lY fd.scope.names &&
    fd.params.posonlyargs.isEmpty && fd.params.kwonlyargs.isEmpty && fd.params.vararg.isNone && fd.params.kwarg.isNone && isNone fd.defaults && adf (fd.params.args.map (·.arg)) fd.scope.names
noncomputable def sg (T:aL) (n1 n2:Nat) (K:Frag) (q:Option (Option Value)):Option Fn:=
  q.bind fun q=>q.bind fun v=>(zr v).bind fun a=>(K.lookup a).bind fun o=>(abl o.data).bind fun fd=>(yj fd.body).bind fun body =>
    ay (acQ K fd) ((jz (trS T fd.scope.names (yd T n1) n2) body).map fun b=>⟨fd.params.args.length,fd.scope.names.length,b⟩)
theorem aet {α β:Type} {xs:List α} {ys:List β} {i:Nat} {x:α} (hl:xs.length <= ys.length) (h:xs[i]?=some x):∃ y,ys[i]?=some y/\(x,y) ∈ xs.zip ys:=by
  have hi:=(List.getElem?_eq_some_iff.mp h).1
  have hj:i < ys.length:=Nat.lt_of_lt_of_le hi hl
  exact ⟨ys[i],List.getElem?_eq_getElem hj,List.mem_of_getElem? (List.getElem?_zip_eq_some.mpr ⟨h,List.getElem?_eq_getElem hj⟩)⟩
theorem acd {k:NameKind} (h:zn k=true):k=.local\/k=.cell:=by
  cases k with
  | «local»=>exact .inl rfl
  | cell=>exact .inr rfl
  | _=>contradiction
theorem pQ {ps:List Str} {names:List (Str × NameKind)} (h:adf ps names=true) (i:Nat) (p:Str) (h2:ps[i]?=some p):∃ k,names[i]?=some (p,k)/\(k=NameKind.local\/k=.cell):=by
  obtain ⟨h0,h1⟩:=Bool.and_eq_true_iff.mp h
  obtain ⟨y,h3,h4⟩:=aet (of_decide_eq_true h0) h2
  obtain ⟨h5,h6⟩:=Bool.and_eq_true_iff.mp (List.all_eq_true.mp h1 _ h4)
  obtain rfl:p=y.1:=eq_of_beq h5
  exact ⟨y.2,h3,acd h6⟩
inductive abU (K:Kt) (T:aL) (n1 n2:Nat) (q:Option (Option Value)) (fn:Fn):Prop
  | mk (a:Addr) (o:Obj) (fd:FuncData) (body:List Stmt) (ps:List Str) (h:q=some (some (.ref a))) (F:dR K T fn a o fd body ps n1 n2):abU K T n1 n2 q fn
theorem acP {K:Kt} {K':Frag} {T:aL} {n1 n2:Nat} {a:Addr} {o:Obj} {fd:FuncData} {body:List Stmt} {b:S} (X:K'.In K.hb.h) (h2:K'.lookup a=some o) (h3:o.data=.func fd) (hb:fd.body=.stmts body) (hok:acQ K' fd=true)
    (ht:jz (trS T fd.scope.names (yd T n1) n2) body=some b):dR K T ⟨fd.params.args.length,fd.scope.names.length,b⟩ a o fd body (fd.params.args.map (·.arg)) n1 n2:=by
  unfold acQ at hok
  obtain ⟨hok,q14⟩:=Bool.and_eq_true_iff.mp hok
  obtain ⟨hok,q13⟩:=Bool.and_eq_true_iff.mp hok
  obtain ⟨hok,q12⟩:=Bool.and_eq_true_iff.mp hok
  obtain ⟨hok,q11⟩:=Bool.and_eq_true_iff.mp hok
  obtain ⟨hok,q10⟩:=Bool.and_eq_true_iff.mp hok
  obtain ⟨hok,q9⟩:=Bool.and_eq_true_iff.mp hok
  obtain ⟨hok,q8⟩:=Bool.and_eq_true_iff.mp hok
  obtain ⟨hok,q7⟩:=Bool.and_eq_true_iff.mp hok
  obtain ⟨hok,q6⟩:=Bool.and_eq_true_iff.mp hok
  obtain ⟨hok,q5⟩:=Bool.and_eq_true_iff.mp hok
  obtain ⟨hok,q4⟩:=Bool.and_eq_true_iff.mp hok
  obtain ⟨hok,q3⟩:=Bool.and_eq_true_iff.mp hok
  obtain ⟨q1,q2⟩:=Bool.and_eq_true_iff.mp hok
  have hdf:fd.defaults=.none:=by
    cases hd:fd.defaults with
    | none=>rfl
    | _=>rw [hd] at q13; contradiction
  refine ⟨X _ _ h2,h3,codeRec_of X q1,hb,eq_of_beq q2,eq_of_beq q3,List.isEmpty_iff.mp q4,eq_of_beq q5,by simpa using q6,by simpa using q7,q8,ht,(List.length_map _).symm,rfl,pQ q14,fun vals hl=>?_⟩
  refine acZ (List.isEmpty_iff.mp q9) rfl (List.isEmpty_iff.mp q10) (Option.isNone_iff_eq_none.mp q11) (Option.isNone_iff_eq_none.mp q12) hdf ?_ hl
  rw [List.Nodup,List.pairwise_iff_getElem]
  intro i j hi hj hij e
  obtain ⟨k,h1,_⟩:=pQ q14 i (fd.params.args.map (·.arg))[i] (List.getElem?_eq_getElem hi)
  obtain ⟨k',h2,_⟩:=pQ q14 j (fd.params.args.map (·.arg))[j] (List.getElem?_eq_getElem hj)
  rw [e] at h1
  exact absurd ((jt q8).uniq i j _ _ _ h1 h2) (Nat.ne_of_lt hij)
theorem qV {K:Kt} {K':Frag} {T:aL} {n1 n2:Nat} {q:Option (Option Value)} {fn:Fn} (X:K'.In K.hb.h) (h:sg T n1 n2 K' q=some fn):abU K T n1 n2 q fn:=by
  unfold sg at h
  refine aE h fun q1 h0 h=>aE h fun v h1 h=>aE h fun a h2 h=>aE h fun o h3 h=>aE h fun fd h4 h=>aE h fun body h5 h=>aA h fun hok h=>cr h fun b ht=>?_
  refine ⟨a,o,fd,body,_,?_,acP X h3 (abk h4) (zl h5) hok ht⟩
  rw [h0,h1,vI h2]
noncomputable def fM (T:aL) (n1 n2:Nat) (K:Frag):List (Option (Option Value))->Option (List Fn)
  | []=>some []
  | x::r=>o2 (sg T n1 n2 K x) (fM T n1 n2 K r) List.cons
theorem vU {T:aL} {n1 n2:Nat} {K:Frag} {xs:List (Option (Option Value))}:∀ {fs:List Fn},fM T n1 n2 K xs=some fs->∀ (i:Nat) (x:Option (Option Value)),xs[i]?=some x->∃ fn,fs[i]?=some fn/\sg T n1 n2 K x=some fn:=by
  induction xs with
  | nil=>intro fs _ i x h; exact nomatch h
  | cons y r ih =>
    intro fs h i x h2
    change o2 _ _ _=_ at h
    refine dy (M:=fun fs=>∃ fn,fs[i]?=some fn/\sg T n1 n2 K x=some fn) h fun f fs' h3 h4=>?_
    cases i with
    | zero=>exact ⟨f,rfl,Option.some.inj h2 ▸ h3⟩
    | succ i=>exact ih h4 i x h2
noncomputable def okS (q:Value × PV):Bool:=match q.2 with
  | .str s=>adc q.1 == some s && PyData.strOk s
  | _=>false
theorem aaJ {h:Heap} {α:AL} {v:Value} {x:PV} (e:okS (v,x)=true):VR h α x v:=by
  cases x with
  | str s =>
    obtain ⟨h1,h2⟩:=Bool.and_eq_true_iff.mp e
    obtain ⟨t,rfl⟩:=ab9 (eq_of_beq h1)
    exact .str _ _ h2
  | _=>contradiction
noncomputable def ac8 (o:Obj) (xs:List PV):Bool:=o.cls == .type "tuple" && o.dict.isNone && o.slots.isEmpty && (ade o.data).any fun q=>q.1.toList.length == xs.length && (q.1.toList.zip xs).all okS
theorem ab1 {hb:Bs} {h:Heap} {σ:ac} {α:AL} {a:Addr} {o:Obj} {xs:List PV} (e:ac8 o xs=true) (ho:hb.get? a=some o) (r:R hb h σ α):VR h α (.tup xs) (.ref a):=by
  obtain ⟨e,e4⟩:=Bool.and_eq_true_iff.mp e
  obtain ⟨e,e3⟩:=Bool.and_eq_true_iff.mp e
  obtain ⟨e1,e2⟩:=Bool.and_eq_true_iff.mp e
  obtain ⟨q,e5,e6⟩:=(Option.any_eq_true _ _).mp e4
  obtain ⟨e7,e8⟩:=Bool.and_eq_true_iff.mp e6
  obtain ⟨c,d,dt,sl⟩:=o
  obtain rfl:=eq_of_beq e1
  obtain rfl:=Option.isNone_iff_eq_none.mp e2
  obtain rfl:=Array.isEmpty_iff.mp e3
  obtain rfl:=acf e5
  have hl:=eq_of_beq e7
  refine VR.tupI (ai:=q.1.toList) (n:=q.2) (r.base _ _ ho) (fun q=>?_) ⟨hl.symm,fun i x v h1 h2=>?_⟩
  · rcases List.mem_append.mp q with q | q
    · rw [r.fresh a q] at ho; contradiction
    · rw [r.hfr a q] at ho; contradiction
  · exact aaJ (List.all_eq_true.mp e8 _ (List.mem_of_getElem? (List.getElem?_zip_eq_some.mpr ⟨h2,h1⟩)))
noncomputable def cOk (K:Frag) (v:PV) (u:Value):Bool:=match v with
  | .int i=>adm u == some i
  | .str s=>okS (u,.str s)
  | .tup xs=>((zr u).bind fun a=>K.lookup a).any fun o=>ac8 o xs
  | _=>false
theorem afe {K:Frag} {hb:Bs} (X:K.In hb.h) {v:PV} {u:Value} (e:cOk K v u=true) {fr:List Addr} {h:Heap} {σ:ac} {α:AL} (r:R ⟨hb.h,fr,hb.prog,hb.w⟩ h σ α):VR h α v u:=by
  cases v with
  | int i=>obtain ⟨t,rfl⟩:=acK (eq_of_beq e); exact .int _ _
  | str s=>exact aaJ e
  | tup xs =>
    obtain ⟨o,h1,h2⟩:=(Option.any_eq_true _ _).mp e
    refine aE h1 fun a h3 h4=>?_
    rw [vI h3]
    exact ab1 (hb:=⟨_,fr,_,_⟩) h2 (X _ _ h4) r
  | _=>contradiction
noncomputable def rM (K:Frag) (l:List (Str × PV)):Bool:=l.all fun p=>((nsIn K mainGlobals p.1).bind id).any (cOk K p.2)
theorem acT {K:Frag} {hb:Bs} (X:K.In hb.h) {l:List (Str × PV)} (h:rM K l=true) (x:Str) (v:PV) (hx:l.lookup x=some v):∃ u,nsIn K mainGlobals x=some (some u)/\∀ fr h σ α,R ⟨hb.h,fr,hb.prog,hb.w⟩ h σ α->VR h α v u:=by
  obtain ⟨u,h1,h2⟩:=(Option.any_eq_true _ _).mp (List.all_eq_true.mp h _ (dY hx))
  exact aE h1 fun q h3 h4=>⟨u,h3.trans (congrArg some h4),fun _ _ _ _ r=>afe X h2 r⟩
noncomputable def aeL (K:Frag) (x:Str):Bool:=(nsIn K mainGlobals x).any Option.isNone
noncomputable def oG (K:Frag) (l:List Str):Bool:=(K.lookup sysModules).isSome && l.all fun x=>aeL K x && (jn x).isSome && !(x == ("__name__" : Str))
theorem aep {x:Str} {v:Value} (h:jn x=some v):bootBuiltins x=some v:=
  (show ∀ p ∈ ady,bootBuiltins p.1=some p.2 from (by repeat (first | refine List.forall_mem_cons.mpr ⟨(by dsimp only; boot_by_name),?_⟩ | exact fun _ h=>nomatch h))) _ (dY h)
noncomputable def pf (T:aL) (up:List Nat):List Str:=up.map fun d=>((T.excs.find? fun q=>q.2.1 == d).map (·.1)).getD ""
noncomputable def zU (h:Heap) (F:Frag) (T:aL) (p:Str × Nat × List Nat):Bool:=
  h.ownExcOk p.1 (pf T p.2.2) [.type "ValueError",.type "Exception",.type "BaseException",.type "object"] "ValueError.__new__" && nsIn F mainGlobals p.1 == some (some (.ref p.2.1)) && h.nsMap mainGlobals p.1 == some (.ref p.2.1) &&
    (pf T p.2.2).map (fun n=>(h.nsMap mainGlobals n).getD .none) == p.2.2.map Value.ref && (pf T p.2.2).all fun n=>T.excs.any fun q=>q.1 == n
noncomputable def oA (h:Heap) (F:Frag) (T:aL):Bool:=
  !T.repl &&
  T.excs.all fun p=>zU h F T p && mD F T p.2.1
theorem aek {K:Kt} {F:Frag} {T:aL} {aM:Heap} (k:∀ b o,aM.get? b=some o->K.hb.h.get? b=some o) (X:F.In K.hb.h) (hg:K.hb.h.Ns mainGlobals K.mg) (e:oA aM F T=true) :
    ∃ F:Frag,F.In K.hb.h/\∀ p ∈ T.excs,lR K p.1 p.2.1 p.2.2/\mD F T p.2.1=true:=by
  unfold oA at e
  have H:=List.all_eq_true.mp (Bool.and_eq_true_iff.mp e).2
  refine ⟨F,X,fun p hp=>?_⟩
  have h1:=H p hp
  simp only [Bool.and_eq_true] at h1
  obtain ⟨h1,h2⟩:=h1
  unfold zU at h1
  simp only [Bool.and_eq_true,beq_iff_eq] at h1
  obtain ⟨⟨⟨⟨q1,q2⟩,q3⟩,q4⟩,q5⟩:=h1
  obtain ⟨C,N,nm,q,bs,hdct,sn,sub,ab,col,dd,k0,k1,k2,k3,k5,z1,z2,z3,z4⟩:=Heap.ownExc_of_ok q1
  rw [q3] at z1; cases z1
  rw [q4] at z2
  refine ⟨⟨mg_of X hg q2,⟨nm,q,N,bs,hdct,sn,sub,ab,col,dd,k0,k1,k2,k3,k5,k _ _ z2,_,z3.keeps k,z4⟩,?_⟩,h2⟩
  have:=OwnTail.of_chain (h:=aM) (bmB:=[.type "ValueError",.type "Exception",.type "BaseException",.type "object"]) (pf T p.2.2) fun n hn=>by
    have hq:=List.all_eq_true.mp q5 n hn
    obtain ⟨r,hr,hrn⟩:=List.any_eq_true.mp hq
    have hrn:r.1=n:=by simpa using hrn
    have h3:=H r hr
    simp only [Bool.and_eq_true] at h3
    have h3:=h3.1
    unfold zU at h3
    simp only [Bool.and_eq_true] at h3
    rw [hrn] at h3
    exact ⟨_,_,_,h3.1.1.1.1⟩
  rw [q4] at this
  exact this.keeps k
noncomputable def zZ (K:Frag) (T:aL):Bool:=
  match T.brd with
  | none=>true
  | some (b,c)=>nsIn K mainGlobals b == some (some (.ref c)) && keepIn K (.ref c) && makesIn K c && plainOver K c && (clsIn K c).any (·.hasDict) && findIn K (.ref c) "__setattr__" == some (some (.builtin "object.__setattr__")) &&
      cT.all (fun n=>takerIn K c n == some none) &&
      findIn K (.ref c) "__getattribute__" == some (some (.builtin "object.__getattribute__")) && findIn K (.ref c) "__getattr__" == some none && cT.all (fun n=>findIn K (.ref c) n == some none) &&
      T.meths.all fun n=>(findIn K (.ref c) n).join.bind (typeIn K) == some (.type "function")
noncomputable def gA (T:aL) (K:Frag):List (Option (Option Value)):=T.fns.map (nsIn K mainGlobals ·)++T.meths.map (fun n=>T.brd.bind fun q=>findIn K (.ref q.2) n)
noncomputable def qH (h:Heap) (F:Frag) (T:aL):Bool:=oA h F T && zZ F T
theorem aap {h:Heap} {F:Frag} {T:aL} (e:qH h F T=true):oA h F T=true:=(Bool.and_eq_true_iff.mp e).1
theorem adG {T:aL} {F:Frag} {f:Nat} {x:Str} (h:T.fns[f]?=some x):(gA T F)[f]?=some (nsIn F mainGlobals x):=by
  unfold gA
  rw [List.getElem?_append_left (by rw [List.length_map]; exact (List.getElem?_eq_some_iff.mp h).1),List.getElem?_map,h]; rfl
theorem adF {T:aL} {F:Frag} {j:Nat} {n:Str} (h:T.meths[j]?=some n):(gA T F)[T.fns.length + j]?=some (T.brd.bind fun q=>findIn F (.ref q.2) n):=by
  unfold gA
  rw [List.getElem?_append_right (by rw [List.length_map]; exact Nat.le_add_right _ _),List.length_map,Nat.add_sub_cancel_left,List.getElem?_map,h]; rfl
theorem aff {K:Kt} {F:Frag} {T:aL} {b:Str} {c:Nat} (X:F.In K.hb.h) (hg:K.hb.h.Ns mainGlobals K.mg) (e:zZ F T=true) (hb:T.brd=some (b,c)):fg K F b c/\∀ n ∈ T.meths,(findIn F (.ref c) n).join.bind (typeIn F)=some (.type "function"):=by
  unfold zZ at e
  rw [hb] at e
  simp only [Bool.and_eq_true,beq_iff_eq] at e
  obtain ⟨⟨⟨⟨⟨⟨⟨⟨⟨⟨e1,e2⟩,e3⟩,e4⟩,e5⟩,e6⟩,e7⟩,g1⟩,g2⟩,g3⟩,e8⟩:=e
  exact ⟨⟨mg_of X hg e1,X,e2,e3,e4,e5,e6,fun n hn=>eq_of_beq (List.all_eq_true.mp e7 n hn),g1,g2,fun n hn=>eq_of_beq (List.all_eq_true.mp g3 n hn)⟩,fun n hn=>eq_of_beq (List.all_eq_true.mp e8 n hn)⟩
theorem prgOk {K:Kt} {K':Frag} {T:aL} {n1 n2:Nat} {P:g9} {p:Program} {loose:List Str} (Tp:TopRead p loose K.mg K.mb K.hb.h) (X:K'.In K.hb.h) {aM:Heap} (acC:∀ b o,aM.get? b=some o->K.hb.h.get? b=some o) (hz:qH aM K' T=true) (h1:rM K' T.cst=true) (h2:oG K' T.bins=true) (h3:fM T n1 n2 K' (gA T K')=some P.fns) (hrp:T.repl=true->K.pos=true):PrgOk K T P:=by
  unfold oG at h2
  obtain ⟨h2m,h2⟩:=Bool.and_eq_true_iff.mp h2
  obtain ⟨om,hom⟩:=Option.isSome_iff_exists.mp h2m
  have h0:=aap hz
  have hK:K.Ok:=⟨Tp.g,Tp.b,Tp.nolimit,om,X _ _ hom⟩
  have hl0:T.repl=true->w5 K:=fun q=>by
    unfold oA at h0
    have:=(Bool.and_eq_true_iff.mp h0).1
    rw [q] at this
    contradiction
  refine ⟨hK,hrp,hl0,fun x v hx=>?_,fun x hx=>?_,aek acC X Tp.g h0,fun f x hx=>?_
    ,fun b c hb=>?_
    ⟩
  · obtain ⟨u,q1,q2⟩:=acT X h1 x v hx
    exact ⟨u,mg_of X Tp.g q1,q2⟩
  · have:=List.all_eq_true.mp h2 x hx
    simp only [Bool.and_eq_true,Bool.not_eq_true',beq_eq_false_iff_ne] at this
    obtain ⟨⟨q1,q2⟩,q3⟩:=this
    obtain ⟨v,hv⟩:=Option.isSome_iff_exists.mp q2
    refine ⟨?_,v,hv,(Tp.builtins x q3).trans (aep hv)⟩
    obtain ⟨q,h3,h4⟩:=(Option.any_eq_true _ _).mp q1
    exact mg_none_of X Tp.g (h3.trans (congrArg some (Option.isNone_iff_eq_none.mp h4)))
  · obtain ⟨fn,q1,q2⟩:=vU h3 f _ (adG hx)
    obtain ⟨a,o,fd,body,ps,hq,F⟩:=qV X q2
    exact ⟨fn,a,o,fd,body,ps,n1,n2,q1,mg_of X Tp.g hq,F⟩
  · obtain ⟨B,hty⟩:=aff X Tp.g (Bool.and_eq_true_iff.mp hz).2 hb
    refine ⟨K',B,fun j n hj=>?_⟩
    obtain ⟨fn,q1,q2⟩:=vU h3 _ _ (adF hj)
    obtain ⟨a,o,fd,body,ps,hq,F⟩:=qV X q2
    have hq:findIn K' (.ref c) n=some (some (.ref a)):=by rw [hb] at hq; exact hq
    have:=hty n (List.mem_of_getElem? hj)
    rw [hq] at this
    exact ⟨fn,a,o,fd,body,ps,n1,n2,q1,⟨hq,this⟩,F⟩
end Mine
namespace Mine
open PySem PySem.W PyProof.Rows
theorem te {P:Params} {h:Heap}:∀ {l:List Int} {vs:List Value},WellAll P h vs (ofPys (l.map .int))->aK h ⟨[],[],[]⟩ (l.map .int) vs
  | [],vs,W=>by
    simp only [List.map_nil,ofPys] at W
    cases W
    exact .nil
  | i::l,vs,W=>by
    simp only [List.map_cons,ofPys,ofPy] at W
    cases W with
    | cons a b =>
      cases a
      exact .cons (.int i _) (te b)
theorem aaB {P:Params} {h:Heap} {a:Addr} {l:List Int} (W:Well P h (.ref a) (ofPy (.list (l.map .int)))):VR h ⟨[],[],[]⟩ (.fl (l.map .int)) (.ref a):=by
  simp only [ofPy] at W
  cases W with
  | list e w=>exact VR.flI e (by simp [AL.all]) (te w)
theorem acW {d:Nat} (h:d <= 100):dE d callerA:=by
  have h1:callerA.depth + 2 * 100 + 200 < recursionLimit:=by decide
  have h2:callerA.units + 20 * 100 + 200 < cLine:=by decide
  exact ⟨by omega,by omega⟩
theorem law_end {prog:Program} {w:World} {s₁:Shared} {mg mb:Str->Option Value} {T:aL} {P:g9} {f N d:Nat} {name:Str} {fa a:Addr} {l:List Int} {σ:ac} {pos:Bool} (p:PrgOk ⟨⟨s₁.heap,[],prog,w⟩,mg,mb,pos,false⟩ T P) (hx:T.fns[f]?=some name)
    (hmg:mg name=some (.ref fa)) (hd:d <= 100) (tk:pos=false) (W:Well w.params s₁.heap (.ref a) (ofPy (.list (l.map .int)))) (hrun:aU P N d f [.fl (l.map .int)] []=.ok (.bool true) σ)
    {Q:Value->Shared->Prop} {E:Value->Shared->Prop} (hQ:∀ s',(∀ b o,s₁.heap.get? b=some o->s'.heap.get? b=some o)->s'.os=s₁.os->s'.gens=s₁.gens->Q (.bool true) s') :
    wpAny (model prog w) callerA (call (.ref fa) [.ref a]) Q E s₁:=by
  have ctx:=eZ (N:=N) d p 0 callerA [] (acW hd) ⟨fun _=>rfl,rfl,fun z=>by contradiction⟩ ⟨[],rfl,rfl,fun e he=>by simp at he⟩
  obtain ⟨a',o,fd,h1,h2,h3,H⟩:=ctx.fn f name hx
  have e:a'=fa:=by
    have h1':mg name=some (.ref a'):=h1
    rw [hmg] at h1'; cases h1'; rfl
  subst e
  have lZ:R ⟨s₁.heap,[],prog,w⟩ s₁.heap [] ⟨[],[],[]⟩:=⟨fun _ _ e=>e,fun _ h=>by simp at h,List.nodup_nil,rfl,fun _ h=>by simp at h,fun i m a e=>by simp at e,fun _ h=>by simp at h,rfl,fun _ h=>by simp at h,fun _ h=>by simp at h⟩
  have H:=H [.fl (l.map .int)] [.ref a] s₁ [] ⟨[],[],[]⟩ lZ (.cons (aaB W) .nil)
  have hrun':(eY P N 0 d).call f [.fl (l.map .int)] []=.ok (.bool true) σ:=hrun
  rw [hrun'] at H
  refine wpAny_mono (H (by simp) fun q=>by rw [tk] at q; contradiction) (fun v s' hp=>?_) fun e s' hx=>?_
  · obtain ⟨b,σ',α',e,x,r,vr,m⟩:=hp
    cases e
    obtain rfl:=vr.boolE
    exact hQ s' (fun b o e=>r.base b o e) m.os m.gens
  · obtain ⟨i,σ',e,fx⟩:=hx
    contradiction
end Mine
namespace Mine
open PySem PySem.W PyProof.Rows
noncomputable def cG (h:Heap):Frag:=(List.range h.objs.size).filterMap fun a=>(h.get? a).map fun o=>(a,o)
theorem nM {f:Nat->Option Obj} {a:Addr} {o:Obj}:∀ {l:List Nat},(l.filterMap fun a=>(f a).map fun o=>(a,o)).lookup a=some o->f a=some o
  | [],h=>by simp at h
  | b::l,h=>by
    rw [List.filterMap_cons] at h
    cases hb:f b with
    | none=>rw [hb] at h; exact nM h
    | some p =>
      rw [hb] at h
      simp only [Option.map_some,List.lookup_cons] at h
      cases hq:(a == b) with
      | true =>
        rw [hq] at h
        have:a=b:=by simpa using hq
        subst this
        rw [hb]; exact h
      | false=>rw [hq] at h; exact nM h
theorem zO (h:Heap):(cG h).In h:=fun a o e=>nM (f:=h.get?) e
structure Says (T:aL) (n1 n2:Nat) (fns:List Fn) (h:Heap):Prop where
  ex:∃ (K:Frag) (aM:Heap),K.In h/\(∀ b o,aM.get? b=some o->h.get? b=some o)/\qH aM K T=true/\rM K T.cst=true/\oG K T.bins=true/\fM T n1 n2 K (gA T K)=some fns
noncomputable def topHook (T:aL) (n1 n2:Nat) (fns:List Fn):Hook where
  α:=Bool × Bool × Bool × Option (List Fn)
  obs:=fun s=>(qH s.heap (cG s.heap) T,rM (cG s.heap) T.cst,oG (cG s.heap) T.bins,fM T n1 n2 (cG s.heap) (gA T (cG s.heap)))
  val:=fun _=>(true,true,true,some fns)
  says:=fun _ h=>Says T n1 n2 fns h
  of:=fun _ s e=>⟨⟨cG s.heap,s.heap,zO _,fun _ _ e=>e,congrArg (·.1) e,congrArg (·.2.1) e,congrArg (·.2.2.1) e,congrArg (·.2.2.2) e⟩⟩
  keeps:=fun _ h h' q k=>by
    obtain ⟨K,aM,a,a',b⟩:=q.ex
    exact ⟨⟨K,aM,fun x o e=>k x o (a x o e),fun x o e=>k x o (a' x o e),b⟩⟩
noncomputable def viewOf (p:Program):Program:={ p with main:={ p.main with body:=p.main.body.filter fun s=>match s with | .Assign [.Name n _] _ _=>!(n == "__name__") | _=>true } }
end Mine
namespace Mine
open PySem PySem.W PySem.Calls PyProof.Rows
theorem acb:stepT=PySem.W.Fast.tw10156331382660048174:=PySem.W.Fast.te10156331382660048174
theorem abA:denote=PySem.W.Fast.tw11892475500146522536:=PySem.W.Fast.te11892475500146522536
theorem ab7:treeTable=PySem.W.Fast.tw14364793385576792824:=PySem.W.Fast.te14364793385576792824
theorem aas:stepOk=PySem.W.Fast.tw6613529449190102663:=PySem.W.Fast.te6613529449190102663
noncomputable def oR (p:Program) (w:World) (se:Nat) (ann:Option Value):Nat->SharedT->Thread->Option SharedT
  | 0,_,_=>none
  | n + 1,s,t=>match through t with
    | true=>some s
    | false=>match PySem.W.Fast.tw6613529449190102663 se ann t with
      | false=>none
      | true=>match PySem.W.Fast.tw10156331382660048174 (PySem.W.Fast.tw11892475500146522536 PySem.W.Fast.tw14364793385576792824) p w s t with
        | some (s',t')=>oR p w se ann n s' t'
        | none=>none
theorem tj {p:Program} {w:World} {se:Nat} {ann:Option Value}:∀ {n:Nat} {s s':SharedT} {t:Thread},oR p w se ann n s t=some s'->topRun treeTable p w se ann n s.abs t=some s'.abs
  | 0,_,_,_,h=>by cases h
  | n + 1,s,s',t,h=>by
    unfold oR at h
    unfold topRun
    rw [<- aas,<- acb,<- abA,<- ab7] at h
    cases he:through t with
    | true=>rw [he] at h; cases h; rfl
    | false =>
      rw [he] at h
      cases hk:stepOk se ann t with
      | false=>rw [hk] at h; cases h
      | true =>
        rw [hk] at h
        cases hs:stepT (denote treeTable) p w s t with
        | none=>rw [hs] at h; cases h
        | some r=>obtain ⟨au,agu⟩:=r; rw [hs] at h; rw [stepT_spec hs]; exact tj h
noncomputable def nv:List Obj->Nat->BT->Option BT
  | [],_,t=>some t
  | o::l,n,t=>match ((t.ins n o).get n).isSome with
    | true=>nv l (n + 1) (t.ins n o)
    | false=>none
theorem qC {life:Life}:∀ {l:List Obj} {n:Nat} {t t':BT},nv l n t=some t'->absHeap t' (n + l.length) life=l.foldl Heap.push (absHeap t n life)
  | [],n,t,t',h=>by cases h; rfl
  | o::l,n,t,t',h=>by
    unfold nv at h
    cases hs:((t.ins n o).get n).isSome with
    | false=>rw [hs] at h; cases h
    | true =>
      rw [hs] at h
      rw [List.length_cons,show n + (l.length + 1)=n + 1 + l.length by omega,qC h,absHeap_ins hs]; rfl
theorem rk {life:Life}:∀ (l:List Obj) (a:Array Obj),l.foldl Heap.push ⟨a,life⟩=⟨a++l.toArray,life⟩
  | [],a=>by simp
  | o::l,a=>by
    show l.foldl Heap.push ⟨a.push o,life⟩=_
    rw [rk l (a.push o)]
    simp
theorem w9 {l:List Obj} {life:Life} {t:BT} (h:nv l 0 .nil=some t):absHeap t l.length life=⟨l.toArray,life⟩:=by
  have:=qC (life:=life) h
  rw [Nat.zero_add] at this
  rw [this]
  show l.foldl Heap.push ⟨#[],life⟩=_
  rw [rk]; simp
noncomputable def agk (p:Program) (aM:Heap) (s₁:Shared):Option Shared:=
  match staticsOk (importedModules p.main.body) aM s₁.heap && namesBound p s₁.heap && gensDone s₁ && laidKept aM s₁.heap with
  | true=>some s₁
  | false=>none
noncomputable def qX (p:Program) (w:World) (os:OsState) (N:Nat):Option Shared:=
  (nv (boot_heap w.params).objs.toList 0 .nil).bind fun T =>
    match (boot_heap w.params).isNs mainGlobals with
    | true=>(oR p w (boot_heap w.params).objs.toList.length ((boot_heap w.params).nsMap mainGlobals "__annotations__") N ⟨T,(boot_heap w.params).objs.toList.length,(boot_heap w.params).life,#[],boot_drawn,boot_toks,os⟩ (topStub p)).bind fun s=>agk p (boot_heap w.params) s.abs
    | false=>none
theorem aa4 {p:Program} {w:World} {os:OsState} {N:Nat} {s₁:Shared} (h:qX p w os N=some s₁):topFrom treeTable p w N ⟨boot_heap w.params,#[],boot_drawn,boot_toks,os⟩=some s₁:=by
  unfold qX at h
  obtain ⟨T,hT,h⟩:=Option.bind_eq_some_iff.mp h
  have hh:absHeap T (boot_heap w.params).objs.toList.length (boot_heap w.params).life=boot_heap w.params:=by
    rw [w9 hT]
  cases hn:(boot_heap w.params).isNs mainGlobals with
  | false=>rw [hn] at h; cases h
  | true =>
    rw [hn] at h
    obtain ⟨s,hs,h⟩:=Option.bind_eq_some_iff.mp h
    have hr:=tj hs
    have ha:(SharedT.abs ⟨T,(boot_heap w.params).objs.toList.length,(boot_heap w.params).life,#[],boot_drawn,boot_toks,os⟩)=⟨boot_heap w.params,#[],boot_drawn,boot_toks,os⟩:=by
      show (⟨absHeap T _ _,#[],boot_drawn,boot_toks,os⟩:Shared)=_
      rw [hh]
    rw [ha,Array.length_toList] at hr
    unfold topFrom
    have hb:((boot_heap w.params).isNs mainGlobals && (#[]:Array GenState).size == 0)=true:=by rw [hn]; rfl
    show (match ((boot_heap w.params).isNs mainGlobals && (#[]:Array GenState).size == 0) with | true=>_ | false=>_)=_
    rw [hb]
    dsimp only
    rw [hr]
    exact h
theorem adL:openSeen=PySem.W.Fast.tw4187177175401517315:=PySem.W.Fast.te4187177175401517315
theorem ad0 {p q:Program} {loose:List Str} {Xt:Shared->Bool} {α:Type} {Yf:Shared->α} {Ya:World->α} {N:Nat} (e:opening p=plainProg p.main.scope.names) (hN:Nat.ble 600 N=true) (f:∀ s,fenceModules? p s=some s)
    (h:∀ w os,(qX p w os N).map (fun s=>(PySem.W.Fast.tw4187177175401517315 q loose (importedModules p.main.body) Xt true s,Yf s))=some (openGood q loose,Ya w)):LeftO p q loose Xt Yf Ya N:=fun w=>by
  rw [<- adL] at h
  obtain ⟨s,hs,hv⟩:=Option.map_eq_some_iff.mp (boot_open e hN f w)
  obtain ⟨hp,g,d,t,os⟩:=s
  simp only [Prod.mk.injEq] at hv
  obtain ⟨rfl,rfl,rfl,rfl⟩:=hv
  unfold openEnds
  rw [hs]
  obtain ⟨s₁,h1,h2⟩:=Option.map_eq_some_iff.mp (h w os)
  show (topFrom treeTable p w N _).map _=_
  have:=aa4 h1
  rw [show (⟨boot_heap w.params,{ toList:=[] },boot_drawn,boot_toks,os⟩:Shared)=⟨boot_heap w.params,#[],boot_drawn,boot_toks,os⟩ from rfl,this]
  exact congrArg some h2
theorem aaQ {T:aL} {n1 n2:Nat} {K:Frag} {ys:List (Option (Option Value))} {b:List Fn} (h2:fM T n1 n2 K ys=some b) (xs:List (Option (Option Value))):∀ {a:List Fn},fM T n1 n2 K xs=some a->fM T n1 n2 K (xs++ys)=some (a++b):=by
  induction xs with
  | nil=>intro a h; obtain rfl:=Option.some.inj h; exact h2
  | cons x r ih =>
    intro a h
    change o2 _ _ _=_ at h
    refine dy (M:=fun a=>fM T n1 n2 K (x::r++ys)=some (a++b)) h fun f fs h3 h4=>?_
    show o2 (sg T n1 n2 K x) (fM T n1 n2 K (r++ys)) List.cons=_
    rw [h3,ih h4]; rfl
noncomputable def uR (T:aL) (g:List (Option (Option Value))->List (Option (Option Value))) (s:Shared):Option (List Fn):=fM T 40 30 (cG s.heap) (g (gA T (cG s.heap)))
theorem aei {T:aL} {o:Option Shared} {k:Nat} {a b:List Fn} (h1:o.map (uR T (List.take k))=some (some a)) (h2:o.map (uR T (List.drop k))=some (some b)):o.map (fun s=>fM T 40 30 (cG s.heap) (gA T (cG s.heap)))=some (some (a++b)):=by
  cases o with
  | none=>exact nomatch h1
  | some s =>
    have h:=aaQ (Option.some.inj h2) _ (Option.some.inj h1)
    rw [List.take_append_drop] at h
    exact congrArg some h
end Mine
namespace Mine
open PySem
noncomputable def TT:aL where
  fns:=["is_value", "is_name", "are_names", "are_unlike", "is_rule", "is_step", "is_plan", "givers_of", "outside", "is_between", "_law_cell_at", "_law_next", "_law_names", "_law_value", "_law_rule", "_law_plan", "_law_outside", "_law_first", "_law_pairs", "_law_places", "_law_looked", "_law_word", "_law_due", "_law_put", "_law_at", "_law_no_place", "_law_deed", "law"]
  cst:=[("MOST_VALUE",.int 999999),("LETTERS",.str "abcdefghijklmnopqrstuvwxyz"),("FIGURES",.str "0123456789"),("LONGEST",.int 8),("MOST_STEPS",.int 20),("MOST_NEEDS",.int 4),("MOST_GIVES",.int 3),("PLAIN_WORDS",.tup [.str "sum",.str "times",.str "least",.str "most"]),("MOST_TURNS",.int 200)]
  bins:=["len", "list", "tuple", "min", "all", "int", "str", "bool", "ValueError", "isinstance", "range", "enumerate", "set"]
  muts:=[(70,12),(82,12),(105,21),(148,15),(170,17),(192,21),(193,16),(212,21),(215,17),(222,17),(228,17),(248,17),(318,16)]
  excs:=[("FireError",31,[]),("NoPlan",44,[31]),("NoTurn",56,[31]),("NoPlace",68,[31]),("NoValue",80,[31]),("TokenThere",92,[31]),("NoStep",104,[31]),("Fired",116,[31]),("NotReady",128,[31]),("IsReady",140,[31]),("NoText",152,[31])]
  brd:=some ("Board",318)
  meths:=["__init__", "need_place", "need_turn", "put", "at", "told"]
  repl:=false
  dstr:=[(75,12)]
noncomputable abbrev gz:Nat:=0
noncomputable abbrev ki:Nat:=1
noncomputable abbrev cB:Nat:=2
noncomputable abbrev c8:Nat:=3
noncomputable abbrev tK:Nat:=4
noncomputable abbrev tJ:Nat:=5
noncomputable abbrev gc:Nat:=6
noncomputable abbrev ir:Nat:=7
noncomputable abbrev kh:Nat:=8
noncomputable abbrev c7:Nat:=9
noncomputable abbrev bj:Nat:=10
noncomputable abbrev cj:Nat:=11
noncomputable abbrev fK:Nat:=12
noncomputable abbrev iq:Nat:=13
noncomputable abbrev ml:Nat:=14
noncomputable abbrev rf:Nat:=15
noncomputable abbrev dh:Nat:=16
noncomputable abbrev ek:Nat:=17
noncomputable abbrev kW:Nat:=18
noncomputable abbrev bM:Nat:=19
noncomputable abbrev nR:Nat:=20
noncomputable abbrev dZ:Nat:=21
noncomputable abbrev tI:Nat:=22
noncomputable abbrev nQ:Nat:=23
noncomputable abbrev d3:Nat:=24
noncomputable abbrev lw:Nat:=25
noncomputable abbrev je:Nat:=26
noncomputable abbrev afN:Nat:=27
noncomputable abbrev fV:Nat:=28
noncomputable abbrev bk:Nat:=29
noncomputable abbrev cq:Nat:=30
noncomputable abbrev em:Nat:=31
noncomputable abbrev cP:Nat:=32
noncomputable abbrev cD:Nat:=33
noncomputable abbrev w8:Nat:=31
noncomputable abbrev abX:Nat:=44
noncomputable abbrev bK:Nat:=56
noncomputable abbrev aG:Nat:=68
noncomputable abbrev j6:Nat:=80
noncomputable abbrev gj:Nat:=92
noncomputable abbrev abW:Nat:=104
noncomputable abbrev adD:Nat:=116
noncomputable abbrev yO:Nat:=128
noncomputable abbrev aak:Nat:=140
noncomputable abbrev abV:Nat:=152
noncomputable abbrev ae:Nat:=318
noncomputable def uz:S:=(.ret (.and (.cons (.isinst (.v 0) .int) (.cons (.not (.isinst (.v 0) .bool)) (.cons (.cmp2 (.k (.int 0)) .le (.v 0) .le (.k (.int 999999))) .nil)))))
noncomputable def ji:Fn:=⟨1,5,(.cons uz .nil)⟩
noncomputable def sP:S:=(.ret (.k (.bool false)))
noncomputable def gS:S:=(.ife (.or (.cons (.not (.isinst (.v 0) .str)) (.cons (.not (.cmp2 (.k (.int 1)) .le (.b1 .len (.v 0)) .le (.k (.int 8)))) (.cons (.cmp (.sub (.v 0) (.k (.int 0))) .notin (.k (.str "abcdefghijklmnopqrstuvwxyz"))) .nil)))) (.cons sP .nil) .nil)
noncomputable def wJ:X:=(.comp true 1 [none,none,none,none] (.or (.cons (.cmp (.v 1) .isin (.k (.str "abcdefghijklmnopqrstuvwxyz"))) (.cons (.cmp (.v 1) .isin (.k (.str "0123456789"))) .nil))) (.k (.bool true)) (.v 0))
noncomputable def jZ:S:=(.ret (.b1 .all wJ))
noncomputable def tQ:Fn:=⟨1,7,(.cons gS (.cons jZ .nil))⟩
noncomputable def sT:X:=(.comp true 1 [none,none,none] (.call ki (.cons (.v 1) .nil)) (.k (.bool true)) (.v 0))
noncomputable def sS:S:=(.ret (.and (.cons (.isinst (.v 0) .tuple) (.cons (.cmp2 (.k (.int 1)) .le (.b1 .len (.v 0)) .le (.v 1)) (.cons (.b1 .all sT) .nil)))))
noncomputable def iw:Fn:=⟨2,6,(.cons sS .nil)⟩
noncomputable def rH:S:=(.ret (.cmp (.b1 .lenset (.v 0)) .eq (.b1 .len (.v 0))))
noncomputable def gT:Fn:=⟨1,3,(.cons rH .nil)⟩
noncomputable def sM:S:=(.ret (.k (.bool false)))
noncomputable def gQ:S:=(.ife (.or (.cons (.not (.isinst (.v 0) .tuple)) (.cons (.cmp (.b1 .len (.v 0)) .eq (.k (.int 0))) (.cons (.not (.isinst (.sub (.v 0) (.k (.int 0))) .str)) .nil)))) (.cons sM .nil) .nil)
noncomputable def sL:S:=(.ret (.and (.cons (.cmp (.b1 .len (.v 0)) .eq (.k (.int 2))) (.cons (.call gz (.cons (.sub (.v 0) (.k (.int 1))) .nil)) .nil))))
noncomputable def eV:S:=(.ife (.cmp (.sub (.v 0) (.k (.int 0))) .eq (.k (.str "fixed"))) (.cons sL .nil) .nil)
noncomputable def sK:S:=(.ret (.k (.bool false)))
noncomputable def jV:S:=(.ife (.cmp (.b1 .len (.v 0)) .ne (.k (.int 1))) (.cons sK .nil) .nil)
noncomputable def sJ:S:=(.ret (.cmp (.v 1) .eq (.k (.int 1))))
noncomputable def gP:S:=(.ife (.cmp (.sub (.v 0) (.k (.int 0))) .eq (.k (.str "later"))) (.cons sJ .nil) .nil)
noncomputable def sI:S:=(.ret (.and (.cons (.cmp (.v 1) .eq (.k (.int 2))) (.cons (.cmp (.v 2) .eq (.k (.int 2))) .nil))))
noncomputable def gO:S:=(.ife (.cmp (.sub (.v 0) (.k (.int 0))) .eq (.k (.str "way"))) (.cons sI .nil) .nil)
noncomputable def sH:S:=(.ret (.cmp (.v 1) .eq (.k (.int 3))))
noncomputable def gN:S:=(.ife (.cmp (.sub (.v 0) (.k (.int 0))) .eq (.k (.str "choose"))) (.cons sH .nil) .nil)
noncomputable def jU:S:=(.ret (.cmp (.sub (.v 0) (.k (.int 0))) .isin (.k (.tup [(.str "sum"),(.str "times"),(.str "least"),(.str "most")]))))
noncomputable def kF:Fn:=⟨3,9,(.cons gQ (.cons eV (.cons jV (.cons gP (.cons gO (.cons gN (.cons jU .nil)))))))⟩
noncomputable def sG:S:=(.ret (.k (.bool false)))
noncomputable def gM:S:=(.ife (.or (.cons (.not (.isinst (.v 0) .tuple)) (.cons (.cmp (.b1 .len (.v 0)) .ne (.k (.int 4))) (.cons (.not (.call ki (.cons (.sub (.v 0) (.k (.int 0))) .nil))) .nil)))) (.cons sG .nil) .nil)
noncomputable def sF:S:=(.ret (.k (.bool false)))
noncomputable def dN:S:=(.ife (.or (.cons (.not (.call cB (.cons (.sub (.v 0) (.k (.int 2))) (.cons (.k (.int 4)) .nil)))) (.cons (.not (.call cB (.cons (.sub (.v 0) (.k (.int 3))) (.cons (.k (.int 3)) .nil)))) (.cons (.not (.call c8 (.cons (.sub (.v 0) (.k (.int 3))) .nil))) .nil)))) (.cons sF .nil) .nil)
noncomputable def jT:S:=(.ret (.call tK (.cons (.sub (.v 0) (.k (.int 1))) (.cons (.b1 .len (.sub (.v 0) (.k (.int 2)))) (.cons (.b1 .len (.sub (.v 0) (.k (.int 3)))) .nil)))))
noncomputable def tO:Fn:=⟨1,10,(.cons gM (.cons dN (.cons jT .nil)))⟩
noncomputable def ou:X:=(.comp true 1 [none,none,none] (.call tJ (.cons (.v 1) .nil)) (.k (.bool true)) (.v 0))
noncomputable def sO:S:=(.ret (.k (.bool false)))
noncomputable def gR:S:=(.ife (.or (.cons (.not (.isinst (.v 0) .tuple)) (.cons (.not (.cmp2 (.k (.int 1)) .le (.b1 .len (.v 0)) .le (.k (.int 20)))) (.cons (.not (.b1 .all ou)) .nil)))) (.cons sO .nil) .nil)
noncomputable def jY:S:=(.asg 2 (.lst false .nil))
noncomputable def sN:S:=(.expr (.me .extend (.v 2) (.cons (.sub (.v 1) (.k (.int 3))) .nil)))
noncomputable def m7:S:=(.cons sN .nil)
noncomputable def jX:S:=(.for1 1 (.v 0) m7)
noncomputable def oq:X:=(.comp true 1 [none,none] (.sub (.v 1) (.k (.int 0))) (.k (.bool true)) (.v 0))
noncomputable def jW:S:=(.ret (.and (.cons (.call c8 (.cons oq .nil)) (.cons (.call c8 (.cons (.v 2) .nil)) .nil))))
noncomputable def tP:Fn:=⟨1,9,(.cons gR (.cons jY (.cons jX (.cons jW .nil))))⟩
noncomputable def lN:S:=(.asg 1 (.dnew false))
noncomputable def oy:S:=(.asgSub (.v 1) (.v 3) (.v 2))
noncomputable def i7:S:=(.cons oy .nil)
noncomputable def qg:S:=(.for1 3 (.sub (.v 2) (.k (.int 3))) i7)
noncomputable def kG:S:=(.cons qg .nil)
noncomputable def sR:S:=(.for1 2 (.v 0) kG)
noncomputable def sQ:S:=(.ret (.v 1))
noncomputable def k6:Fn:=⟨1,4,(.cons lN (.cons sR (.cons sQ .nil)))⟩
noncomputable def nU:S:=(.asg 1 (.call ir (.cons (.v 0) .nil)))
noncomputable def nT:S:=(.asg 2 (.lst false .nil))
noncomputable def nS:S:=(.expr (.me .append (.v 2) (.cons (.v 4) .nil)))
noncomputable def pX:S:=(.ife (.and (.cons (.cmp (.v 4) .notin (.v 1)) (.cons (.cmp (.v 4) .notin (.v 2)) .nil))) (.cons nS .nil) .nil)
noncomputable def kl:S:=(.cons pX .nil)
noncomputable def sv:S:=(.for1 4 (.sub (.v 3) (.k (.int 2))) kl)
noncomputable def mO:S:=(.cons sv .nil)
noncomputable def wo:S:=(.for1 3 (.v 0) mO)
noncomputable def wn:S:=(.ret (.v 2))
noncomputable def nV:Fn:=⟨1,6,(.cons nU (.cons nT (.cons wo (.cons wn .nil))))⟩
noncomputable def rG:S:=(.ret (.and (.cons (.isinst (.v 0) .int) (.cons (.not (.isinst (.v 0) .bool)) (.cons (.cmp2 (.v 1) .le (.v 0) .le (.v 2)) .nil)))))
noncomputable def eW:Fn:=⟨3,6,(.cons rG .nil)⟩
noncomputable def oo:S:=(.ret (.sub (.v 0) (.v 1)))
noncomputable def qe:S:=(.ife (.cmp (.v 1) .lt (.b1 .len (.v 0))) (.cons oo .nil) .nil)
noncomputable def qd:S:=(.ret (.k (.int 0)))
noncomputable def eh:Fn:=⟨2,3,(.cons qe (.cons qd .nil))⟩
noncomputable def uy:S:=(.asg 1 (.bin .mod (.bin .add (.bin .mul (.v 0) (.k (.int 48271))) (.k (.int 11))) (.k (.int 2147483647))))
noncomputable def ux:S:=(.ret (.bin .mod (.bin .mul (.v 1) (.v 1)) (.k (.int 2147483629))))
noncomputable def jh:Fn:=⟨1,2,(.cons uy (.cons ux .nil))⟩
noncomputable def qb:S:=(.asg 1 (.lst true (.cons (.k (.str "sum")) (.cons (.k (.str "later")) (.cons (.k (.str "way")) (.cons (.k (.str "fixed")) (.cons (.k (.str "a9")) (.cons (.k (.str "b")) (.cons (.k (.str "times")) (.cons (.k (.str "choose")) (.cons (.k (.str "least")) (.cons (.k (.str "most")) (.cons (.k (.str "z0")) (.cons (.k (.str "put")) .nil))))))))))))))
noncomputable def lL:X:=(.comp true 1 [none,none,some 0,some 1] (.bin .add (.sub (.v 3) (.bin .mod (.bin .add (.bin .fdiv (.v 2) (.k (.int 9))) (.v 1)) (.k (.int 12)))) (.sub (.lst true (.cons (.k (.str "")) (.cons (.k (.str "x")) .nil))) (.bin .fdiv (.v 1) (.k (.int 12))))) (.k (.bool true)) (.range1 (.k (.int 24))))
noncomputable def qa:S:=(.ret lL)
noncomputable def hZ:S:=(.ife (.cmp (.bin .mod (.v 0) (.k (.int 9))) .eq (.k (.int 8))) (.cons qb (.cons qa .nil)) .nil)
noncomputable def lK:S:=(.asg 3 (.bin .add (.k (.int 1)) (.bin .mod (.v 0) (.k (.int 8)))))
noncomputable def lJ:S:=(.asg 4 (.bin .mod (.bin .fdiv (.v 0) (.k (.int 8))) (.v 3)))
noncomputable def lI:S:=(.asg 1 (.k (.str "abcdefghijklmnopqrstuvwxyz0123456789")))
noncomputable def lH:S:=(.asg 5 (.lst false .nil))
noncomputable def p9:S:=(.asg 6 (.sub (.v 1) (.bin .mod (.bin .add (.bin .fdiv (.v 0) (.k (.int 64))) (.v 2)) (.sub (.lst true (.cons (.k (.int 26)) (.cons (.k (.int 36)) .nil))) (.b1 .int (.cmp (.v 4) .gt (.k (.int 0))))))))
noncomputable def p8:S:=(.expr (.me .append (.v 5) (.cons (.bin .add (.bin .add (.bin .mul (.k (.str "m")) (.v 4)) (.v 6)) (.bin .mul (.k (.str "m")) (.bin .sub (.bin .sub (.v 3) (.k (.int 1))) (.v 4)))) .nil)))
noncomputable def gJ:S:=(.cons p9 (.cons p8 .nil))
noncomputable def lG:S:=(.for1 2 (.range1 (.k (.int 24))) gJ)
noncomputable def lF:S:=(.ret (.v 5))
noncomputable def iv:Fn:=⟨1,9,(.cons hZ (.cons lK (.cons lJ (.cons lI (.cons lH (.cons lG (.cons lF .nil)))))))⟩
noncomputable def pZ:S:=(.ret (.sub (.lst true (.cons (.k (.int 0)) (.cons (.k (.int 0)) (.cons (.k (.int 1)) (.cons (.k (.int 999999)) .nil))))) (.bin .mod (.bin .fdiv (.v 0) (.k (.int 4))) (.k (.int 4)))))
noncomputable def sy:S:=(.ife (.cmp (.bin .mod (.v 0) (.k (.int 4))) .eq (.k (.int 0))) (.cons pZ .nil) .nil)
noncomputable def pY:S:=(.ret (.bin .mod (.bin .fdiv (.v 0) (.k (.int 4))) (.bin .pow (.k (.int 10)) (.k (.int 6)))))
noncomputable def sx:S:=(.ife (.cmp (.bin .mod (.v 0) (.k (.int 4))) .eq (.k (.int 1))) (.cons pY .nil) .nil)
noncomputable def sw:S:=(.ret (.bin .mod (.bin .fdiv (.v 0) (.k (.int 4))) (.k (.int 5))))
noncomputable def iu:Fn:=⟨1,1,(.cons sy (.cons sx (.cons sw .nil)))⟩
noncomputable def ut:S:=(.asg 2 (.sub (.lst true (.cons (.k (.str "sum")) (.cons (.k (.str "times")) (.cons (.k (.str "least")) (.cons (.k (.str "most")) (.cons (.k (.str "fixed")) (.cons (.k (.str "later")) (.cons (.k (.str "later")) (.cons (.k (.str "way")) (.cons (.k (.str "choose")) (.cons (.k (.str "way")) (.cons (.k (.str "choose")) (.cons (.k (.str "sum")) .nil))))))))))))) (.v 1)))
noncomputable def ry:S:=(.ret (.tup (.cons (.k (.str "fixed")) (.cons (.call iq (.cons (.v 0) .nil)) .nil))))
noncomputable def ur:S:=(.ife (.cmp (.v 2) .eq (.k (.str "fixed"))) (.cons ry .nil) .nil)
noncomputable def uq:S:=(.ret (.tup (.cons (.v 2) .nil)))
noncomputable def jg:Fn:=⟨2,4,(.cons ut (.cons ur (.cons uq .nil)))⟩
noncomputable def iT:S:=(.asg 2 (.call fK (.cons (.call bj (.cons (.v 0) (.cons (.v 1) .nil))) .nil)))
noncomputable def fO:S:=(.asg 3 (.sub (.lst true (.cons (.k (.int 1)) (.cons (.k (.int 2)) (.cons (.k (.int 3)) (.cons (.k (.int 4)) (.cons (.k (.int 6)) (.cons (.k (.int 8)) .nil))))))) (.bin .mod (.call bj (.cons (.v 0) (.cons (.bin .add (.v 1) (.k (.int 1))) .nil))) (.k (.int 6)))))
noncomputable def rB:S:=(.asg 3 (.bin .add (.k (.int 9)) (.bin .mod (.bin .fdiv (.call bj (.cons (.v 0) (.cons (.bin .add (.v 1) (.k (.int 1))) .nil))) (.k (.int 60))) (.k (.int 12)))))
noncomputable def ef:S:=(.ife (.cmp (.bin .mod (.bin .fdiv (.call bj (.cons (.v 0) (.cons (.bin .add (.v 1) (.k (.int 1))) .nil))) (.k (.int 6))) (.k (.int 10))) .eq (.k (.int 1))) (.cons rB .nil) .nil)
noncomputable def iS:S:=(.asg 4 (.sub (.lst true (.cons (.k (.int 2)) (.cons (.k (.int 4)) (.cons (.k (.int 6)) (.cons (.k (.int 9)) .nil))))) (.bin .mod (.call bj (.cons (.v 0) (.cons (.bin .add (.v 1) (.k (.int 2))) .nil))) (.k (.int 4)))))
noncomputable def iR:S:=(.asg 5 (.lst false .nil))
noncomputable def uw:X:=(.comp false 1 [none,none,some 2] (.sub (.v 2) (.v 1)) (.k (.bool true)) (.range1 (.min2 (.k (.int 24)) (.bin .add (.v 4) (.v 3)))))
noncomputable def iQ:S:=(.asg 7 uw)
noncomputable def iP:S:=(.asg 8 (.b1 (.list true) (.v 7)))
noncomputable def gI:S:=(.asg 9 (.call cj (.cons (.bin .add (.call bj (.cons (.v 0) (.cons (.bin .add (.bin .add (.v 1) (.k (.int 3))) (.bin .mod (.v 6) (.k (.int 8)))) .nil))) (.bin .mul (.k (.int 977)) (.v 6))) .nil)))
noncomputable def gH:S:=(.asg 10 (.call ml (.cons (.call cj (.cons (.v 9) .nil)) (.cons (.bin .mod (.bin .fdiv (.v 9) (.k (.int 5))) (.k (.int 12))) .nil))))
noncomputable def gG:S:=(.asg 11 (.call cj (.cons (.bin .add (.v 9) (.k (.int 1))) .nil)))
noncomputable def gF:S:=(.asg 12 (.sub (.lst true (.cons (.bin .add (.k (.int 1)) (.bin .mod (.v 11) (.k (.int 4)))) (.cons (.k (.int 1)) .nil))) (.b1 .int (.cmp (.sub (.v 10) (.k (.int 0))) .eq (.k (.str "later"))))))
noncomputable def gE:S:=(.asg 12 (.fdget ["way", "choose"] [(.int 2),(.int 3)] (.sub (.v 10) (.k (.int 0))) (.v 12)))
noncomputable def gD:S:=(.asg 13 (.fdget ["way"] [(.int 2)] (.sub (.v 10) (.k (.int 0))) (.sub (.lst true (.cons (.k (.int 1)) (.cons (.k (.int 1)) (.cons (.k (.int 1)) (.cons (.k (.int 2)) (.cons (.k (.int 3)) .nil)))))) (.bin .mod (.bin .fdiv (.v 11) (.k (.int 4))) (.k (.int 5))))))
noncomputable def gC:S:=(.asg 13 (.min2 (.v 13) (.b1 .len (.v 7))))
noncomputable def gB:S:=(.ife (.or (.cons (.cmp (.v 13) .eq (.k (.int 0))) (.cons (.and (.cons (.cmp (.sub (.v 10) (.k (.int 0))) .eq (.k (.str "way"))) (.cons (.cmp (.v 13) .lt (.k (.int 2))) .nil))) .nil))) (.cons .brk .nil) .nil)
noncomputable def mP:X:=(.comp true 1 [none,none,none,none,some 11,some 8] (.sub (.v 5) (.bin .mod (.call cj (.cons (.bin .add (.v 4) (.bin .mul (.k (.int 7)) (.v 1))) .nil)) (.b1 .len (.v 5)))) (.k (.bool true)) (.range1 (.v 12)))
noncomputable def kt:S:=(.asg 14 mP)
noncomputable def uu:X:=(.comp true 1 [none,none,none,none,some 7,some 11] (.me .pop (.v 4) (.cons (.bin .mod (.call cj (.cons (.bin .add (.bin .add (.v 5) (.bin .mul (.k (.int 31)) (.v 1))) (.k (.int 5))) .nil)) (.b1 .len (.v 4))) .nil)) (.k (.bool true)) (.range1 (.v 13)))
noncomputable def kn:S:=(.asg 15 uu)
noncomputable def jK:S:=(.expr (.me .append (.v 5) (.cons (.tup (.cons (.sub (.v 2) (.bin .sub (.k (.int 23)) (.v 6))) (.cons (.v 10) (.cons (.b1 .tuple (.v 14)) (.cons (.b1 .tuple (.v 15)) .nil))))) .nil)))
noncomputable def fv:S:=(.cons gI (.cons gH (.cons gG (.cons gF (.cons gE (.cons gD (.cons gC (.cons gB (.cons kt (.cons kn (.cons jK .nil)))))))))))
noncomputable def iO:S:=(.for1 6 (.range1 (.v 3)) fv)
noncomputable def rA:S:=(.expr (.me .append (.v 5) (.cons (.tup (.cons (.sub (.v 2) (.k (.int 0))) (.cons (.tup (.cons (.k (.str "sum")) .nil)) (.cons (.tup (.cons (.sub (.v 2) (.k (.int 0))) .nil)) (.cons (.tup (.cons (.sub (.v 2) (.k (.int 1))) .nil)) .nil))))) .nil)))
noncomputable def iN:S:=(.ife (.cmp (.v 5) .eq (.lst true .nil)) (.cons rA .nil) .nil)
noncomputable def iM:S:=(.ret (.b1 .tuple (.v 5)))
noncomputable def rC:Fn:=⟨2,26,(.cons iT (.cons fO (.cons ef (.cons iS (.cons iR (.cons iQ (.cons iP (.cons iO (.cons iN (.cons iM .nil))))))))))⟩
noncomputable def jO:S:=(.asg 1 (.lst false .nil))
noncomputable def oc:S:=(.expr (.me .extend (.v 1) (.cons (.sub (.v 2) (.k (.int 3))) .nil)))
noncomputable def i0:S:=(.cons oc .nil)
noncomputable def p7:S:=(.for1 2 (.v 0) i0)
noncomputable def jN:S:=(.asg 3 (.lst false .nil))
noncomputable def kY:S:=(.expr (.me .append (.v 3) (.cons (.v 4) .nil)))
noncomputable def my:S:=(.ife (.and (.cons (.cmp (.v 4) .notin (.v 1)) (.cons (.cmp (.v 4) .notin (.v 3)) .nil))) (.cons kY .nil) .nil)
noncomputable def g5:S:=(.cons my .nil)
noncomputable def n9:S:=(.for1 4 (.sub (.v 2) (.k (.int 2))) g5)
noncomputable def iZ:S:=(.cons n9 .nil)
noncomputable def p6:S:=(.for1 2 (.v 0) iZ)
noncomputable def p5:S:=(.ret (.v 3))
noncomputable def iU:Fn:=⟨1,5,(.cons jO (.cons p7 (.cons jN (.cons p6 (.cons p5 .nil)))))⟩
noncomputable def lM:S:=(.asg 1 (.lst false .nil))
noncomputable def oi:S:=(.expr (.me .extend (.v 1) (.cons (.sub (.v 2) (.k (.int 3))) .nil)))
noncomputable def qc:S:=(.ife (.cmp (.sub (.v 2) (.k (.int 1))) .eq (.tup (.cons (.k (.str "later")) .nil))) (.cons oi .nil) .nil)
noncomputable def kA:S:=(.cons qc .nil)
noncomputable def sA:S:=(.for1 2 (.v 0) kA)
noncomputable def sz:S:=(.ret (.v 1))
noncomputable def kZ:Fn:=⟨1,3,(.cons lM (.cons sA (.cons sz .nil)))⟩
noncomputable def p4:S:=(.ret (.k (.bool false)))
noncomputable def lC:S:=(.ife (.or (.cons (.not (.isinst (.v 0) .list)) (.cons (.cmp (.v 0) .ne (.v 1)) .nil))) (.cons p4 .nil) .nil)
noncomputable def lD:X:=(.comp true 1 [none,none,none,none] (.v 1) (.isinst (.v 1) .bool) (.v 2))
noncomputable def n7:S:=(.ret (.k (.bool false)))
noncomputable def p3:S:=(.ife (.or (.cons (.not (.isinst (.v 2) .tuple)) (.cons (.cmp lD .ne (.lst true .nil)) .nil))) (.cons n7 .nil) .nil)
noncomputable def eE:S:=(.cons p3 .nil)
noncomputable def lB:S:=(.for1 2 (.v 0) eE)
noncomputable def lA:S:=(.ret (.k (.bool true)))
noncomputable def pC:Fn:=⟨2,6,(.cons lC (.cons lB (.cons lA .nil)))⟩
noncomputable def ku:S:=(.asg 1 (.lst false .nil))
noncomputable def lz:S:=(.expr (.me .append (.v 1) (.cons (.v 3) .nil)))
noncomputable def nb:S:=(.ife (.cmp (.v 3) .notin (.v 1)) (.cons lz .nil) .nil)
noncomputable def iE:S:=(.cons nb .nil)
noncomputable def pn:S:=(.for1 3 (.bin .add (.sub (.v 2) (.k (.int 2))) (.sub (.v 2) (.k (.int 3)))) iE)
noncomputable def jL:S:=(.cons pn .nil)
noncomputable def rE:S:=(.for1 2 (.v 0) jL)
noncomputable def rD:S:=(.ret (.v 1))
noncomputable def jM:Fn:=⟨1,4,(.cons ku (.cons rE (.cons rD .nil)))⟩
noncomputable def ky:S:=(.asg 5 (.call bM (.cons (.v 1) .nil)))
noncomputable def i6:S:=(.asg 5 (.rev (.v 5)))
noncomputable def gL:S:=(.ife (.cmp (.bin .mod (.v 4) (.k (.int 2))) .eq (.k (.int 1))) (.cons i6 .nil) .nil)
noncomputable def kz:X:=(.comp true 1 [none,none,some 6,some 2] (.tup (.cons (.v 1) (.cons (.sub (.v 3) (.tup (.cons (.v 2) (.cons (.v 1) .nil)))) .nil))) (.cmp (.tup (.cons (.v 2) (.cons (.v 1) .nil))) .isin (.v 3)) (.range1 (.v 3)))
noncomputable def i5:S:=(.asg 7 kz)
noncomputable def nc:S:=(.ret (.k (.bool false)))
noncomputable def i4:S:=(.ife (.not (.call kW (.cons (.meth 318 cD "told" (.v 0) (.cons (.v 6) .nil)) (.cons (.v 7) .nil)))) (.cons nc .nil) .nil)
noncomputable def d4:S:=(.cons i5 (.cons i4 .nil))
noncomputable def gK:S:=(.for1 6 (.v 5) d4)
noncomputable def kv:S:=(.ret (.k (.bool true)))
noncomputable def og:Fn:=⟨5,11,(.cons ky (.cons gL (.cons gK (.cons kv .nil))))⟩
noncomputable def un:S:=(.asg 1 (.bin .add (.bin .mul (.lst true (.cons (.k (.str "NoPlan")) .nil)) (.b1 .int (.isexc (.v 0) [44] [31,44,56,68,80,92,104,116,128,140,152]))) (.bin .mul (.lst true (.cons (.k (.str "NoTurn")) .nil)) (.b1 .int (.isexc (.v 0) [56] [31,44,56,68,80,92,104,116,128,140,152])))))
noncomputable def um:S:=(.asg 1 (.bin .add (.bin .add (.v 1) (.bin .mul (.lst true (.cons (.k (.str "NoPlace")) .nil)) (.b1 .int (.isexc (.v 0) [68] [31,44,56,68,80,92,104,116,128,140,152])))) (.bin .mul (.lst true (.cons (.k (.str "NoValue")) .nil)) (.b1 .int (.isexc (.v 0) [80] [31,44,56,68,80,92,104,116,128,140,152])))))
noncomputable def uj:S:=(.asg 1 (.bin .add (.bin .add (.v 1) (.bin .mul (.lst true (.cons (.k (.str "TokenThere")) .nil)) (.b1 .int (.isexc (.v 0) [92] [31,44,56,68,80,92,104,116,128,140,152])))) (.bin .mul (.lst true (.cons (.k (.str "NoStep")) .nil)) (.b1 .int (.isexc (.v 0) [104] [31,44,56,68,80,92,104,116,128,140,152])))))
noncomputable def uh:S:=(.asg 1 (.bin .add (.bin .add (.v 1) (.bin .mul (.lst true (.cons (.k (.str "Fired")) .nil)) (.b1 .int (.isexc (.v 0) [116] [31,44,56,68,80,92,104,116,128,140,152])))) (.bin .mul (.lst true (.cons (.k (.str "NotReady")) .nil)) (.b1 .int (.isexc (.v 0) [128] [31,44,56,68,80,92,104,116,128,140,152])))))
noncomputable def ug:S:=(.asg 1 (.bin .add (.bin .add (.v 1) (.bin .mul (.lst true (.cons (.k (.str "IsReady")) .nil)) (.b1 .int (.isexc (.v 0) [140] [31,44,56,68,80,92,104,116,128,140,152])))) (.bin .mul (.lst true (.cons (.k (.str "NoText")) .nil)) (.b1 .int (.isexc (.v 0) [152] [31,44,56,68,80,92,104,116,128,140,152])))))
noncomputable def rn:S:=(.ret (.k (.str "other")))
noncomputable def uf:S:=(.ife (.or (.cons (.cmp (.b1 .len (.v 1)) .ne (.k (.int 1))) (.cons (.not (.isexc (.v 0) [31,44,56,68,80,92,104,116,128,140,152] [31,44,56,68,80,92,104,116,128,140,152])) .nil))) (.cons rn .nil) .nil)
noncomputable def ue:S:=(.ret (.sub (.v 1) (.k (.int 0))))
noncomputable def zP:Fn:=⟨1,16,(.cons un (.cons um (.cons uj (.cons uh (.cons ug (.cons uf (.cons ue .nil)))))))⟩
noncomputable def sE:S:=(.ret (.k (.str "NoPlace")))
noncomputable def jS:S:=(.ife (.cmp (.v 3) .notin (.call bM (.cons (.v 0) .nil))) (.cons sE .nil) .nil)
noncomputable def sD:S:=(.ret (.k (.str "NoTurn")))
noncomputable def jR:S:=(.ife (.or (.cons (.isinst (.v 4) .bool) (.cons (.not (.isinst (.v 4) .int)) (.cons (.not (.cmp2 (.k (.int 0)) .le (.v 4) .lt (.v 2))) .nil)))) (.cons sD .nil) .nil)
noncomputable def sC:S:=(.ret (.k (.str "NoPlace")))
noncomputable def jQ:S:=(.ife (.and (.cons (.cmp (.v 3) .notin (.call dh (.cons (.v 0) .nil))) (.cons (.or (.cons (.cmp (.v 3) .notin (.call ek (.cons (.v 0) .nil))) (.cons (.cmp (.v 4) .gt (.k (.int 0))) .nil))) .nil))) (.cons sC .nil) .nil)
noncomputable def sB:S:=(.ret (.k (.str "NoValue")))
noncomputable def jP:S:=(.ife (.or (.cons (.isinst (.v 5) .bool) (.cons (.not (.isinst (.v 5) .int)) (.cons (.not (.cmp2 (.k (.int 0)) .le (.v 5) .lt (.bin .pow (.k (.int 10)) (.k (.int 6))))) .nil)))) (.cons sB .nil) .nil)
noncomputable def oj:S:=(.ret (.sub (.lst true (.cons (.k (.str "")) (.cons (.k (.str "TokenThere")) .nil))) (.b1 .int (.cmp (.tup (.cons (.v 3) (.cons (.v 4) .nil))) .isin (.v 1)))))
noncomputable def ol:Fn:=⟨6,12,(.cons jS (.cons jR (.cons jQ (.cons jP (.cons oj .nil)))))⟩
noncomputable def p0:S:=(.ret (.k (.str "other")))
noncomputable def hY:S:=(.ife (.cmp (.meth 318 em "put" (.v 0) (.cons (.v 1) (.cons (.v 2) (.cons (.v 3) .nil)))) .isNot (.k .none)) (.cons p0 .nil) .nil)
noncomputable def fu:S:=(.ret (.call dZ (.cons (.v 4) .nil)))
noncomputable def jJ:S:=(.tryE (.cons hY .nil) [31,44,56,68,80,92,104,116,128,140,152] 4 (.cons fu .nil))
noncomputable def nY:S:=(.ret (.k (.str "")))
noncomputable def nZ:Fn:=⟨4,7,(.cons jJ (.cons nY .nil))⟩
noncomputable def mZ:S:=(.ret (.meth 318 cP "at" (.v 0) (.cons (.v 1) (.cons (.v 2) .nil))))
noncomputable def fP:S:=(.ret (.call dZ (.cons (.v 3) .nil)))
noncomputable def k4:S:=(.tryE (.cons mZ .nil) [31,44,56,68,80,92,104,116,128,140,152] 3 (.cons fP .nil))
noncomputable def qf:Fn:=⟨3,6,(.cons k4 .nil)⟩
noncomputable def g6:S:=(.ret (.lst true (.cons (.call d3 (.cons (.v 0) (.cons (.v 1) (.cons (.v 2) .nil)))) (.cons (.meth 318 cD "told" (.v 0) (.cons (.v 1) .nil)) .nil))))
noncomputable def de:S:=(.ret (.lst true (.cons (.call d3 (.cons (.v 0) (.cons (.v 1) (.cons (.v 2) .nil)))) (.cons (.call dZ (.cons (.v 3) .nil)) .nil))))
noncomputable def i3:S:=(.tryE (.cons g6 .nil) [31,44,56,68,80,92,104,116,128,140,152] 3 (.cons de .nil))
noncomputable def lE:Fn:=⟨3,7,(.cons i3 .nil)⟩
noncomputable def mY:S:=(.asg 3 (.bin .add (.bin .add (.call dh (.cons (.v 0) .nil)) (.call ek (.cons (.v 0) .nil))) (.call bM (.cons (.v 0) .nil))))
noncomputable def mX:S:=(.asg 4 (.sub (.v 3) (.bin .mod (.v 2) (.b1 .len (.v 3)))))
noncomputable def kE:S:=(.asg 4 (.sub (.lst true (.cons (.k (.str "")) (.cons (.k (.str "zz99zz9")) (.cons (.k .none) (.cons (.k (.int 7)) (.cons (.bin .add (.sub (.v 3) (.k (.int 0))) (.k (.str "q"))) (.cons (.slice (.sub (.v 3) (.k (.int 0))) (.k .none) (.neg (.k (.int 1)))) .nil))))))) (.bin .mod (.bin .fdiv (.v 2) (.k (.int 450))) (.k (.int 6)))))
noncomputable def mW:S:=(.ife (.cmp (.bin .mod (.bin .fdiv (.v 2) (.k (.int 50))) (.k (.int 9))) .eq (.k (.int 1))) (.cons kE .nil) .nil)
noncomputable def mV:S:=(.asg 5 (.bin .mod (.bin .fdiv (.v 2) (.k (.int 7))) (.v 1)))
noncomputable def kC:S:=(.asg 5 (.sub (.lst true (.cons (.neg (.k (.int 1))) (.cons (.v 1) (.cons (.k (.bool true)) (.cons (.k .none) (.cons (.k (.str "0")) (.cons (.bin .pow (.k (.int 10)) (.k (.int 20))) (.cons (.bin .sub (.v 1) (.k (.int 1))) (.cons (.k (.int 0)) .nil))))))))) (.bin .mod (.bin .fdiv (.v 2) (.k (.int 540))) (.k (.int 8)))))
noncomputable def mU:S:=(.ife (.cmp (.bin .mod (.bin .fdiv (.v 2) (.k (.int 60))) (.k (.int 9))) .eq (.k (.int 1))) (.cons kC .nil) .nil)
noncomputable def rF:S:=(.asg 5 (.k (.int 0)))
noncomputable def mT:S:=(.ife (.cmp (.bin .mod (.bin .fdiv (.v 2) (.k (.int 11))) (.k (.int 4))) .eq (.k (.int 0))) (.cons rF .nil) .nil)
noncomputable def mS:S:=(.asg 6 (.call iq (.cons (.bin .fdiv (.v 2) (.k (.int 13))) .nil)))
noncomputable def kB:S:=(.asg 6 (.sub (.lst true (.cons (.neg (.k (.int 1))) (.cons (.bin .pow (.k (.int 10)) (.k (.int 6))) (.cons (.k (.bool false)) (.cons (.k .none) (.cons (.k (.str "5")) (.cons (.bin .pow (.k (.int 10)) (.k (.int 20))) (.cons (.k (.int 0)) (.cons (.k (.int 999999)) .nil))))))))) (.bin .mod (.bin .fdiv (.v 2) (.k (.int 630))) (.k (.int 8)))))
noncomputable def mR:S:=(.ife (.cmp (.bin .mod (.bin .fdiv (.v 2) (.k (.int 70))) (.k (.int 9))) .eq (.k (.int 1))) (.cons kB .nil) .nil)
noncomputable def mQ:S:=(.ret (.tup (.cons (.v 4) (.cons (.v 5) (.cons (.v 6) .nil)))))
noncomputable def mz:Fn:=⟨3,12,(.cons mY (.cons mX (.cons mW (.cons mV (.cons mU (.cons mT (.cons mS (.cons mR (.cons mQ .nil)))))))))⟩
noncomputable def wH:S:=(.asg 1 (.call rf (.cons (.v 0) (.cons (.k (.int 0)) .nil))))
noncomputable def wG:S:=(.asg 2 (.sub (.lst true (.cons (.k (.int 1)) (.cons (.k (.int 2)) (.cons (.k (.int 3)) (.cons (.k (.int 5)) (.cons (.k (.int 200)) .nil)))))) (.bin .mod (.call bj (.cons (.v 0) (.cons (.k (.int 12)) .nil))) (.k (.int 5)))))
noncomputable def wF:S:=(.asg 3 (.new 318 fV (.cons (.v 1) (.cons (.v 2) .nil))))
noncomputable def wE:S:=(.asg 4 (.dnew true))
noncomputable def wD:S:=(.asg 5 (.lst false .nil))
noncomputable def rx:S:=(.asgT [8,9,10] (.call je (.cons (.v 1) (.cons (.v 2) (.cons (.call cj (.cons (.bin .add (.v 7) (.v 6)) .nil)) .nil)))))
noncomputable def ru:S:=(.asg 11 (.call tI (.cons (.v 1) (.cons (.v 4) (.cons (.v 2) (.cons (.v 8) (.cons (.v 9) (.cons (.v 10) .nil))))))))
noncomputable def wB:S:=(.ret (.k (.bool false)))
noncomputable def rt:S:=(.ife (.cmp (.call nQ (.cons (.v 3) (.cons (.v 8) (.cons (.v 9) (.cons (.v 10) .nil))))) .ne (.v 11)) (.cons wB .nil) .nil)
noncomputable def nW:S:=(.asgSub (.v 4) (.tup (.cons (.v 8) (.cons (.v 9) .nil))) (.v 10))
noncomputable def rq:S:=(.ife (.cmp (.v 11) .eq (.k (.str ""))) (.cons nW .nil) .nil)
noncomputable def wA:S:=(.ret (.k (.bool false)))
noncomputable def mx:S:=(.ife (.and (.cons (.cmp (.v 11) .ne (.k (.str "NoPlace"))) (.cons (.cmp (.v 11) .ne (.k (.str "NoTurn"))) (.cons (.cmp (.call d3 (.cons (.v 3) (.cons (.v 8) (.cons (.v 9) .nil)))) .ne (.me .get (.v 4) (.cons (.tup (.cons (.v 8) (.cons (.v 9) .nil))) .nil))) .nil)))) (.cons wA .nil) .nil)
noncomputable def wz:S:=(.ret (.k (.bool false)))
noncomputable def ro:S:=(.ife (.and (.cons (.cmp (.v 8) .notin (.call bM (.cons (.v 1) .nil))) (.cons (.cmp (.call lw (.cons (.v 3) (.cons (.v 8) (.cons (.v 9) .nil)))) .ne (.lst true (.cons (.k (.str "NoPlace")) (.cons (.k (.str "NoPlace")) .nil)))) .nil))) (.cons wz .nil) .nil)
noncomputable def wy:S:=(.ret (.k (.bool false)))
noncomputable def mw:S:=(.ife (.and (.cons (.cmp (.v 11) .eq (.k (.str "NoTurn"))) (.cons (.cmp (.call d3 (.cons (.v 3) (.cons (.v 8) (.cons (.v 9) .nil)))) .ne (.k (.str "NoTurn"))) .nil))) (.cons wy .nil) .nil)
noncomputable def mv:S:=(.asg 12 (.sub (.call bM (.cons (.v 1) .nil)) (.bin .mod (.v 7) (.b1 .len (.call bM (.cons (.v 1) .nil))))))
noncomputable def ww:S:=(.ret (.k (.bool false)))
noncomputable def mu:S:=(.ife (.cmp (.meth 318 cP "at" (.v 3) (.cons (.v 12) (.cons (.bin .mod (.bin .fdiv (.v 7) (.k (.int 9))) (.v 2)) .nil))) .ne (.me .get (.v 4) (.cons (.tup (.cons (.v 12) (.cons (.bin .mod (.bin .fdiv (.v 7) (.k (.int 9))) (.v 2)) .nil))) .nil))) (.cons ww .nil) .nil)
noncomputable def mt:S:=(.asg 13 (.meth 318 cD "told" (.v 3) (.cons (.v 12) .nil)))
noncomputable def kX:S:=(.expr (.me .append (.v 5) (.cons (.tup (.cons (.v 13) (.cons (.b1 (.list true) (.v 13)) .nil))) .nil)))
noncomputable def nX:S:=(.cons rx (.cons ru (.cons rt (.cons rq (.cons mx (.cons ro (.cons mw (.cons mv (.cons mu (.cons mt (.cons kX .nil)))))))))))
noncomputable def wC:S:=(.forT [6,7] (.enum (.slice (.v 0) (.k (.int 13)) (.k (.int 61)))) nX)
noncomputable def wI:X:=(.comp true 1 [none,none] (.v 1) (.cmp (.sub (.v 1) (.k (.int 0))) .ne (.sub (.v 1) (.k (.int 1)))) (.v 5))
noncomputable def zR:S:=(.ret (.k (.bool false)))
noncomputable def wv:S:=(.ife (.cmp (.b1 .len wI) .gt (.k (.int 0))) (.cons zR .nil) .nil)
noncomputable def zQ:S:=(.expr (.me0 .clear (.sub (.v 14) (.k (.int 0)))))
noncomputable def km:S:=(.cons zQ .nil)
noncomputable def wu:S:=(.for1 14 (.v 5) km)
noncomputable def wq:S:=(.ret (.call nR (.cons (.v 3) (.cons (.v 1) (.cons (.v 4) (.cons (.v 2) (.cons (.bin .fdiv (.call bj (.cons (.v 0) (.cons (.k (.int 12)) .nil))) (.k (.int 5))) .nil)))))))
noncomputable def zS:Fn:=⟨1,29,(.cons wH (.cons wG (.cons wF (.cons wE (.cons wD (.cons wC (.cons wv (.cons wu (.cons wq .nil)))))))))⟩
noncomputable def lQ:S:=(.raise 44)
noncomputable def g8:S:=(.ife (.not (.call gc (.cons (.v 1) .nil))) (.cons lQ .nil) .nil)
noncomputable def lP:S:=(.raise 56)
noncomputable def g7:S:=(.ife (.not (.call c7 (.cons (.v 2) (.cons (.k (.int 1)) (.cons (.k (.int 200)) .nil))))) (.cons lP .nil) .nil)
noncomputable def nq:S:=(.asgAttr 318 (.v 0) "plan" (.v 1))
noncomputable def nk:S:=(.asgAttr 318 (.v 0) "turns" (.v 2))
noncomputable def nj:S:=(.asgAttr 318 (.v 0) "givers" (.call ir (.cons (.v 1) .nil)))
noncomputable def ni:S:=(.asgAttr 318 (.v 0) "outer" (.call kh (.cons (.v 1) .nil)))
noncomputable def nh:S:=(.asgAttr 318 (.v 0) "here" (.dnew true))
noncomputable def ng:S:=(.asgAttr 318 (.v 0) "gone" (.dnew true))
noncomputable def nf:S:=(.asgAttr 318 (.v 0) "order" (.lst false .nil))
noncomputable def fW:Fn:=⟨3,10,(.cons g8 (.cons g7 (.cons nq (.cons nk (.cons nj (.cons ni (.cons nh (.cons ng (.cons nf .nil)))))))))⟩
noncomputable def j4:S:=(.raise 68)
noncomputable def dO:S:=(.ife (.or (.cons (.not (.isinst (.v 1) .str)) (.cons (.and (.cons (.cmp (.v 1) .notin (.attr 318 (.v 0) "givers")) (.cons (.cmp (.v 1) .notin (.attr 318 (.v 0) "outer")) .nil))) .nil))) (.cons j4 .nil) .nil)
noncomputable def eX:Fn:=⟨2,5,(.cons dO .nil)⟩
noncomputable def k7:S:=(.raise 56)
noncomputable def d5:S:=(.ife (.not (.call c7 (.cons (.v 1) (.cons (.k (.int 0)) (.cons (.bin .sub (.attr 318 (.v 0) "turns") (.k (.int 1))) .nil))))) (.cons k7 .nil) .nil)
noncomputable def fF:Fn:=⟨2,4,(.cons d5 .nil)⟩
noncomputable def ii:S:=(.expr (.meth 318 bk "need_place" (.v 0) (.cons (.v 1) .nil)))
noncomputable def ig:S:=(.expr (.meth 318 cq "need_turn" (.v 0) (.cons (.v 2) .nil)))
noncomputable def qj:S:=(.raise 68)
noncomputable def ie:S:=(.ife (.and (.cons (.cmp (.v 1) .isin (.attr 318 (.v 0) "givers")) (.cons (.or (.cons (.cmp (.sub (.sub (.sub (.attr 318 (.v 0) "givers") (.v 1)) (.k (.int 1))) (.k (.int 0))) .ne (.k (.str "later"))) (.cons (.cmp (.v 2) .gt (.k (.int 0))) .nil))) .nil))) (.cons qj .nil) .nil)
noncomputable def qi:S:=(.raise 80)
noncomputable def ic:S:=(.ife (.not (.call gz (.cons (.v 3) .nil))) (.cons qi .nil) .nil)
noncomputable def qh:S:=(.raise 92)
noncomputable def ia:S:=(.ife (.cmp (.tup (.cons (.v 1) (.cons (.v 2) .nil))) .isin (.attr 318 (.v 0) "here")) (.cons qh .nil) .nil)
noncomputable def lO:S:=(.asgSub (.attr 318 (.v 0) "here") (.tup (.cons (.v 1) (.cons (.v 2) .nil))) (.v 3))
noncomputable def iy:Fn:=⟨4,8,(.cons ii (.cons ig (.cons ie (.cons ic (.cons ia (.cons lO .nil))))))⟩
noncomputable def fQ:S:=(.expr (.meth 318 bk "need_place" (.v 0) (.cons (.v 1) .nil)))
noncomputable def iV:S:=(.expr (.meth 318 cq "need_turn" (.v 0) (.cons (.v 2) .nil)))
noncomputable def m8:S:=(.ret (.me .get (.attr 318 (.v 0) "here") (.cons (.tup (.cons (.v 1) (.cons (.v 2) .nil))) .nil)))
noncomputable def jj:Fn:=⟨3,3,(.cons fQ (.cons iV (.cons m8 .nil)))⟩
noncomputable def gU:S:=(.expr (.meth 318 bk "need_place" (.v 0) (.cons (.v 1) .nil)))
noncomputable def kH:X:=(.comp false 1 [none,none,some 1,some 0] (.tup (.cons (.v 1) (.cons (.sub (.attr 318 (.v 3) "here") (.tup (.cons (.v 2) (.cons (.v 1) .nil)))) .nil))) (.cmp (.tup (.cons (.v 2) (.cons (.v 1) .nil))) .isin (.attr 318 (.v 3) "here")) (.range1 (.attr 318 (.v 0) "turns")))
noncomputable def rI:S:=(.ret kH)
noncomputable def j0:Fn:=⟨2,3,(.cons gU (.cons rI .nil))⟩
noncomputable def PP:g9:=⟨[ji,tQ,iw,gT,kF,tO,tP,k6,nV,eW,eh,jh,iv,iu,jg,rC,iU,kZ,pC,jM,og,zP,ol,nZ,qf,lE,mz,zS,fW,eX,fF,iy,jj,j0]⟩
noncomputable def topN:Nat:=4000
end Mine
namespace Mine
open PySem
noncomputable def aX:bQ->af PV
  | .next _ σ=>.ok .none σ
  | .ret v _ σ=>.ok v σ
  | .exc i _ σ=>.exc i σ
  | _=>.stuck
section
variable {α β:Type} {σ:ac} {ρ:aw} {C:a8} {n:Nat}
theorem av {a:α} {f:α->ac->af β}:(af.ok a σ).bind f=f a σ:=rfl
theorem vq {a:α} {f:α->ac->bQ}:(af.ok a σ).toS ρ f=f a σ:=rfl
theorem ifF {a b:α}:(if false=true then a else b)=b:=rfl
theorem oE {a b:Str}:bn .eq (.str a) (.str b) σ=.ok (a == b) σ:=rfl
theorem nL {a b:Str}:bn .ne (.str a) (.str b) σ=.ok (!(a == b)) σ:=rfl
theorem dv {a b:Int}:bn .eq (.int a) (.int b) σ=.ok (a == b) σ:=rfl
theorem aeM {a b:Int}:bn .ne (.int a) (.int b) σ=.ok (!(a == b)) σ:=rfl
theorem lt_int {a b:Int}:bn .lt (.int a) (.int b) σ=.ok (decide (a < b)) σ:=rfl
theorem le_int {a b:Int}:bn .le (.int a) (.int b) σ=.ok (decide (a <= b)) σ:=rfl
theorem gt_int {a b:Int}:bn .gt (.int a) (.int b) σ=.ok (decide (a > b)) σ:=rfl
theorem add_int {a b:Int}:fS .add (.int a) (.int b) σ=.ok (.int (a + b)) σ:=rfl
theorem sub_int {a b:Int}:fS .sub (.int a) (.int b) σ=.ok (.int (a - b)) σ:=rfl
theorem mul_int {a b:Int} (h:a.natAbs < 2 ^ 60\/b.natAbs < 2 ^ 60):fS .mul (.int a) (.int b) σ=.ok (.int (a * b)) σ:=by
  show (if oY a b=true then af.ok (PV.int (a * b)) σ else .stuck)=_
  exact if_pos (decide_eq_true h)
theorem bA {a b:Int} (h:0 < b):fS .mod (.int a) (.int b) σ=.ok (.int (a % b)) σ:=by
  have e:a.fmod b=a % b:=Int.fmod_eq_emod_of_nonneg _ (Int.le_of_lt h)
  show (if b=0 then af.stuck else .ok (PV.int (a.fmod b)) σ)=_
  rw [if_neg (Int.ne_of_gt h),e]
theorem dz {a b:Int} (h:0 < b) (h2:b < 1073741824):fS .fdiv (.int a) (.int b) σ=.ok (.int (a / b)) σ:=by
  have e:a.fdiv b=a / b:=Int.fdiv_eq_ediv_of_nonneg _ (Int.le_of_lt h)
  have:b ≠ 0/\b.natAbs < 1073741824:=⟨Int.ne_of_gt h,by omega⟩
  show (if b ≠ 0/\b.natAbs < 1073741824 then af.ok (PV.int (a.fdiv b)) σ else .stuck)=_
  rw [if_pos this,e]
theorem add_str {a b:Str} (h:a.length + b.length <= am):fS .add (.str a) (.str b) σ=.ok (.str (a++b)) σ:=by
  show (if a.length + b.length <= am then af.ok (PV.str (a++b)) σ else .stuck)=_
  exact if_pos h
theorem gu {f:List PV->af PV} {a:PV} {xs:List PV} (h:a5 σ a=some xs):kc f a σ=f xs:=by unfold kc; rw [h]
theorem zw {γ:Type} {g:List PV->Option γ} {f:γ->af PV} {a:PV} {l:γ} (h:(aY σ a).bind g=some l):jd g f a σ=f l:=by unfold jd; rw [h]
theorem len_str {s:Str} (h:s.length <= am):db .len (.str s) σ=.ok (.int s.length) σ:=by
  show (if s.length <= am then af.ok (PV.int s.length) σ else .stuck)=_
  exact if_pos h
theorem sk {xs:List PV} (h:xs.length <= am):db .len (.tup xs) σ=.ok (.int xs.length) σ:=by
  show (if xs.length <= am then af.ok (PV.int xs.length) σ else .stuck)=_
  exact if_pos h
theorem vY {xs:List PV} (h:xs.length <= am):db .len (.fl xs) σ=.ok (.int xs.length) σ:=by
  show (if xs.length <= am then af.ok (PV.int xs.length) σ else .stuck)=_
  exact if_pos h
theorem u4 {xs:List PV} (h:xs.length <= am):db .tuple (.fl xs) σ=.ok (.tup xs) σ:=by
  show (if xs.length <= am then af.ok (PV.tup xs) σ else .stuck)=_
  exact if_pos h
theorem int_bool {b:Bool}:db .int (.bool b) σ=.ok (.int (if b then 1 else 0)) σ:=rfl
theorem l9 {xs:List PV} (h:xs.length <= am):bR true xs σ=.ok (.fl xs) σ:=if_pos h
theorem aaN {xs:List PV} (h:xs.length <= am):bR false xs σ=.ok (.ref σ.length) (σ++[.lst xs]):=if_pos h
theorem sr {i:Int} {m:Nat} (h0:0 <= i) (h:i.toNat < m):cC i m=some i.toNat:=by
  unfold cC
  rw [if_pos h0,if_pos h]
theorem dL {xs:List PV} {i:Int} {x:PV} (hl:xs.length <= am) (h0:0 <= i) (h:xs[i.toNat]?=some x):dK (.fl xs) (.int i) σ=.ok x σ:=by
  have hi:=(List.getElem?_eq_some_iff.mp h).1
  show (if xs.length <= am then af.ofOpt ((cC i xs.length).bind (xs[·]?)) σ else .stuck)=_
  rw [if_pos hl,sr h0 hi]
  show af.ofOpt xs[i.toNat]? σ=_
  rw [h]; rfl
theorem yh {xs:List PV} {r:Nat} {i:Int} {x:PV} (hr:σ[r]?=some (.lst xs)) (hl:xs.length <= am) (h0:0 <= i) (h:xs[i.toNat]?=some x):dK (.ref r) (.int i) σ=.ok x σ:=by
  have hi:=(List.getElem?_eq_some_iff.mp h).1
  have e:aY σ (.ref r)=some xs:=by unfold aY; dsimp only; rw [hr]
  show (match aY σ (.ref r) with
    | some xs=>lu xs i σ
    | none=>.stuck)=_
  rw [e]
  show (if xs.length <= am then af.ofOpt ((cC i xs.length).bind (xs[·]?)) σ else .stuck)=_
  rw [if_pos hl,sr h0 hi]
  show af.ofOpt xs[i.toNat]? σ=_
  rw [h]; rfl
theorem yg {s:Str} {i:Int} {c:Nat} (hl:s.cps.size <= am) (h0:0 <= i) (h:s.cps.toList[i.toNat]?=some c):dK (.str s) (.int i) σ=.ok (.str ⟨#[c]⟩) σ:=by
  have hi:=(List.getElem?_eq_some_iff.mp h).1
  have h':s.cps[i.toNat]?=some c:=by rw [<- Array.getElem?_toList]; exact h
  show (if s.cps.size <= am then (match (cC i s.cps.size).bind (s.cps[·]?) with
      | some c=>af.ok (PV.str ⟨#[c]⟩) σ
      | none=>.stuck)
    else .stuck)=_
  rw [if_pos hl,sr h0 (by simpa using hi)]
  show (match s.cps[i.toNat]? with
      | some c=>af.ok (PV.str ⟨#[c]⟩) σ
      | none=>.stuck)=_
  rw [h']
theorem sY {P:Nat->Prop}:∀ k,k < 0->P k:=fun _ h=>absurd h (Nat.not_lt_zero _)
theorem bS {P:Nat->Prop} {n:Nat} (h:∀ k,k < n->P k) (q:P n):∀ k,k < n + 1->P k:=fun k hk=>(Nat.lt_succ_iff_lt_or_eq.mp hk).elim (h k) fun e=>e ▸ q
theorem lv {P:Int->Prop} {n:Nat} (h:∀ k:Nat,k < n->P k) {w:Int} (h0:0 <= w) (h1:w < n):P w:=by
  obtain ⟨k,rfl⟩:=Int.eq_ofNat_of_zero_le h0
  exact h k (Int.ofNat_lt.mp h1)
theorem eK {w:Int} {n:Nat} (h0:0 <= w) (h1:w < n):w.toNat < n:=lv (P:=fun w=>w.toNat < n) (fun _ h=>h) h0 h1
theorem wY {a:Int} {k N:Nat} (hN:N ≠ 0):((a + k) % N).toNat=((a % N).toNat + k) % N:=by
  have hz:(N:Int) ≠ 0:=Int.ofNat_ne_zero.mpr hN
  rw [<- Int.emod_add_emod]
  obtain ⟨m,hm⟩:=Int.eq_ofNat_of_zero_le (Int.emod_nonneg a hz)
  rw [hm,Int.toNat_natCast,<- Int.natCast_add,<- Int.natCast_emod,Int.toNat_natCast]
theorem be:am=1000000:=rfl
theorem mG {f:PV->ac->af (Option PV)} {g:PV->PV}:∀ (xs:List PV),(∀ x ∈ xs,f x σ=.ok (some (g x)) σ)->bh none f xs σ=.ok (xs.map g) σ
  | [],_=>if_pos trivial
  | x::xs,h=>by
    refine (if_pos trivial).trans ?_
    rw [h x List.mem_cons_self]
    show (bh none f xs σ).bind _=_
    rw [mG xs fun y hy=>h y (List.mem_cons_of_mem _ hy)]
    rfl
theorem qr {t:Nat} {cap:List (Option Nat)} {elt it:X} {xs:List PV} (g:PV->PV) (hit:evIt C it ρ σ=.ok (xs,none) σ) (hl:xs.length <= am)
    (h:∀ x ∈ xs,ev C elt ((aR cap ρ).set t (some x)) σ=.ok (g x) σ) (hh:C.hd=false:=by first | rfl | assumption):ev C (.comp true t cap elt (.k (.bool true)) it) ρ σ=.ok (.fl (xs.map g)) σ:=by
  rw [et,hh,hit]
  show cW xs.length (bh none (fun x σ=>((af.ok true σ).bind fun b σ=>if b=true then (ev C elt ((aR cap ρ).set t (some x)) σ).bind fun v σ=>.ok (some v) σ else .ok none σ)) xs σ) _=_
  rw [mG (g:=g) xs fun x hx=>by
    show (ev C elt ((aR cap ρ).set t (some x)) σ).bind _=_
    rw [h x hx]; rfl]
  exact l9 (by simpa using hl)
section
variable {a b c r:X} {σ₁ σ₂ σ₃:ac} {x y z:PV}
theorem aC {o:Op} {v:af PV} (ha:ev C a ρ σ=.ok x σ₁) (hb:ev C b ρ σ₁=.ok y σ₂) (h:fS o x y σ₂=v):ev C (.bin o a b) ρ σ=v:=by
  rw [afa,ha,av,hb,av,h]
theorem bH {v:af PV} (ha:ev C a ρ σ=.ok x σ₁) (hb:ev C b ρ σ₁=.ok y σ₂) (h:dK x y σ₂=v):ev C (.sub a b) ρ σ=v:=by
  rw [ae8,ha,av,hb,av,h]
theorem vC {o lo hi v:PV} {a b:Option Int} (h1:gr lo=some a) (h2:gr hi=some b) (h:slV σ o a b=some v):fJ o lo hi σ=.ok v σ:=by
  unfold fJ
  rw [h1,h2]
  show af.ofOpt (slV σ o a b) σ=_
  rw [h]; rfl
theorem afw {xs:List PV} {lo hi:PV} {a b:Option Int} (h1:gr lo=some a) (h2:gr hi=some b) (hl:xs.length <= am):fJ (.fl xs) lo hi σ=.ok (.fl (bo xs a b)) σ:=
  vC h1 h2 (show (if xs.length <= am then some (PV.fl (bo xs a b)) else none)=_ from if_pos hl)
theorem yC {v:af PV} (ha:ev C a ρ σ=.ok x σ₁) (hb:ev C b ρ σ₁=.ok y σ₂) (hc:ev C c ρ σ₂=.ok z σ₃) (h:fJ x y z σ₃=v):ev C (.slice a b c) ρ σ=v:=by
  rw [wM,ha,av,hb,av,hc,av,h]
theorem afW {k:B1}:kM false k x σ=db k x σ:=rfl
theorem cQ {k:B1} {v:af PV} (ha:ev C a ρ σ=.ok x σ₁) (h:db k x σ₁=v) (hh:C.hd=false:=by first | rfl | assumption):ev C (.b1 k a) ρ σ=v:=by
  rw [adv,ha,av,hh,afW,h]
theorem abx {v:af PV} (ha:ev C a ρ σ=.ok x σ₁) (hb:ev C b ρ σ₁=.ok y σ₂) (h:oZ x y σ₂=v) (hh:C.hd=false:=by first | rfl | assumption):ev C (.min2 a b) ρ σ=v:=by
  rw [yz,hh]
  show (ev C a ρ σ).bind _=_
  rw [ha,av,hb,av,h]
theorem aT {f:Nat} {v:af PV} (ha:ev C a ρ σ=.ok x σ₁) (h:C.call f [x] σ₁=v):ev C (.call f (.cons a .nil)) ρ σ=v:=by
  rw [o7,cJ,ha,av,jy]; exact h
theorem di {f:Nat} {v:af PV} (ha:ev C a ρ σ=.ok x σ₁) (hb:ev C b ρ σ₁=.ok y σ₂) (h:C.call f [x,y] σ₂=v):ev C (.call f (.cons a (.cons b .nil))) ρ σ=v:=by
  rw [o7,cJ,ha,av,cJ,hb,av,jy]; exact h
theorem fw {f:Nat} {v:af PV} (ha:ev C a ρ σ=.ok x σ₁) (hb:ev C b ρ σ₁=.ok y σ₂) (hc:ev C c ρ σ₂=.ok z σ₃) (h:C.call f [x,y,z] σ₃=v):ev C (.call f (.cons a (.cons b (.cons c .nil)))) ρ σ=v:=by
  rw [o7,cJ,ha,av,cJ,hb,av,cJ,hc,av,jy]; exact h
theorem gW {m:Me} {v:af PV} (ha:ev C a ρ σ=.ok x σ₁) (hm:pT m x σ₁=true) (hb:ev C b ρ σ₁=.ok y σ₂) (h:kf m x [y] σ₂=v):ev C (.me m a (.cons b .nil)) ρ σ=v:=by
  rw [adu,ha,av,if_pos hm,cJ,hb,av,jy]; exact h
theorem cK {t:Ty} {q:Bool} (ha:ev C a ρ σ=.ok x σ₁) (h:fk x t σ₁=.ok q σ₁):ev C (.isinst a t) ρ σ=.ok (.bool q) σ₁:=by
  rw [abv,ha,av,h]; rfl
theorem jk {o:Cm} {q:Bool} (ha:ev C a ρ σ=.ok x σ₁) (hb:ev C b ρ σ₁=.ok y σ₂) (h:bn o x y σ₂=.ok q σ₃):ev C (.cmp a o b) ρ σ=.ok (.bool q) σ₃:=by
  rw [ae9,ha,av,hb,av,h]; rfl
theorem kK {xs:X} {v:af PV} (h:evAnd C xs ρ σ=v):ev C (.and xs) ρ σ=v:=h
theorem ij {v:af PV} (h:ev C a ρ σ=v):evAnd C (.cons a .nil) ρ σ=v:=h
theorem gk {xs:X} {v:af Bool} (h:tstAnd C xs ρ σ=v):tst C (.and xs) ρ σ=v:=h
theorem ey {xs:X} {v:af Bool} (h:tstOr C xs ρ σ=v):tst C (.or xs) ρ σ=v:=h
theorem gf {v:af PV} (ha:ev C a ρ σ=.ok (.bool true) σ₁) (hb:evAnd C (.cons b r) ρ σ₁=v):evAnd C (.cons a (.cons b r)) ρ σ=v:=by
  rw [gV,ha]; exact hb
theorem aN {o:Cm} {v:af Bool} (ha:ev C a ρ σ=.ok x σ₁) (hb:ev C b ρ σ₁=.ok y σ₂) (h:bn o x y σ₂=v):tst C (.cmp a o b) ρ σ=v:=by
  rw [ya,ha,av,hb,av,h]
theorem ce {q:Bool} (ha:tst C a ρ σ=.ok q σ₁):tst C (.not a) ρ σ=.ok (!q) σ₁:=by
  rw [adH,ha]; rfl
theorem ec {f:Nat} {args:X} {q:Bool} (h:ev C (.call f args) ρ σ=.ok (.bool q) σ₁):tst C (.call f args) ρ σ=.ok q σ₁:=by
  rw [ab2,h]; rfl
theorem aga {k:B1} {q:Bool} (h:ev C (.b1 k a) ρ σ=.ok (.bool q) σ₁):tst C (.b1 k a) ρ σ=.ok q σ₁:=by
  rw [aew,h]; rfl
theorem cZ {t:Ty} {q:Bool} (h:ev C (.isinst a t) ρ σ=.ok (.bool q) σ₁):tst C (.isinst a t) ρ σ=.ok q σ₁:=by
  rw [yV,h]; rfl
theorem dm {v:af Bool} (ha:tst C a ρ σ=.ok false σ₁) (h:tstOr C r ρ σ₁=v):tstOr C (.cons a r) ρ σ=v:=by
  rw [dk,ha]; exact h
theorem jA (ha:tst C a ρ σ=.ok true σ₁):tstOr C (.cons a r) ρ σ=.ok true σ₁:=by
  rw [dk,ha]; rfl
theorem jq {v:af Bool} (ha:tst C a ρ σ=.ok true σ₁) (h:tstAnd C r ρ σ₁=v):tstAnd C (.cons a r) ρ σ=v:=by
  rw [cS,ha]; exact h
theorem jr (ha:tst C a ρ σ=.ok false σ₁):tstAnd C (.cons a r) ρ σ=.ok false σ₁:=by
  rw [cS,ha]; rfl
theorem qJ {q p:Bool} (ha:tst C a ρ σ=.ok q σ₁) (h:q=false->tstOr C r ρ σ₁=.ok p σ₁):tstOr C (.cons a r) ρ σ=.ok (q || p) σ₁:=by
  rw [dk,ha,av]
  cases q
  · exact h rfl
  · rfl
theorem fI {q:Bool} (ha:tst C a ρ σ=.ok q σ₁):tstOr C (.cons a .nil) ρ σ=.ok q σ₁:=by
  rw [dk,ha,av]
  cases q <;> rfl
theorem r9 {q p:Bool} (ha:tst C a ρ σ=.ok q σ₁) (h:q=true->tstAnd C r ρ σ₁=.ok p σ₁):tstAnd C (.cons a r) ρ σ=.ok (q && p) σ₁:=by
  rw [cS,ha,av]
  cases q
  · rfl
  · exact h rfl
theorem fZ {q:Bool} (ha:tst C a ρ σ=.ok q σ₁):tstAnd C (.cons a .nil) ρ σ=.ok q σ₁:=by
  rw [cS,ha,av]
  cases q <;> rfl
theorem sV {q p:Bool} (ha:ev C a ρ σ=.ok (.bool q) σ₁) (h:q=true->evAnd C (.cons b r) ρ σ₁=.ok (.bool p) σ₁):evAnd C (.cons a (.cons b r)) ρ σ=.ok (.bool (q && p)) σ₁:=by
  rw [gV,ha]
  cases q
  · rfl
  · exact h rfl
theorem iz {i j k:Int} (ha:ev C a ρ σ=.ok (.int i) σ) (hb:ev C b ρ σ=.ok (.int j) σ) (hc:ev C c ρ σ=.ok (.int k) σ):ev C (.cmp2 a .le b .le c) ρ σ=.ok (.bool (decide (i <= j) && decide (j <= k))) σ:=by
  rw [aem,ha,av,hb,av,le_int,av]
  cases decide (i <= j)
  · rfl
  · rw [if_pos rfl,hc,av,le_int]; rfl
theorem pt {i j k:Int} (ha:ev C a ρ σ=.ok (.int i) σ) (hb:ev C b ρ σ=.ok (.int j) σ) (hc:ev C c ρ σ=.ok (.int k) σ):tst C (.cmp2 a .le b .le c) ρ σ=.ok (decide (i <= j) && decide (j <= k)) σ:=by
  rw [u5,ha,av,hb,av,le_int,av]
  cases decide (i <= j)
  · rfl
  · rw [if_pos rfl,hc,av,le_int]; rfl
theorem aF {vs:List PV} (ha:ev C a ρ σ=.ok x σ₁) (h:evs C r ρ σ₁=.ok vs σ₂):evs C (.cons a r) ρ σ=.ok (x::vs) σ₂:=by
  rw [cJ,ha,av,h]; rfl
theorem eF {xs:X} {vs:List PV} (h:evs C xs ρ σ=.ok vs σ₁) (hl:vs.length <= am):ev C (.tup xs) ρ σ=.ok (.tup vs) σ₁:=by
  rw [ae7,h,av,if_pos hl]
theorem acS {xs:X} {vs:List PV} (h:evs C xs ρ σ=.ok vs σ₁) (hl:vs.length <= am):ev C (.lst true xs) ρ σ=.ok (.fl vs) σ₁:=by
  rw [abu,h,av,l9 hl]
theorem yD {ks:List Str} {vals:List PV} {k:Str} (ha:ev C a ρ σ=.ok (.str k) σ₁) (hb:ev C b ρ σ₁=.ok y σ₂):ev C (.fdget ks vals a b) ρ σ=.ok ((hH k (ks.zip vals)).getD y) σ₂:=by
  rw [acR,ha,av,hb,av]; rfl
end
theorem aa {a r:S} {ρ':aw} {σ':ac} (h:ex C n a ρ σ=.next ρ' σ'):ex C n (.cons a r) ρ σ=ex C n r ρ' σ':=by
  show (match ex C n a ρ σ with | .next ρ σ=>ex C n r ρ σ | o=>o)=_
  rw [h]
theorem ao {a r:S} {v:PV} {ρ':aw} {σ':ac} (h:ex C n a ρ σ=.ret v ρ' σ'):ex C n (.cons a r) ρ σ=.ret v ρ' σ':=by
  show (match ex C n a ρ σ with | .next ρ σ=>ex C n r ρ σ | o=>o)=_
  rw [h]
theorem abp {a r:S} {ρ':aw} {σ':ac} (h:ex C n a ρ σ=.brk ρ' σ'):ex C n (.cons a r) ρ σ=.brk ρ' σ':=by
  show (match ex C n a ρ σ with | .next ρ σ=>ex C n r ρ σ | o=>o)=_
  rw [h]
theorem a7 {i:Nat} {x:X} {v:PV} {σ':ac} (h:ev C x ρ σ=.ok v σ'):ex C n (.asg i x) ρ σ=.next (ρ.set i (some v)) σ':=by
  show (ev C x ρ σ).toS ρ _=_
  rw [h]; rfl
theorem aB {x:X} {v:PV} {σ':ac} (h:ev C x ρ σ=.ok v σ'):ex C n (.ret x) ρ σ=.ret v ρ σ':=by
  show (ev C x ρ σ).toS ρ _=_
  rw [h]; rfl
theorem cb {x:X} {σ':ac} (h:ev C x ρ σ=.ok .none σ'):ex C n (.expr x) ρ σ=.next ρ σ':=by
  show (ev C x ρ σ).toS ρ _=_
  rw [h]; rfl
theorem aV {c:X} {a b:S} {σ':ac} (h:tst C c ρ σ=.ok true σ'):ex C n (.ife c a b) ρ σ=ex C n a ρ σ':=by
  show (tst C c ρ σ).toS ρ _=_
  rw [h]; rfl
theorem aH {c:X} {a b:S} {σ':ac} (h:tst C c ρ σ=.ok false σ'):ex C n (.ife c a b) ρ σ=ex C n b ρ σ':=by
  show (tst C c ρ σ).toS ρ _=_
  rw [h]; rfl
theorem aj:ex C n .nil ρ σ=.next ρ σ:=rfl
theorem yx {b h:S} {sup:List Nat} {i:Nat} {o:bQ} (e:ex C n b ρ σ=o) (ho:∀ c ρ σ,o ≠ .exc c ρ σ):ex C n (.tryE b sup i h) ρ σ=o:=by
  show (match ex C n b ρ σ with
    | .exc c ρ σ=>bif C.rz then (if sup.contains c/\i < ρ.length then iG (ex C.inH n h (ρ.set i (some (.exc c))) σ) else bQ.stuck) else .stuck
    | o=>o)=_
  rw [e]
  cases o <;> first | rfl | exact absurd rfl (ho _ _ _)
theorem sU {b h:S} {sup:List Nat} {i c:Nat} {ρ':aw} {σ':ac} (e:ex C n b ρ σ=.exc c ρ' σ') (hc:sup.contains c=true) (hi:i < ρ'.length) (hh:C.rz=true:=by first | rfl | assumption) :
    ex C n (.tryE b sup i h) ρ σ=iG (ex C.inH n h (ρ'.set i (some (.exc c))) σ'):=by
  show (match ex C n b ρ σ with
    | .exc c ρ σ=>bif C.rz then (if sup.contains c/\i < ρ.length then iG (ex C.inH n h (ρ.set i (some (.exc c))) σ) else bQ.stuck) else .stuck
    | o=>o)=_
  rw [e,hh]
  exact if_pos ⟨hc,hi⟩
theorem cu {a r:S} {c:Nat} {ρ':aw} {σ':ac} (h:ex C n a ρ σ=.exc c ρ' σ'):ex C n (.cons a r) ρ σ=.exc c ρ' σ':=by
  show (match ex C n a ρ σ with | .next ρ σ=>ex C n r ρ σ | o=>o)=_
  rw [h]
theorem yy {c:Nat} {x:X} {σ':ac} (h:ev C x ρ σ=.exc c σ'):ex C n (.ret x) ρ σ=.exc c ρ σ':=by
  show (ev C x ρ σ).toS ρ _=_
  rw [h]; rfl
theorem j1 {c:Nat} (hh:C.rz=true:=by first | rfl | assumption):ex C n (.raise c) ρ σ=.exc c ρ σ:=by
  show (bif C.rz then bQ.exc c ρ σ else .stuck)=_
  rw [hh]; rfl
section
variable {bnd:PV->aw->Option aw} {f:aw->ac->bQ} {x:PV} {xs:List PV} {ρ₁ ρ₂:aw} {σ₂:ac}
theorem cH:bB none bnd f [] ρ σ=.next ρ σ:=if_pos trivial
theorem bZ (hb:bnd x ρ=some ρ₁) (h:f ρ₁ σ=.next ρ₂ σ₂):bB none bnd f (x::xs) ρ σ=bB none bnd f xs ρ₂ σ₂:=by
  refine (if_pos trivial).trans ?_
  rw [hb]; show jF _ (f ρ₁ σ)=_; rw [h]; rfl
theorem aeh (hb:bnd x ρ=some ρ₁) (h:f ρ₁ σ=.brk ρ₂ σ₂):bB none bnd f (x::xs) ρ σ=.next ρ₂ σ₂:=by
  refine (if_pos trivial).trans ?_
  rw [hb]; show jF _ (f ρ₁ σ)=_; rw [h]; rfl
theorem dQ {i:Nat} {it:X} {body:S} {ys:List PV} {σ₁:ac} {o:bQ} (hit:evIt C it ρ σ=.ok (ys,none) σ₁) (h:bB none (cI i) (fun ρ σ=>ex C n body ρ σ) ys ρ σ₁=o) (hh:C.hd=false:=by first | rfl | assumption):ex C n (.for1 i it body) ρ σ=o:=by
  show (bif C.hd then bQ.stuck else (evIt C it ρ σ).toS ρ _)=_
  rw [hh,hit]; exact h
end
theorem acY {P:g9} {d f:Nat} {vs:List PV} {fn:Fn} (hf:P.fns[f]?=some fn) (hl:vs.length=fn.params) :
    aU P n (d + 1) f vs σ=aX (ex (eY P n 0 d) n fn.body (vs.map some++List.replicate (fn.slots - fn.params) none) σ):=by
  show (match P.fns[f]? with
    | some fn=>if vs.length=fn.params then
        match ex (eY P n 0 d) n fn.body (vs.map some++List.replicate (fn.slots - fn.params) none) σ with
        | .next _ σ=>af.ok PV.none σ
        | .ret v _ σ=>.ok v σ
        | .exc i _ σ=>.exc i σ
        | _=>.stuck
      else .stuck
    | none=>.stuck)=_
  rw [hf]
  dsimp only
  rw [if_pos hl]
  cases ex (eY P n 0 d) n fn.body (vs.map some++List.replicate (fn.slots - fn.params) none) σ <;> rfl
end
end Mine
namespace Mine
open PySem
end Mine
namespace Mine
open PySem
noncomputable def CC (d:Nat):a8:=eY PP topN 0 d
theorem bz {d f:Nat} {vs:List PV} {σ:ac} {fn:Fn} (hf:PP.fns[f]?=some fn) (hl:vs.length=fn.params) :
    aU PP topN (d + 1) f vs σ=aX (ex (CC d) topN fn.body (vs.map some++List.replicate (fn.slots - fn.params) none) σ):=acY hf hl
noncomputable def bY:List Nat:=("abcdefghijklmnopqrstuvwxyz" : Str).cps.toList
noncomputable def pW:List Nat:=("0123456789" : Str).cps.toList
structure cN (s:Str):Prop where
  pos:1 <= s.length
  len:s.length <= 8
  fst:∀ c,s.cps.toList[0]?=some c->c ∈ bY
  all:∀ c ∈ s.cps.toList,c ∈ bY\/c ∈ pW
noncomputable def lX (c:Nat):Bool:=bY.contains c || pW.contains c
noncomputable def dX (s:Str):Bool:=decide (1 <= s.length) && decide (s.length <= 8) && (s.cps.toList.take 1).all (fun c=>bY.contains c) && s.cps.toList.all lX
theorem pS {s:Str} (h:dX s=true):cN s:=by
  simp only [dX,lX,Bool.and_eq_true,decide_eq_true_eq,List.all_eq_true,Bool.or_eq_true,List.contains_iff_mem] at h
  refine ⟨h.1.1.1,h.1.1.2,fun c hc=>?_,h.2⟩
  refine h.1.2 c ?_
  cases hq:s.cps.toList with
  | nil=>rw [hq] at hc; cases hc
  | cons x r=>rw [hq] at hc; simp at hc; subst hc; simp
theorem vT {s:Str} (h:cN s):dX s=true:=by
  simp only [dX,lX,Bool.and_eq_true,decide_eq_true_eq,List.all_eq_true,Bool.or_eq_true,List.contains_iff_mem]
  refine ⟨⟨⟨h.pos,h.len⟩,fun c hc=>h.fst c ?_⟩,h.all⟩
  cases hq:s.cps.toList with
  | nil=>rw [hq] at hc; simp at hc
  | cons x r=>rw [hq] at hc; simp at hc; simp [hc]
section
variable {d:Nat} {σ:ac}
theorem h0 {i:Int}:aU PP topN (d + 1) gz [.int i] σ=.ok (.bool (decide (0 <= i) && decide (i <= 999999))) σ:=by
  rw [bz (fn:=ji) rfl rfl]
  have:ex (CC d) topN ji.body [some (.int i),none,none,none,none] σ=.ret (.bool (decide (0 <= i) && decide (i <= 999999))) [some (.int i),none,none,none,none] σ:=
    ao (aB (kK (gf (σ₁:=σ) rfl (gf (σ₁:=σ) rfl (ij (iz rfl rfl rfl))))))
  show aX (ex (CC d) topN ji.body [some (.int i),none,none,none,none] σ)=_
  rw [this]; rfl
theorem aaK {c:Nat} {y:Str}:bn .notin (.str ⟨#[c]⟩) (.str y) σ=.ok (!(y.cps.toList.contains c)) σ:=rfl
theorem afh {α:Type} {xs:List α} {g:α->Bool}:db .all (.fl (xs.map fun x=>.bool (g x))) σ=.ok (.bool (xs.all g)) σ:=by
  have e:∀ xs:List α,dB (xs.map fun x=>.bool (g x))=some (xs.map g):=by
    intro xs
    induction xs with
    | nil=>rfl
    | cons x xs ih =>
      show (dB (xs.map fun x=>.bool (g x))).map (g x::·)=_
      rw [ih]; rfl
  refine (zw (σ:=σ) (a:=.fl _) (l:=xs.map g) (g:=dB) (e xs)).trans ?_
  rw [List.all_map]; rfl
theorem qw {C:a8} {ρ:aw} {α:Type} {t:Nat} {cap:List (Option Nat)} {elt it:X} {xs:List α} {w:α->PV} {g:α->Bool} (hit:evIt C it ρ σ=.ok (xs.map w,none) σ) (hl:xs.length <= am)
    (h:∀ x ∈ xs,ev C elt ((aR cap ρ).set t (some (w x))) σ=.ok (.bool (g x)) σ) (hh:C.hd=false:=by first | rfl | assumption):ev C (.b1 .all (.comp true t cap elt (.k (.bool true)) it)) ρ σ=.ok (.bool (xs.all g)) σ:=by
  refine cQ (x:=.fl (xs.map fun x=>.bool (g x))) (σ₁:=σ) ?_ afh hh
  rw [et,hh,hit]
  show cW xs.length (bh none (fun x σ=>((af.ok true σ).bind fun b σ=>if b=true then (ev C elt ((aR cap ρ).set t (some x)) σ).bind fun v σ=>.ok (some v) σ else .ok none σ)) (xs.map w) σ) _=_
  have e:∀ ys:List α,(∀ x ∈ ys,ev C elt ((aR cap ρ).set t (some (w x))) σ=.ok (.bool (g x)) σ)->bh none (fun x σ=>((af.ok true σ).bind fun b σ=>if b=true then (ev C elt ((aR cap ρ).set t (some x)) σ).bind fun v σ=>.ok (some v) σ else .ok none σ)) (ys.map w) σ=.ok (ys.map fun x=>.bool (g x)) σ:=by
    intro ys
    induction ys with
    | nil=>intro _; exact if_pos trivial
    | cons y ys ih =>
      intro hy
      refine (if_pos trivial).trans ?_
      dsimp only
      rw [av,if_pos rfl,hy y List.mem_cons_self,av,av]
      rw [ih fun x hx=>hy x (List.mem_cons_of_mem _ hx)]
      rfl
  rw [e xs h]
  exact l9 (by simpa using hl)
theorem h1 {s:Str} (hlen:s.length <= am):aU PP topN (d + 1) ki [.str s] σ=.ok (.bool (dX s)) σ:=by
  rw [bz (fn:=tQ) rfl rfl]
  show aX (ex (CC d) topN (.cons gS (.cons jZ .nil)) [some (.str s),none,none,none,none,none,none] σ)=_
  have hsz:s.length=s.cps.toList.length:=by simp [Str.length]
  have e0:tst (CC d) (.or (.cons (.not (.isinst (.v 0) .str)) (.cons (.not (.cmp2 (.k (.int 1)) .le (.b1 .len (.v 0)) .le (.k (.int 8)))) (.cons (.cmp (.sub (.v 0) (.k (.int 0))) .notin (.k (.str "abcdefghijklmnopqrstuvwxyz"))) .nil)))) [some (.str s),none,none,none,none,none,none] σ =
      .ok (!(decide (1 <= s.length) && decide (s.length <= 8)) || !(s.cps.toList.take 1).all (fun c=>bY.contains c)) σ:=by
    refine ey (dm (σ₁:=σ) rfl (qJ ((ce (pt rfl (cQ rfl (len_str hlen)) rfl)).trans ?_) fun hq=>fI ?_))
    · rw [show decide ((1:Int) <= (s.length:Int))=decide (1 <= s.length) from decide_eq_decide.mpr (by omega),show decide ((s.length:Int) <= 8)=decide (s.length <= 8) from decide_eq_decide.mpr (by omega)]
    · simp only [Bool.not_eq_false',Bool.and_eq_true,decide_eq_true_eq] at hq
      cases hx:s.cps.toList with
      | nil=>rw [hsz,hx] at hq; simp at hq
      | cons c r =>
        refine (aN (bH rfl rfl (yg (c:=c) (i:=0) hlen (by omega) (by rw [hx]; rfl))) rfl aaK).trans ?_
        show af.ok (!bY.contains c) σ=_
        simp
  have e1:ex (CC d) topN jZ [some (.str s),none,none,none,none,none,none] σ=.ret (.bool (s.cps.toList.all lX)) [some (.str s),none,none,none,none,none,none] σ:=by
    refine aB (qw (xs:=s.cps.toList) (w:=fun c=>.str ⟨#[c]⟩) (g:=lX) rfl (by rw [<- hsz]; exact hlen) fun c hc=>?_)
    rw [afS,kI]
    show (if bY.contains c=true then af.ok (PV.bool (bY.contains c)) σ else _)=_
    unfold lX
    cases q:bY.contains c with
    | true=>rfl
    | false=>rfl
  cases hq:(!(decide (1 <= s.length) && decide (s.length <= 8)) || !(s.cps.toList.take 1).all (fun c=>bY.contains c)) with
  | true =>
    rw [hq] at e0
    rw [ao (a:=gS) ((aV e0).trans (ao (aB rfl)))]
    have:dX s=false:=by
      unfold dX
      revert hq
      cases (decide (1 <= s.length) && decide (s.length <= 8)) <;> cases ((s.cps.toList.take 1).all fun c=>bY.contains c) <;> simp
    rw [this]; rfl
  | false =>
    rw [hq] at e0
    rw [aa (a:=gS) ((aH e0).trans aj),ao e1]
    have:dX s=s.cps.toList.all lX:=by
      unfold dX
      revert hq
      cases (decide (1 <= s.length) && decide (s.length <= 8)) <;> cases ((s.cps.toList.take 1).all fun c=>bY.contains c) <;> simp
    rw [this]; rfl
end
end Mine
namespace Mine
open PySem
noncomputable def iC (l:List Str) (m:Nat):Bool:=(decide (1 <= l.length) && decide (l.length <= m)) && l.all dX
section
variable {d:Nat} {σ:ac}
theorem rL {a b:Nat}:decide ((a:Int) <= (b:Int))=decide (a <= b):=decide_eq_decide.mpr (by omega)
theorem h2 {l:List Str} {m:Nat} (h:∀ n ∈ l,n.length <= am) (hl:l.length <= am):aU PP topN (d + 2) cB [.tup (l.map .str),.int m] σ=.ok (.bool (iC l m)) σ:=by
  have hlim:(l.map PV.str).length <= am:=by rw [List.length_map]; exact hl
  rw [bz (fn:=iw) rfl rfl]
  have:ex (CC (d + 1)) topN iw.body [some (.tup (l.map .str)),some (.int m),none,none,none,none] σ=.ret (.bool (iC l m)) [some (.tup (l.map .str)),some (.int m),none,none,none,none] σ:=by
    refine ao (aB (kK (gf (cK rfl rfl) (sV ?_ fun _=>ij ?_))))
    · refine (iz (i:=((1:Nat):Int)) (k:=(m:Int)) rfl (cQ rfl (sk hlim)) rfl).trans ?_
      rw [List.length_map,rL,rL]
    · exact qw (xs:=l) (w:=.str) (g:=dX) rfl hl fun n hn=>aT rfl (h1 (h n hn))
  show aX (ex (CC (d + 1)) topN iw.body [some (.tup (l.map .str)),some (.int m),none,none,none,none] σ)=_
  rw [this]; rfl
theorem pG:∀ l:List Str,dj (l.map .str)=some l
  | []=>rfl
  | x::l=>by
    show (dj (l.map .str)).map (x::·)=_
    rw [pG l]; rfl
theorem qp:∀ (l a:List Str),a.Nodup->(l.foldl (fun a x=>if a.any (· == x) then a else a++[x]) a).length <= a.length + l.length ∧
    ((l.foldl (fun a x=>if a.any (· == x) then a else a++[x]) a).length=a.length + l.length ↔ (a++l).Nodup)
  | [],a,h=>by simpa using h
  | x::l,a,h=>by
    rw [List.foldl_cons]
    cases hx:a.any (· == x) with
    | true =>
      rw [if_pos rfl]
      obtain ⟨h1,h2⟩:=qp l a h
      rw [List.length_cons]
      refine ⟨by omega,⟨fun q=>absurd q (by omega),fun q=>?_⟩⟩
      obtain ⟨y,hy,e⟩:=List.any_eq_true.mp hx
      have e:y=x:=by simpa using e
      subst e
      rw [List.nodup_append] at q
      exact absurd rfl (q.2.2 y hy y (by simp))
    | false =>
      rw [if_neg (by simp)]
      have hn:(a++[x]).Nodup:=by
        rw [List.nodup_append]
        refine ⟨h,by simp,fun y hy z hz e=>?_⟩
        rw [List.mem_singleton] at hz
        subst hz; subst e
        rw [List.any_eq_false] at hx
        exact hx y hy (by simp)
      obtain ⟨h1,h2⟩:=qp l (a++[x]) hn
      rw [List.length_append,List.length_singleton] at h1 h2
      rw [List.length_cons]
      refine ⟨by omega,?_⟩
      rw [List.append_assoc,List.singleton_append] at h2
      rw [<- h2]
      omega
theorem abB {l:List Str}:(cm l).length=l.length ↔ l.Nodup:=by
  have:=(qp l [] (by simp)).2
  rw [List.length_nil,Nat.zero_add,List.nil_append] at this
  exact this
noncomputable def cU (l:List Str):Bool:=(cm l).length == l.length
theorem pr {l:List Str}:cU l=true ↔ l.Nodup:=by
  unfold cU; rw [beq_iff_eq]; exact abB
theorem aa2 {v:PV} {l:List Str} (hv:a5 σ v=some (l.map .str)) (hl:l.length <= 1000):db .lenset v σ=.ok (.int (cm l).length) σ:=by
  have e:db .lenset v σ=match (a5 σ v).bind dj with
    | some l=>if l.length <= 1000 then .ok (.int (cm l).length) σ else .stuck
    | none=>.stuck:=by cases v <;> rfl
  rw [e,hv]
  show (match dj (l.map .str) with
    | some l=>if l.length <= 1000 then af.ok (PV.int (cm l).length) σ else .stuck
    | none=>.stuck)=_
  rw [pG]
  dsimp only
  rw [if_pos hl]
theorem yt {v:PV} {xs:List PV} (hv:a5 σ v=some xs) (hn:∀ s,v ≠ .str s) (hl:xs.length <= am):db .len v σ=.ok (.int xs.length) σ:=by
  have e:db .len v σ=kc (fun xs=>if xs.length <= am then .ok (.int xs.length) σ else .stuck) v σ:=by cases v <;> first | rfl | exact absurd rfl (hn _)
  rw [e,gu hv,if_pos hl]
theorem h3 {v:PV} {l:List Str} (hv:a5 σ v=some (l.map .str)) (hn:∀ s,v ≠ .str s) (hl:l.length <= 1000):aU PP topN (d + 1) c8 [v] σ=.ok (.bool (cU l)) σ:=by
  rw [bz (fn:=gT) rfl rfl]
  have:ex (CC d) topN gT.body [some v,none,none] σ=.ret (.bool (cU l)) [some v,none,none] σ:=by
    refine ao (aB ?_)
    refine jk (q:=cU l) (cQ rfl (aa2 hv hl)) (cQ rfl (yt hv hn (by rw [List.length_map]; exact Nat.le_trans hl (by decide)))) ?_
    rw [dv,List.length_map]
    unfold cU
    congr 1
    rw [Bool.eq_iff_iff]; simp only [beq_iff_eq]; omega
  show aX (ex (CC d) topN gT.body [some v,none,none] σ)=_
  rw [this]; rfl
inductive dc where
  | word (w:Str)
  | fixed (v:Int)
noncomputable def dc.pv:dc->PV
  | .word w=>.tup [.str w]
  | .fixed v=>.tup [.str "fixed",.int v]
inductive cM:dc->Nat->Nat->Prop where
  | sum (n g:Nat):cM (.word "sum") n g
  | times (n g:Nat):cM (.word "times") n g
  | least (n g:Nat):cM (.word "least") n g
  | most (n g:Nat):cM (.word "most") n g
  | later (g:Nat):cM (.word "later") 1 g
  | way:cM (.word "way") 2 2
  | choose (g:Nat):cM (.word "choose") 3 g
  | fixed (v:Int) (n g:Nat):0 <= v->v <= 999999->cM (.fixed v) n g
noncomputable def jc:dc->Nat->Nat->Bool
  | .fixed v,_,_=>decide (0 <= v) && decide (v <= 999999)
  | .word w,n,g=>if w == ("fixed" : Str) then false else if w == ("later" : Str) then n == 1 else if w == ("way" : Str) then (n == 2 && g == 2) else if w == ("choose" : Str) then n == 3 else
      [("sum" : Str), "times", "least", "most"].any fun y=>y == w
theorem ach {r:dc} {n g:Nat} (h:jc r n g=true):cM r n g:=by
  cases r with
  | fixed v =>
    simp only [jc,Bool.and_eq_true,decide_eq_true_eq] at h
    exact .fixed v n g h.1 h.2
  | word w =>
    simp only [jc] at h
    split at h
    · cases h
    · split at h
      · rename_i q; rw [beq_iff_eq] at q h; subst q; subst h; exact .later g
      · split at h
        · rename_i q; rw [Bool.and_eq_true] at h; rw [beq_iff_eq] at q h; obtain ⟨h1,h2⟩:=h; rw [beq_iff_eq] at h2; subst q; subst h1; subst h2; exact .way
        · split at h
          · rename_i q; rw [beq_iff_eq] at q h; subst q; subst h; exact .choose g
          · simp only [List.any_cons,List.any_nil,Bool.or_false,Bool.or_eq_true,beq_iff_eq] at h
            rcases h with q | q | q | q
            · rw [<- q]; exact .sum n g
            · rw [<- q]; exact .times n g
            · rw [<- q]; exact .least n g
            · rw [<- q]; exact .most n g
theorem aci {r:dc} {n g:Nat} (h:cM r n g):jc r n g=true:=by
  cases h with
  | fixed v n g q1 q2=>simp [jc,q1,q2]
  | _=>rfl
theorem pg {n k:Nat}:((n:Int) == ((k:Nat):Int))=(n == k):=by
  rw [Bool.eq_iff_iff]; simp only [beq_iff_eq]; omega
theorem aaS {w:Str}:bn .isin (.str w) (.tup [.str "sum",.str "times",.str "least",.str "most"]) σ=.ok ([("sum" : Str), "times", "least", "most"].any fun y=>y == w) σ:=rfl
theorem h4 {r:dc} {n g:Nat}:aU PP topN (d + 2) tK [r.pv,.int n,.int g] σ=.ok (.bool (jc r n g)) σ:=by
  rw [bz (fn:=kF) rfl rfl]
  cases r with
  | fixed v =>
    have:ex (CC (d + 1)) topN kF.body [some (.tup [.str "fixed",.int v]),some (.int n),some (.int g),none,none,none,none,none,none] σ=.ret (.bool (jc (.fixed v) n g)) [some (.tup [.str "fixed",.int v]),some (.int n),some (.int g),none,none,none,none,none,none] σ:=by
      refine (aa (a:=gQ) (ρ':=[some (.tup [.str "fixed",.int v]),some (.int n),some (.int g),none,none,none,none,none,none]) (σ':=σ) rfl).trans (ao (a:=eV) ?_)
      refine (aV (σ':=σ) rfl).trans (ao (aB ?_))
      exact kK (gf rfl (ij (aT rfl h0)))
    show aX (ex (CC (d + 1)) topN kF.body [some (.tup [.str "fixed",.int v]),some (.int n),some (.int g),none,none,none,none,none,none] σ)=_
    rw [this]; rfl
  | word w =>
    show aX (ex (CC (d + 1)) topN (.cons gQ (.cons eV (.cons jV (.cons gP (.cons gO (.cons gN (.cons jU .nil))))))) [some (.tup [.str w]),some (.int n),some (.int g),none,none,none,none,none,none] σ)=_
    have ts:∀ k:Str,tst (CC (d + 1)) (.cmp (.sub (.v 0) (.k (.int 0))) .eq (.k (.str k))) [some (.tup [.str w]),some (.int n),some (.int g),none,none,none,none,none,none] σ=.ok (w == k) σ:=fun k=>rfl
    rw [aa (a:=gQ) (ρ':=[some (.tup [.str w]),some (.int n),some (.int g),none,none,none,none,none,none]) (σ':=σ) rfl]
    simp only [jc]
    cases h1:w == ("fixed" : Str) with
    | true =>
      rw [ao (a:=eV) ((aV (σ':=σ) (by rw [ts,h1])).trans (ao (aB (kK (v:=.ok (.bool false) σ) rfl))))]; rfl
    | false =>
      rw [aa (a:=eV) ((aH (σ':=σ) (by rw [ts,h1])).trans aj)]
      rw [aa (a:=jV) (ρ':=[some (.tup [.str w]),some (.int n),some (.int g),none,none,none,none,none,none]) (σ':=σ) rfl]
      cases h2:w == ("later" : Str) with
      | true =>
        rw [ao (a:=gP) ((aV (σ':=σ) (by rw [ts,h2])).trans (ao (aB (jk (x:=.int n) (y:=.int ((1:Nat):Int)) (σ₁:=σ) (σ₂:=σ) rfl rfl (dv.trans (by rw [pg]))))))]; rfl
      | false =>
        rw [aa (a:=gP) ((aH (σ':=σ) (by rw [ts,h2])).trans aj)]
        cases h3:w == ("way" : Str) with
        | true =>
          rw [ao (a:=gO) ((aV (σ':=σ) (by rw [ts,h3])).trans (ao (aB (kK (sV (q:=n == 2) (p:=g == 2) (jk (x:=.int n) (y:=.int ((2:Nat):Int)) (σ₁:=σ) (σ₂:=σ) rfl rfl (dv.trans (by rw [pg]))) fun _=>ij (jk (x:=.int g) (y:=.int ((2:Nat):Int)) (σ₁:=σ) (σ₂:=σ) rfl rfl (dv.trans (by rw [pg]))))))))]; rfl
        | false =>
          rw [aa (a:=gO) ((aH (σ':=σ) (by rw [ts,h3])).trans aj)]
          cases h4:w == ("choose" : Str) with
          | true =>
            rw [ao (a:=gN) ((aV (σ':=σ) (by rw [ts,h4])).trans (ao (aB (jk (x:=.int n) (y:=.int ((3:Nat):Int)) (σ₁:=σ) (σ₂:=σ) rfl rfl (dv.trans (by rw [pg]))))))]; rfl
          | false =>
            rw [aa (a:=gN) ((aH (σ':=σ) (by rw [ts,h4])).trans aj)]
            rw [ao (a:=jU) (aB (jk (x:=.str w) (y:=.tup [.str "sum",.str "times",.str "least",.str "most"]) (σ₁:=σ) (σ₂:=σ) rfl rfl aaS))]; rfl
end
end Mine
namespace Mine
open PySem
structure ah where
  name:Str
  rule:dc
  needs:List Str
  gives:List Str
noncomputable def ah.pv (s:ah):PV:=.tup [.str s.name,s.rule.pv,.tup (s.needs.map .str),.tup (s.gives.map .str)]
structure iH (s:ah):Prop where
  name:cN s.name
  needs:∀ n ∈ s.needs,cN n
  needs1:1 <= s.needs.length
  needs4:s.needs.length <= 4
  gives:∀ n ∈ s.gives,cN n
  gives1:1 <= s.gives.length
  gives3:s.gives.length <= 3
  unlike:s.gives.Nodup
  rule:cM s.rule s.needs.length s.gives.length
structure bD (p:List ah):Prop where
  pos:1 <= p.length
  most:p.length <= 20
  steps:∀ s ∈ p,iH s
  names:(p.map (·.name)).Nodup
  gives:(p.flatMap (·.gives)).Nodup
noncomputable def ak (p:List ah):PV:=.tup (p.map ah.pv)
noncomputable def j8 (s:ah):Bool:=dX s.name && (iC s.needs 4 && (iC s.gives 3 && (cU s.gives && jc s.rule s.needs.length s.gives.length)))
noncomputable def qP (p:List ah):Bool:=(decide (1 <= p.length) && decide (p.length <= 20)) && (p.all j8 && (cU (p.map (·.name)) && cU (p.flatMap (·.gives))))
theorem qT {l:List Str} {m:Nat}:iC l m=true ↔ (∀ n ∈ l,cN n)/\1 <= l.length/\l.length <= m:=by
  simp only [iC,Bool.and_eq_true,decide_eq_true_eq,List.all_eq_true]
  exact ⟨fun h=>⟨fun n hn=>pS (h.2 n hn),h.1⟩,fun h=>⟨h.2,fun n hn=>vT (h.1 n hn)⟩⟩
theorem tu {s:ah}:j8 s=true ↔ iH s:=by
  simp only [j8,Bool.and_eq_true,qT,pr]
  constructor
  · rintro ⟨a,b,c,e,f⟩
    exact ⟨pS a,b.1,b.2.1,b.2.2,c.1,c.2.1,c.2.2,e,ach f⟩
  · intro h
    exact ⟨vT h.name,⟨h.needs,h.needs1,h.needs4⟩,⟨h.gives,h.gives1,h.gives3⟩,h.unlike,aci h.rule⟩
theorem aaI {p:List ah}:qP p=true ↔ bD p:=by
  simp only [qP,Bool.and_eq_true,pr,decide_eq_true_eq,List.all_eq_true,tu]
  constructor
  · rintro ⟨⟨a,b⟩,c,e,f⟩
    exact ⟨a,b,c,e,f⟩
  · intro h
    exact ⟨⟨h.pos,h.most⟩,h.steps,h.names,h.gives⟩
structure aac (s:ah):Prop where
  name:s.name.length <= am
  needs:∀ n ∈ s.needs,n.length <= am
  needsl:s.needs.length <= am
  gives:∀ n ∈ s.gives,n.length <= am
  givesl:s.gives.length <= am
section
variable {d:Nat} {σ:ac}
theorem aeV {xs:List Str} (h:xs.length <= am):db .len (.tup (xs.map .str)) σ=.ok (.int xs.length) σ:=by
  rw [sk (by rw [List.length_map]; exact h),List.length_map]
theorem aeq {a b:Bool}:(!a || !b)=!(a && b):=by cases a <;> cases b <;> rfl
theorem h5 {s:ah} (h:aac s):aU PP topN (d + 3) tJ [s.pv] σ=.ok (.bool (j8 s)) σ:=by
  rw [bz (fn:=tO) rfl rfl]
  show aX (ex (CC (d + 2)) topN (.cons gM (.cons dN (.cons jT .nil))) [some s.pv,none,none,none,none,none,none,none,none,none] σ)=_
  have e0:tst (CC (d + 2)) (.or (.cons (.not (.isinst (.v 0) .tuple)) (.cons (.cmp (.b1 .len (.v 0)) .ne (.k (.int 4))) (.cons (.not (.call ki (.cons (.sub (.v 0) (.k (.int 0))) .nil))) .nil)))) [some s.pv,none,none,none,none,none,none,none,none,none] σ=.ok (!dX s.name) σ:=
    ey (dm (σ₁:=σ) rfl (dm (σ₁:=σ) rfl (fI (ce (ec (aT (x:=.str s.name) (σ₁:=σ) rfl (h1 h.name)))))))
  unfold j8
  cases q0:dX s.name with
  | false =>
    rw [q0] at e0
    rw [ao (a:=gM) ((aV e0).trans (ao (aB rfl)))]; rfl
  | true =>
    rw [q0] at e0
    rw [aa (a:=gM) ((aH e0).trans aj)]
    cases q1:iC s.needs 4 with
    | false =>
      have e1:tst (CC (d + 2)) (.or (.cons (.not (.call cB (.cons (.sub (.v 0) (.k (.int 2))) (.cons (.k (.int 4)) .nil)))) (.cons (.not (.call cB (.cons (.sub (.v 0) (.k (.int 3))) (.cons (.k (.int 3)) .nil)))) (.cons (.not (.call c8 (.cons (.sub (.v 0) (.k (.int 3))) .nil))) .nil)))) [some s.pv,none,none,none,none,none,none,none,none,none] σ=.ok true σ:=
        ey (jA (ce (q:=false) (ec (di (x:=.tup (s.needs.map .str)) (y:=.int ((4:Nat):Int)) (σ₁:=σ) (σ₂:=σ) rfl rfl ((h2 h.needs h.needsl).trans (by rw [q1]))))))
      rw [ao (a:=dN) ((aV e1).trans (ao (aB rfl)))]; rfl
    | true =>
      cases q2:iC s.gives 3 with
      | false =>
        have e1:tst (CC (d + 2)) (.or (.cons (.not (.call cB (.cons (.sub (.v 0) (.k (.int 2))) (.cons (.k (.int 4)) .nil)))) (.cons (.not (.call cB (.cons (.sub (.v 0) (.k (.int 3))) (.cons (.k (.int 3)) .nil)))) (.cons (.not (.call c8 (.cons (.sub (.v 0) (.k (.int 3))) .nil))) .nil)))) [some s.pv,none,none,none,none,none,none,none,none,none] σ=.ok true σ:=
          ey (dm (ce (q:=true) (ec (di (x:=.tup (s.needs.map .str)) (y:=.int ((4:Nat):Int)) (σ₁:=σ) (σ₂:=σ) rfl rfl ((h2 h.needs h.needsl).trans (by rw [q1]))))) (jA (ce (q:=false) (ec (di (x:=.tup (s.gives.map .str)) (y:=.int ((3:Nat):Int)) (σ₁:=σ) (σ₂:=σ) rfl rfl ((h2 h.gives h.givesl).trans (by rw [q2])))))))
        rw [ao (a:=dN) ((aV e1).trans (ao (aB rfl)))]; rfl
      | true =>
        have g3:=(qT.mp q2).2.2
        have e1:tst (CC (d + 2)) (.or (.cons (.not (.call cB (.cons (.sub (.v 0) (.k (.int 2))) (.cons (.k (.int 4)) .nil)))) (.cons (.not (.call cB (.cons (.sub (.v 0) (.k (.int 3))) (.cons (.k (.int 3)) .nil)))) (.cons (.not (.call c8 (.cons (.sub (.v 0) (.k (.int 3))) .nil))) .nil)))) [some s.pv,none,none,none,none,none,none,none,none,none] σ=.ok (!cU s.gives) σ:=
          ey (dm (ce (q:=true) (ec (di (x:=.tup (s.needs.map .str)) (y:=.int ((4:Nat):Int)) (σ₁:=σ) (σ₂:=σ) rfl rfl ((h2 h.needs h.needsl).trans (by rw [q1]))))) (dm (ce (q:=true) (ec (di (x:=.tup (s.gives.map .str)) (y:=.int ((3:Nat):Int)) (σ₁:=σ) (σ₂:=σ) rfl rfl ((h2 h.gives h.givesl).trans (by rw [q2])))))
            (fI (ce (ec (aT (x:=.tup (s.gives.map .str)) (σ₁:=σ) rfl (h3 rfl (fun _ q=>by cases q) (Nat.le_trans g3 (by decide)))))))))
        cases q3:cU s.gives with
        | false =>
          rw [q3] at e1
          rw [ao (a:=dN) ((aV e1).trans (ao (aB rfl)))]; rfl
        | true =>
          rw [q3] at e1
          rw [aa (a:=dN) ((aH e1).trans aj)]
          rw [ao (a:=jT) (aB (fw (x:=s.rule.pv) (σ₁:=σ) rfl (cQ (x:=.tup (s.needs.map .str)) (σ₁:=σ) rfl (aeV h.needsl)) (cQ (x:=.tup (s.gives.map .str)) (σ₁:=σ) rfl (aeV h.givesl)) h4))]
          rfl
theorem ri {pl:PV} {σ₀:ac} {d:Nat}:∀ (p:List ah) (y:Option PV) (acc:List Str),acc.length + 3 * p.length <= 1000->(∀ s ∈ p,s.gives.length <= 3) ->
    ∃ y',bB none (cI 1) (fun ρ σ=>ex (CC d) topN m7 ρ σ) (p.map ah.pv) [some pl,y,some (.ref σ₀.length),none,none,none,none,none,none] (σ₀++[.lst (acc.map .str)]) =
      .next [some pl,y',some (.ref σ₀.length),none,none,none,none,none,none] (σ₀++[.lst ((acc++p.flatMap (·.gives)).map .str)])
  | [],y,acc,_,_=>⟨y,by simpa using cH⟩
  | s::p,y,acc,h,hs=>by
    have hg:=hs s (by simp)
    obtain ⟨y',ih⟩:=ri (pl:=pl) (σ₀:=σ₀) (d:=d) p (some s.pv) (acc++s.gives) (by rw [List.length_append]; rw [List.length_cons] at h; omega) fun t ht=>hs t (List.mem_cons_of_mem _ ht)
    refine ⟨y',(bZ (ρ₁:=[some pl,some s.pv,some (.ref σ₀.length),none,none,none,none,none,none]) (ρ₂:=[some pl,some s.pv,some (.ref σ₀.length),none,none,none,none,none,none]) (σ₂:=σ₀++[.lst ((acc++s.gives).map .str)]) rfl ?_).trans (ih.trans (by simp [List.flatMap_cons]))⟩
    have hat:(σ₀++[MO.lst (acc.map .str)])[σ₀.length]?=some (.lst (acc.map .str)):=by simp
    refine (aa (cb (gW (m:=.extend) (x:=.ref σ₀.length) (σ₁:=σ₀++[.lst (acc.map .str)]) (σ₂:=σ₀++[.lst (acc.map .str)]) rfl ?_ (y:=.tup (s.gives.map .str)) rfl ?_))).trans aj
    · show fm (.ref σ₀.length) _=true
      unfold fm; dsimp only; rw [hat]
    · show dP (.ref σ₀.length) (.tup (s.gives.map .str)) _=_
      unfold dP; dsimp only; rw [hat]; dsimp only
      rw [if_pos (by rw [List.length_map,List.length_map,be]; omega)]
      simp
theorem su:∀ (q:List ah),(∀ s ∈ q,s.gives.length <= 3)->(q.flatMap (·.gives)).length <= 3 * q.length
  | [],_=>by simp
  | s::q,hs=>by
    have h1:=su q fun t ht=>hs t (List.mem_cons_of_mem _ ht)
    have h2:=hs s (by simp)
    rw [List.flatMap_cons,List.length_append,List.length_cons]; omega
theorem h6x {p:List ah} (h:∀ s ∈ p,aac s) (hl:p.length <= am):∃ τ,aU PP topN (d + 4) gc [ak p] σ=.ok (.bool (qP p)) (σ++τ):=by
  have hlim:(p.map ah.pv).length <= am:=by rw [List.length_map]; exact hl
  have hlen:∀ {σ:ac},db .len (ak p) σ=.ok (.int p.length) σ:=fun {σ}=>by
    show db .len (.tup (p.map ah.pv)) σ=_
    rw [sk hlim,List.length_map]
  rw [bz (fn:=tP) rfl rfl]
  show ∃ τ,aX (ex (CC (d + 3)) topN (.cons gR (.cons jY (.cons jX (.cons jW .nil)))) [some (ak p),none,none,none,none,none,none,none,none] σ)=_
  have e0:tst (CC (d + 3)) (.or (.cons (.not (.isinst (.v 0) .tuple)) (.cons (.not (.cmp2 (.k (.int 1)) .le (.b1 .len (.v 0)) .le (.k (.int 20)))) (.cons (.not (.b1 .all ou)) .nil)))) [some (ak p),none,none,none,none,none,none,none,none] σ=.ok (!(decide (1 <= p.length) && decide (p.length <= 20)) || !p.all j8) σ:=by
    refine ey (dm (σ₁:=σ) rfl (qJ ((ce (pt (i:=((1:Nat):Int)) (k:=((20:Nat):Int)) rfl (cQ rfl hlen) rfl)).trans (by rw [rL,rL])) fun _=>fI (ce (aga (qw (xs:=p) (w:=ah.pv) (g:=j8) rfl hl fun s hs=>?_)))))
    exact aT rfl (h5 (h s hs))
  rw [aeq] at e0
  unfold qP
  rw [<- Bool.and_assoc]
  cases q0:((decide (1 <= p.length) && decide (p.length <= 20)) && p.all j8) with
  | false =>
    rw [q0] at e0
    exact ⟨[],by rw [ao (a:=gR) ((aV e0).trans (ao (aB rfl))),List.append_nil]; rfl⟩
  | true =>
    rw [q0] at e0
    simp only [Bool.and_eq_true,decide_eq_true_eq,List.all_eq_true,tu] at q0
    obtain ⟨⟨p1,p20⟩,hs⟩:=q0
    have e1:ex (CC (d + 3)) topN jY [some (ak p),none,none,none,none,none,none,none,none] σ=.next [some (ak p),none,some (.ref σ.length),none,none,none,none,none,none] (σ++[.lst []]):=rfl
    obtain ⟨y',e2⟩:=ri (pl:=ak p) (σ₀:=σ) (d:=d + 3) p none [] (by simp; omega) fun s hq=>(hs s hq).gives3
    have e2':ex (CC (d + 3)) topN jX [some (ak p),none,some (.ref σ.length),none,none,none,none,none,none] (σ++[.lst []])=.next [some (ak p),y',some (.ref σ.length),none,none,none,none,none,none] (σ++[.lst ((p.flatMap (·.gives)).map .str)]):=
      dQ (ys:=p.map ah.pv) (σ₁:=σ++[.lst []]) rfl e2
    have hgl:(p.flatMap (·.gives)).length <= 60:=by
      have h1:=su p fun s hq=>(hs s hq).gives3
      omega
    have e3:ex (CC (d + 3)) topN jW [some (ak p),y',some (.ref σ.length),none,none,none,none,none,none] (σ++[.lst ((p.flatMap (·.gives)).map .str)])=.ret (.bool (cU (p.map (·.name)) && cU (p.flatMap (·.gives)))) [some (ak p),y',some (.ref σ.length),none,none,none,none,none,none] (σ++[.lst ((p.flatMap (·.gives)).map .str)]):=by
      have hat:(σ++[MO.lst ((p.flatMap (·.gives)).map .str)])[σ.length]?=some (.lst ((p.flatMap (·.gives)).map .str)):=by simp
      have c1:ev (CC (d + 3)) oq [some (ak p),y',some (.ref σ.length),none,none,none,none,none,none] (σ++[.lst ((p.flatMap (·.gives)).map .str)])=.ok (.fl ((p.map (·.name)).map .str)) (σ++[.lst ((p.flatMap (·.gives)).map .str)]):=by
        refine (qr (fun x=>match x with | .tup (.str n::_)=>.str n | _=>.none) (xs:=p.map ah.pv) rfl hlim fun x hx=>?_).trans ?_
        · obtain ⟨s,hs,rfl⟩:=List.mem_map.mp hx
          rfl
        · rw [List.map_map,List.map_map]; rfl
      refine aB (kK (sV (aT c1 (h3 rfl (fun _ q=>by cases q) (by rw [List.length_map]; exact Nat.le_trans p20 (by decide)))) fun _=>(ij (aT rfl (h3 ?_ (fun _ q=>by cases q) (Nat.le_trans hgl (by decide)))))))
      unfold a5; dsimp only; rw [hat]
    refine ⟨[.lst ((p.flatMap (·.gives)).map .str)],?_⟩
    rw [aa (a:=gR) ((aH e0).trans aj),aa e1,aa e2',ao e3]; rfl
theorem h6 {p:List ah} (h:∀ s ∈ p,aac s) (hl:p.length <= am):∃ σ',aU PP topN (d + 4) gc [ak p] σ=.ok (.bool (qP p)) σ':=let ⟨_,e⟩:=h6x h hl; ⟨_,e⟩
end
section
variable {d:Nat} {σ:ac} {C:a8} {ρ:aw}
theorem hO {n:Nat} (h:n <= 100) {a:X} (ha:ev C a ρ σ=.ok (.int n) σ):evIt C (.range1 a) ρ σ=.ok (aP 0 1 n,none) σ:=by
  rw [k8,ha,av]
  show (if 0 <= (n:Int)/\(n:Int) <= am then af.ok (aP 0 1 (n:Int).toNat,none) σ else .stuck)=_
  rw [if_pos ⟨by omega,by rw [be]; omega⟩]; rfl
theorem eO {n:Nat} {x:PV} (h:x ∈ aP 0 1 n):∃ i:Nat,i < n/\x=.int i:=by
  obtain ⟨i,hi,rfl⟩:=List.mem_map.mp h
  exact ⟨i,List.mem_range.mp hi,by simp⟩
theorem cO {ws:List Str} (h:ws.length <= 100):(ws.map PV.str).length <= am:=by rw [List.length_map]; exact Nat.le_trans h (by decide)
theorem acl {p:List ah} (hl:p.length <= 20):(p.map ah.pv).length <= am:=by rw [List.length_map]; exact Nat.le_trans hl (by decide)
end
end Mine
namespace Mine
open PySem
section
variable {d:Nat} {σ:ac} {C:a8} {ρ:aw}
theorem h12 {l:List Int} (hl:l.length <= 63) {k:Nat}:aU PP topN (d + 1) bj [.fl (l.map .int),.int k] σ=.ok (.int (l.getD k 0)) σ:=by
  rw [bz (fn:=eh) rfl rfl]
  have hlim:(l.map PV.int).length <= am:=by rw [List.length_map]; exact Nat.le_trans hl (by decide)
  have hlen:db .len (.fl (l.map .int)) σ=.ok (.int l.length) σ:=by rw [vY hlim,List.length_map]
  show aX (ex (CC d) topN eh.body [some (.fl (l.map .int)),some (.int k),none] σ)=_
  by_cases h:k < l.length
  · have:ex (CC d) topN eh.body [some (.fl (l.map .int)),some (.int k),none] σ=.ret (.int (l.getD k 0)) [some (.fl (l.map .int)),some (.int k),none] σ:=by
      refine ao ((aV (σ':=σ) (aN (x:=.int k) (σ₁:=σ) rfl (cQ (x:=.fl (l.map .int)) (σ₁:=σ) rfl hlen) ?_)).trans (ao (aB (bH (x:=.fl (l.map .int)) (y:=.int k) (σ₁:=σ) (σ₂:=σ) rfl rfl (dL hlim (by omega) ?_)))))
      · rw [lt_int,decide_eq_true (by (exact Int.ofNat_lt.mpr (by assumption)))]
      · simp [h]
    rw [this]; rfl
  · have:ex (CC d) topN eh.body [some (.fl (l.map .int)),some (.int k),none] σ=.ret (.int 0) [some (.fl (l.map .int)),some (.int k),none] σ:=by
      refine (aa (ρ':=[some (.fl (l.map .int)),some (.int k),none]) (σ':=σ) ((aH (σ':=σ) (aN (x:=.int k) (σ₁:=σ) rfl (cQ (x:=.fl (l.map .int)) (σ₁:=σ) rfl hlen) ?_)).trans aj)).trans (ao (aB rfl))
      rw [lt_int,decide_eq_false (by (exact fun q=>(by assumption:¬ _) (Int.ofNat_lt.mp q)))]
    have e:l.getD k 0=0:=by simp [List.getD,Nat.not_lt.mp h]
    rw [this,e]; rfl
noncomputable def eR (p:Int):Int:=(p * 48271 + 11) % 2147483647 * ((p * 48271 + 11) % 2147483647) % 2147483629
theorem zx (p:Int):0 <= eR p:=Int.emod_nonneg _ (by decide)
theorem yw {p:Int}:aU PP topN (d + 1) cj [.int p] σ=.ok (.int (eR p)) σ:=by
  rw [bz (fn:=jh) rfl rfl]
  have:ex (CC d) topN jh.body [some (.int p),none] σ=.ret (.int (eR p)) [some (.int p),some (.int ((p * 48271 + 11) % 2147483647))] σ:=by
    refine (aa (ρ':=[some (.int p),some (.int ((p * 48271 + 11) % 2147483647))]) (σ':=σ) (a7 (aC (aC (aC (x:=.int p) (y:=.int 48271) (σ₁:=σ) (σ₂:=σ) rfl rfl (mul_int (.inr (by decide)))) (y:=.int 11) (σ₂:=σ) rfl add_int) (y:=.int 2147483647) (σ₂:=σ) rfl (bA (by decide))))).trans (ao (aB (aC (aC (x:=.int ((p * 48271 + 11) % 2147483647)) (y:=.int ((p * 48271 + 11) % 2147483647)) (σ₁:=σ) (σ₂:=σ) rfl rfl (mul_int (.inl ?_))) (y:=.int 2147483629) (σ₂:=σ) rfl (bA (by decide)))))
    have h1:=Int.emod_nonneg (p * 48271 + 11) (show (2147483647:Int) ≠ 0 by decide)
    have h2:=Int.emod_lt_of_pos (p * 48271 + 11) (show (0:Int) < 2147483647 by decide)
    obtain ⟨w,hw⟩:=Int.eq_ofNat_of_zero_le h1
    rw [hw] at h2 ⊢
    exact Nat.lt_trans (Int.ofNat_lt.mp h2) (by decide)
  show aX (ex (CC d) topN jh.body [some (.int p),none] σ)=_
  rw [this]; rfl
theorem ly {p a b:Int} (ha:0 < a) (ha2:a < 1073741824) (hb:0 < b) {x:X} (hx:ev C x ρ σ=.ok (.int p) σ):ev C (.bin .mod (.bin .fdiv x (.k (.int a))) (.k (.int b))) ρ σ=.ok (.int (p / a % b)) σ:=
  aC (aC hx (y:=.int a) (σ₂:=σ) rfl (dz ha ha2)) (y:=.int b) (σ₂:=σ) rfl (bA hb)
theorem h15 {p:Int}:∃ v,0 <= v/\v <= 999999/\∀ {d:Nat} {σ:ac},aU PP topN (d + 1) iq [.int p] σ=.ok (.int v) σ:=by
  have m4:∀ {d:Nat} {σ:ac} (c:Int),tst (CC d) (.cmp (.bin .mod (.v 0) (.k (.int 4))) .eq (.k (.int c))) [some (.int p)] σ=.ok (p % 4 == c) σ:=fun {d σ} c =>
    aN (aC (x:=.int p) (y:=.int 4) (σ₁:=σ) (σ₂:=σ) rfl rfl (bA (by decide))) (y:=.int c) (σ₂:=σ) rfl dv
  have n0:=Int.emod_nonneg (p / 4) (show (4:Int) ≠ 0 by decide)
  have n1:=Int.emod_lt_of_pos (p / 4) (show (0:Int) < 4 by decide)
  have fin:∀ {d:Nat} {σ:ac} {v:Int},ex (CC d) topN iu.body [some (.int p)] σ=.ret (.int v) [some (.int p)] σ->aU PP topN (d + 1) iq [.int p] σ=.ok (.int v) σ:=fun {d σ v} h=>by
    rw [bz (fn:=iu) rfl rfl]
    show aX (ex (CC d) topN iu.body [some (.int p)] σ)=_
    rw [h]; rfl
  by_cases h0:p % 4=0
  · have hx:∃ v,0 <= v/\v <= 999999/\([PV.int 0,.int 0,.int 1,.int 999999])[(p / 4 % 4).toNat]?=some (.int v):=by
      refine lv (n:=4) (P:=fun w=>∃ v,0 <= v/\v <= 999999/\([PV.int 0,.int 0,.int 1,.int 999999])[w.toNat]?=some (.int v)) (bS (bS (bS (bS sY ?_) ?_) ?_) ?_) n0 n1
      · exact ⟨0,by decide,by decide,rfl⟩
      · exact ⟨0,by decide,by decide,rfl⟩
      · exact ⟨1,by decide,by decide,rfl⟩
      · exact ⟨999999,by decide,by decide,rfl⟩
    obtain ⟨v,v0,v1,hv⟩:=hx
    refine ⟨v,v0,v1,fun {d σ}=>fin (ao ((aV (σ':=σ) ((m4 0).trans (by rw [h0]; rfl))).trans (ao (aB (bH (x:=.fl [PV.int 0,.int 0,.int 1,.int 999999]) (σ₁:=σ) rfl (ly (by decide) (by decide) (by decide) rfl) (dL (by decide) n0 hv))))))⟩
  · have k0:∀ {d:Nat} {σ:ac},tst (CC d) (.cmp (.bin .mod (.v 0) (.k (.int 4))) .eq (.k (.int 0))) [some (.int p)] σ=.ok false σ:=fun {d σ}=>(m4 0).trans (by rw [show (p % 4 == 0)=false from beq_eq_false_iff_ne.mpr h0])
    by_cases h1:p % 4=1
    · have a0:=Int.emod_nonneg (p / 4) (show (1000000:Int) ≠ 0 by decide)
      have a1:=Int.emod_lt_of_pos (p / 4) (show (0:Int) < 1000000 by decide)
      refine ⟨p / 4 % 1000000,a0,by omega,fun {d σ}=>fin ((aa (ρ':=[some (.int p)]) (σ':=σ) ((aH (σ':=σ) k0).trans aj)).trans (ao ((aV (σ':=σ) ((m4 1).trans (by rw [h1]; rfl))).trans (ao (aB (aC (aC (x:=.int p) (y:=.int 4) (σ₁:=σ) (σ₂:=σ) rfl rfl (dz (by decide) (by decide))) (y:=.int 1000000) (σ₂:=σ) rfl (bA (by decide))))))))⟩
    · have a0:=Int.emod_nonneg (p / 4) (show (5:Int) ≠ 0 by decide)
      have a1:=Int.emod_lt_of_pos (p / 4) (show (0:Int) < 5 by decide)
      refine ⟨p / 4 % 5,a0,by omega,fun {d σ}=>fin ((aa (ρ':=[some (.int p)]) (σ':=σ) ((aH (σ':=σ) k0).trans aj)).trans ((aa (ρ':=[some (.int p)]) (σ':=σ) ((aH (σ':=σ) ((m4 1).trans (by rw [show (p % 4 == 1)=false from beq_eq_false_iff_ne.mpr h1]))).trans aj)).trans (ao (aB (ly (by decide) (by decide) (by decide) rfl)))))⟩
inductive RK:dc->Prop where
  | sum:RK (.word "sum")
  | times:RK (.word "times")
  | least:RK (.word "least")
  | most:RK (.word "most")
  | later:RK (.word "later")
  | way:RK (.word "way")
  | choose:RK (.word "choose")
  | fixed (v:Int):0 <= v->v <= 999999->RK (.fixed v)
theorem h16 {p w:Int} (h0:0 <= w) (h1:w < 12):∃ r:dc,RK r/\∀ {d:Nat} {σ:ac},aU PP topN (d + 2) ml [.int p,.int w] σ=.ok r.pv σ:=by
  refine lv (n:=12) (P:=fun w=>∃ r:dc,RK r/\∀ {d:Nat} {σ:ac},aU PP topN (d + 2) ml [.int p,.int w] σ=.ok r.pv σ) (bS (bS (bS (bS (bS (bS (bS (bS (bS (bS (bS (bS sY ?_) ?_) ?_) ?_) ?_) ?_) ?_) ?_) ?_) ?_) ?_) ?_) h0 h1
  · exact ⟨_,.sum,rfl⟩
  · exact ⟨_,.times,rfl⟩
  · exact ⟨_,.least,rfl⟩
  · exact ⟨_,.most,rfl⟩
  · obtain ⟨v,v0,v1,hv⟩:=h15 (p:=p)
    refine ⟨_,.fixed v v0 v1,fun {d σ}=>?_⟩
    rw [bz (fn:=jg) rfl rfl]
    have:ex (CC (d + 1)) topN jg.body [some (.int p),some (.int 4),none,none] σ=.ret (.tup [.str "fixed",.int v]) [some (.int p),some (.int 4),some (.str "fixed"),none] σ:=
      (aa (ρ':=[some (.int p),some (.int 4),some (.str "fixed"),none]) (σ':=σ) rfl).trans (ao ((aV (σ':=σ) rfl).trans (ao (aB (eF (vs:=[.str "fixed",.int v]) (aF (x:=.str "fixed") (σ₁:=σ) rfl (aF (x:=.int v) (σ₁:=σ) (aT (x:=.int p) (σ₁:=σ) rfl hv) rfl)) (show (2:Nat) <= am by decide))))))
    show aX (ex (CC (d + 1)) topN jg.body [some (.int p),some (.int 4),none,none] σ)=_
    rw [this]; rfl
  · exact ⟨_,.later,rfl⟩
  · exact ⟨_,.later,rfl⟩
  · exact ⟨_,.way,rfl⟩
  · exact ⟨_,.choose,rfl⟩
  · exact ⟨_,.way,rfl⟩
  · exact ⟨_,.choose,rfl⟩
  · exact ⟨_,.sum,rfl⟩
end
end Mine
namespace Mine
open PySem
noncomputable def gm:List Str:=["sum", "later", "way", "fixed", "a9", "b", "times", "choose", "least", "most", "z0", "put"]
noncomputable def uM (b k:Nat):Str:=(gm.getD ((b + k) % 12) "")++(if k / 12=0 then ("" : Str) else "x")
noncomputable def ls (b:Nat):List Str:=(List.range 24).map (uM b)
noncomputable def qS:List Str->Bool
  | []=>true
  | x::r=>!(r.any (· == x)) && qS r
theorem tB:∀ {l:List Str},qS l=true->l.Nodup
  | [],_=>.nil
  | x::r,h=>by
    simp only [qS,Bool.and_eq_true,Bool.not_eq_true',List.any_eq_false,beq_iff_eq] at h
    exact List.nodup_cons.mpr ⟨fun q=>h.1 x q rfl,tB h.2⟩
noncomputable def qQ (s:Str):Bool:=!(s.cps.toList.take 2 == [122,122]) && !(s.cps.toList.take 2 == [121,121])
noncomputable def fU (s:Str):Prop:=qQ s=true
theorem vS:∀ b:Nat,b < 12->(ls b).all qQ=true:=by decide +kernel
theorem xD:∀ b:Nat,b < 12->(qS (ls b) && (ls b).all dX)=true:=by decide +kernel
theorem adh {n:Nat}:(Txt.mul "m" (n:Int)).cps.toList=List.replicate n 109:=by
  have hm:("m" : Str)=⟨#[109]⟩:=by decide +kernel
  rw [hm]
  unfold Txt.mul
  by_cases h1:(n:Int) < 1
  · have:n=0:=by omega
    subst this; rw [if_pos h1]; rfl
  · rw [if_neg h1]
    by_cases h2:n=1
    · subst h2; rfl
    · rw [if_neg (by
        have:((n:Int) == 1)=false:=beq_eq_false_iff_ne.mpr (by omega)
        rw [this]; decide)]
      have key:∀ (k:Nat) (acc:Array Nat),((List.replicate k (#[109]:Array Nat)).foldl (·++·) acc).toList=acc.toList++List.replicate k 109:=by
        intro k
        induction k with
        | zero=>intro acc; simp
        | succ k ih =>
          intro acc
          rw [List.replicate_succ,List.foldl_cons,ih]
          simp [List.replicate_succ]
      have:=key n #[]
      simpa using this
noncomputable def bU:List Nat:=("abcdefghijklmnopqrstuvwxyz0123456789" : Str).cps.toList
noncomputable def ik (p q N b k:Nat):List Nat:=List.replicate p 109++bU.getD ((b + k) % N) 0::List.replicate q 109
noncomputable def fL (p q N b k:Nat):Str:=⟨(ik p q N b k).toArray⟩
noncomputable def iB (p q N b:Nat):List Str:=(List.range 24).map (fL p q N b)
theorem jB:bU.length=36/\bU.Nodup/\(∀ c ∈ bU,c ∈ bY\/c ∈ pW)/\(∀ i,i < 26->bU.getD i 0 ∈ bY)/\109 ∈ bY:=by decide +kernel
theorem adS {p q:Nat} {x y:Nat} (h:List.replicate p 109++x::List.replicate q 109=List.replicate p 109++y::List.replicate q 109):x=y:=
  (List.cons.inj (List.append_cancel_left h)).1
theorem aeF {i j:Nat} (hi:i < 36) (hj:j < 36) (h:bU.getD i 0=bU.getD j 0):i=j:=by
  obtain ⟨h1,h2,_⟩:=jB
  have e1:bU.getD i 0=bU[i]'(by (exact Nat.le_trans (by assumption) (by decide))):=by simp [List.getD,h1,hi]
  have e2:bU.getD j 0=bU[j]'(by (exact Nat.le_trans (by assumption) (by decide))):=by simp [List.getD,h1,hj]
  rw [e1,e2] at h
  have e3:bU[i]?=bU[j]?:=by rw [List.getElem?_eq_getElem (by (exact Nat.le_trans (by assumption) (by decide))),List.getElem?_eq_getElem (by (exact Nat.le_trans (by assumption) (by decide))),h]
  exact (List.getElem?_inj (by (assumption)) h2).mp e3
theorem xC {p q N b:Nat} (hs:p + 1 + q <= 8) (hN:(p=0/\N=26)\/(0 < p/\N=36)):(iB p q N b).Nodup/\∀ n ∈ iB p q N b,cN n:=by
  have hN1:24 <= N/\N <= 36:=by
    rcases hN with ⟨_,rfl⟩ | ⟨_,rfl⟩
    · decide
    · decide
  have hN0:0 < N:=Nat.lt_of_lt_of_le (by decide) hN1.1
  obtain ⟨f1,f2,f3,f4,f5⟩:=jB
  constructor
  · unfold iB
    rw [List.Nodup,List.pairwise_map]
    refine List.Pairwise.imp_of_mem ?_ (List.nodup_range (n:=24))
    intro i j hi hj hne e
    have hi:=List.mem_range.mp hi
    have hj:=List.mem_range.mp hj
    have e1:ik p q N b i=ik p q N b j:=by
      have:=congrArg (fun s:Str=>s.cps.toList) e
      simpa [fL] using this
    have e2:=adS e1
    have lt36:∀ {k:Nat},(b + k) % N < 36:=Nat.lt_of_lt_of_le (Nat.mod_lt _ hN0) hN1.2
    have e3:=aeF lt36 lt36 e2
    have key:∀ i j,j < 24->(b + i) % N=(b + j) % N->j <= i:=fun i j hj e=>by
      rcases Nat.le_total j i with h | h
      · exact h
      · have z:=Nat.sub_mod_eq_zero_of_mod_eq e.symm
        rw [Nat.add_sub_add_left,Nat.mod_eq_of_lt (Nat.lt_of_le_of_lt (Nat.sub_le _ _) (Nat.lt_of_lt_of_le hj hN1.1))] at z
        exact Nat.le_of_sub_eq_zero z
    exact hne (Nat.le_antisymm (key j i hi e3.symm) (key i j hj e3))
  · intro n hn
    obtain ⟨k,hk,rfl⟩:=List.mem_map.mp hn
    have m1:(b + k) % N < N:=Nat.mod_lt _ hN0
    have hin:bU.getD ((b + k) % N) 0 ∈ bU:=by
      have hlt:(b + k) % N < bU.length:=by rw [f1]; exact Nat.lt_of_lt_of_le m1 hN1.2
      rw [List.getD_eq_getElem?_getD,List.getElem?_eq_getElem hlt]; exact List.getElem_mem hlt
    have hl:(fL p q N b k).length=p + 1 + q:=by
      show (ik p q N b k).toArray.size=_
      simp [ik]; omega
    refine ⟨by rw [hl]; exact Nat.le_trans (Nat.le_add_left 1 p) (Nat.le_add_right _ q),by rw [hl]; exact hs,fun c hc=>?_,fun c hc=>?_⟩
    · have hc':(ik p q N b k)[0]?=some c:=by simpa [fL] using hc
      rcases hN with ⟨rfl,rfl⟩ | ⟨hp,rfl⟩
      · simp [ik] at hc'
        subst hc'
        have:=f4 _ m1
        simpa [List.getD] using this
      · obtain ⟨p',rfl⟩:∃ p',p=p' + 1:=⟨p - 1,by omega⟩
        simp [ik,List.replicate_succ] at hc'
        subst hc'; exact f5
    · have hc':c ∈ ik p q N b k:=by simpa [fL] using hc
      simp only [ik,List.mem_append,List.mem_cons,List.mem_replicate] at hc'
      rcases hc' with ⟨_,rfl⟩ | rfl | ⟨_,rfl⟩
      · exact .inl f5
      · exact f3 _ hin
      · exact .inl f5
theorem pP {x y:Nat} {r:List Nat} {s:Str} (h:s.cps.toList=x::y::r) (q:x=109\/y=109):fU s:=by
  unfold fU qQ
  rw [h]
  rcases q with rfl | rfl
  · rfl
  · show (!(x == 122 && (false && true)) && !(x == 121 && (false && true)))=true
    rw [Bool.false_and,Bool.and_false,Bool.and_false]; rfl
theorem vR {p q N b:Nat}:∀ n ∈ iB p q N b,fU n:=by
  intro n hn
  obtain ⟨k,hk,rfl⟩:=List.mem_map.mp hn
  have e:(fL p q N b k).cps.toList=ik p q N b k:=rfl
  generalize fL p q N b k=s at e
  unfold ik at e
  cases p with
  | zero =>
    cases q with
    | zero=>unfold fU qQ; rw [e]; show (!(_ && false) && !(_ && false))=true; rw [Bool.and_false,Bool.and_false]; rfl
    | succ q=>exact pP e (.inr rfl)
  | succ p =>
    cases p with
    | zero=>exact pP e (.inl rfl)
    | succ p=>exact pP e (.inl rfl)
end Mine
namespace Mine
open PySem
section
variable {d:Nat} {σ:ac} {C:a8} {ρ:aw}
theorem nF {n:Nat} {g:PV->PV} {f:Nat->Str} (h:∀ k,k < n->g (.int k)=.str (f k)):(aP 0 1 n).map g=((List.range n).map f).map .str:=by
  unfold aP
  rw [List.map_map,List.map_map]
  refine List.map_congr_left fun k hk=>?_
  show g (.int (0 + (k:Int) * 1))=.str (f k)
  rw [show (0 + (k:Int) * 1)=k by omega]
  exact h k (List.mem_range.mp hk)
theorem aat:∀ i,i < 12->(gm.map PV.str)[i]?=some (.str (gm.getD i "")):=fun i hi=>by
  rw [List.getElem?_map]
  have:gm.length=12:=rfl
  simp [List.getD,this,hi]
theorem zm:∀ i,i < 12->(gm.getD i ("" : Str)).length <= 8:=by decide +kernel
noncomputable abbrev R9 (a b c e f g h:Option PV):aw:=[a,b,c,e,f,g,h,none,none]
theorem xE {c:Int}:ev (CC d) lL (R9 (some (.int c)) (some (.fl (gm.map .str))) none none none none none) σ=.ok (.fl ((ls (c / 9 % 12).toNat).map .str)) σ:=by
  have n0:=Int.emod_nonneg (c / 9) (show (12:Int) ≠ 0 by decide)
  have n1:=Int.emod_lt_of_pos (c / 9) (show (0:Int) < 12 by decide)
  refine (qr (fun x=>match x with | .int i=>.str (uM (c / 9 % 12).toNat i.toNat) | _=>.none) (hO (n:=24) (by decide) rfl) (by rw [show (aP 0 1 24).length=24 by simp [aP]]; decide) fun x hx=>?_).trans (by rw [nF (f:=uM (c / 9 % 12).toNat) fun k hk=>by simp]; rfl)
  obtain ⟨k,hk,rfl⟩:=eO hx
  show _=af.ok (PV.str (uM (c / 9 % 12).toNat ((k:Int).toNat))) σ
  have hi:((c / 9 + k) % 12).toNat=((c / 9 % 12).toNat + k) % 12:=wY (N:=12) (by decide)
  have hlt:((c / 9 % 12).toNat + k) % 12 < 12:=Nat.mod_lt _ (by decide)
  have h2:([PV.str "",.str "x"])[((k:Int) / 12).toNat]?=some (.str (if k / 12=0 then ("" : Str) else "x")):=by
    have e:((k:Int) / 12).toNat=k / 12:=rfl
    rw [e]
    exact bS (P:=fun i=>([PV.str "",.str "x"])[i]?=some (.str (if i=0 then ("" : Str) else "x"))) (bS sY rfl) rfl _ (Nat.div_lt_of_lt_mul hk)
  refine aC (x:=.str (gm.getD (((c / 9 % 12).toNat + k) % 12) "")) (y:=.str (if k / 12=0 then ("" : Str) else "x")) (σ₁:=σ) (σ₂:=σ) ?_ ?_ ?_
  · refine bH (x:=.fl (gm.map .str)) (σ₁:=σ) rfl (aC (aC (aC (x:=.int c) (y:=.int 9) (σ₁:=σ) (σ₂:=σ) rfl rfl (dz (by decide) (by decide))) (y:=.int k) (σ₂:=σ) rfl add_int) (y:=.int 12) (σ₂:=σ) rfl (bA (by decide))) (dL (show (12:Nat) <= am by decide) (Int.emod_nonneg _ (by decide)) ?_)
    rw [hi]; exact aat _ hlt
  · exact bH (x:=.fl [.str "",.str "x"]) (σ₁:=σ) rfl (aC (x:=.int k) (y:=.int 12) (σ₁:=σ) (σ₂:=σ) rfl rfl (dz (by decide) (by decide))) (dL (show (2:Nat) <= am by decide) (by omega) h2)
  · have l1:=zm _ hlt
    have l2:(if k / 12=0 then ("" : Str) else "x").length <= 1:=by split <;> decide +kernel
    rw [add_str (by rw [be]; omega)]
    rfl
theorem yp {n:Int} (h0:0 <= n) (h1:n <= 100):fS .mul (.str "m") (.int n) σ=.ok (.str (Txt.mul "m" n)) σ:=by
  show (if ("m" : Str).length <= 100/\0 <= n/\n <= 100 then af.ok (PV.str (Txt.mul "m" n)) σ else .stuck)=_
  exact if_pos ⟨by decide +kernel,h0,h1⟩
theorem tW {σ₀:ac} {xs:List PV} {v:PV} (h:xs.length < 1000):kf .append (.ref σ₀.length) [v] (σ₀++[.lst xs])=.ok .none (σ₀++[.lst (xs++[v])]):=by
  have hat:(σ₀++[MO.lst xs])[σ₀.length]?=some (.lst xs):=by simp
  show cX (.ref σ₀.length) v (σ₀++[.lst xs])=_
  unfold cX; dsimp only; rw [hat]; dsimp only
  rw [if_pos (by rw [be]; (exact Nat.le_trans (by assumption) (by decide)))]
  simp
theorem iD {σ₀ τ:ac} {xs:List PV} {m:Me} (hm:m=.append\/m=.extend\/m=.pop):pT m (.ref σ₀.length) (σ₀++.lst xs::τ)=true:=by
  have hat:(σ₀++MO.lst xs::τ)[σ₀.length]?=some (.lst xs):=by simp
  have:fm (.ref σ₀.length) (σ₀++.lst xs::τ)=true:=by unfold fm; dsimp only; rw [hat]
  rcases hm with rfl | rfl | rfl <;> exact this
theorem aft {c:Int} {p q N k:Nat} (hs:p + 1 + q <= 8) (hN:(p=0/\N=26)\/(0 < p/\N=36)) (acc:List Str) (hacc:acc.length < 100) {z:Option PV} :
    ex (CC d) topN gJ (R9 (some (.int c)) (some (.str "abcdefghijklmnopqrstuvwxyz0123456789")) (some (.int k)) (some (.int ((p + 1 + q:Nat):Int))) (some (.int p)) (some (.ref σ.length)) z) (σ++[.lst (acc.map .str)]) =
      .next (R9 (some (.int c)) (some (.str "abcdefghijklmnopqrstuvwxyz0123456789")) (some (.int k)) (some (.int ((p + 1 + q:Nat):Int))) (some (.int p)) (some (.ref σ.length)) (some (.str ⟨#[bU.getD (((c / 64 % N).toNat + k) % N) 0]⟩))) (σ++[.lst ((acc++[fL p q N (c / 64 % N).toNat k]).map .str)]):=by
  obtain ⟨f1,f2,f3,f4,f5⟩:=jB
  have hN0:0 < N:=by omega
  have n0:=Int.emod_nonneg (c / 64) (show (N:Int) ≠ 0 by (exact Int.ofNat_ne_zero.mpr (Nat.ne_of_gt (by assumption))))
  have n1:=Int.emod_lt_of_pos (c / 64) (show (0:Int) < N by (exact Int.ofNat_lt.mpr (by assumption)))
  have hi:((c / 64 + k) % N).toNat=((c / 64 % N).toNat + k) % N:=wY (Nat.ne_of_gt hN0)
  have hlt:((c / 64 % N).toNat + k) % N < N:=Nat.mod_lt _ hN0
  have hsel:([PV.int 26,.int 36])[((if decide ((p:Int) > 0)=true then 1 else 0:Int)).toNat]?=some (.int N):=by
    rcases hN with ⟨rfl,rfl⟩ | ⟨hp,rfl⟩
    · rfl
    · rw [decide_eq_true (by omega)]; rfl
  have hsel0:(0:Int) <= (if decide ((p:Int) > 0)=true then 1 else 0:Int):=by split <;> decide
  have s1:ex (CC d) topN (.asg 6 (.sub (.v 1) (.bin .mod (.bin .add (.bin .fdiv (.v 0) (.k (.int 64))) (.v 2)) (.sub (.lst true (.cons (.k (.int 26)) (.cons (.k (.int 36)) .nil))) (.b1 .int (.cmp (.v 4) .gt (.k (.int 0)))))))) (R9 (some (.int c)) (some (.str "abcdefghijklmnopqrstuvwxyz0123456789")) (some (.int k)) (some (.int ((p + 1 + q:Nat):Int))) (some (.int p)) (some (.ref σ.length)) z) (σ++[.lst (acc.map .str)]) =
      .next (R9 (some (.int c)) (some (.str "abcdefghijklmnopqrstuvwxyz0123456789")) (some (.int k)) (some (.int ((p + 1 + q:Nat):Int))) (some (.int p)) (some (.ref σ.length)) (some (.str ⟨#[bU.getD (((c / 64 % N).toNat + k) % N) 0]⟩))) (σ++[.lst (acc.map .str)]):=by
    generalize hS:σ++[MO.lst (acc.map .str)]=S
    refine a7 (bH (x:=.str "abcdefghijklmnopqrstuvwxyz0123456789") (σ₁:=S) rfl (aC (aC (aC (x:=.int c) (y:=.int 64) (σ₁:=S) (σ₂:=S) rfl rfl (dz (by decide) (by decide))) (y:=.int k) (σ₂:=S) rfl add_int) (y:=.int N) (σ₂:=S) (bH (x:=.fl [.int 26,.int 36]) (σ₁:=S) rfl (cQ (jk (x:=.int p) (y:=.int 0) (σ₁:=S) (σ₂:=S) rfl rfl gt_int) int_bool) (dL (show (2:Nat) <= am by decide) hsel0 hsel)) (bA (by (exact Int.ofNat_lt.mpr (by assumption))))) (yg (by decide +kernel) (Int.emod_nonneg _ (by (exact Int.ofNat_ne_zero.mpr (Nat.ne_of_gt (by assumption))))) ?_))
    rw [hi]
    show bU[((c / 64 % N).toNat + k) % N]?=_
    simp [List.getD,f1,show ((c / 64 % N).toNat + k) % N < 36 by omega]
  refine (aa s1).trans ?_
  refine (aa (cb (gW (m:=.append) (x:=.ref σ.length) (σ₁:=σ++[.lst (acc.map .str)]) rfl (iD (.inl rfl)) (y:=.str (fL p q N (c / 64 % N).toNat k)) (σ₂:=σ++[.lst (acc.map .str)]) ?_ (tW (by rw [List.length_map]; (exact Nat.le_trans (by assumption) (by decide))))))).trans (by rw [aj,List.map_append]; rfl)
  generalize σ++[MO.lst (acc.map .str)]=S
  have hp:Txt.mul "m" (p:Int)=⟨(List.replicate p 109).toArray⟩:=Str.ext' (Array.toList_inj.mp (by rw [adh]))
  have hq:Txt.mul "m" (((p + 1 + q:Nat):Int) - 1 - p)=⟨(List.replicate q 109).toArray⟩:=by
    rw [show ((p + 1 + q:Nat):Int) - 1 - p=(q:Int) by omega]
    exact Str.ext' (Array.toList_inj.mp (by rw [adh]))
  refine aC (aC (aC (x:=.str "m") (y:=.int p) (σ₁:=S) (σ₂:=S) rfl rfl (yp (by omega) (by omega))) (y:=.str ⟨#[bU.getD (((c / 64 % N).toNat + k) % N) 0]⟩) (σ₂:=S) rfl (add_str ?_)) (aC (x:=.str "m") (σ₁:=S) rfl (aC (aC (x:=.int ((p + 1 + q:Nat):Int)) (y:=.int 1) (σ₁:=S) (σ₂:=S) rfl rfl sub_int) (y:=.int p) (σ₂:=S) rfl sub_int) (yp (by omega) (by omega))) ?_
  · rw [hp,be]
    show (List.replicate p 109).toArray.size + 1 <= _
    simp; omega
  · rw [hp,hq,add_str]
    · congr 1
      refine congrArg PV.str (Str.ext' ?_)
      simp [Str.cps_append,fL,ik]
    · rw [Str.length_append,be]
      show (List.replicate p 109).toArray.size + 1 + (List.replicate q 109).toArray.size <= _
      simp; (exact Nat.le_trans (by assumption) (by decide))
theorem adl {c:Int} {p q N:Nat} (hs:p + 1 + q <= 8) (hN:(p=0/\N=26)\/(0 < p/\N=36)):∀ (n k:Nat) (acc:List Str) (y z:Option PV),acc.length=k->k + n <= 24->∃ y' z',
    bB none (cI 2) (fun ρ σ=>ex (CC d) topN gJ ρ σ) ((List.range' k n).map fun (i:Nat)=>PV.int i) (R9 (some (.int c)) (some (.str "abcdefghijklmnopqrstuvwxyz0123456789")) y (some (.int ((p + 1 + q:Nat):Int))) (some (.int p)) (some (.ref σ.length)) z) (σ++[.lst (acc.map .str)]) =
      .next (R9 (some (.int c)) (some (.str "abcdefghijklmnopqrstuvwxyz0123456789")) y' (some (.int ((p + 1 + q:Nat):Int))) (some (.int p)) (some (.ref σ.length)) z') (σ++[.lst ((acc++(List.range' k n).map (fL p q N (c / 64 % N).toNat)).map .str)])
  | 0,k,acc,y,z,_,_=>⟨y,z,by simpa using cH⟩
  | n + 1,k,acc,y,z,h1,h2=>by
    obtain ⟨y',z',ih⟩:=adl hs hN n (k + 1) (acc++[fL p q N (c / 64 % N).toNat k]) (some (.int k)) (some (.str ⟨#[bU.getD (((c / 64 % N).toNat + k) % N) 0]⟩)) (by rw [List.length_append,h1]; rfl) (by omega)
    refine ⟨y',z',?_⟩
    rw [List.range'_succ,List.map_cons]
    refine (bZ (ρ₁:=R9 (some (.int c)) (some (.str "abcdefghijklmnopqrstuvwxyz0123456789")) (some (.int k)) (some (.int ((p + 1 + q:Nat):Int))) (some (.int p)) (some (.ref σ.length)) z) rfl (aft hs hN acc (by omega))).trans (ih.trans ?_)
    simp [List.append_assoc]
theorem h14 (c:Int):∃ names:List Str,names.length=24/\names.Nodup/\(∀ n ∈ names,cN n)/\(∀ n ∈ names,fU n) ∧
    ((∀ d,aU PP topN (d + 1) fK [.int c] []=.ok (.fl (names.map .str)) [])\/(∀ d,aU PP topN (d + 1) fK [.int c] []=.ok (.ref 0) [.lst (names.map .str)])):=by
  have t0:∀ d,tst (CC d) (.cmp (.bin .mod (.v 0) (.k (.int 9))) .eq (.k (.int 8))) (R9 (some (.int c)) none none none none none none) []=.ok (c % 9 == 8) []:=fun d =>
    aN (aC (x:=.int c) (y:=.int 9) (σ₁:=[]) (σ₂:=[]) rfl rfl (bA (by decide))) (y:=.int 8) (σ₂:=[]) rfl dv
  have fin:∀ {d:Nat} {v:PV} {ρ:aw} {σ:ac},ex (CC d) topN iv.body (R9 (some (.int c)) none none none none none none) []=.ret v ρ σ->aU PP topN (d + 1) fK [.int c] []=.ok v σ:=fun {d v ρ σ} h=>by
    rw [bz (fn:=iv) rfl rfl]
    show aX (ex (CC d) topN iv.body (R9 (some (.int c)) none none none none none none) [])=_
    rw [h]; rfl
  by_cases h9:c % 9=8
  · have n0:=Int.emod_nonneg (c / 9) (show (12:Int) ≠ 0 by decide)
    have n1:=Int.emod_lt_of_pos (c / 9) (show (0:Int) < 12 by decide)
    have g:=xD (c / 9 % 12).toNat (eK (n:=12) n0 n1)
    rw [Bool.and_eq_true] at g
    refine ⟨ls (c / 9 % 12).toNat,by simp [ls],tB g.1,fun n hn=>pS (List.all_eq_true.mp g.2 n hn),fun n hn=>List.all_eq_true.mp (vS (c / 9 % 12).toNat (eK (n:=12) n0 n1)) n hn,.inl fun d=>fin (ao (a:=hZ) ((aV (σ':=[]) ((t0 d).trans (by rw [h9]; rfl))).trans ((aa (ρ':=R9 (some (.int c)) (some (.fl (gm.map .str))) none none none none none) (σ':=[]) rfl).trans (ao (aB xE)))))⟩
  · have a0:=Int.emod_nonneg c (show (8:Int) ≠ 0 by decide)
    have a1:=Int.emod_lt_of_pos c (show (0:Int) < 8 by decide)
    have b2:(0:Int) < 1 + c % 8:=Int.lt_of_lt_of_le (by decide) (Int.le_add_of_nonneg_right a0)
    have b0:=Int.emod_nonneg (c / 8) (Int.ne_of_gt b2)
    have b1:=Int.emod_lt_of_pos (c / 8) b2
    obtain ⟨p,hp⟩:=Int.eq_ofNat_of_zero_le b0
    obtain ⟨e,he⟩:=Int.eq_ofNat_of_zero_le a0
    rw [hp,he] at b1
    rw [he] at a1
    have hpe:p < 1 + e:=Int.ofNat_lt.mp b1
    rw [Nat.add_comm] at hpe
    have hq:1 + c % 8=((p + 1 + (e - p):Nat):Int):=by
      rw [he,Nat.add_right_comm,Nat.add_sub_cancel' (Nat.le_of_lt_succ hpe),Nat.add_comm]; rfl
    generalize e - p=q at hq
    have hs:p + 1 + q <= 8:=by rw [he] at hq; exact (Int.ofNat.inj hq:1 + e=p + 1 + q) ▸ Nat.add_le_add_left (Nat.le_of_lt_succ (Int.ofNat_lt.mp a1)) 1
    obtain ⟨N,hN⟩:∃ N:Nat,(p=0/\N=26)\/(0 < p/\N=36):=by
      rcases Nat.eq_zero_or_pos p with q | q
      · exact ⟨26,.inl ⟨q,rfl⟩⟩
      · exact ⟨36,.inr ⟨q,rfl⟩⟩
    have good:=xC (b:=(c / 64 % N).toNat) hs hN
    refine ⟨iB p q N (c / 64 % N).toNat,by simp [iB],good.1,good.2,vR,.inr fun d=>?_⟩
    obtain ⟨y',z',hl⟩:=adl (d:=d) (σ:=[]) (c:=c) hs hN 24 0 [] none none rfl (by decide)
    refine fin (ρ:=R9 (some (.int c)) (some (.str "abcdefghijklmnopqrstuvwxyz0123456789")) y' (some (.int ((p + 1 + q:Nat):Int))) (some (.int p)) (some (.ref 0)) z') ?_
    have e0:ex (CC d) topN hZ (R9 (some (.int c)) none none none none none none) []=.next (R9 (some (.int c)) none none none none none none) []:=(aH (σ':=[]) ((t0 d).trans (by rw [show (c % 9 == 8)=false from beq_eq_false_iff_ne.mpr h9]))).trans aj
    have e1:ex (CC d) topN lK (R9 (some (.int c)) none none none none none none) []=.next (R9 (some (.int c)) none none (some (.int ((p + 1 + q:Nat):Int))) none none none) []:=by
      refine a7 ((aC (x:=.int 1) (σ₁:=[]) rfl (aC (x:=.int c) (y:=.int 8) (σ₁:=[]) (σ₂:=[]) rfl rfl (bA (by decide))) add_int).trans ?_)
      rw [hq]
    have e2:ex (CC d) topN lJ (R9 (some (.int c)) none none (some (.int ((p + 1 + q:Nat):Int))) none none none) []=.next (R9 (some (.int c)) none none (some (.int ((p + 1 + q:Nat):Int))) (some (.int p)) none none) []:=by
      refine a7 ((aC (aC (x:=.int c) (y:=.int 8) (σ₁:=[]) (σ₂:=[]) rfl rfl (dz (by decide) (by decide))) (y:=.int ((p + 1 + q:Nat):Int)) (σ₂:=[]) rfl (bA (by omega))).trans ?_)
      rw [<- hq,hp]
    have e5:ex (CC d) topN lG (R9 (some (.int c)) (some (.str "abcdefghijklmnopqrstuvwxyz0123456789")) none (some (.int ((p + 1 + q:Nat):Int))) (some (.int p)) (some (.ref 0)) none) [.lst []] =
        .next (R9 (some (.int c)) (some (.str "abcdefghijklmnopqrstuvwxyz0123456789")) y' (some (.int ((p + 1 + q:Nat):Int))) (some (.int p)) (some (.ref 0)) z') [.lst ((iB p q N (c / 64 % N).toNat).map .str)]:=by
      refine dQ (ys:=(List.range' 0 24).map fun (i:Nat)=>PV.int i) (σ₁:=[.lst []]) ((hO (n:=24) (by decide) rfl).trans ?_) (hl.trans ?_)
      · have:aP 0 1 24=(List.range' 0 24).map fun (i:Nat)=>PV.int i:=by
          unfold aP; rw [List.range_eq_range']; refine List.map_congr_left fun i _=>?_; congr 1; omega
        rw [this]
      · simp [iB,List.range_eq_range']
    exact (aa e0).trans ((aa e1).trans ((aa e2).trans ((aa (a:=lI) (ρ':=R9 (some (.int c)) (some (.str "abcdefghijklmnopqrstuvwxyz0123456789")) none (some (.int ((p + 1 + q:Nat):Int))) (some (.int p)) none none) (σ':=[]) rfl).trans ((aa (a:=lH) (ρ':=R9 (some (.int c)) (some (.str "abcdefghijklmnopqrstuvwxyz0123456789")) none (some (.int ((p + 1 + q:Nat):Int))) (some (.int p)) (some (.ref 0)) none) (σ':=[.lst []]) rfl).trans ((aa e5).trans (ao (a:=lF) rfl))))))
end
end Mine
namespace Mine
open PySem
noncomputable abbrev bi (s nm many room pl k fr sp pick rule more nd gv wt md:Option PV):aw:=
  [s,some (.int 0),nm,many,room,pl,k,fr,sp,pick,rule,more,nd,gv,wt,md,none,none,none,none,none,none,none,none,none,none]
noncomputable abbrev aO (σn:ac) (p:List PV) (f:List Str):ac:=σn++[.lst p,.lst (f.map .str)]
section
variable {d:Nat} {σ σn:ac} {C:a8} {ρ:aw}
theorem tR:∀ (f:List Str) (i:Nat),(f.map PV.str).eraseIdx i=(f.eraseIdx i).map .str
  | [],_=>rfl
  | _::_,0=>rfl
  | x::f,i + 1=>by
    show PV.str x::(f.map PV.str).eraseIdx i=PV.str x::(f.eraseIdx i).map .str
    rw [tR f i]
theorem rK:∀ (f:List Str) (i:Nat) (h:i < f.length),(f[i]::f.eraseIdx i).Perm f
  | [],_,h=>by simp at h
  | _::_,0,_=>.refl _
  | x::f,i + 1,h=>by
    have hi:i < f.length:=by simpa using h
    have:=rK f i hi
    show (f[i]'hi::x::f.eraseIdx i).Perm (x::f)
    exact (List.Perm.swap x _ _).trans (.cons x this)
theorem pj {p:List PV} {f:List Str}:(aO σn p f)[σn.length + 1]?=some (.lst (f.map .str)):=by simp [aO,List.getElem?_append_right]
theorem pi {p:List PV} {f:List Str}:(aO σn p f)[σn.length]?=some (.lst p):=by simp [aO,List.getElem?_append_right]
theorem vX {p:List PV} {f:List Str} (h:f.length <= 100):db .len (.ref (σn.length + 1)) (aO σn p f)=.ok (.int f.length) (aO σn p f):=by
  have hs:a5 (aO σn p f) (.ref (σn.length + 1))=some (f.map .str):=by unfold a5; dsimp only; rw [pj]
  rw [yt hs (fun _ q=>by cases q) (cO h),List.length_map]
theorem ack {p:List PV} {f:List Str} {i:Int} {x:Str} (h:f.length <= 100) (h0:0 <= i) (hx:f[i.toNat]?=some x) :
    kf .pop (.ref (σn.length + 1)) [.int i] (aO σn p f)=.ok (.str x) (aO σn p (f.eraseIdx i.toNat)):=by
  show pO (.ref (σn.length + 1)) (.int i) (aO σn p f)=_
  unfold pO; dsimp only; rw [pj]; dsimp only
  rw [if_pos ⟨h0,cO h⟩,List.getElem?_map,hx]
  dsimp only [Option.map_some]
  congr 1
  have e:aO σn p f=(σn++[.lst p])++[.lst (f.map .str)]:=by simp [aO]
  rw [e,List.set_append_right _ _ (by simp)]
  simp [aO,tR]
theorem xQ {f:PV->ac->af (Option PV)} {x v:PV} {xs ys:List PV} {σ₁ σ₂:ac} (h1:f x σ=.ok (some v) σ₁) (h2:bh none f xs σ₁=.ok ys σ₂):bh none f (x::xs) σ=.ok (v::ys) σ₂:=by
  refine (if_pos trivial).trans ?_
  rw [h1]; show (bh none f xs σ₁).bind _=_; rw [h2]; rfl
theorem afc {p:List PV} {more:Int}:∀ (js:List Nat) (f:List Str),js.length <= f.length->f.length <= 100->∃ made f',made.length=js.length/\(made++f').Perm f ∧
    bh none (fun x σ=>(tst (CC (d + 1)) (.k (.bool true)) (([none,none,none,none,some (.ref (σn.length + 1)),some (.int more)]:aw).set 1 (some x)) σ).bind fun b σ=>if b then (ev (CC (d + 1)) (.me .pop (.v 4) (.cons (.bin .mod (.call cj (.cons (.bin .add (.bin .add (.v 5) (.bin .mul (.k (.int 31)) (.v 1))) (.k (.int 5))) .nil)) (.b1 .len (.v 4))) .nil)) (([none,none,none,none,some (.ref (σn.length + 1)),some (.int more)]:aw).set 1 (some x)) σ).bind fun v σ=>.ok (some v) σ else .ok none σ) (js.map fun (j:Nat)=>PV.int j) (aO σn p f) =
      .ok (made.map .str) (aO σn p f')
  | [],f,_,_=>⟨[],f,rfl,.refl _,if_pos trivial⟩
  | j::js,f,h1,h2=>by
    have hf:0 < f.length:=by rw [List.length_cons] at h1; omega
    have n0:=Int.emod_nonneg (eR (more + 31 * j + 5)) (show ((f.length:Nat):Int) ≠ 0 by (exact Int.ofNat_ne_zero.mpr (Nat.ne_of_gt (by assumption))))
    have n1:=Int.emod_lt_of_pos (eR (more + 31 * j + 5)) (show (0:Int) < ((f.length:Nat):Int) by (exact Int.ofNat_lt.mpr (by assumption)))
    have hi:(eR (more + 31 * j + 5) % ((f.length:Nat):Int)).toNat < f.length:=by omega
    generalize hI:(eR (more + 31 * j + 5) % ((f.length:Nat):Int)).toNat=i at hi
    have hx:f[i]?=some f[i]:=by simp [hi]
    obtain ⟨made,f',m1,m2,m3⟩:=afc (p:=p) (more:=more) js (f.eraseIdx i) (by rw [List.length_eraseIdx,if_pos hi]; rw [List.length_cons] at h1; omega) (Nat.le_trans (List.length_eraseIdx_le f i) h2)
    refine ⟨f[i]::made,f',by rw [List.length_cons,m1,List.length_cons],?_,?_⟩
    · rw [List.cons_append]
      exact (List.Perm.cons _ m2).trans (rK f i hi)
    · have e:ev (CC (d + 1)) (.me .pop (.v 4) (.cons (.bin .mod (.call cj (.cons (.bin .add (.bin .add (.v 5) (.bin .mul (.k (.int 31)) (.v 1))) (.k (.int 5))) .nil)) (.b1 .len (.v 4))) .nil)) (([none,none,none,none,some (.ref (σn.length + 1)),some (.int more)]:aw).set 1 (some (.int j))) (aO σn p f)=.ok (.str f[i]) (aO σn p (f.eraseIdx i)):=by
        refine gW (m:=.pop) (x:=.ref (σn.length + 1)) (σ₁:=aO σn p f) rfl ?_ (y:=.int (eR (more + 31 * j + 5) % ((f.length:Nat):Int))) (σ₂:=aO σn p f) ?_ ?_
        · show fm (.ref (σn.length + 1)) (aO σn p f)=true
          unfold fm; dsimp only; rw [pj]
        · exact aC (aT (aC (aC (x:=.int more) (σ₁:=aO σn p f) rfl (aC (x:=.int 31) (y:=.int j) (σ₁:=aO σn p f) (σ₂:=aO σn p f) rfl rfl (mul_int (.inl (by decide)))) add_int) (y:=.int 5) (σ₂:=aO σn p f) rfl add_int) yw) (cQ (x:=.ref (σn.length + 1)) (σ₁:=aO σn p f) rfl (vX h2)) (bA (by (exact Int.ofNat_lt.mpr (by assumption))))
        · rw [ack h2 n0 (by rw [hI]; exact hx),hI]
      refine xQ (σ₁:=aO σn p (f.eraseIdx i)) ?_ m3
      show ((ev _ _ _ _).bind fun v σ=>af.ok (some v) σ)=_
      rw [e]; rfl
theorem af3 {spots:List Str} {more:Int} {nd:Nat} (hs:1 <= spots.length) (hl:spots.length <= 100) (hn:nd <= 4) {s nm many room pl k fr pick rule gv wt md:Option PV} :
    ∃ wanted:List Str,wanted.length=nd/\(∀ w ∈ wanted,w ∈ spots)/\ev (CC (d + 1)) mP (bi s nm many room pl k fr (some (.fl (spots.map .str))) pick rule (some (.int more)) (some (.int nd)) gv wt md) σ=.ok (.fl (wanted.map .str)) σ:=by
  have hlim:=cO hl
  refine ⟨(List.range nd).map fun (j:Nat)=>spots.getD (eR (more + 7 * (j:Int)) % ((spots.length:Nat):Int)).toNat "",by simp,fun w hw=>?_,?_⟩
  · obtain ⟨j,hj,rfl⟩:=List.mem_map.mp hw
    have n0:=Int.emod_nonneg (eR (more + 7 * j)) (show ((spots.length:Nat):Int) ≠ 0 by (exact Int.ofNat_ne_zero.mpr (Nat.ne_of_gt (by assumption))))
    have n1:=Int.emod_lt_of_pos (eR (more + 7 * j)) (show (0:Int) < ((spots.length:Nat):Int) by (exact Int.ofNat_lt.mpr (by assumption)))
    have hi:(eR (more + 7 * j) % ((spots.length:Nat):Int)).toNat < spots.length:=by omega
    have:spots.getD (eR (more + 7 * j) % ((spots.length:Nat):Int)).toNat "" = spots[(eR (more + 7 * j) % ((spots.length:Nat):Int)).toNat]:=by simp [List.getD,hi]
    rw [this]; exact List.getElem_mem hi
  · refine (qr (fun x=>match x with | .int i=>.str (spots.getD (eR (more + 7 * i) % ((spots.length:Nat):Int)).toNat "") | _=>.none) (hO (n:=nd) (by (exact Nat.le_trans (by assumption) (by decide))) rfl) (by rw [show (aP 0 1 nd).length=nd by simp [aP]]; exact Nat.le_trans hn (by decide)) fun x hx=>?_).trans (by rw [nF (f:=fun (j:Nat)=>spots.getD (eR (more + 7 * (j:Int)) % ((spots.length:Nat):Int)).toNat "") fun k hk=>rfl])
    obtain ⟨j,hj,rfl⟩:=eO hx
    have n0:=Int.emod_nonneg (eR (more + 7 * j)) (show ((spots.length:Nat):Int) ≠ 0 by (exact Int.ofNat_ne_zero.mpr (Nat.ne_of_gt (by assumption))))
    have n1:=Int.emod_lt_of_pos (eR (more + 7 * j)) (show (0:Int) < ((spots.length:Nat):Int) by (exact Int.ofNat_lt.mpr (by assumption)))
    have hi:(eR (more + 7 * j) % ((spots.length:Nat):Int)).toNat < spots.length:=by omega
    have hlen:db .len (.fl (spots.map .str)) σ=.ok (.int spots.length) σ:=by rw [vY hlim,List.length_map]
    refine bH (x:=.fl (spots.map .str)) (σ₁:=σ) rfl (aC (aT (aC (x:=.int more) (σ₁:=σ) rfl (aC (x:=.int 7) (y:=.int j) (σ₁:=σ) (σ₂:=σ) rfl rfl (mul_int (.inl (by decide)))) add_int) yw) (cQ (x:=.fl (spots.map .str)) (σ₁:=σ) rfl hlen) (bA (by (exact Int.ofNat_lt.mpr (by assumption))))) (dL hlim n0 ?_)
    rw [List.getElem?_map]
    simp [List.getD,hi]
end
end Mine
namespace Mine
open PySem
noncomputable def dc.head:dc->Str
  | .word w=>w
  | .fixed _ => "fixed"
noncomputable def tM (more:Int):Nat:=[1,1,1,2,3].getD (more / 4 % 5).toNat 1
theorem abj (more:Int):([PV.int 1,.int 1,.int 1,.int 2,.int 3])[(more / 4 % 5).toNat]?=some (.int (tM more))/\1 <= tM more/\tM more <= 3:=by
  have n0:=Int.emod_nonneg (more / 4) (show (5:Int) ≠ 0 by decide)
  have n1:=Int.emod_lt_of_pos (more / 4) (show (0:Int) < 5 by decide)
  unfold tM
  generalize more / 4 % 5=x at n0 n1
  refine lv (n:=5) (P:=fun x=>([PV.int 1,.int 1,.int 1,.int 2,.int 3])[x.toNat]?=some (.int ([1,1,1,2,3].getD x.toNat 1:Nat))/\1 <= [1,1,1,2,3].getD x.toNat 1/\[1,1,1,2,3].getD x.toNat 1 <= 3) ?_ n0 n1
  refine bS (bS (bS (bS (bS sY ?_) ?_) ?_) ?_) ?_ <;> exact ⟨rfl,by decide,by decide⟩
theorem aec {r:dc} {σ:ac} (h:RK r):dK r.pv (.int 0) σ=.ok (.str r.head) σ:=by cases h <;> rfl
structure afk (r:dc) (more:Int) (nd gv:Nat):Prop where
  n1:1 <= nd
  n4:nd <= 4
  g1:1 <= gv
  g3:gv <= 3
  ok:∀ g:Nat,((r.head == ("way" : Str))=true->g=2)->cM r nd g
  way:(r.head == ("way" : Str))=true->gv=2
  nd_eq:(hH r.head ((["way", "choose"]:List Str).zip [.int 2,.int 3])).getD (.int (if (r.head == ("later" : Str))=true then 1 else 1 + more % 4))=.int nd
  gv_eq:(hH r.head ((["way"]:List Str).zip [.int 2])).getD (.int (tM more))=.int gv
theorem ad3 {r:dc} (h:RK r) (more:Int):∃ nd gv,afk r more nd gv:=by
  have m0:=Int.emod_nonneg more (show (4:Int) ≠ 0 by decide)
  have m1:=Int.emod_lt_of_pos more (show (0:Int) < 4 by decide)
  obtain ⟨_,g1,g3⟩:=abj more
  have hn:(1 + more % 4)=(((1 + more % 4).toNat:Nat):Int):=by omega
  have oth:∀ (r:dc),(r.head == ("way" : Str))=false->(r.head == ("later" : Str))=false->(∀ n g,cM r n g)->hH r.head ((["way", "choose"]:List Str).zip [PV.int 2,.int 3])=none->hH r.head ((["way"]:List Str).zip [PV.int 2])=none->∃ nd gv,afk r more nd gv:=by
    intro r a b c e f
    refine ⟨(1 + more % 4).toNat,tM more,by omega,by omega,g1,g3,fun g _=>c _ _,fun q=>(by rw [a] at q; cases q),?_,?_⟩
    · rw [e,b]; show PV.int (1 + more % 4)=_; rw [<- hn]
    · rw [f]; rfl
  cases h with
  | sum=>exact oth _ (by decide +kernel) (by decide +kernel) (fun n g=>.sum n g) rfl rfl
  | times=>exact oth _ (by decide +kernel) (by decide +kernel) (fun n g=>.times n g) rfl rfl
  | least=>exact oth _ (by decide +kernel) (by decide +kernel) (fun n g=>.least n g) rfl rfl
  | most=>exact oth _ (by decide +kernel) (by decide +kernel) (fun n g=>.most n g) rfl rfl
  | fixed v v0 v1=>exact oth _ (show (("fixed" : Str) == "way")=false by decide +kernel) (show (("fixed" : Str) == "later")=false by decide +kernel) (fun n g=>.fixed v n g v0 v1) rfl rfl
  | later =>
    refine ⟨1,tM more,by decide,by decide,g1,g3,fun g _=>.later g,fun q=>(by rw [show (dc.head (.word "later") == ("way" : Str))=false by decide +kernel] at q; cases q),?_,rfl⟩
    rw [show (dc.head (.word "later") == ("later" : Str))=true by decide +kernel]; rfl
  | way=>exact ⟨2,2,by decide,by decide,by decide,by decide,fun g hg=>by rw [hg (by decide +kernel)]; exact .way,fun _=>rfl,rfl,rfl⟩
  | choose=>exact ⟨3,tM more,by decide,by decide,g1,g3,fun g _=>.choose g,fun q=>(by rw [show (dc.head (.word "choose") == ("way" : Str))=false by decide +kernel] at q; cases q),rfl,rfl⟩
section
variable {d:Nat} {σn:ac}
theorem aev {l:List Int} (hl:l.length <= 63) {names spots free:List Str} {nmV:PV} {many room:Option PV} {steps:List ah} (hk:steps.length < 20)
    (hnm:∀ τ (i:Nat),i < 24->dK nmV (.int i) (σn++τ)=.ok (.str (names.getD i "")) (σn++τ)) (hsp:1 <= spots.length) (hsl:spots.length <= 100) (hfl:free.length <= 100)
    (hnames:∀ i,i < 24->cN (names.getD i "")) (hspots:∀ n ∈ spots,cN n) (hfree:∀ n ∈ free,cN n) (hnd:free.Nodup) (pk rl mr nd gv wt md:Option PV) :
    ∃ pk' rl' mr' nd' gv' wt' md':Option PV,
      (ex (CC (d + 2)) topN fv (bi (some (.fl (l.map .int))) (some nmV) many room (some (.ref σn.length)) (some (.int steps.length)) (some (.ref (σn.length + 1))) (some (.fl (spots.map .str))) pk rl mr nd gv wt md) (aO σn (steps.map ah.pv) free) =
        .brk (bi (some (.fl (l.map .int))) (some nmV) many room (some (.ref σn.length)) (some (.int steps.length)) (some (.ref (σn.length + 1))) (some (.fl (spots.map .str))) pk' rl' mr' nd' gv' wt' md') (aO σn (steps.map ah.pv) free)) ∨
      ∃ s free',iH s/\s.name=names.getD (23 - steps.length) "" /\ (s.gives++free').Perm free ∧
        ex (CC (d + 2)) topN fv (bi (some (.fl (l.map .int))) (some nmV) many room (some (.ref σn.length)) (some (.int steps.length)) (some (.ref (σn.length + 1))) (some (.fl (spots.map .str))) pk rl mr nd gv wt md) (aO σn (steps.map ah.pv) free) =
        .next (bi (some (.fl (l.map .int))) (some nmV) many room (some (.ref σn.length)) (some (.int steps.length)) (some (.ref (σn.length + 1))) (some (.fl (spots.map .str))) pk' rl' mr' nd' gv' wt' md') (aO σn ((steps++[s]).map ah.pv) free'):=by
  generalize hkk:steps.length=k at hk
  have kk:(((3 + k % 8:Nat)):Int)=0 + 3 + (k:Int) % 8:=by omega
  generalize hpick:eR (l.getD (3 + k % 8) 0 + 977 * (k:Int))=pick
  have hp0:0 <= pick:=by rw [<- hpick]; exact zx _
  have w0:=Int.emod_nonneg (pick / 5) (show (12:Int) ≠ 0 by decide)
  have w1:=Int.emod_lt_of_pos (pick / 5) (show (0:Int) < 12 by decide)
  obtain ⟨r,hrk,hrule⟩:=h16 (p:=eR pick) w0 w1
  generalize hmore:eR (pick + 1)=more
  obtain ⟨n,g,K⟩:=ad3 hrk more
  have m0:=Int.emod_nonneg more (show (4:Int) ≠ 0 by decide)
  have v0:=Int.emod_nonneg (more / 4) (show (5:Int) ≠ 0 by decide)
  have n1:=K.n1
  have n4:=K.n4
  have g1:=K.g1
  have g3:=K.g3
  generalize hS:aO σn (steps.map ah.pv) free=S
  have e0:ex (CC (d + 2)) topN gI (bi (some (.fl (l.map .int))) (some nmV) many room (some (.ref σn.length)) (some (.int k)) (some (.ref (σn.length + 1))) (some (.fl (spots.map .str))) pk rl mr nd gv wt md) S =
      .next (bi (some (.fl (l.map .int))) (some nmV) many room (some (.ref σn.length)) (some (.int k)) (some (.ref (σn.length + 1))) (some (.fl (spots.map .str))) (some (.int pick)) rl mr nd gv wt md) S:=by
    refine a7 ((aT (aC (di (x:=.fl (l.map .int)) (y:=.int ((3 + k % 8:Nat):Int)) (σ₁:=S) (σ₂:=S) rfl ((aC (aC (x:=.int 0) (y:=.int 3) (σ₁:=S) (σ₂:=S) rfl rfl add_int) (aC (x:=.int k) (y:=.int 8) (σ₁:=S) (σ₂:=S) rfl rfl (bA (by decide))) add_int).trans (by rw [kk])) (h12 hl)) (aC (x:=.int 977) (y:=.int k) (σ₁:=S) (σ₂:=S) rfl rfl (mul_int (.inl (by decide)))) add_int) yw).trans ?_)
    rw [hpick]
  have e1:ex (CC (d + 2)) topN gH (bi (some (.fl (l.map .int))) (some nmV) many room (some (.ref σn.length)) (some (.int k)) (some (.ref (σn.length + 1))) (some (.fl (spots.map .str))) (some (.int pick)) rl mr nd gv wt md) S =
      .next (bi (some (.fl (l.map .int))) (some nmV) many room (some (.ref σn.length)) (some (.int k)) (some (.ref (σn.length + 1))) (some (.fl (spots.map .str))) (some (.int pick)) (some r.pv) mr nd gv wt md) S:=
    a7 (di (aT (x:=.int pick) (σ₁:=S) rfl yw) (ly (by decide) (by decide) (by decide) rfl) hrule)
  have e2:ex (CC (d + 2)) topN gG (bi (some (.fl (l.map .int))) (some nmV) many room (some (.ref σn.length)) (some (.int k)) (some (.ref (σn.length + 1))) (some (.fl (spots.map .str))) (some (.int pick)) (some r.pv) mr nd gv wt md) S =
      .next (bi (some (.fl (l.map .int))) (some nmV) many room (some (.ref σn.length)) (some (.int k)) (some (.ref (σn.length + 1))) (some (.fl (spots.map .str))) (some (.int pick)) (some r.pv) (some (.int more)) nd gv wt md) S:=
    a7 ((aT (aC (x:=.int pick) (y:=.int 1) (σ₁:=S) (σ₂:=S) rfl rfl add_int) yw).trans (by rw [hmore]))
  have hd:∀ {nd gv wt md:Option PV},ev (CC (d + 2)) (.sub (.v 10) (.k (.int 0))) (bi (some (.fl (l.map .int))) (some nmV) many room (some (.ref σn.length)) (some (.int k)) (some (.ref (σn.length + 1))) (some (.fl (spots.map .str))) (some (.int pick)) (some r.pv) (some (.int more)) nd gv wt md) S=.ok (.str r.head) S:=fun {nd gv wt md} =>
    bH (x:=r.pv) (y:=.int 0) (σ₁:=S) (σ₂:=S) rfl rfl (aec hrk)
  have e3:ex (CC (d + 2)) topN gF (bi (some (.fl (l.map .int))) (some nmV) many room (some (.ref σn.length)) (some (.int k)) (some (.ref (σn.length + 1))) (some (.fl (spots.map .str))) (some (.int pick)) (some r.pv) (some (.int more)) nd gv wt md) S =
      .next (bi (some (.fl (l.map .int))) (some nmV) many room (some (.ref σn.length)) (some (.int k)) (some (.ref (σn.length + 1))) (some (.fl (spots.map .str))) (some (.int pick)) (some r.pv) (some (.int more)) (some (.int (if (r.head == ("later" : Str))=true then 1 else 1 + more % 4))) gv wt md) S:=by
    refine a7 (bH (x:=.fl [.int (1 + more % 4),.int 1]) (σ₁:=S) (acS (vs:=[.int (1 + more % 4),.int 1]) (aF (σ₁:=S) (aC (x:=.int 1) (σ₁:=S) rfl (aC (x:=.int more) (y:=.int 4) (σ₁:=S) (σ₂:=S) rfl rfl (bA (by decide))) add_int) rfl) (show (2:Nat) <= am by decide)) (cQ (jk hd (y:=.str "later") (σ₂:=S) rfl oE) int_bool) (dL (show (2:Nat) <= am by decide) (by split <;> decide) ?_))
    cases (r.head == ("later" : Str)) <;> rfl
  have e4:ex (CC (d + 2)) topN gE (bi (some (.fl (l.map .int))) (some nmV) many room (some (.ref σn.length)) (some (.int k)) (some (.ref (σn.length + 1))) (some (.fl (spots.map .str))) (some (.int pick)) (some r.pv) (some (.int more)) (some (.int (if (r.head == ("later" : Str))=true then 1 else 1 + more % 4))) gv wt md) S =
      .next (bi (some (.fl (l.map .int))) (some nmV) many room (some (.ref σn.length)) (some (.int k)) (some (.ref (σn.length + 1))) (some (.fl (spots.map .str))) (some (.int pick)) (some r.pv) (some (.int more)) (some (.int n)) gv wt md) S:=
    a7 ((yD hd (y:=.int (if (r.head == ("later" : Str))=true then 1 else 1 + more % 4)) (σ₂:=S) rfl).trans (by rw [K.nd_eq]))
  have e5:ex (CC (d + 2)) topN gD (bi (some (.fl (l.map .int))) (some nmV) many room (some (.ref σn.length)) (some (.int k)) (some (.ref (σn.length + 1))) (some (.fl (spots.map .str))) (some (.int pick)) (some r.pv) (some (.int more)) (some (.int n)) gv wt md) S =
      .next (bi (some (.fl (l.map .int))) (some nmV) many room (some (.ref σn.length)) (some (.int k)) (some (.ref (σn.length + 1))) (some (.fl (spots.map .str))) (some (.int pick)) (some r.pv) (some (.int more)) (some (.int n)) (some (.int g)) wt md) S:=
    a7 ((yD hd (bH (x:=.fl [.int 1,.int 1,.int 1,.int 2,.int 3]) (σ₁:=S) rfl (ly (by decide) (by decide) (by decide) rfl) (dL (show (5:Nat) <= am by decide) v0 (abj more).1))).trans (by rw [K.gv_eq]))
  have hmin:min (g:Int) (free.length:Int)=((min g free.length:Nat):Int):=by
    rcases Nat.le_total g free.length with h | h
    · rw [Int.min_eq_left (Int.ofNat_le.mpr h),Nat.min_eq_left h]
    · rw [Int.min_eq_right (Int.ofNat_le.mpr h),Nat.min_eq_right h]
  have e6:ex (CC (d + 2)) topN gC (bi (some (.fl (l.map .int))) (some nmV) many room (some (.ref σn.length)) (some (.int k)) (some (.ref (σn.length + 1))) (some (.fl (spots.map .str))) (some (.int pick)) (some r.pv) (some (.int more)) (some (.int n)) (some (.int g)) wt md) S =
      .next (bi (some (.fl (l.map .int))) (some nmV) many room (some (.ref σn.length)) (some (.int k)) (some (.ref (σn.length + 1))) (some (.fl (spots.map .str))) (some (.int pick)) (some r.pv) (some (.int more)) (some (.int n)) (some (.int ((min g free.length:Nat):Int))) wt md) S:=by
    refine a7 (abx (x:=.int g) (σ₁:=S) rfl (cQ (x:=.ref (σn.length + 1)) (σ₁:=S) rfl (by rw [<- hS]; exact vX hfl)) ?_)
    show af.ok (PV.int (min (g:Int) (free.length:Int))) _=_
    rw [hmin,hS]
  generalize hgg:min g free.length=gg at e6
  have hw2:∀ {nd wt md:Option PV},tst (CC (d + 2)) (.and (.cons (.cmp (.sub (.v 10) (.k (.int 0))) .eq (.k (.str "way"))) (.cons (.cmp (.v 13) .lt (.k (.int 2))) .nil))) (bi (some (.fl (l.map .int))) (some nmV) many room (some (.ref σn.length)) (some (.int k)) (some (.ref (σn.length + 1))) (some (.fl (spots.map .str))) (some (.int pick)) (some r.pv) (some (.int more)) nd (some (.int gg)) wt md) S=.ok ((r.head == ("way" : Str)) && decide ((gg:Int) < 2)) S:=fun {nd wt md}=>by
    refine gk ?_
    rw [cS,aN hd (y:=.str "way") (σ₂:=S) rfl oE,av]
    cases r.head == ("way" : Str)
    · rfl
    · rw [if_pos rfl,cS,aN (x:=.int gg) (y:=.int 2) (σ₁:=S) (σ₂:=S) rfl rfl lt_int,av]
      cases decide ((gg:Int) < 2) <;> rfl
  have cond:∀ {nd wt md:Option PV},tst (CC (d + 2)) (.or (.cons (.cmp (.v 13) .eq (.k (.int 0))) (.cons (.and (.cons (.cmp (.sub (.v 10) (.k (.int 0))) .eq (.k (.str "way"))) (.cons (.cmp (.v 13) .lt (.k (.int 2))) .nil))) .nil))) (bi (some (.fl (l.map .int))) (some nmV) many room (some (.ref σn.length)) (some (.int k)) (some (.ref (σn.length + 1))) (some (.fl (spots.map .str))) (some (.int pick)) (some r.pv) (some (.int more)) nd (some (.int gg)) wt md) S=.ok (((gg:Int) == 0) || ((r.head == ("way" : Str)) && decide ((gg:Int) < 2))) S:=fun {nd wt md}=>by
    refine ey ?_
    rw [dk,aN (x:=.int gg) (y:=.int 0) (σ₁:=S) (σ₂:=S) rfl rfl dv,av]
    cases ((gg:Int) == 0)
    · rw [ifF,dk,hw2,av]
      cases ((r.head == ("way" : Str)) && decide ((gg:Int) < 2)) <;> rfl
    · rfl
  have front:∀ rest,ex (CC (d + 2)) topN (.cons gI (.cons gH (.cons gG (.cons gF (.cons gE (.cons gD (.cons gC rest)))))))
      (bi (some (.fl (l.map .int))) (some nmV) many room (some (.ref σn.length)) (some (.int k)) (some (.ref (σn.length + 1))) (some (.fl (spots.map .str))) pk rl mr nd gv wt md) S=ex (CC (d + 2)) topN rest (bi (some (.fl (l.map .int))) (some nmV) many room (some (.ref σn.length)) (some (.int k)) (some (.ref (σn.length + 1))) (some (.fl (spots.map .str))) (some (.int pick)) (some r.pv) (some (.int more)) (some (.int n)) (some (.int gg)) wt md) S:=fun rest=>by
    rw [aa e0,aa e1,aa e2,aa e3,aa e4,aa e5,aa e6]
  by_cases hb:(((gg:Int) == 0) || ((r.head == ("way" : Str)) && decide ((gg:Int) < 2)))=true
  · refine ⟨some (.int pick),some r.pv,some (.int more),some (.int n),some (.int gg),wt,md,.inl ((front _).trans (abp (a:=gB) ((aV (σ':=S) (cond.trans (by rw [hb]))).trans (abp rfl))))⟩
  · have hb':(((gg:Int) == 0) || ((r.head == ("way" : Str)) && decide ((gg:Int) < 2)))=false:=by simpa using hb
    have hb1:=(Bool.or_eq_false_iff.mp hb').1
    have hb2:=(Bool.or_eq_false_iff.mp hb').2
    have gpos:1 <= gg:=by
      have:(gg:Int) ≠ 0:=beq_eq_false_iff_ne.mp hb1
      omega
    have gway:(r.head == ("way" : Str))=true->gg=2:=fun q=>by
      rw [q,Bool.true_and] at hb2
      have h1:=of_decide_eq_false hb2
      have h2:=K.way q
      omega
    obtain ⟨wanted,wl,win,hwant⟩:=af3 (d:=d + 1) (σ:=S) (more:=more) hsp hsl n4 (s:=some (.fl (l.map .int))) (nm:=some nmV) (many:=many) (room:=room) (pl:=some (.ref σn.length)) (k:=some (.int k)) (fr:=some (.ref (σn.length + 1))) (pick:=some (.int pick)) (rule:=some r.pv) (gv:=some (.int gg)) (wt:=wt) (md:=md)
    obtain ⟨made,free',dl,dp,hdraw⟩:=afc (d:=d + 1) (σn:=σn) (p:=steps.map ah.pv) (more:=more) (List.range' 0 gg) free (by rw [List.length_range']; omega) hfl
    rw [List.length_range'] at dl
    rw [hS] at hdraw
    have e7:ex (CC (d + 2)) topN gB (bi (some (.fl (l.map .int))) (some nmV) many room (some (.ref σn.length)) (some (.int k)) (some (.ref (σn.length + 1))) (some (.fl (spots.map .str))) (some (.int pick)) (some r.pv) (some (.int more)) (some (.int n)) (some (.int gg)) wt md) S=.next (bi (some (.fl (l.map .int))) (some nmV) many room (some (.ref σn.length)) (some (.int k)) (some (.ref (σn.length + 1))) (some (.fl (spots.map .str))) (some (.int pick)) (some r.pv) (some (.int more)) (some (.int n)) (some (.int gg)) wt md) S:=
      (aH (σ':=S) (cond.trans (by rw [hb']))).trans aj
    have e8:ex (CC (d + 2)) topN kt (bi (some (.fl (l.map .int))) (some nmV) many room (some (.ref σn.length)) (some (.int k)) (some (.ref (σn.length + 1))) (some (.fl (spots.map .str))) (some (.int pick)) (some r.pv) (some (.int more)) (some (.int n)) (some (.int gg)) wt md) S=.next (bi (some (.fl (l.map .int))) (some nmV) many room (some (.ref σn.length)) (some (.int k)) (some (.ref (σn.length + 1))) (some (.fl (spots.map .str))) (some (.int pick)) (some r.pv) (some (.int more)) (some (.int n)) (some (.int gg)) (some (.fl (wanted.map .str))) md) S:=a7 hwant
    have e9:ex (CC (d + 2)) topN kn (bi (some (.fl (l.map .int))) (some nmV) many room (some (.ref σn.length)) (some (.int k)) (some (.ref (σn.length + 1))) (some (.fl (spots.map .str))) (some (.int pick)) (some r.pv) (some (.int more)) (some (.int n)) (some (.int gg)) (some (.fl (wanted.map .str))) md) S=.next (bi (some (.fl (l.map .int))) (some nmV) many room (some (.ref σn.length)) (some (.int k)) (some (.ref (σn.length + 1))) (some (.fl (spots.map .str))) (some (.int pick)) (some r.pv) (some (.int more)) (some (.int n)) (some (.int gg)) (some (.fl (wanted.map .str))) (some (.fl (made.map .str)))) (aO σn (steps.map ah.pv) free'):=by
      refine a7 ?_
      show ev (CC (d + 2)) (.comp true 1 _ _ _ _) _ S=_
      rw [et,show (CC (d + 2)).hd=false from rfl,hO (n:=gg) (by omega) rfl,av]
      have hr:aP 0 1 gg=(List.range' 0 gg).map fun (j:Nat)=>PV.int j:=by
        unfold aP; rw [List.range_eq_range']; refine List.map_congr_left fun i _=>?_; congr 1; omega
      rw [hr]
      dsimp only
      refine (congrArg (fun o:af (List PV)=>cW ((List.range' 0 gg).map fun (j:Nat)=>PV.int j).length o fun ys σ=>bR true ys σ) hdraw).trans ?_
      exact l9 (cO (by omega))
    have hat:(aO σn (steps.map ah.pv) free')[σn.length]?=some (.lst (steps.map ah.pv)):=pi
    have name_at:dK nmV (.int (23 - (k:Int))) (aO σn (steps.map ah.pv) free')=.ok (.str (names.getD (23 - k) "")) (aO σn (steps.map ah.pv) free'):=by
      rw [show (23 - (k:Int))=((23 - k:Nat):Int) by omega]
      exact hnm _ _ (by omega)
    have e10:ex (CC (d + 2)) topN jK (bi (some (.fl (l.map .int))) (some nmV) many room (some (.ref σn.length)) (some (.int k)) (some (.ref (σn.length + 1))) (some (.fl (spots.map .str))) (some (.int pick)) (some r.pv) (some (.int more)) (some (.int n)) (some (.int gg)) (some (.fl (wanted.map .str))) (some (.fl (made.map .str)))) (aO σn (steps.map ah.pv) free')=.next (bi (some (.fl (l.map .int))) (some nmV) many room (some (.ref σn.length)) (some (.int k)) (some (.ref (σn.length + 1))) (some (.fl (spots.map .str))) (some (.int pick)) (some r.pv) (some (.int more)) (some (.int n)) (some (.int gg)) (some (.fl (wanted.map .str))) (some (.fl (made.map .str)))) (aO σn ((steps++[(ah.mk (names.getD (23 - k) "") r wanted made)]).map ah.pv) free'):=by
      refine cb (gW (m:=.append) (x:=.ref σn.length) (σ₁:=aO σn (steps.map ah.pv) free') rfl (iD (.inl rfl)) (y:=ah.pv (ah.mk (names.getD (23 - k) "") r wanted made)) (σ₂:=aO σn (steps.map ah.pv) free') ?_ ?_)
      · exact eF (vs:=[.str (names.getD (23 - k) ""),r.pv,.tup (wanted.map .str),.tup (made.map .str)]) (aF (bH (x:=nmV) (σ₁:=aO σn (steps.map ah.pv) free') rfl (aC (x:=.int 23) (y:=.int k) (σ₁:=aO σn (steps.map ah.pv) free') (σ₂:=aO σn (steps.map ah.pv) free') rfl rfl sub_int) name_at) (aF (x:=r.pv) (σ₁:=aO σn (steps.map ah.pv) free') rfl (aF (cQ (x:=.fl (wanted.map .str)) (σ₁:=aO σn (steps.map ah.pv) free') rfl (u4 (cO (by omega)))) (aF (cQ (x:=.fl (made.map .str)) (σ₁:=aO σn (steps.map ah.pv) free') rfl (u4 (cO (by omega)))) rfl)))) (show (4:Nat) <= am by decide)
      · show cX (.ref σn.length) _ _=_
        unfold cX; dsimp only; rw [hat]; dsimp only
        rw [if_pos (by rw [List.length_map,be,hkk]; (exact Nat.le_trans (by assumption) (by decide)))]
        congr 1
        show (σn++[MO.lst (steps.map ah.pv),.lst (free'.map .str)]).set σn.length _=_
        rw [List.set_append_right _ _ (Nat.le_refl _),Nat.sub_self]
        simp [aO]
    have madeIn:∀ w ∈ made,w ∈ free:=fun w hw=>dp.subset (List.mem_append_left _ hw)
    have hnd2:(made++free').Nodup:=dp.nodup_iff.mpr hnd
    refine ⟨some (.int pick),some r.pv,some (.int more),some (.int n),some (.int gg),some (.fl (wanted.map .str)),some (.fl (made.map .str)),.inr ⟨⟨names.getD (23 - k) "",r,wanted,made⟩,free',⟨hnames _ (by omega),fun w hw=>hspots w (win w hw),by show 1 <= wanted.length; omega,by show wanted.length <= 4; omega,fun w hw=>hfree w (madeIn w hw),by show 1 <= made.length; omega,by show made.length <= 3; omega,(List.nodup_append.mp hnd2).1,?_⟩,rfl,dp,?_⟩⟩
    · show cM r wanted.length made.length
      rw [wl,dl]
      exact K.ok gg gway
    · exact (front _).trans ((aa e7).trans ((aa e8).trans ((aa e9).trans ((aa e10).trans aj))))
end
end Mine
namespace Mine
open PySem
structure yJ (names:List Str) (steps:List ah) (free:List Str):Prop where
  ok:∀ s ∈ steps,iH s
  nm:steps.map (·.name)=(List.range steps.length).map fun j=>names.getD (23 - j) ""
  nd:(steps.flatMap (·.gives)++free).Nodup
  fr:∀ n ∈ free,cN n
  len:free.length <= 100
  fp:∀ n ∈ free,fU n
  gp:∀ s ∈ steps,∀ g ∈ s.gives,fU g
section
variable {d:Nat} {σn:ac}
theorem aaW {l:List Int} (hl:l.length <= 63) {names spots:List Str} {nmV:PV} {many room:Option PV}
    (hnm:∀ τ (i:Nat),i < 24->dK nmV (.int i) (σn++τ)=.ok (.str (names.getD i "")) (σn++τ)) (hsp:1 <= spots.length) (hsl:spots.length <= 100)
    (hnames:∀ i,i < 24->cN (names.getD i "")) (hspots:∀ n ∈ spots,cN n):∀ (n:Nat) (steps:List ah) (free:List Str) (kk pk rl mr nd gv wt md:Option PV),steps.length + n <= 20->yJ names steps free ->
    ∃ (steps':List ah) (free':List Str) (kk' pk' rl' mr' nd' gv' wt' md':Option PV),steps'.length <= 20/\yJ names steps' free' ∧
      bB none (cI 6) (fun ρ σ=>ex (CC (d + 2)) topN fv ρ σ) ((List.range' steps.length n).map fun (i:Nat)=>PV.int i) (bi (some (.fl (l.map .int))) (some nmV) many room (some (.ref σn.length)) kk (some (.ref (σn.length + 1))) (some (.fl (spots.map .str))) pk rl mr nd gv wt md) (aO σn (steps.map ah.pv) free) =
        .next (bi (some (.fl (l.map .int))) (some nmV) many room (some (.ref σn.length)) kk' (some (.ref (σn.length + 1))) (some (.fl (spots.map .str))) pk' rl' mr' nd' gv' wt' md') (aO σn (steps'.map ah.pv) free')
  | 0,steps,free,kk,pk,rl,mr,nd,gv,wt,md,h,I=>⟨steps,free,kk,pk,rl,mr,nd,gv,wt,md,by (assumption),I,cH⟩
  | n + 1,steps,free,kk,pk,rl,mr,nd,gv,wt,md,h,I=>by
    rw [List.range'_succ,List.map_cons]
    obtain ⟨pk',rl',mr',nd',gv',wt',md',T⟩:=aev (d:=d) (σn:=σn) hl (many:=many) (room:=room) (steps:=steps) (by omega) hnm hsp hsl I.len hnames hspots I.fr (List.nodup_append.mp I.nd).2.1 pk rl mr nd gv wt md
    rcases T with T | ⟨s,free',so,sn,sp,T⟩
    · exact ⟨steps,free,some (.int steps.length),pk',rl',mr',nd',gv',wt',md',by omega,I,aeh rfl T⟩
    · have I':yJ names (steps++[s]) free':=by
        refine ⟨fun x hx=>?_,?_,?_,fun x hx=>I.fr x (sp.subset (List.mem_append_right _ hx)),?_,fun x hx=>I.fp x (sp.subset (List.mem_append_right _ hx)),fun x hx g hg=>?_⟩
        · rcases List.mem_append.mp hx with q | q
          · exact I.ok x q
          · rw [List.mem_singleton.mp q]; exact so
        · rw [List.map_append,I.nm,List.length_append,List.length_singleton,List.range_succ,List.map_append,List.map_singleton,List.map_singleton,sn]
        · have:((steps++[s]).flatMap (·.gives)++free').Perm (steps.flatMap (·.gives)++free):=by
            rw [List.flatMap_append,List.append_assoc]
            refine List.Perm.append_left _ ?_
            simpa using sp
          exact this.nodup_iff.mpr I.nd
        · have:=sp.length_eq
          rw [List.length_append] at this
          have:=I.len
          omega
        · rcases List.mem_append.mp hx with q | q
          · exact I.gp x q g hg
          · rw [List.mem_singleton.mp q] at hg; exact I.fp g (sp.subset (List.mem_append_left _ hg))
      obtain ⟨steps2,free2,kk2,pk2,rl2,mr2,nd2,gv2,wt2,md2,q1,q2,q3⟩:=aaW hl hnm hsp hsl hnames hspots n (steps++[s]) free' (some (.int steps.length)) pk' rl' mr' nd' gv' wt' md' (by rw [List.length_append,List.length_singleton]; omega) I'
      refine ⟨steps2,free2,kk2,pk2,rl2,mr2,nd2,gv2,wt2,md2,q1,q2,(bZ rfl T).trans ?_⟩
      rw [List.length_append,List.length_singleton] at q3
      exact q3
theorem o5 {f:PV->Option PyData}:∀ {xs:List PV},(∀ x ∈ xs,∃ d,f x=some d)->∃ ds,xs.mapM f=some ds/\ds.length=xs.length
  | [],_=>⟨[],rfl,rfl⟩
  | x::xs,h=>by
    obtain ⟨e,he⟩:=h x (by simp)
    obtain ⟨es,hes,hl⟩:=o5 (xs:=xs) fun y hy=>h y (List.mem_cons_of_mem _ hy)
    exact ⟨e::es,by rw [List.mapM_cons,he,hes]; rfl,by simp [hl]⟩
theorem vw {σ:ac} {m:Nat} (l:List Str):∃ e,bT (m + 2) σ (.tup (l.map .str))=some e:=by
  obtain ⟨ds,h,_⟩:=o5 (f:=bT (m + 1) σ) (xs:=l.map .str) fun x hx=>by obtain ⟨w,_,rfl⟩:=List.mem_map.mp hx; exact ⟨.str w,rfl⟩
  exact ⟨.tuple ds,by show ((l.map PV.str).mapM (bT (m + 1) σ)).map PyData.tuple=_; rw [h]; rfl⟩
theorem ab4 {σ:ac} {m:Nat} (s:ah):∃ e,bT (m + 3) σ s.pv=some e:=by
  obtain ⟨ds,h,_⟩:=o5 (f:=bT (m + 2) σ) (xs:=[.str s.name,s.rule.pv,.tup (s.needs.map .str),.tup (s.gives.map .str)]) fun x hx=>by
    simp only [List.mem_cons,List.not_mem_nil,or_false] at hx
    rcases hx with q | q | q | q
    · subst q; exact ⟨.str s.name,rfl⟩
    · subst q; cases s.rule with
      | word w=>exact ⟨.tuple [.str w],rfl⟩
      | fixed v=>exact ⟨.tuple [.str "fixed",.int v],rfl⟩
    · subst q; exact vw _
    · subst q; exact vw _
  exact ⟨.tuple ds,by show (([PV.str s.name,s.rule.pv,.tup (s.needs.map .str),.tup (s.gives.map .str)]).mapM (bT (m + 2) σ)).map PyData.tuple=_; rw [h]; rfl⟩
theorem zV {σ:ac} {i:Nat} {steps:List ah} (hat:σ[i]?=some (.lst (steps.map ah.pv))):bn .eq (.ref i) (.fl []) σ=.ok (decide (steps=[])) σ:=by
  obtain ⟨ds,h,hl⟩:=o5 (f:=bT 15 σ) (xs:=steps.map ah.pv) fun x hx=>by obtain ⟨s,_,rfl⟩:=List.mem_map.mp hx; exact ab4 (m:=12) s
  have e:bT 16 σ (.ref i)=some (.list ds):=by
    show (match σ[i]? with | some (.lst xs)=>(xs.mapM (bT 15 σ)).map PyData.list | _=>none)=_
    rw [hat]; dsimp only; rw [h]; rfl
  show af.ofOpt (eqv σ (.ref i) (.fl [])) σ=_
  unfold eqv
  rw [e]
  show af.ok (PyData.eqv (.list ds) (.list [])) σ=_
  rw [List.length_map] at hl
  cases steps with
  | nil =>
    have:ds=[]:=List.eq_nil_of_length_eq_zero hl
    subst this; rfl
  | cons s steps =>
    cases ds with
    | nil=>simp at hl
    | cons x ds=>rw [show decide (s::steps=[])=false from decide_eq_false (by simp)]; rfl
theorem acI {names:List Str} (hn:names.Nodup) (hl:names.length=24) {steps:List ah} {free:List Str} (I:yJ names steps free) (h1:1 <= steps.length) (h2:steps.length <= 20):bD steps:=by
  refine ⟨h1,h2,I.ok,?_,(List.nodup_append.mp I.nd).1⟩
  rw [I.nm,List.Nodup,List.pairwise_map]
  refine List.Pairwise.imp_of_mem ?_ (List.nodup_range (n:=steps.length))
  intro i j hi hj hne e
  have hi:=List.mem_range.mp hi
  have hj:=List.mem_range.mp hj
  have e1:names.getD (23 - i) "" = names[23 - i]'(by omega):=by simp [List.getD,show 23 - i < names.length by omega]
  have e2:names.getD (23 - j) "" = names[23 - j]'(by omega):=by simp [List.getD,show 23 - j < names.length by omega]
  rw [e1,e2] at e
  have e3:names[23 - i]?=names[23 - j]?:=by rw [List.getElem?_eq_getElem (by omega),List.getElem?_eq_getElem (by omega),e]
  have:=(List.getElem?_inj (by omega) hn).mp e3
  omega
theorem acJ {names:List Str} (hl:names.length=24) {steps:List ah} {free:List Str} (I:yJ names steps free) {s:ah} (hs:s ∈ steps):s.name ∈ names:=by
  have h:s.name ∈ steps.map (·.name):=List.mem_map.mpr ⟨s,hs,rfl⟩
  rw [I.nm] at h
  obtain ⟨j,_,e⟩:=List.mem_map.mp h
  have e1:names.getD (23 - j) "" = names[23 - j]'(by omega):=by simp [List.getD,show 23 - j < names.length by omega]
  rw [<- e,e1]; exact List.getElem_mem _
theorem acq {names:List Str} (hl:names.length=24) {v:PV} (h:(v=.fl (names.map .str)/\σn=[])\/(v=.ref 0/\σn=[.lst (names.map .str)])):∀ τ (i:Nat),i < 24->dK v (.int i) (σn++τ)=.ok (.str (names.getD i "")) (σn++τ):=by
  intro τ i hi
  have hg:(names.map PV.str)[(i:Int).toNat]?=some (.str (names.getD i "")):=by
    rw [List.getElem?_map]
    simp [List.getD,show i < names.length by omega]
  have hlim:(names.map PV.str).length <= am:=cO (by omega)
  rcases h with ⟨rfl,rfl⟩ | ⟨rfl,rfl⟩
  · exact dL hlim (by omega) hg
  · exact yh (by rfl) hlim (by omega) hg
end
end Mine
namespace Mine
open PySem
section
variable {d:Nat} {σ:ac}
theorem oF {l:List Int} (hl:l.length <= 63) {j:Nat} {a:X} {ρ:aw} (h0:ev (CC (d + 2)) (.v 0) ρ σ=.ok (.fl (l.map .int)) σ) (ha:ev (CC (d + 2)) a ρ σ=.ok (.int j) σ):ev (CC (d + 2)) (.call bj (.cons (.v 0) (.cons a .nil))) ρ σ=.ok (.int (l.getD j 0)) σ:=
  di h0 ha (h12 hl)
theorem tx {xs:List Int} {ρ:aw} {C:a8} {a b:X} {i:Int} (ha:ev C a ρ σ=.ok (.fl (xs.map .int)) σ) (hb:ev C b ρ σ=.ok (.int i) σ) (hl:xs.length <= 100) (h0:0 <= i) (h1:i.toNat < xs.length):ev C (.sub a b) ρ σ=.ok (.int (xs.getD i.toNat 0)) σ:=by
  refine bH ha hb (dL (by rw [List.length_map]; exact Nat.le_trans hl (by decide)) h0 ?_)
  rw [List.getElem?_map]
  simp [List.getD,h1]
theorem act (a b:Nat):min (a:Int) (b:Int)=((min a b:Nat):Int):=by
  rcases Nat.le_total a b with h | h
  · rw [Int.min_eq_left (Int.ofNat_le.mpr h),Nat.min_eq_left h]
  · rw [Int.min_eq_right (Int.ofNat_le.mpr h),Nat.min_eq_right h]
theorem wk {xs:List Str} {i:Nat} (h:i < xs.length):xs.getD i "" ∈ xs:=by
  rw [List.getD_eq_getElem?_getD,List.getElem?_eq_getElem h]; exact List.getElem_mem h
theorem h17 {l:List Int} (hl:l.length <= 63):∃ p σ',bD p/\(∀ s ∈ p,fU s.name/\∀ g ∈ s.gives,fU g)/\aU PP topN (d + 3) rf [.fl (l.map .int),.int 0] []=.ok (ak p) σ':=by
  obtain ⟨names,nl,nn,nok,npl,hcall⟩:=h14 (l.getD 0 0)
  obtain ⟨nmV,σn,hc14,hform⟩:∃ nmV σn,(∀ d,aU PP topN (d + 1) fK [.int (l.getD 0 0)] []=.ok nmV σn)/\((nmV=.fl (names.map .str)/\σn=[])\/(nmV=.ref 0/\σn=[.lst (names.map .str)])):=by
    rcases hcall with h | h
    · exact ⟨_,_,h,.inl ⟨rfl,rfl⟩⟩
    · exact ⟨_,_,h,.inr ⟨rfl,rfl⟩⟩
  have hnm:=acq (σn:=σn) nl hform
  have hnames:∀ i,i < 24->cN (names.getD i ""):=fun i hi=>nok _ (wk (nl ▸ hi))
  have hpl:∀ i,i < 24->fU (names.getD i ""):=fun i hi=>npl _ (wk (nl ▸ hi))
  generalize hc1:l.getD 1 0=c1
  generalize hc2:l.getD 2 0=c2
  have m0:=Int.emod_nonneg c1 (show (6:Int) ≠ 0 by decide)
  have m1:=Int.emod_lt_of_pos c1 (show (0:Int) < 6 by decide)
  have r0:=Int.emod_nonneg c2 (show (4:Int) ≠ 0 by decide)
  have r1:=Int.emod_lt_of_pos c2 (show (0:Int) < 4 by decide)
  have w0:=Int.emod_nonneg (c1 / 60) (show (12:Int) ≠ 0 by decide)
  have w1:=Int.emod_lt_of_pos (c1 / 60) (show (0:Int) < 12 by decide)
  have cell1:∀ {a b c e f g h i j k o m n:Option PV} {σ:ac},ev (CC (d + 2)) (.call bj (.cons (.v 0) (.cons (.bin .add (.v 1) (.k (.int 1))) .nil))) (bi (some (.fl (l.map .int))) a b c e f g h i j k o m n none) σ=.ok (.int c1) σ:=fun {a b c e f g h i j k o m n σ}=>by
    rw [oF hl (j:=1) rfl (aC (x:=.int 0) (y:=.int 1) (σ₁:=σ) (σ₂:=σ) rfl rfl add_int),hc1]
  have cell2:∀ {a b c e f g h i j k o m n:Option PV} {σ:ac},ev (CC (d + 2)) (.call bj (.cons (.v 0) (.cons (.bin .add (.v 1) (.k (.int 2))) .nil))) (bi (some (.fl (l.map .int))) a b c e f g h i j k o m n none) σ=.ok (.int c2) σ:=fun {a b c e f g h i j k o m n σ}=>by
    rw [oF hl (j:=2) rfl (aC (x:=.int 0) (y:=.int 2) (σ₁:=σ) (σ₂:=σ) rfl rfl add_int),hc2]
  have e0:ex (CC (d + 2)) topN iT (bi (some (.fl (l.map .int))) none none none none none none none none none none none none none none) []=.next (bi (some (.fl (l.map .int))) (some nmV) none none none none none none none none none none none none none) σn:=
    a7 (aT (oF hl (j:=0) rfl rfl) (hc14 (d + 1)))
  obtain ⟨many,hm1,hm20,hmany⟩:∃ many:Nat,1 <= many/\many <= 20/\∀ rest,ex (CC (d + 2)) topN (.cons fO (.cons ef rest)) (bi (some (.fl (l.map .int))) (some nmV) none none none none none none none none none none none none none) σn=ex (CC (d + 2)) topN rest (bi (some (.fl (l.map .int))) (some nmV) (some (.int many)) none none none none none none none none none none none none) σn:=by
    have hlist:∃ q:Nat,1 <= q/\q <= 20/\([1,2,3,4,6,8]:List Int).getD (c1 % 6).toNat 0=q:=by
      refine lv (n:=6) (P:=fun w=>∃ q:Nat,1 <= q/\q <= 20/\([1,2,3,4,6,8]:List Int).getD w.toNat 0=q) (bS (bS (bS (bS (bS (bS sY ?_) ?_) ?_) ?_) ?_) ?_) m0 m1
      · exact ⟨1,by decide,by decide,rfl⟩
      · exact ⟨2,by decide,by decide,rfl⟩
      · exact ⟨3,by decide,by decide,rfl⟩
      · exact ⟨4,by decide,by decide,rfl⟩
      · exact ⟨6,by decide,by decide,rfl⟩
      · exact ⟨8,by decide,by decide,rfl⟩
    obtain ⟨q,q1,q2,hq⟩:=hlist
    have e1:ex (CC (d + 2)) topN fO (bi (some (.fl (l.map .int))) (some nmV) none none none none none none none none none none none none none) σn=.next (bi (some (.fl (l.map .int))) (some nmV) (some (.int q)) none none none none none none none none none none none none) σn:=by
      refine a7 ((tx (xs:=[1,2,3,4,6,8]) rfl (aC cell1 (y:=.int 6) (σ₂:=σn) rfl (bA (by decide))) (by decide) m0 (eK (n:=6) m0 m1)).trans ?_)
      rw [hq]
    have t2:tst (CC (d + 2)) (.cmp (.bin .mod (.bin .fdiv (.call bj (.cons (.v 0) (.cons (.bin .add (.v 1) (.k (.int 1))) .nil))) (.k (.int 6))) (.k (.int 10))) .eq (.k (.int 1))) (bi (some (.fl (l.map .int))) (some nmV) (some (.int q)) none none none none none none none none none none none none) σn=.ok (c1 / 6 % 10 == 1) σn:=
      aN (ly (by decide) (by decide) (by decide) cell1) (y:=.int 1) (σ₂:=σn) rfl dv
    by_cases h10:(c1 / 6 % 10 == 1)=true
    · obtain ⟨w,hw⟩:=Int.eq_ofNat_of_zero_le w0
      rw [hw] at w1
      refine ⟨9 + w,Nat.le_trans (by decide) (Nat.le_add_right 9 w),Nat.add_le_add_left (Nat.le_of_lt_succ (Int.ofNat_lt.mp w1)) 9,fun rest=>?_⟩
      rw [aa e1,aa (a:=ef) (ρ':=bi (some (.fl (l.map .int))) (some nmV) (some (.int ((9 + w:Nat):Int))) none none none none none none none none none none none none) (σ':=σn) ?_]
      refine (aV (σ':=σn) (t2.trans (by rw [h10]))).trans ((aa (a7 ((aC (x:=.int 9) (σ₁:=σn) rfl (ly (by decide) (by decide) (by decide) cell1) add_int).trans ?_))).trans aj)
      rw [hw]; rfl
    · refine ⟨q,q1,q2,fun rest=>?_⟩
      rw [aa e1,aa (a:=ef) ((aH (σ':=σn) (t2.trans (by rw [show (c1 / 6 % 10 == 1)=false by simpa using h10]))).trans aj)]
  obtain ⟨room,hr2,hr9,hroom⟩:∃ room:Nat,2 <= room/\room <= 9/\([2,4,6,9]:List Int).getD (c2 % 4).toNat 0=room:=by
    refine lv (n:=4) (P:=fun w=>∃ room:Nat,2 <= room/\room <= 9/\([2,4,6,9]:List Int).getD w.toNat 0=room) (bS (bS (bS (bS sY ?_) ?_) ?_) ?_) r0 r1
    · exact ⟨2,by decide,by decide,rfl⟩
    · exact ⟨4,by decide,by decide,rfl⟩
    · exact ⟨6,by decide,by decide,rfl⟩
    · exact ⟨9,by decide,by decide,rfl⟩
  have e3:ex (CC (d + 2)) topN iS (bi (some (.fl (l.map .int))) (some nmV) (some (.int many)) none none none none none none none none none none none none) σn=.next (bi (some (.fl (l.map .int))) (some nmV) (some (.int many)) (some (.int room)) none none none none none none none none none none none) σn:=by
    refine a7 ((tx (xs:=[2,4,6,9]) rfl (aC cell2 (y:=.int 4) (σ₂:=σn) rfl (bA (by decide))) (by decide) r0 (eK (n:=4) r0 r1)).trans ?_)
    rw [hroom]
  have e4:ex (CC (d + 2)) topN iR (bi (some (.fl (l.map .int))) (some nmV) (some (.int many)) (some (.int room)) none none none none none none none none none none none) σn=.next (bi (some (.fl (l.map .int))) (some nmV) (some (.int many)) (some (.int room)) (some (.ref σn.length)) none none none none none none none none none none) (σn++[.lst []]):=rfl
  obtain ⟨t,ht,ht1⟩:∃ t:Nat,min (24:Int) ((room:Int) + many)=t/\1 <= t/\t <= 24:=by
    refine ⟨min 24 (room + many),?_,Nat.le_min.mpr ⟨by decide,Nat.le_trans hm1 (Nat.le_add_left _ _)⟩,Nat.min_le_left _ _⟩
    exact act 24 (room + many)
  have tl:(names.take t).length=t:=by rw [List.length_take,nl]; exact Nat.min_eq_left ht1.2
  have e5:ex (CC (d + 2)) topN iQ (bi (some (.fl (l.map .int))) (some nmV) (some (.int many)) (some (.int room)) (some (.ref σn.length)) none none none none none none none none none none) (σn++[.lst []])=.next (bi (some (.fl (l.map .int))) (some nmV) (some (.int many)) (some (.int room)) (some (.ref σn.length)) none (some (.ref (σn.length + 1))) none none none none none none none none) (aO σn [] (names.take t)):=by
    refine a7 ?_
    show ev (CC (d + 2)) (.comp false 1 _ _ _ _) _ _=_
    have hmin:ev (CC (d + 2)) (.min2 (.k (.int 24)) (.bin .add (.v 4) (.v 3))) (bi (some (.fl (l.map .int))) (some nmV) (some (.int many)) (some (.int room)) (some (.ref σn.length)) none none none none none none none none none none) (σn++[.lst []])=.ok (.int t) (σn++[.lst []]):=by
      refine abx (x:=.int 24) (y:=.int ((room:Int) + many)) (σ₁:=σn++[.lst []]) (σ₂:=σn++[.lst []]) rfl (aC (x:=.int room) (y:=.int many) (σ₁:=σn++[.lst []]) (σ₂:=σn++[.lst []]) rfl rfl add_int) ?_
      show af.ok (PV.int (min (24:Int) ((room:Int) + many))) _=_
      rw [ht]
    rw [et,hO (n:=t) (Nat.le_trans ht1.2 (by decide)) hmin,av]
    dsimp only
    rw [mG (g:=fun x=>match x with | .int i=>.str (names.getD i.toNat "") | _=>.none) _ fun x hx=>?_]
    · show bR false _ _=_
      rw [nF (f:=fun k=>names.getD k "") fun k hk=>by simp,aaN (cO (by simp; omega))]
      have hmap:(List.range t).map (fun k=>names.getD k "")=names.take t:=by
        refine List.ext_getElem (by simp; omega) fun i h1 h2=>?_
        simp [List.getD,show i < names.length by simp at h1; omega]
      rw [hmap]
      simp [aO]
    · obtain ⟨k,hk,rfl⟩:=eO hx
      show ((ev _ _ _ _).bind fun v σ=>af.ok (some v) σ)=_
      rw [bH (x:=nmV) (y:=.int k) (σ₁:=σn++[.lst []]) (σ₂:=σn++[.lst []]) rfl rfl (hnm [.lst []] k (Nat.lt_of_lt_of_le hk ht1.2))]
      simp [av]
  have e6:ex (CC (d + 2)) topN iP (bi (some (.fl (l.map .int))) (some nmV) (some (.int many)) (some (.int room)) (some (.ref σn.length)) none (some (.ref (σn.length + 1))) none none none none none none none none) (aO σn [] (names.take t))=.next (bi (some (.fl (l.map .int))) (some nmV) (some (.int many)) (some (.int room)) (some (.ref σn.length)) none (some (.ref (σn.length + 1))) (some (.fl ((names.take t).map .str))) none none none none none none none) (aO σn [] (names.take t)):=by
    refine a7 (cQ (x:=.ref (σn.length + 1)) (σ₁:=aO σn [] (names.take t)) rfl ?_)
    have:a5 (aO σn [] (names.take t)) (.ref (σn.length + 1))=some ((names.take t).map .str):=by unfold a5; dsimp only; rw [pj]
    exact (gu this).trans (l9 (cO (by rw [tl]; exact Nat.le_trans ht1.2 (by decide))))
  have I0:yJ names [] (names.take t):=⟨fun s hs=>(by cases hs),rfl,by simpa using nn.sublist (List.take_sublist _ _),fun n hn=>nok n (List.mem_of_mem_take hn),by omega,fun n hn=>npl n (List.mem_of_mem_take hn),fun s hs=>(by cases hs)⟩
  obtain ⟨steps,free,kk,pk,rl,mr,nd,gv,wt,md,sl,I,hloop⟩:=aaW (d:=d) (σn:=σn) hl (nmV:=nmV) (many:=some (.int many)) (room:=some (.int room)) (spots:=names.take t) hnm (by omega) (by omega) hnames (fun n hn=>nok n (List.mem_of_mem_take hn)) many [] (names.take t) none none none none none none none none (by simpa using hm20) I0
  have e7:ex (CC (d + 2)) topN iO (bi (some (.fl (l.map .int))) (some nmV) (some (.int many)) (some (.int room)) (some (.ref σn.length)) none (some (.ref (σn.length + 1))) (some (.fl ((names.take t).map .str))) none none none none none none none) (aO σn [] (names.take t))=.next (bi (some (.fl (l.map .int))) (some nmV) (some (.int many)) (some (.int room)) (some (.ref σn.length)) kk (some (.ref (σn.length + 1))) (some (.fl ((names.take t).map .str))) pk rl mr nd gv wt md) (aO σn (steps.map ah.pv) free):=by
    refine dQ (ys:=(List.range' 0 many).map fun (i:Nat)=>PV.int i) (σ₁:=aO σn [] (names.take t)) ((hO (n:=many) (by (exact Nat.le_trans (by assumption) (by decide))) rfl).trans ?_) hloop
    have:aP 0 1 many=(List.range' 0 many).map fun (i:Nat)=>PV.int i:=by
      unfold aP; rw [List.range_eq_range']; refine List.map_congr_left fun i _=>?_; congr 1; omega
    rw [this]
  have tup_at:∀ {p:List ah} {f:List Str},p.length <= 20->db .tuple (.ref σn.length) (aO σn (p.map ah.pv) f)=.ok (ak p) (aO σn (p.map ah.pv) f):=fun {p f} hp=>by
    have:a5 (aO σn (p.map ah.pv) f) (.ref σn.length)=some (p.map ah.pv):=by unfold a5; dsimp only; rw [pi]
    exact (gu this).trans (if_pos (acl hp))
  obtain ⟨p,hp,hpp,e8⟩:∃ p,bD p/\(∀ s ∈ p,fU s.name/\∀ g ∈ s.gives,fU g)/\ex (CC (d + 2)) topN iN (bi (some (.fl (l.map .int))) (some nmV) (some (.int many)) (some (.int room)) (some (.ref σn.length)) kk (some (.ref (σn.length + 1))) (some (.fl ((names.take t).map .str))) pk rl mr nd gv wt md) (aO σn (steps.map ah.pv) free)=.next (bi (some (.fl (l.map .int))) (some nmV) (some (.int many)) (some (.int room)) (some (.ref σn.length)) kk (some (.ref (σn.length + 1))) (some (.fl ((names.take t).map .str))) pk rl mr nd gv wt md) (aO σn (p.map ah.pv) free):=by
    have tt:tst (CC (d + 2)) (.cmp (.v 5) .eq (.lst true .nil)) (bi (some (.fl (l.map .int))) (some nmV) (some (.int many)) (some (.int room)) (some (.ref σn.length)) kk (some (.ref (σn.length + 1))) (some (.fl ((names.take t).map .str))) pk rl mr nd gv wt md) (aO σn (steps.map ah.pv) free)=.ok (decide (steps=[])) (aO σn (steps.map ah.pv) free):=
      aN (x:=.ref σn.length) (y:=.fl []) (σ₁:=aO σn (steps.map ah.pv) free) (σ₂:=aO σn (steps.map ah.pv) free) rfl rfl (zV pi)
    by_cases he:steps=[]
    · refine ⟨[ah.mk (names.getD 0 "") (.word "sum") [names.getD 0 ""] [names.getD 1 ""]],?_,fun s hs=>?_,?_⟩
      · refine ⟨Nat.le_refl 1,(by show (1:Nat) <= 20; decide),fun s hs=>?_,by simp,by simp⟩
        rw [List.mem_singleton.mp hs]
        exact ⟨hnames 0 (by decide),fun n hn=>by rw [List.mem_singleton.mp hn]; exact hnames 0 (by decide),Nat.le_refl 1,(by show (1:Nat) <= 4; decide),fun n hn=>by rw [List.mem_singleton.mp hn]; exact hnames 1 (by decide),Nat.le_refl 1,(by show (1:Nat) <= 3; decide),by simp,.sum _ _⟩
      · rw [List.mem_singleton.mp hs]
        exact ⟨hpl 0 (by decide),fun g hg=>by rw [List.mem_singleton.mp hg]; exact hpl 1 (by decide)⟩
      · subst he
        refine (aV (σ':=aO σn [] free) (tt.trans (by rw [decide_eq_true rfl]; rfl))).trans ((aa (cb (gW (m:=.append) (x:=.ref σn.length) (σ₁:=aO σn [] free) rfl (iD (.inl rfl)) (y:=ah.pv (ah.mk (names.getD 0 "") (.word "sum") [names.getD 0 ""] [names.getD 1 ""])) (σ₂:=aO σn [] free) ?_ ?_))).trans aj)
        · have n0:∀ {kk pk rl mr nd gv wt md sp:Option PV},ev (CC (d + 2)) (.sub (.v 2) (.k (.int 0))) (bi (some (.fl (l.map .int))) (some nmV) (some (.int many)) (some (.int room)) (some (.ref σn.length)) kk (some (.ref (σn.length + 1))) sp pk rl mr nd gv wt md) (aO σn [] free)=.ok (.str (names.getD 0 "")) (aO σn [] free):=fun {kk pk rl mr nd gv wt md sp} =>
            bH (x:=nmV) (y:=.int ((0:Nat):Int)) (σ₁:=aO σn [] free) (σ₂:=aO σn [] free) rfl rfl (hnm _ 0 (by decide))
          have n1:∀ {kk pk rl mr nd gv wt md sp:Option PV},ev (CC (d + 2)) (.sub (.v 2) (.k (.int 1))) (bi (some (.fl (l.map .int))) (some nmV) (some (.int many)) (some (.int room)) (some (.ref σn.length)) kk (some (.ref (σn.length + 1))) sp pk rl mr nd gv wt md) (aO σn [] free)=.ok (.str (names.getD 1 "")) (aO σn [] free):=fun {kk pk rl mr nd gv wt md sp} =>
            bH (x:=nmV) (y:=.int ((1:Nat):Int)) (σ₁:=aO σn [] free) (σ₂:=aO σn [] free) rfl rfl (hnm _ 1 (by decide))
          exact eF (vs:=[.str (names.getD 0 ""),.tup [.str "sum"],.tup [.str (names.getD 0 "")],.tup [.str (names.getD 1 "")]]) (aF n0 (aF (x:=.tup [.str "sum"]) (σ₁:=aO σn [] free) rfl (aF (eF (vs:=[.str (names.getD 0 "")]) (aF n0 rfl) (show (1:Nat) <= am by decide)) (aF (eF (vs:=[.str (names.getD 1 "")]) (aF n1 rfl) (show (1:Nat) <= am by decide)) rfl)))) (show (4:Nat) <= am by decide)
        · show cX (.ref σn.length) _ _=_
          have hat:(aO σn [] free)[σn.length]?=some (.lst []):=pi
          unfold cX; dsimp only; rw [hat]; dsimp only
          rw [if_pos (by decide)]
          congr 1
          show (σn++[MO.lst [],.lst (free.map .str)]).set σn.length _=_
          rw [List.set_append_right _ _ (Nat.le_refl _),Nat.sub_self]
          simp [aO]
    · refine ⟨steps,acI nn nl I ?_ sl,fun s hs=>⟨npl _ (acJ nl I hs),I.gp s hs⟩,(aH (tt.trans (by rw [decide_eq_false he]))).trans aj⟩
      cases steps with
      | nil=>exact absurd rfl he
      | cons _ _=>simp
  refine ⟨p,aO σn (p.map ah.pv) free,hp,hpp,?_⟩
  rw [bz (fn:=rC) rfl rfl]
  show aX (ex (CC (d + 2)) topN (.cons iT (.cons fO (.cons ef (.cons iS (.cons iR (.cons iQ (.cons iP (.cons iO (.cons iN (.cons iM .nil)))))))))) (bi (some (.fl (l.map .int))) none none none none none none none none none none none none none none) [])=_
  rw [aa e0,hmany,aa e3,aa e4,aa e5,aa e6,aa e7,aa e8,ao (a:=iM) (aB (cQ (x:=.ref σn.length) (σ₁:=aO σn (p.map ah.pv) free) rfl (tup_at hp.most)))]
  rfl
end
end Mine
namespace Mine
open PySem
section
variable {d:Nat} {σ:ac}
theorem afV {i a b:Int}:aU PP topN (d + 1) c7 [.int i,.int a,.int b] σ=.ok (.bool (decide (a <= i) && decide (i <= b))) σ:=by
  rw [bz (fn:=eW) rfl rfl]
  have:ex (CC d) topN eW.body [some (.int i),some (.int a),some (.int b),none,none,none] σ=.ret (.bool (decide (a <= i) && decide (i <= b))) [some (.int i),some (.int a),some (.int b),none,none,none] σ:=
    ao (aB (kK (gf (σ₁:=σ) rfl (gf (σ₁:=σ) rfl (ij (iz rfl rfl rfl))))))
  exact (congrArg aX this).trans rfl
theorem cw {τ υ:ac} {m:MO}:(τ++m::υ)[τ.length]?=some m:=by simp
theorem oV {τ υ:ac} {m m':MO}:(τ++m::υ).set τ.length m'=τ++m'::υ:=by simp
theorem tX {es:List (Str × PV)} {k:Str}:k ∉ es.map (·.1)->az k es=none:=by
  intro h
  unfold az
  rw [List.find?_eq_none.mpr]
  · rfl
  · intro e he q
    exact h (List.mem_map.mpr ⟨e,he,of_decide_eq_true q⟩)
theorem wW {es:List (Str × PV)} {k:Str} {v:PV} (h:k ∉ es.map (·.1)):bW k v es=es++[(k,v)]:=by
  unfold bW
  rw [if_neg]
  intro q
  obtain ⟨e,he,q⟩:=List.any_eq_true.mp q
  exact h (List.mem_map.mpr ⟨e,he,of_decide_eq_true q⟩)
theorem abR {es:List (Str × PV)} {k:Str}:(az k es).isSome=decide (k ∈ es.map (·.1)):=by
  by_cases h:k ∈ es.map (·.1)
  · rw [decide_eq_true h]
    obtain ⟨e,he,q⟩:=List.mem_map.mp h
    unfold az
    rw [Option.isSome_map,List.find?_isSome]
    exact ⟨e,he,decide_eq_true q⟩
  · rw [decide_eq_false h,tX h]; rfl
noncomputable def a6 (p:List ah):List (Str × PV):=p.flatMap fun s=>s.gives.map fun g=>(g,s.pv)
theorem pB (p:List ah):(a6 p).map (·.1)=p.flatMap (·.gives):=by
  unfold a6
  rw [List.map_flatMap]
  congr 1
  funext s
  rw [List.map_map]
  exact List.map_id _
theorem aca {r:Nat} {es:List (Str × PV)} {k:Str} {v:PV} {ρ:aw} (hr:σ[r]?=some (.ds es)) (hl:es.length < am):cg (.ref r) (.str k) v ρ σ=.next ρ (σ.set r (.ds (bW k v es))):=by
  have e:((σ[r]?).bind fun m=>li m (.str k) v)=some (.ds (bW k v es)):=by rw [hr]; exact if_pos hl
  unfold cg; dsimp only; rw [e]
theorem vz {r:Nat} {es:List ((Str × Int) × PV)} {x:Str} {j:Int} {v:PV} {ρ:aw} (hr:σ[r]?=some (.dp es)) (hl:es.length < am):cg (.ref r) (.tup [.str x,.int j]) v ρ σ=.next ρ (σ.set r (.dp (bW (x,j) v es))):=by
  have e:((σ[r]?).bind fun m=>li m (.tup [.str x,.int j]) v)=some (.dp (bW (x,j) v es)):=by rw [hr]; exact if_pos hl
  unfold cg; dsimp only; rw [e]
theorem ae4 {pl s:PV} {τ:ac}:∀ (gs:List Str) (y:Option PV) (es:List (Str × PV)),es.length + gs.length <= 1000->(es.map (·.1)++gs).Nodup ->
    ∃ y',bB none (cI 3) (fun ρ σ=>ex (CC d) topN i7 ρ σ) (gs.map .str) [some pl,some (.ref τ.length),some s,y] (τ++[.ds es]) =
      .next [some pl,some (.ref τ.length),some s,y'] (τ++[.ds (es++gs.map fun g=>(g,s))]):=by
  intro gs
  induction gs with
  | nil=>intro y es _ _; exact ⟨y,by simpa using cH⟩
  | cons g gs ih =>
    intro y es hl hn
    have hk:g ∉ es.map (·.1):=fun q=>(List.nodup_append.mp hn).2.2 g q g (by simp) rfl
    rw [List.length_cons] at hl
    obtain ⟨y',e⟩:=ih (some (.str g)) (es++[(g,s)]) (by rw [List.length_append]; show es.length + 1 + gs.length <= 1000; omega) (by simpa using hn)
    refine ⟨y',(bZ (ρ₁:=[some pl,some (.ref τ.length),some s,some (.str g)]) (ρ₂:=[some pl,some (.ref τ.length),some s,some (.str g)]) (σ₂:=τ++[.ds (es++[(g,s)])]) rfl ?_).trans (e.trans (by simp))⟩
    refine (aa ?_).trans aj
    show cg (.ref τ.length) (.str g) s _ (τ++[.ds es])=_
    rw [aca cw (by rw [be]; omega),oV,wW hk]
theorem aef {pl:PV} {τ:ac}:∀ (p:List ah) (x y:Option PV) (es:List (Str × PV)),es.length + 3 * p.length <= 1000->(∀ s ∈ p,s.gives.length <= 3)->(es.map (·.1)++p.flatMap (·.gives)).Nodup ->
    ∃ x' y',bB none (cI 2) (fun ρ σ=>ex (CC d) topN kG ρ σ) (p.map ah.pv) [some pl,some (.ref τ.length),x,y] (τ++[.ds es]) =
      .next [some pl,some (.ref τ.length),x',y'] (τ++[.ds (es++a6 p)]):=by
  intro p
  induction p with
  | nil=>intro x y es _ _ _; exact ⟨x,y,by simpa [a6] using cH⟩
  | cons s p ih =>
    intro x y es hl h3 hn
    have hs:=h3 s (by simp)
    rw [List.length_cons] at hl
    rw [List.flatMap_cons,<- List.append_assoc] at hn
    obtain ⟨y1,e1⟩:=ae4 (d:=d) (pl:=pl) (s:=s.pv) (τ:=τ) s.gives y es (by omega) (List.nodup_append.mp hn).1
    have hk:(es++s.gives.map fun g=>(g,s.pv)).map (·.1)=es.map (·.1)++s.gives:=by
      rw [List.map_append,List.map_map]; congr 1; exact List.map_id _
    obtain ⟨x',y',e2⟩:=ih (some s.pv) y1 (es++s.gives.map fun g=>(g,s.pv)) (by rw [List.length_append,List.length_map]; omega) (fun t ht=>h3 t (List.mem_cons_of_mem _ ht)) (by rw [hk]; exact hn)
    refine ⟨x',y',(bZ (ρ₁:=[some pl,some (.ref τ.length),some s.pv,y]) (ρ₂:=[some pl,some (.ref τ.length),some s.pv,y1]) (σ₂:=τ++[.ds (es++s.gives.map fun g=>(g,s.pv))]) rfl ?_).trans (e2.trans (by simp [a6]))⟩
    exact (aa (dQ (ys:=s.gives.map .str) (σ₁:=τ++[.ds es]) rfl e1)).trans aj
theorem tL {p:List ah} (h:bD p):aU PP topN (d + 1) ir [ak p] σ=.ok (.ref σ.length) (σ++[.ds (a6 p)]):=by
  rw [bz (fn:=k6) rfl rfl]
  obtain ⟨x',y',e⟩:=aef (d:=d) (pl:=ak p) (τ:=σ) p none none [] (by show 0 + 3 * p.length <= 1000; have:=h.most; omega) (fun s hs=>(h.steps s hs).gives3) (by simpa using h.gives)
  have:ex (CC d) topN k6.body [some (ak p),none,none,none] σ=.ret (.ref σ.length) [some (ak p),some (.ref σ.length),x',y'] (σ++[.ds (a6 p)]):=by
    refine (aa (a:=lN) (ρ':=[some (ak p),some (.ref σ.length),none,none]) (σ':=σ++[.ds []]) rfl).trans ((aa (dQ (ys:=p.map ah.pv) (σ₁:=σ++[.ds []]) rfl e)).trans ?_)
    exact ao (aB rfl)
  exact (congrArg aX this).trans rfl
end
end Mine
namespace Mine
open PySem
section
variable {d:Nat} {σ:ac}
theorem nx {ns:List Str}:(ns.map PV.str).mapM (bT 16 σ)=some (ns.map PyData.str):=by
  induction ns with
  | nil=>rfl
  | cons n ns ih=>rw [List.map_cons,List.mapM_cons,ih]; rfl
theorem tF {ns:List Str} {g:Str}:iK σ (.str g) (ns.map .str)=some (decide (g ∈ ns)):=by
  unfold iK
  rw [nx]
  show some ((ns.map PyData.str).any fun y=>PyData.eqv y (.str g))=_
  congr 1
  rw [List.any_map]
  induction ns with
  | nil=>rfl
  | cons n ns ih =>
    rw [List.any_cons,ih]
    show (n == g || decide (g ∈ ns))=_
    by_cases q:n=g
    · subst q; simp
    · rw [beq_eq_false_iff_ne.mpr q]
      by_cases q2:g ∈ ns
      · simp [q2]
      · rw [decide_eq_false q2,decide_eq_false (by simp [q2]; exact fun z=>q z.symm)]; rfl
theorem dW {r:Nat} {ns:List Str} {g:Str} (h:σ[r]?=some (.lst (ns.map .str))):bn .notin (.str g) (.ref r) σ=.ok (!decide (g ∈ ns)) σ:=by
  show af.ofOpt ((cA (.str g) (.ref r) σ).map (!·)) σ=_
  have:cA (.str g) (.ref r) σ=some (decide (g ∈ ns)):=by
    unfold cA
    dsimp only
    rw [h]
    exact tF
  rw [this]; rfl
theorem tA {r:Nat} {es:List (Str × PV)} {g:Str} (h:σ[r]?=some (.ds es)):bn .notin (.str g) (.ref r) σ=.ok (!decide (g ∈ es.map (·.1))) σ:=by
  show af.ofOpt ((cA (.str g) (.ref r) σ).map (!·)) σ=_
  have:cA (.str g) (.ref r) σ=some (decide (g ∈ es.map (·.1))):=by
    unfold cA
    dsimp only
    rw [h]
    exact congrArg some abR
  rw [this]; rfl
noncomputable def aS (G acc:List Str) (n:Str):List Str:=if (!decide (n ∈ G) && !decide (n ∈ acc))=true then acc++[n] else acc
noncomputable def nI (G ns:List Str):List Str:=ns.foldl (aS G) []
theorem ip {G acc:List Str} {n:Str}:(aS G acc n).length <= acc.length + 1:=by
  unfold aS; split
  · simp
  · omega
theorem lq {G:List Str}:∀ (ns acc:List Str),(ns.foldl (aS G) acc).length <= acc.length + ns.length:=by
  intro ns
  induction ns with
  | nil=>intro acc; exact Nat.le_refl _
  | cons n ns ih =>
    intro acc
    rw [List.foldl_cons,List.length_cons]
    have h1:=ih (aS G acc n)
    have h2:=ip (G:=G) (acc:=acc) (n:=n)
    omega
theorem sX {τ:ac} {xs:List PV} {v:PV} (h:xs.length < 1000):kf .append (.ref τ.length) [v] (τ++[.lst xs])=.ok .none (τ++[.lst (xs++[v])]):=tW h
theorem aeI {pl s:PV} {r:Nat} {es:List (Str × PV)} {τ:ac} {w:Option PV} (hr:τ[r]?=some (.ds es)):∀ (ns:List Str) (y:Option PV) (acc:List Str),acc.length + ns.length <= 900 ->
    ∃ y',bB none (cI 4) (fun ρ σ=>ex (CC d) topN kl ρ σ) (ns.map .str) [some pl,some (.ref r),some (.ref τ.length),some s,y,w] (τ++[.lst (acc.map .str)]) =
      .next [some pl,some (.ref r),some (.ref τ.length),some s,y',w] (τ++[.lst ((ns.foldl (aS (es.map (·.1))) acc).map .str)]):=by
  intro ns
  induction ns with
  | nil=>intro y acc _; exact ⟨y,cH⟩
  | cons n ns ih =>
    intro y acc hl
    rw [List.length_cons] at hl
    obtain ⟨y',e⟩:=ih (some (.str n)) (aS (es.map (·.1)) acc n) (by have:=ip (G:=es.map (·.1)) (acc:=acc) (n:=n); omega)
    refine ⟨y',(bZ (ρ₁:=[some pl,some (.ref r),some (.ref τ.length),some s,some (.str n),w]) (ρ₂:=[some pl,some (.ref r),some (.ref τ.length),some s,some (.str n),w]) (σ₂:=τ++[.lst ((aS (es.map (·.1)) acc n).map .str)]) rfl ?_).trans e⟩
    have hr':(τ++[MO.lst (acc.map .str)])[r]?=some (.ds es):=by
      rw [List.getElem?_append_left (List.getElem?_eq_some_iff.mp hr).1]; exact hr
    have t:tst (CC d) (.and (.cons (.cmp (.v 4) .notin (.v 1)) (.cons (.cmp (.v 4) .notin (.v 2)) .nil))) [some pl,some (.ref r),some (.ref τ.length),some s,some (.str n),w] (τ++[.lst (acc.map .str)])=.ok (!decide (n ∈ es.map (·.1)) && !decide (n ∈ acc)) (τ++[.lst (acc.map .str)]):=
      gk (r9 (aN (x:=.str n) (y:=.ref r) (σ₁:=τ++[.lst (acc.map .str)]) (σ₂:=τ++[.lst (acc.map .str)]) rfl rfl (tA hr')) fun _=>fZ (aN (x:=.str n) (y:=.ref τ.length) (σ₁:=τ++[.lst (acc.map .str)]) (σ₂:=τ++[.lst (acc.map .str)]) rfl rfl (dW cw)))
    unfold aS
    cases hq:(!decide (n ∈ es.map (·.1)) && !decide (n ∈ acc)) with
    | false =>
      rw [hq] at t
      exact (aa ((aH t).trans aj)).trans aj
    | true =>
      rw [hq] at t
      rw [if_pos rfl]
      refine (aa ((aV t).trans ((aa (cb (gW (m:=.append) (x:=.ref τ.length) (σ₁:=τ++[.lst (acc.map .str)]) rfl ?_ (y:=.str n) (σ₂:=τ++[.lst (acc.map .str)]) rfl (sX (by rw [List.length_map]; omega))))).trans ?_))).trans aj
      · exact iD (.inl rfl)
      · rw [List.map_append]; exact aj
theorem adQ {pl:PV} {r:Nat} {es:List (Str × PV)} {τ:ac} {w:Option PV} (hr:τ[r]?=some (.ds es)):∀ (p:List ah) (x y:Option PV) (acc:List Str),acc.length + 4 * p.length <= 900->(∀ s ∈ p,s.needs.length <= 4) ->
    ∃ x' y',bB none (cI 3) (fun ρ σ=>ex (CC d) topN mO ρ σ) (p.map ah.pv) [some pl,some (.ref r),some (.ref τ.length),x,y,w] (τ++[.lst (acc.map .str)]) =
      .next [some pl,some (.ref r),some (.ref τ.length),x',y',w] (τ++[.lst (((p.flatMap (·.needs)).foldl (aS (es.map (·.1))) acc).map .str)]):=by
  intro p
  induction p with
  | nil=>intro x y acc _ _; exact ⟨x,y,cH⟩
  | cons s p ih =>
    intro x y acc hl h4
    have hs:=h4 s (by simp)
    rw [List.length_cons] at hl
    obtain ⟨y1,e1⟩:=aeI (d:=d) (pl:=pl) (s:=s.pv) (w:=w) hr s.needs y acc (by omega)
    obtain ⟨x',y',e2⟩:=ih (some s.pv) y1 (s.needs.foldl (aS (es.map (·.1))) acc) (by have:=lq (G:=es.map (·.1)) s.needs acc; omega) fun t ht=>h4 t (List.mem_cons_of_mem _ ht)
    refine ⟨x',y',(bZ (ρ₁:=[some pl,some (.ref r),some (.ref τ.length),some s.pv,y,w]) (ρ₂:=[some pl,some (.ref r),some (.ref τ.length),some s.pv,y1,w]) (σ₂:=τ++[.lst ((s.needs.foldl (aS (es.map (·.1))) acc).map .str)]) rfl ?_).trans (e2.trans (by rw [List.flatMap_cons,List.foldl_append]))⟩
    exact (aa (dQ (ys:=s.needs.map .str) (σ₁:=τ++[.lst (acc.map .str)]) rfl e1)).trans aj
theorem acm {p:List ah} (h:bD p):aU PP topN (d + 2) kh [ak p] σ=.ok (.ref (σ.length + 1)) (σ++[.ds (a6 p),.lst ((nI (p.flatMap (·.gives)) (p.flatMap (·.needs))).map .str)]):=by
  rw [bz (fn:=nV) rfl rfl]
  have hr:(σ++[MO.ds (a6 p)])[σ.length]?=some (.ds (a6 p)):=by simp
  obtain ⟨x',y',e⟩:=adQ (d:=d + 1) (pl:=ak p) (w:=none) hr p none none [] (by show 0 + 4 * p.length <= 900; have:=h.most; omega) fun s hs=>(h.steps s hs).needs4
  rw [pB] at e
  have hl:(σ++[MO.ds (a6 p)]).length=σ.length + 1:=by simp
  rw [hl] at e
  have:ex (CC (d + 1)) topN nV.body [some (ak p),none,none,none,none,none] σ=.ret (.ref (σ.length + 1)) [some (ak p),some (.ref σ.length),some (.ref (σ.length + 1)),x',y',none] (σ++[.ds (a6 p),.lst ((nI (p.flatMap (·.gives)) (p.flatMap (·.needs))).map .str)]):=by
    refine (aa (a:=nU) (ρ':=[some (ak p),some (.ref σ.length),none,none,none,none]) (σ':=σ++[.ds (a6 p)]) (a7 (aT (x:=ak p) (σ₁:=σ) rfl (tL h)))).trans ?_
    refine (aa (a:=nT) (ρ':=[some (ak p),some (.ref σ.length),some (.ref (σ++[MO.ds (a6 p)]).length),none,none,none]) (σ':=σ++[.ds (a6 p)]++[.lst []]) rfl).trans ?_
    rw [hl]
    refine (aa (dQ (ys:=p.map ah.pv) (σ₁:=σ++[.ds (a6 p)]++[.lst []]) rfl e)).trans ((ao (aB rfl)).trans ?_)
    rw [List.append_assoc]; rfl
  exact (congrArg aX this).trans rfl
end
end Mine
namespace Mine
open PySem
section
variable {d:Nat} {σ:ac}
theorem acy {pl:PV} {τ:ac} {u w:Option PV}:∀ (p:List ah) (x:Option PV) (acc:List Str),acc.length + 3 * p.length <= 900->(∀ s ∈ p,s.gives.length <= 3) ->
    ∃ x',bB none (cI 2) (fun ρ σ=>ex (CC d) topN i0 ρ σ) (p.map ah.pv) [some pl,some (.ref τ.length),x,u,w] (τ++[.lst (acc.map .str)]) =
      .next [some pl,some (.ref τ.length),x',u,w] (τ++[.lst ((acc++p.flatMap (·.gives)).map .str)]):=by
  intro p
  induction p with
  | nil=>intro x acc _ _; exact ⟨x,by simpa using cH⟩
  | cons s p ih =>
    intro x acc hl h3
    have hg:=h3 s (by simp)
    rw [List.length_cons] at hl
    obtain ⟨x',e⟩:=ih (some s.pv) (acc++s.gives) (by rw [List.length_append]; omega) fun t ht=>h3 t (List.mem_cons_of_mem _ ht)
    refine ⟨x',(bZ (ρ₁:=[some pl,some (.ref τ.length),some s.pv,u,w]) (ρ₂:=[some pl,some (.ref τ.length),some s.pv,u,w]) (σ₂:=τ++[.lst ((acc++s.gives).map .str)]) rfl ?_).trans (e.trans (by simp [List.flatMap_cons]))⟩
    refine (aa (cb (gW (m:=.extend) (x:=.ref τ.length) (σ₁:=τ++[.lst (acc.map .str)]) (σ₂:=τ++[.lst (acc.map .str)]) rfl (iD (.inr (.inl rfl))) (y:=.tup (s.gives.map .str)) rfl ?_))).trans aj
    show dP (.ref τ.length) (.tup (s.gives.map .str)) _=_
    unfold dP; dsimp only; rw [cw]; dsimp only
    rw [if_pos (by rw [List.length_map,List.length_map,be]; omega),oV,List.map_append]
theorem afE {pl s:PV} {r:Nat} {G:List Str} {τ:ac} (hr:τ[r]?=some (.lst (G.map .str))):∀ (ns:List Str) (y:Option PV) (acc:List Str),acc.length + ns.length <= 900 ->
    ∃ y',bB none (cI 4) (fun ρ σ=>ex (CC d) topN g5 ρ σ) (ns.map .str) [some pl,some (.ref r),some s,some (.ref τ.length),y] (τ++[.lst (acc.map .str)]) =
      .next [some pl,some (.ref r),some s,some (.ref τ.length),y'] (τ++[.lst ((ns.foldl (aS G) acc).map .str)]):=by
  intro ns
  induction ns with
  | nil=>intro y acc _; exact ⟨y,cH⟩
  | cons n ns ih =>
    intro y acc hl
    rw [List.length_cons] at hl
    obtain ⟨y',e⟩:=ih (some (.str n)) (aS G acc n) (by have:=ip (G:=G) (acc:=acc) (n:=n); omega)
    refine ⟨y',(bZ (ρ₁:=[some pl,some (.ref r),some s,some (.ref τ.length),some (.str n)]) (ρ₂:=[some pl,some (.ref r),some s,some (.ref τ.length),some (.str n)]) (σ₂:=τ++[.lst ((aS G acc n).map .str)]) rfl ?_).trans e⟩
    have hr':(τ++[MO.lst (acc.map .str)])[r]?=some (.lst (G.map .str)):=by
      rw [List.getElem?_append_left (List.getElem?_eq_some_iff.mp hr).1]; exact hr
    have t:tst (CC d) (.and (.cons (.cmp (.v 4) .notin (.v 1)) (.cons (.cmp (.v 4) .notin (.v 3)) .nil))) [some pl,some (.ref r),some s,some (.ref τ.length),some (.str n)] (τ++[.lst (acc.map .str)])=.ok (!decide (n ∈ G) && !decide (n ∈ acc)) (τ++[.lst (acc.map .str)]):=
      gk (r9 (aN (x:=.str n) (y:=.ref r) (σ₁:=τ++[.lst (acc.map .str)]) (σ₂:=τ++[.lst (acc.map .str)]) rfl rfl (dW hr')) fun _=>fZ (aN (x:=.str n) (y:=.ref τ.length) (σ₁:=τ++[.lst (acc.map .str)]) (σ₂:=τ++[.lst (acc.map .str)]) rfl rfl (dW cw)))
    unfold aS
    cases hq:(!decide (n ∈ G) && !decide (n ∈ acc)) with
    | false =>
      rw [hq] at t
      exact (aa ((aH t).trans aj)).trans aj
    | true =>
      rw [hq] at t
      rw [if_pos rfl]
      refine (aa ((aV t).trans ((aa (cb (gW (m:=.append) (x:=.ref τ.length) (σ₁:=τ++[.lst (acc.map .str)]) rfl ?_ (y:=.str n) (σ₂:=τ++[.lst (acc.map .str)]) rfl (sX (by rw [List.length_map]; omega))))).trans ?_))).trans aj
      · exact iD (.inl rfl)
      · rw [List.map_append]; exact aj
theorem aeT {pl:PV} {r:Nat} {G:List Str} {τ:ac} (hr:τ[r]?=some (.lst (G.map .str))):∀ (p:List ah) (x y:Option PV) (acc:List Str),acc.length + 4 * p.length <= 900->(∀ s ∈ p,s.needs.length <= 4) ->
    ∃ x' y',bB none (cI 2) (fun ρ σ=>ex (CC d) topN iZ ρ σ) (p.map ah.pv) [some pl,some (.ref r),x,some (.ref τ.length),y] (τ++[.lst (acc.map .str)]) =
      .next [some pl,some (.ref r),x',some (.ref τ.length),y'] (τ++[.lst (((p.flatMap (·.needs)).foldl (aS G) acc).map .str)]):=by
  intro p
  induction p with
  | nil=>intro x y acc _ _; exact ⟨x,y,cH⟩
  | cons s p ih =>
    intro x y acc hl h4
    have hs:=h4 s (by simp)
    rw [List.length_cons] at hl
    obtain ⟨y1,e1⟩:=afE (d:=d) (pl:=pl) (s:=s.pv) hr s.needs y acc (by omega)
    obtain ⟨x',y',e2⟩:=ih (some s.pv) y1 (s.needs.foldl (aS G) acc) (by have:=lq (G:=G) s.needs acc; omega) fun t ht=>h4 t (List.mem_cons_of_mem _ ht)
    refine ⟨x',y',(bZ (ρ₁:=[some pl,some (.ref r),some s.pv,some (.ref τ.length),y]) (ρ₂:=[some pl,some (.ref r),some s.pv,some (.ref τ.length),y1]) (σ₂:=τ++[.lst ((s.needs.foldl (aS G) acc).map .str)]) rfl ?_).trans (e2.trans (by rw [List.flatMap_cons,List.foldl_append]))⟩
    exact (aa (dQ (ys:=s.needs.map .str) (σ₁:=τ++[.lst (acc.map .str)]) rfl e1)).trans aj
theorem pA {p:List ah} (h:bD p):aU PP topN (d + 1) dh [ak p] σ=.ok (.ref (σ.length + 1)) (σ++[.lst ((p.flatMap (·.gives)).map .str),.lst ((nI (p.flatMap (·.gives)) (p.flatMap (·.needs))).map .str)]):=by
  rw [bz (fn:=iU) rfl rfl]
  obtain ⟨x1,e1⟩:=acy (d:=d) (pl:=ak p) (τ:=σ) (u:=none) (w:=none) p none [] (by show 0 + 3 * p.length <= 900; have:=h.most; omega) fun s hs=>(h.steps s hs).gives3
  rw [List.nil_append] at e1
  generalize hG:p.flatMap (·.gives)=G at e1
  have hr:(σ++[MO.lst (G.map .str)])[σ.length]?=some (.lst (G.map .str)):=by simp
  obtain ⟨x',y',e⟩:=aeT (d:=d) (pl:=ak p) hr p x1 none [] (by show 0 + 4 * p.length <= 900; have:=h.most; omega) fun s hs=>(h.steps s hs).needs4
  have hl:(σ++[MO.lst (G.map .str)]).length=σ.length + 1:=by simp
  rw [hl] at e
  have:ex (CC d) topN iU.body [some (ak p),none,none,none,none] σ=.ret (.ref (σ.length + 1)) [some (ak p),some (.ref σ.length),x',some (.ref (σ.length + 1)),y'] (σ++[.lst (G.map .str),.lst ((nI G (p.flatMap (·.needs))).map .str)]):=by
    refine (aa (a:=jO) (ρ':=[some (ak p),some (.ref σ.length),none,none,none]) (σ':=σ++[.lst []]) rfl).trans ?_
    refine (aa (dQ (ys:=p.map ah.pv) (σ₁:=σ++[.lst []]) rfl e1)).trans ?_
    refine (aa (a:=jN) (ρ':=[some (ak p),some (.ref σ.length),x1,some (.ref (σ++[MO.lst (G.map .str)]).length),none]) (σ':=σ++[.lst (G.map .str)]++[.lst []]) rfl).trans ?_
    rw [hl]
    refine (aa (dQ (ys:=p.map ah.pv) (σ₁:=σ++[.lst (G.map .str)]++[.lst []]) rfl e)).trans ((ao (aB rfl)).trans ?_)
    rw [List.append_assoc]; rfl
  exact (congrArg aX this).trans rfl
theorem zj {n:Str} {c:Nat} {v:PV} {ρ:aw} {τ υ:ac} {fs:List (Str × PV)} (h:fs.length < 100):eM c (.inst c τ.length) n v ρ (τ++.ns fs::υ)=.next ρ (τ++.ns (bW n v fs)::υ):=by
  unfold eM
  dsimp only
  rw [if_pos rfl,cw]
  dsimp only
  rw [if_pos h,oV]
theorem ael {c k:Nat} {n:Str} {o x:X} {v:PV} {C:a8} {ρ:aw} {τ υ υ':ac} {fs:List (Str × PV)} (hx:ev C x ρ (τ++.ns fs::υ)=.ok v (τ++.ns fs::υ')) (ho:ev C o ρ (τ++.ns fs::υ')=.ok (.inst c τ.length) (τ++.ns fs::υ')) (h:fs.length < 100) :
    ex C k (.asgAttr c o n x) ρ (τ++.ns fs::υ)=.next ρ (τ++.ns (bW n v fs)::υ'):=by
  show (ev C x ρ (τ++.ns fs::υ)).toS ρ (fun v σ=>(ev C o ρ σ).toS ρ fun o σ=>eM c o n v ρ σ)=_
  rw [hx]
  show (ev C o ρ (τ++.ns fs::υ')).toS ρ (fun o σ=>eM c o n v ρ σ)=_
  rw [ho]
  exact zj h
end
end Mine
namespace Mine
open PySem
section
variable {d:Nat} {σ:ac}
theorem aej {s:ah} (h:iH s):aac s:=by
  have k:∀ n,cN n->n.length <= am:=fun n q=>Nat.le_trans q.len (by decide)
  exact ⟨k _ h.name,fun n hn=>k n (h.needs n hn),Nat.le_trans h.needs4 (by decide),fun n hn=>k n (h.gives n hn),Nat.le_trans h.gives3 (by decide)⟩
theorem aaH {p:List ah} (h:bD p):∃ τ,aU PP topN (d + 4) gc [ak p] σ=.ok (.bool true) (σ++τ):=by
  obtain ⟨τ,e⟩:=h6x (d:=d) (σ:=σ) (fun s hs=>aej (h.steps s hs)) (Nat.le_trans h.most (by decide))
  rw [aaI.mpr h] at e
  exact ⟨τ,e⟩
end
end Mine
namespace Mine
open PySem
noncomputable def ft (p:List ah) (n:Nat) (g o h gn od:Nat):List (Str × PV):=[("plan",ak p),("turns",.int n),("givers",.ref g),("outer",.ref o),("here",.ref h),("gone",.ref gn),("order",.ref od)]
noncomputable def ch (p:List ah):List Str:=nI (p.flatMap (·.gives)) (p.flatMap (·.needs))
structure dw (p:List ah) (n:Nat) (es:List ((Str × Int) × PV)) (i g o h gn od:Nat) (σ:ac):Prop where
  ns:σ[i]?=some (.ns (ft p n g o h gn od))
  gv:σ[g]?=some (.ds (a6 p))
  ot:σ[o]?=some (.lst ((ch p).map .str))
  hr:σ[h]?=some (.dp es)
  ne:h ≠ i/\h ≠ g/\h ≠ o
theorem dw.more {p:List ah} {n:Nat} {es:List ((Str × Int) × PV)} {i g o h gn od:Nat} {σ τ:ac} (b:dw p n es i g o h gn od σ):dw p n es i g o h gn od (σ++τ):=by
  have k:∀ {j:Nat} {m:MO},σ[j]?=some m->(σ++τ)[j]?=some m:=fun {j m} e=>by rw [List.getElem?_append_left (List.getElem?_eq_some_iff.mp e).1]; exact e
  exact ⟨k b.ns,k b.gv,k b.ot,k b.hr,b.ne⟩
theorem dw.other {p:List ah} {n:Nat} {es:List ((Str × Int) × PV)} {i g o h gn od j:Nat} {m:MO} {σ:ac} (b:dw p n es i g o h gn od σ) (hj:j ≠ i/\j ≠ g/\j ≠ o/\j ≠ h):dw p n es i g o h gn od (σ.set j m):=by
  have k:∀ {a:Nat},j ≠ a->(σ.set j m)[a]?=σ[a]?:=fun {a} e=>List.getElem?_set_ne e
  exact ⟨(k hj.1).trans b.ns,(k hj.2.1).trans b.gv,(k hj.2.2.1).trans b.ot,(k hj.2.2.2).trans b.hr,b.ne⟩
theorem dw.put {p:List ah} {n:Nat} {es es':List ((Str × Int) × PV)} {i g o h gn od:Nat} {σ:ac} (b:dw p n es i g o h gn od σ):dw p n es' i g o h gn od (σ.set h (.dp es')):=by
  have k:∀ {a:Nat},h ≠ a->(σ.set h (.dp es'))[a]?=σ[a]?:=fun {a} e=>List.getElem?_set_ne e
  exact ⟨(k b.ne.1).trans b.ns,(k b.ne.2.1).trans b.gv,(k b.ne.2.2).trans b.ot,List.getElem?_set_self (List.getElem?_eq_some_iff.mp b.hr).1,b.ne⟩
theorem zB:(("turns" : Str) ∉ (["plan"]:List Str))/\(("givers" : Str) ∉ (["plan", "turns"]:List Str))/\(("outer" : Str) ∉ (["plan", "turns", "givers"]:List Str))/\(("here" : Str) ∉ (["plan", "turns", "givers", "outer"]:List Str)) ∧
    (("gone" : Str) ∉ (["plan", "turns", "givers", "outer", "here"]:List Str))/\(("order" : Str) ∉ (["plan", "turns", "givers", "outer", "here", "gone"]:List Str)):=by decide +kernel
section
variable {d:Nat} {σ:ac}
theorem acL {p:List ah} {n:Nat} (h:bD p) (h1:1 <= n) (h2:n <= 200):∃ (υ:ac) (g o hr gn od:Nat),aU PP topN (d + 5) fV [.inst ae σ.length,ak p,.int n] (σ++[.ns []])=.ok .none (σ++υ)/\dw p n [] σ.length g o hr gn od (σ++υ)/\σ.length < g/\σ.length < o/\σ.length < hr:=by
  obtain ⟨τ,hp⟩:=aaH (d:=d) (σ:=σ++[.ns []]) h
  rw [bz (fn:=fW) rfl rfl]
  obtain ⟨f1,f2,f3,f4,f5,f6⟩:=zB
  generalize cE:([some (.inst ae σ.length),some (ak p),some (.int n),none,none,none,none,none,none,none]:aw)=ρ
  have o0:∀ {st:ac},ev (CC (d + 4)) (.v 0) ρ st=.ok (.inst ae σ.length) st:=fun {st}=>by subst cE; rfl
  have o1:∀ {st:ac},ev (CC (d + 4)) (.v 1) ρ st=.ok (ak p) st:=fun {st}=>by subst cE; rfl
  have o2:∀ {st:ac},ev (CC (d + 4)) (.v 2) ρ st=.ok (.int n) st:=fun {st}=>by subst cE; rfl
  have s0:ex (CC (d + 4)) topN g8 ρ (σ++[.ns []])=.next ρ (σ++.ns []::τ):=by
    have c1:ev (CC (d + 4)) (.call gc (.cons (.v 1) .nil)) ρ (σ++[.ns []])=.ok (.bool true) (σ++.ns []::τ):=by
      have c:ev (CC (d + 4)) (.call gc (.cons (.v 1) .nil)) ρ (σ++[.ns []])=.ok (.bool true) (σ++[.ns []]++τ):=aT o1 hp
      rw [List.append_assoc] at c; exact c
    exact (aH (ce (q:=true) (ec c1))).trans aj
  have s1:ex (CC (d + 4)) topN g7 ρ (σ++.ns []::τ)=.next ρ (σ++.ns []::τ):=by
    have c:aU PP topN (d + 4) c7 [.int n,.int 1,.int 200] (σ++.ns []::τ)=.ok (.bool true) (σ++.ns []::τ):=by
      rw [afV,decide_eq_true (show (1:Int) <= n from Int.ofNat_le.mpr h1),decide_eq_true (show (n:Int) <= 200 from Int.ofNat_le.mpr h2)]; rfl
    exact (aH (ce (q:=true) (ec (fw (f:=c7) (y:=.int 1) (z:=.int 200) (σ₂:=σ++.ns []::τ) (σ₃:=σ++.ns []::τ) o2 rfl rfl c)))).trans aj
  have at_:∀ {k:Str} {v:PV} {fs:List (Str × PV)} {υ υ':ac} {x:X},ev (CC (d + 4)) x ρ (σ++.ns fs::υ)=.ok v (σ++.ns fs::υ')->k ∉ fs.map (·.1)->fs.length < 100->ex (CC (d + 4)) topN (.asgAttr ae (.v 0) k x) ρ (σ++.ns fs::υ)=.next ρ (σ++.ns (fs++[(k,v)])::υ'):=fun {k v fs υ υ' x} hx hk hl=>by
    rw [<- wW hk]
    exact ael hx o0 hl
  have s2:=at_ (k := "plan") (fs:=[]) (υ:=τ) o1 (by simp) (by decide)
  have s3:=at_ (k := "turns") (fs:=[("plan",ak p)]) (υ:=τ) o2 f1 (by simp)
  have app:∀ {a b:ac} {m:MO},(σ++m::a)++b=σ++m::(a++b):=fun {a b m}=>by rw [List.append_assoc]; rfl
  have len:∀ {a:ac} {m:MO},(σ++m::a).length=σ.length + a.length + 1:=fun {a m}=>by rw [List.length_append,List.length_cons]; rfl
  have cv:∀ {x:X} {k:Nat} {a b:ac} {m:MO},ev (CC (d + 4)) x ρ (σ++m::a)=.ok (.ref ((σ++m::a).length + k)) ((σ++m::a)++b)->ev (CC (d + 4)) x ρ (σ++m::a)=.ok (.ref (σ.length + a.length + 1 + k)) (σ++m::(a++b)):=fun {x k a b m} c=>by
    rw [len,app] at c; exact c
  have s4:=at_ (k := "givers") (x:=.call ir (.cons (.v 1) .nil)) (fs:=[("plan",ak p),("turns",.int n)]) (υ:=τ) (υ':=τ++[.ds (a6 p)]) (v:=.ref (σ.length + τ.length + 1)) (cv (k:=0) (aT o1 (tL (d:=d + 3) h))) f2 (by simp)
  have s5:=at_ (k := "outer") (x:=.call kh (.cons (.v 1) .nil)) (fs:=[("plan",ak p),("turns",.int n),("givers",.ref (σ.length + τ.length + 1))]) (υ:=τ++[.ds (a6 p)]) (υ':=τ++[.ds (a6 p)]++[.ds (a6 p),.lst ((ch p).map .str)]) (v:=.ref (σ.length + (τ++[MO.ds (a6 p)]).length + 1 + 1)) (cv (k:=1) (a:=τ++[.ds (a6 p)]) (b:=[.ds (a6 p),.lst ((ch p).map .str)]) (aT (f:=kh) o1 (acm (d:=d + 2) h))) f3 (by simp)
  generalize acN:τ++[MO.ds (a6 p)]++[.ds (a6 p),.lst ((ch p).map .str)]=cY at s5
  generalize hg:σ.length + τ.length + 1=g at s4 s5
  generalize ho:σ.length + (τ++[MO.ds (a6 p)]).length + 1 + 1=o at s5
  have s6:=at_ (k := "here") (x:=.dnew true) (fs:=[("plan",ak p),("turns",.int n),("givers",.ref g),("outer",.ref o)]) (υ:=cY) (υ':=cY++[.dp []]) (v:=.ref (σ.length + cY.length + 1)) (cv (k:=0) rfl) f4 (by simp)
  generalize hh:σ.length + cY.length + 1=hr at s6
  have s7:=at_ (k := "gone") (x:=.dnew true) (fs:=[("plan",ak p),("turns",.int n),("givers",.ref g),("outer",.ref o),("here",.ref hr)]) (υ:=cY++[.dp []]) (υ':=cY++[.dp []]++[.dp []]) (v:=.ref (σ.length + (cY++[MO.dp []]).length + 1)) (cv (k:=0) rfl) f5 (by simp)
  generalize σ.length + (cY++[MO.dp []]).length + 1=gn at s7
  have s8:=at_ (k := "order") (x:=.lst false .nil) (fs:=[("plan",ak p),("turns",.int n),("givers",.ref g),("outer",.ref o),("here",.ref hr),("gone",.ref gn)]) (υ:=cY++[.dp []]++[.dp []]) (υ':=cY++[.dp []]++[.dp []]++[.lst []]) (v:=.ref (σ.length + (cY++[MO.dp []]++[MO.dp []]).length + 1)) (cv (k:=0) rfl) f6 (by simp)
  generalize σ.length + (cY++[MO.dp []]++[MO.dp []]).length + 1=od at s8
  have body:ex (CC (d + 4)) topN fW.body ρ (σ++[.ns []])=.next ρ (σ++.ns (ft p n g o hr gn od)::(cY++[.dp []]++[.dp []]++[.lst []])):=
    (aa s0).trans ((aa s1).trans ((aa s2).trans ((aa s3).trans ((aa s4).trans ((aa s5).trans ((aa s6).trans ((aa s7).trans ((aa s8).trans aj))))))))
  have l2:cY.length=τ.length + 3:=by subst acN; simp
  have ho':o=σ.length + τ.length + 3:=by subst ho; simp; omega
  have at2:∀ {j:Nat} {m:MO},cY[j]?=some m->(σ++.ns (ft p n g o hr gn od)::(cY++[.dp []]++[.dp []]++[.lst []]))[σ.length + j + 1]?=some m:=fun {j m} e=>by
    have hj:=(List.getElem?_eq_some_iff.mp e).1
    rw [Nat.add_assoc,List.getElem?_append_right (Nat.le_add_right _ _),Nat.add_sub_cancel_left,List.getElem?_cons_succ,List.append_assoc,List.append_assoc,List.getElem?_append_left hj]; exact e
  have a0:σ.length < g:=hg ▸ Nat.lt_succ_of_le (Nat.le_add_right _ _)
  have a3:σ.length < o:=by rw [ho',Nat.add_assoc]; exact Nat.lt_add_of_pos_right (Nat.succ_pos _)
  have hh2:hr=σ.length + τ.length + 4:=by rw [<- hh,l2]; rfl
  have a1:g < hr:=by rw [hh2,<- hg]; exact Nat.add_lt_add_left (by decide) _
  have a2:o < hr:=by rw [hh2,ho']; exact Nat.lt_succ_self _
  refine ⟨_,g,o,hr,gn,od,by subst cE; exact (congrArg aX body).trans rfl,⟨?_,?_,?_,?_,?_⟩,?_⟩
  · rw [List.getElem?_append_right (Nat.le_refl _),Nat.sub_self]; rfl
  · have q:=at2 (j:=τ.length) (m:=.ds (a6 p)) (by subst acN; simp)
    rw [hg] at q; exact q
  · have q:=at2 (j:=τ.length + 2) (m:=.lst ((ch p).map .str)) (by subst acN; simp)
    rw [show σ.length + (τ.length + 2) + 1=o from ho'.symm] at q; exact q
  · rw [List.getElem?_append_right (Nat.le_of_lt (Nat.lt_trans a0 a1)),show hr - σ.length=cY.length + 1 from (by rw [<- hh,Nat.add_assoc,Nat.add_sub_cancel_left]),List.getElem?_cons_succ]
    simp
  · exact ⟨Nat.ne_of_gt (Nat.lt_trans a0 a1),Nat.ne_of_gt a1,Nat.ne_of_gt a2⟩
  · exact ⟨a0,a3,Nat.lt_trans a0 a1⟩
end
end Mine
namespace Mine
open PySem
noncomputable def CM (m d:Nat):a8:=eY PP topN m d
theorem mH {m d f:Nat} {vs:List PV} {σ:ac} {fn:Fn} (hf:PP.fns[f]?=some fn) (hl:vs.length=fn.params) :
    bE PP topN m (d + 1) f vs σ=aX (ex (CM m d) topN fn.body (vs.map some++List.replicate (fn.slots - fn.params) none) σ):=by
  show (match PP.fns[f]? with
    | some fn=>if vs.length=fn.params then
        match ex (CM m d) topN fn.body (vs.map some++List.replicate (fn.slots - fn.params) none) σ with
        | .next _ σ=>af.ok PV.none σ
        | .ret v _ σ=>.ok v σ
        | .exc i _ σ=>.exc i σ
        | _=>.stuck
      else .stuck
    | none=>.stuck)=_
  rw [hf]
  dsimp only
  rw [if_pos hl]
  cases ex (CM m d) topN fn.body (vs.map some++List.replicate (fn.slots - fn.params) none) σ <;> rfl
section
variable {C:a8} {ρ:aw} {σ σ₁ σ₂:ac}
theorem iF {c i:Nat} {o:X} {n:Str} {v:PV} {fs:List (Str × PV)} (ho:ev C o ρ σ=.ok (.inst c i) σ₁) (hs:σ₁[i]?=some (.ns fs)) (hv:az n fs=some v):ev C (.attr c o n) ρ σ=.ok v σ₁:=by
  rw [yB,ho,av]
  unfold rV
  dsimp only
  rw [if_pos rfl,hs]
  dsimp only
  rw [hv]; rfl
theorem cL {c i f:Nat} {o args:X} {n:Str} {vs:List PV} {fs:List (Str × PV)} {r:af PV} (ho:ev C o ρ σ=.ok (.inst c i) σ₁) (hs:σ₁[i]?=some (.ns fs)) (hn:az n fs=none) (ha:evs C args ρ σ₁=.ok vs σ₂) (h:C.call f (.inst c i::vs) σ₂=r):ev C (.meth c f n o args) ρ σ=r:=by
  rw [yA,ho,av]
  unfold kg
  dsimp only
  rw [if_pos rfl,hs]
  dsimp only
  rw [hn]
  dsimp only
  rw [ha]; exact h
end
section
variable {p:List ah} {n g o h gn od:Nat}
theorem kN:az ("plan" : Str) (ft p n g o h gn od)=some (ak p)/\az ("turns" : Str) (ft p n g o h gn od)=some (.int n)/\az ("givers" : Str) (ft p n g o h gn od)=some (.ref g)/\az ("outer" : Str) (ft p n g o h gn od)=some (.ref o)/\az ("here" : Str) (ft p n g o h gn od)=some (.ref h):=by
  refine ⟨?_,?_,?_,?_,?_⟩ <;> rfl
theorem br:∀ k ∈ (["need_place", "need_turn", "put", "at", "told"]:List Str),az k (ft p n g o h gn od)=none:=by
  intro k hk
  refine tX fun q=>?_
  have:∀ k ∈ (["need_place", "need_turn", "put", "at", "told"]:List Str),k ∉ (["plan", "turns", "givers", "outer", "here", "gone", "order"]:List Str):=by decide +kernel
  exact this k hk q
end
inductive bJ:PV->Prop
  | int (i:Int):bJ (.int i)
  | bool (b:Bool):bJ (.bool b)
  | none:bJ .none
  | str (x:Str):bJ (.str x)
inductive bP:PV->Prop
  | int (i:Int):bP (.int i)
  | none:bP .none
  | str (x:Str):bP (.str x)
noncomputable def da (a b:Int):PV->Bool
  | .int i=>decide (a <= i) && decide (i <= b)
  | _=>false
noncomputable def a9 (p:List ah):PV->Bool
  | .str x=>decide (x ∈ p.flatMap (·.gives)) || decide (x ∈ ch p)
  | _=>false
section
variable {d m:Nat} {σ:ac}
theorem btw {tv:PV} {a b:Int} (h:bJ tv):bE PP topN m (d + 1) c7 [tv,.int a,.int b] σ=.ok (.bool (da a b tv)) σ:=by
  rw [mH (fn:=eW) rfl rfl]
  cases h with
  | int i =>
    have:ex (CM m d) topN eW.body [some (.int i),some (.int a),some (.int b),none,none,none] σ=.ret (.bool (decide (a <= i) && decide (i <= b))) [some (.int i),some (.int a),some (.int b),none,none,none] σ:=
      ao (aB (kK (gf (σ₁:=σ) rfl (gf (σ₁:=σ) rfl (ij (iz rfl rfl rfl))))))
    exact (congrArg aX this).trans rfl
  | bool b=>rfl
  | none=>rfl
  | str x=>rfl
variable {p:List ah} {n:Nat} {es:List ((Str × Int) × PV)} {i g o hr gn od:Nat}
theorem fj {pv:PV} (hm:m <= 1) (b:dw p n es i g o hr gn od σ) (h:bP pv) :
    bE PP topN m (d + 1) bk [.inst ae i,pv] σ=if a9 p pv=true then .ok .none σ else .exc aG σ:=by
  rw [mH (fn:=eX) rfl rfl]
  have hrz:(CM m d).rz=true:=Nat.ble_eq_true_of_le hm
  generalize cE:([some (.inst ae i),some pv,none,none,none]:aw)=ρ
  have v0:ev (CM m d) (.v 0) ρ σ=.ok (.inst ae i) σ:=by subst cE; rfl
  have v1:ev (CM m d) (.v 1) ρ σ=.ok pv σ:=by subst cE; rfl
  have agv:=iF (n := "givers") v0 b.ns kN.2.2.1
  have aot:=iF (n := "outer") v0 b.ns kN.2.2.2.1
  have tt:tst (CM m d) (.or (.cons (.not (.isinst (.v 1) .str)) (.cons (.and (.cons (.cmp (.v 1) .notin (.attr ae (.v 0) "givers")) (.cons (.cmp (.v 1) .notin (.attr ae (.v 0) "outer")) .nil))) .nil))) ρ σ=.ok (!a9 p pv) σ:=by
    cases h with
    | int j=>exact ey (jA (ce (q:=false) (cZ (cK v1 rfl))))
    | none=>exact ey (jA (ce (q:=false) (cZ (cK v1 rfl))))
    | str x =>
      refine ey (dm (ce (q:=true) (cZ (cK v1 rfl))) (fI ((gk (r9 (aN v1 agv (tA b.gv)) fun _=>fZ (aN v1 aot (dW b.ot)))).trans ?_)))
      rw [pB]
      show af.ok _ σ=af.ok (!(decide (x ∈ p.flatMap (·.gives)) || decide (x ∈ ch p))) σ
      rw [Bool.not_or]
  have:ex (CM m d) topN eX.body ρ σ=if a9 p pv=true then .next ρ σ else .exc aG ρ σ:=by
    cases hq:a9 p pv with
    | true =>
      rw [hq] at tt
      exact (aa (a:=dO) ((aH tt).trans aj)).trans aj
    | false =>
      rw [hq] at tt
      exact cu (a:=dO) ((aV tt).trans (cu (j1 (hh:=hrz))))
  subst cE
  refine (congrArg aX this).trans ?_
  cases a9 p pv <;> rfl
theorem nK {tv:PV} (hm:m <= 1) (b:dw p n es i g o hr gn od σ) (h:bJ tv) :
    bE PP topN m (d + 2) cq [.inst ae i,tv] σ=if da 0 ((n:Int) - 1) tv=true then .ok .none σ else .exc bK σ:=by
  rw [mH (fn:=fF) rfl rfl]
  have hrz:(CM m (d + 1)).rz=true:=Nat.ble_eq_true_of_le hm
  generalize cE:([some (.inst ae i),some tv,none,none]:aw)=ρ
  have v0:ev (CM m (d + 1)) (.v 0) ρ σ=.ok (.inst ae i) σ:=by subst cE; rfl
  have v1:ev (CM m (d + 1)) (.v 1) ρ σ=.ok tv σ:=by subst cE; rfl
  have atn:=iF (n := "turns") v0 b.ns kN.2.1
  have tt:tst (CM m (d + 1)) (.not (.call c7 (.cons (.v 1) (.cons (.k (.int 0)) (.cons (.bin .sub (.attr ae (.v 0) "turns") (.k (.int 1))) .nil))))) ρ σ=.ok (!da 0 ((n:Int) - 1) tv) σ:=
    ce (ec (fw v1 (y:=.int 0) (σ₂:=σ) rfl (aC atn (y:=.int 1) (σ₂:=σ) rfl sub_int) (btw h)))
  have:ex (CM m (d + 1)) topN fF.body ρ σ=if da 0 ((n:Int) - 1) tv=true then .next ρ σ else .exc bK ρ σ:=by
    cases hq:da 0 ((n:Int) - 1) tv with
    | true =>
      rw [hq] at tt
      exact (aa (a:=d5) ((aH tt).trans aj)).trans aj
    | false =>
      rw [hq] at tt
      exact cu (a:=d5) ((aV tt).trans (cu (j1 (hh:=hrz))))
  subst cE
  refine (congrArg aX this).trans ?_
  cases da 0 ((n:Int) - 1) tv <;> rfl
end
end Mine
namespace Mine
open PySem
section
variable {C:a8} {ρ:aw} {σ:ac}
theorem rQ {f:PV->ac->af (Option PV)} {q:PV->Option PV}:∀ (xs:List PV),(∀ x ∈ xs,f x σ=.ok (q x) σ)->bh none f xs σ=.ok (xs.filterMap q) σ:=by
  intro xs
  induction xs with
  | nil=>intro _; exact if_pos trivial
  | cons x xs ih =>
    intro h
    refine (if_pos trivial).trans ?_
    rw [h x List.mem_cons_self]
    show (bh none f xs σ).bind _=_
    rw [ih fun y hy=>h y (List.mem_cons_of_mem _ hy)]
    show af.ok (zW (q x) (xs.filterMap q)) σ=_
    rw [List.filterMap_cons]
    cases q x <;> rfl
theorem wO {t:Nat} {cap:List (Option Nat)} {elt cond it:X} {xs:List PV} (q:PV->Option PV) (hit:evIt C it ρ σ=.ok (xs,none) σ) (hl:xs.length <= am)
    (hc:∀ x ∈ xs,tst C cond ((aR cap ρ).set t (some x)) σ=.ok (q x).isSome σ) (he:∀ x ∈ xs,∀ v,q x=some v->ev C elt ((aR cap ρ).set t (some x)) σ=.ok v σ) (hh:C.hd=false:=by first | rfl | assumption) :
    ev C (.comp true t cap elt cond it) ρ σ=.ok (.fl (xs.filterMap q)) σ:=by
  rw [et,hh,hit]
  show cW xs.length (bh none (fun x σ=>((tst C cond ((aR cap ρ).set t (some x)) σ).bind fun b σ=>if b=true then (ev C elt ((aR cap ρ).set t (some x)) σ).bind fun v σ=>.ok (some v) σ else .ok none σ)) xs σ) _=_
  rw [rQ (q:=q) xs fun x hx=>by
    show (tst C cond ((aR cap ρ).set t (some x)) σ).bind _=_
    rw [hc x hx,av]
    cases hq:q x with
    | none=>rfl
    | some v =>
      show (ev C elt ((aR cap ρ).set t (some x)) σ).bind _=_
      rw [he x hx v hq]; rfl]
  exact l9 (Nat.le_trans (List.length_filterMap_le _ _) hl)
theorem abF {t:Nat} {cap:List (Option Nat)} {elt cond it:X} {xs:List PV} (q:PV->Option PV) (hit:evIt C it ρ σ=.ok (xs,none) σ) (hl:xs.length <= am)
    (hc:∀ x ∈ xs,tst C cond ((aR cap ρ).set t (some x)) σ=.ok (q x).isSome σ) (he:∀ x ∈ xs,∀ v,q x=some v->ev C elt ((aR cap ρ).set t (some x)) σ=.ok v σ) (hh:C.hd=false:=by first | rfl | assumption) :
    ev C (.comp false t cap elt cond it) ρ σ=.ok (.ref σ.length) (σ++[.lst (xs.filterMap q)]):=by
  rw [et,hh,hit]
  show cW xs.length (bh none (fun x σ=>((tst C cond ((aR cap ρ).set t (some x)) σ).bind fun b σ=>if b=true then (ev C elt ((aR cap ρ).set t (some x)) σ).bind fun v σ=>.ok (some v) σ else .ok none σ)) xs σ) _=_
  rw [rQ (q:=q) xs fun x hx=>by
    show (tst C cond ((aR cap ρ).set t (some x)) σ).bind _=_
    rw [hc x hx,av]
    cases hq:q x with
    | none=>rfl
    | some v =>
      show (ev C elt ((aR cap ρ).set t (some x)) σ).bind _=_
      rw [he x hx v hq]; rfl]
  exact aaN (Nat.le_trans (List.length_filterMap_le _ _) hl)
theorem wh {r:Nat} {x:Str} {j:Int} {es:List ((Str × Int) × PV)} (h:σ[r]?=some (.dp es)):kf .get (.ref r) [.tup [.str x,.int j]] σ=.ok ((az (x,j) es).getD .none) σ:=by
  show pU (.ref r) (.tup [.str x,.int j]) σ=_
  unfold pU; dsimp only; rw [h]; rfl
theorem wj {r:Nat} {es:List ((Str × Int) × PV)} (h:σ[r]?=some (.dp es)):pT .get (.ref r) σ=true:=by
  show rb (.ref r) σ=true
  unfold rb; dsimp only; rw [h]
theorem o6 {r:Nat} {x:Str} {j:Int} {es:List ((Str × Int) × PV)} (h:σ[r]?=some (.dp es)):bn .isin (.tup [.str x,.int j]) (.ref r) σ=.ok (az (x,j) es).isSome σ:=by
  show af.ofOpt (cA (.tup [.str x,.int j]) (.ref r) σ) σ=_
  have:cA (.tup [.str x,.int j]) (.ref r) σ=some (az (x,j) es).isSome:=by unfold cA; dsimp only; rw [h]; rfl
  rw [this]; rfl
theorem aaq {r:Nat} {x:Str} {j:Int} {v:PV} {es:List ((Str × Int) × PV)} (h:σ[r]?=some (.dp es)) (hv:az (x,j) es=some v):dK (.ref r) (.tup [.str x,.int j]) σ=.ok v σ:=by
  show pL (.ref r) (.tup [.str x,.int j]) σ=_
  unfold pL; dsimp only; rw [h]
  show af.ofOpt (az (x,j) es) σ=_
  rw [hv]; rfl
end
noncomputable def ja (x:Str) (n:Nat) (es:List ((Str × Int) × PV)):List PV:=(List.range n).filterMap fun (t:Nat)=>(az (x,(t:Int)) es).map fun v=>.tup [.int t,v]
section
variable {d m:Nat} {σ:ac} {p:List ah} {n:Nat} {es:List ((Str × Int) × PV)} {i g o hr gn od:Nat}
theorem adz {x:Str} {j:Int} (hm:m <= 1) (b:dw p n es i g o hr gn od σ) (h1:a9 p (.str x)=true) (h2:da 0 ((n:Int) - 1) (.int j)=true) :
    bE PP topN m (d + 3) cP [.inst ae i,.str x,.int j] σ=.ok ((az (x,j) es).getD .none) σ:=by
  rw [mH (fn:=jj) rfl rfl]
  generalize cE:([some (.inst ae i),some (.str x),some (.int j)]:aw)=ρ
  have v0:ev (CM m (d + 2)) (.v 0) ρ σ=.ok (.inst ae i) σ:=by subst cE; rfl
  have v1:ev (CM m (d + 2)) (.v 1) ρ σ=.ok (.str x) σ:=by subst cE; rfl
  have v2:ev (CM m (d + 2)) (.v 2) ρ σ=.ok (.int j) σ:=by subst cE; rfl
  have np:=fj (d:=d + 1) hm b (.str x)
  have nt:=nK (d:=d) hm b (.int j)
  rw [if_pos h1] at np
  rw [if_pos h2] at nt
  have s0:ex (CM m (d + 2)) topN fQ ρ σ=.next ρ σ:=cb (cL v0 b.ns (br _ (by simp)) (aF v1 rfl) np)
  have s1:ex (CM m (d + 2)) topN iV ρ σ=.next ρ σ:=cb (cL v0 b.ns (br _ (by simp)) (aF v2 rfl) nt)
  have s2:ex (CM m (d + 2)) topN m8 ρ σ=.ret ((az (x,j) es).getD .none) ρ σ:=
    aB (gW (iF v0 b.ns kN.2.2.2.2) (wj b.hr) (eF (vs:=[.str x,.int j]) (aF v1 (aF v2 rfl)) (show (2:Nat) <= am by decide)) (wh b.hr))
  subst cE
  exact (congrArg aX ((aa s0).trans ((aa s1).trans (ao s2)))).trans rfl
theorem wS {pv tv:PV} (hm:m <= 1) (b:dw p n es i g o hr gn od σ) (h:bP pv) (h1:a9 p pv=false):bE PP topN m (d + 3) cP [.inst ae i,pv,tv] σ=.exc aG σ:=by
  rw [mH (fn:=jj) rfl rfl]
  have np:=fj (d:=d + 1) hm b h
  rw [h1,if_neg (by decide)] at np
  have s0:ex (CM m (d + 2)) topN fQ [some (.inst ae i),some pv,some tv] σ=.exc aG [some (.inst ae i),some pv,some tv] σ:=by
    have e:ev (CM m (d + 2)) (.meth ae bk "need_place" (.v 0) (.cons (.v 1) .nil)) [some (.inst ae i),some pv,some tv] σ=.exc aG σ:=cL (σ₁:=σ) (σ₂:=σ) (vs:=[pv]) rfl b.ns (br _ (by simp)) rfl np
    show (ev (CM m (d + 2)) (.meth ae bk "need_place" (.v 0) (.cons (.v 1) .nil)) [some (.inst ae i),some pv,some tv] σ).toS _ _=_
    rw [e]; rfl
  exact (congrArg aX (cu s0)).trans rfl
theorem aer {x:Str} {tv:PV} (hm:m <= 1) (b:dw p n es i g o hr gn od σ) (h1:a9 p (.str x)=true) (h:bJ tv) (h2:da 0 ((n:Int) - 1) tv=false):bE PP topN m (d + 3) cP [.inst ae i,.str x,tv] σ=.exc bK σ:=by
  rw [mH (fn:=jj) rfl rfl]
  have np:=fj (d:=d + 1) hm b (.str x)
  have nt:=nK (d:=d) hm b h
  rw [if_pos h1] at np
  rw [h2,if_neg (by decide)] at nt
  have s0:ex (CM m (d + 2)) topN fQ [some (.inst ae i),some (.str x),some tv] σ=.next [some (.inst ae i),some (.str x),some tv] σ:=cb (cL (σ₁:=σ) (σ₂:=σ) (vs:=[.str x]) rfl b.ns (br _ (by simp)) rfl np)
  have s1:ex (CM m (d + 2)) topN iV [some (.inst ae i),some (.str x),some tv] σ=.exc bK [some (.inst ae i),some (.str x),some tv] σ:=by
    have e:ev (CM m (d + 2)) (.meth ae cq "need_turn" (.v 0) (.cons (.v 2) .nil)) [some (.inst ae i),some (.str x),some tv] σ=.exc bK σ:=cL (σ₁:=σ) (σ₂:=σ) (vs:=[tv]) rfl b.ns (br _ (by simp)) rfl nt
    show (ev (CM m (d + 2)) (.meth ae cq "need_turn" (.v 0) (.cons (.v 2) .nil)) [some (.inst ae i),some (.str x),some tv] σ).toS _ _=_
    rw [e]; rfl
  exact (congrArg aX ((aa s0).trans (cu s1))).trans rfl
theorem ye {x:Str} (hn:n <= 200) (b:dw p n es i g o hr gn od σ) (h1:a9 p (.str x)=true):aU PP topN (d + 2) cD [.inst ae i,.str x] σ=.ok (.ref σ.length) (σ++[.lst (ja x n es)]):=by
  rw [bz (fn:=j0) rfl rfl]
  have np:=fj (d:=d) (m:=0) (Nat.zero_le _) b (.str x)
  rw [if_pos h1] at np
  have s0:ex (CC (d + 1)) topN gU [some (.inst ae i),some (.str x),none] σ=.next [some (.inst ae i),some (.str x),none] σ:=cb (cL (σ₁:=σ) (σ₂:=σ) (vs:=[.str x]) rfl b.ns (br _ (by simp)) rfl np)
  have c0:ev (CC (d + 1)) kH [some (.inst ae i),some (.str x),none] σ=.ok (.ref σ.length) (σ++[.lst (ja x n es)]):=by
    have lm:(aP 0 1 n).length <= am:=by rw [be]; simp [aP]; omega
    have rng:evIt (CC (d + 1)) (.range1 (.attr ae (.v 0) "turns")) [some (.inst ae i),some (.str x),none] σ=.ok (aP 0 1 n,none) σ:=by
      rw [k8,iF (n := "turns") (v:=.int n) (i:=i) (c:=ae) (σ₁:=σ) rfl b.ns kN.2.1,av]
      show (if 0 <= (n:Int)/\(n:Int) <= am then af.ok (aP 0 1 (n:Int).toNat,none) σ else .stuck)=_
      rw [if_pos ⟨by omega,by rw [be]; omega⟩]; rfl
    have key:∀ (t:Nat),ev (CC (d + 1)) (.tup (.cons (.v 2) (.cons (.v 1) .nil))) ((aR [none,none,some 1,some 0] [some (.inst ae i),some (.str x),none]).set 1 (some (.int t))) σ=.ok (.tup [.str x,.int t]) σ:=fun t=>rfl
    have hre:∀ (t:Nat),ev (CC (d + 1)) (.attr ae (.v 3) "here") ((aR [none,none,some 1,some 0] [some (.inst ae i),some (.str x),none]).set 1 (some (.int t))) σ=.ok (.ref hr) σ:=fun t=>iF (i:=i) (σ₁:=σ) rfl b.ns kN.2.2.2.2
    refine (abF (fun y=>match y with | .int t=>(az (x,t) es).map fun v=>.tup [.int t,v] | _=>none) rng lm (fun y hy=>?_) (fun y hy v hv=>?_)).trans ?_
    · obtain ⟨t,ht,rfl⟩:=eO hy
      refine (aN (key t) (hre t) (o6 b.hr)).trans ?_
      show af.ok (az (x,(t:Int)) es).isSome σ=af.ok ((az (x,(t:Int)) es).map fun v=>PV.tup [.int t,v]).isSome σ
      rw [Option.isSome_map]
    · obtain ⟨t,ht,rfl⟩:=eO hy
      obtain ⟨w,hw,rfl⟩:=Option.map_eq_some_iff.mp hv
      exact eF (vs:=[.int t,w]) (aF (x:=.int t) (σ₁:=σ) rfl (aF (bH (hre t) (key t) (aaq b.hr hw)) rfl)) (show (2:Nat) <= am by decide)
    · refine congrArg (fun l=>af.ok (PV.ref σ.length) (σ++[MO.lst l])) ?_
      unfold ja aP
      rw [List.filterMap_map]
      refine congrArg (fun f=>(List.range n).filterMap f) (funext fun (t:Nat)=>?_)
      show Option.map (fun v=>PV.tup [.int (0 + (t:Int) * 1),v]) (az (x,0 + (t:Int) * 1) es)=_
      rw [show (0:Int) + (t:Int) * 1=t by omega]
  exact (congrArg aX ((aa s0).trans (ao (aB c0)))).trans rfl
end
end Mine
namespace Mine
open PySem
noncomputable def jf (p:List ah) (x:Str):Option ah:=p.find? fun s=>decide (x ∈ s.gives)
noncomputable def eT:dc->Bool
  | .word w=>w == "later"
  | _=>false
noncomputable def gY (p:List ah) (x:Str) (j:Int):Bool:=
  match jf p x with
  | some s=>!eT s.rule || decide (j > 0)
  | none=>false
noncomputable def lV:PV->Bool
  | .int i=>decide (0 <= i) && decide (i <= 999999)
  | _=>false
theorem pJ {x:Str}:∀ {p:List ah},az x (a6 p)=(jf p x).map ah.pv:=by
  intro p
  induction p with
  | nil=>rfl
  | cons s p ih =>
    unfold jf
    rw [List.find?_cons]
    have e:a6 (s::p)=(s.gives.map fun g=>(g,s.pv))++a6 p:=rfl
    unfold az at ih ⊢
    rw [e,List.find?_append]
    by_cases hx:x ∈ s.gives
    · rw [decide_eq_true hx]
      have:∀ (l:List Str),x ∈ l->(l.map fun g=>(g,s.pv)).find? (fun e=>decide (e.1=x))=some (x,s.pv):=by
        intro l
        induction l with
        | nil=>intro h; contradiction
        | cons a l ih2 =>
          intro h
          rw [List.map_cons,List.find?_cons]
          by_cases ha:a=x
          · subst ha; simp
          · rw [decide_eq_false ha]
            exact ih2 ((List.mem_cons.mp h).resolve_left fun z=>ha z.symm)
      rw [this _ hx]; rfl
    · rw [decide_eq_false hx]
      have:(s.gives.map fun g=>(g,s.pv)).find? (fun e=>decide (e.1=x))=none:=by
        rw [List.find?_eq_none]
        intro e he
        obtain ⟨g,hg,rfl⟩:=List.mem_map.mp he
        simp; rintro rfl; exact hx hg
      rw [this]
      exact ih
theorem mq {p:List ah} {x:Str}:(jf p x).isSome=decide (x ∈ p.flatMap (·.gives)):=by
  unfold jf
  rw [Bool.eq_iff_iff,decide_eq_true_eq,List.find?_isSome,List.mem_flatMap]
  simp
theorem acg {r:dc} {n g:Nat} {σ:ac} (h:cM r n g):∃ w,dK r.pv (.int 0) σ=.ok (.str w) σ/\(w == "later")=eT r:=by
  cases h <;> first | exact ⟨_,rfl,rfl⟩ | exact ⟨"fixed",rfl,by decide +kernel⟩
section
variable {d m:Nat} {σ:ac} {p:List ah} {n:Nat} {es:List ((Str × Int) × PV)} {i g o hr gn od:Nat}
theorem aeZ {vv:PV} (h:bJ vv):aU PP topN (d + 1) gz [vv] σ=.ok (.bool (lV vv)) σ:=by
  cases h with
  | int i=>exact h0
  | bool b=>rfl
  | none=>rfl
  | str x=>rfl
theorem ad8 {r:Nat} {es:List (Str × PV)} {k:Str} (h:σ[r]?=some (.ds es)):bn .isin (.str k) (.ref r) σ=.ok (az k es).isSome σ:=by
  show af.ofOpt (cA (.str k) (.ref r) σ) σ=_
  have:cA (.str k) (.ref r) σ=some (az k es).isSome:=by unfold cA; dsimp only; rw [h]
  rw [this]; rfl
theorem aeC {r:Nat} {es:List (Str × PV)} {k:Str} {v:PV} (h:σ[r]?=some (.ds es)) (hv:az k es=some v):dK (.ref r) (.str k) σ=.ok v σ:=by
  show pL (.ref r) (.str k) σ=_
  unfold pL; dsimp only; rw [h]
  show af.ofOpt (az k es) σ=_
  rw [hv]; rfl
theorem y8 {pv:PV} (b:dw p n es i g o hr gn od σ) (h:bP pv) (h1:a9 p pv=false):aU PP topN (d + 2) cD [.inst ae i,pv] σ=.exc aG σ:=by
  rw [bz (fn:=j0) rfl rfl]
  have np:=fj (d:=d) (m:=0) (Nat.zero_le _) b h
  rw [h1,if_neg (by decide)] at np
  have e:ev (CC (d + 1)) (.meth ae bk "need_place" (.v 0) (.cons (.v 1) .nil)) [some (.inst ae i),some pv,none] σ=.exc aG σ:=cL (σ₁:=σ) (σ₂:=σ) (vs:=[pv]) rfl b.ns (br _ (by simp)) rfl np
  have s0:ex (CC (d + 1)) topN gU [some (.inst ae i),some pv,none] σ=.exc aG [some (.inst ae i),some pv,none] σ:=by
    show (ev (CC (d + 1)) (.meth ae bk "need_place" (.v 0) (.cons (.v 1) .nil)) [some (.inst ae i),some pv,none] σ).toS _ _=_
    rw [e]; rfl
  exact (congrArg aX (cu s0)).trans rfl
noncomputable def bF (p:List ah) (n:Nat) (es:List ((Str × Int) × PV)) (pv tv vv:PV):Option Nat:=
  if a9 p pv=false then some aG else if da 0 ((n:Int) - 1) tv=false then some bK else
  match pv,tv with
  | .str x,.int j=>if gY p x j=true then some aG else if lV vv=false then some j6 else if (az (x,j) es).isSome=true then some gj else none
  | _,_=>none
theorem wL {C:a8} {k c:Nat} {ρ:aw} {x:X} {σ':ac} (h:ev C x ρ σ=.exc c σ'):ex C k (.expr x) ρ σ=.exc c ρ σ':=by
  show (ev C x ρ σ).toS _ _=_
  rw [h]; rfl
theorem agc {pv tv vv:PV} (h:bD p) (b:dw p n es i g o hr gn od σ) (hp:bP pv) (ht:bJ tv) (hv:bJ vv) (hl:es.length < 1000) :
    (∀ c,bF p n es pv tv vv=some c->aU PP topN (d + 4) em [.inst ae i,pv,tv,vv] σ=.exc c σ) ∧
    (∀ x j,pv=.str x->tv=.int j->bF p n es pv tv vv=none->aU PP topN (d + 4) em [.inst ae i,pv,tv,vv] σ=.ok .none (σ.set hr (.dp (bW (x,j) vv es)))):=by
  rw [bz (fn:=iy) rfl rfl]
  have np:=fj (d:=d + 2) (m:=0) (Nat.zero_le _) b hp
  have nt:=nK (d:=d + 1) (m:=0) (Nat.zero_le _) b ht
  show (∀ c,_->aX (ex (CC (d + 3)) topN iy.body [some (.inst ae i),some pv,some tv,some vv,none,none,none,none] σ)=.exc c σ)/\(∀ x j,_->_->_->aX (ex (CC (d + 3)) topN iy.body [some (.inst ae i),some pv,some tv,some vv,none,none,none,none] σ)=_)
  generalize cE:([some (.inst ae i),some pv,some tv,some vv,none,none,none,none]:aw)=ρ
  have v0:∀ {τ:ac},ev (CC (d + 3)) (.v 0) ρ τ=.ok (.inst ae i) τ:=fun {τ}=>by subst cE; rfl
  have v1:∀ {τ:ac},ev (CC (d + 3)) (.v 1) ρ τ=.ok pv τ:=fun {τ}=>by subst cE; rfl
  have v2:∀ {τ:ac},ev (CC (d + 3)) (.v 2) ρ τ=.ok tv τ:=fun {τ}=>by subst cE; rfl
  have v3:∀ {τ:ac},ev (CC (d + 3)) (.v 3) ρ τ=.ok vv τ:=fun {τ}=>by subst cE; rfl
  have m0:ev (CC (d + 3)) (.meth ae bk "need_place" (.v 0) (.cons (.v 1) .nil)) ρ σ=if a9 p pv=true then .ok .none σ else .exc aG σ:=cL v0 b.ns (br _ (by simp)) (aF v1 rfl) np
  have m1:ev (CC (d + 3)) (.meth ae cq "need_turn" (.v 0) (.cons (.v 2) .nil)) ρ σ=if da 0 ((n:Int) - 1) tv=true then .ok .none σ else .exc bK σ:=cL v0 b.ns (br _ (by simp)) (aF v2 rfl) nt
  unfold bF
  by_cases q1:a9 p pv=true
  · rw [if_pos q1] at m0
    rw [if_neg (by rw [q1]; decide)]
    have s0:ex (CC (d + 3)) topN ii ρ σ=.next ρ σ:=cb m0
    by_cases q2:da 0 ((n:Int) - 1) tv=true
    · rw [if_pos q2] at m1
      rw [if_neg (by rw [q2]; decide)]
      have s1:ex (CC (d + 3)) topN ig ρ σ=.next ρ σ:=cb m1
      cases hp with
      | int _=>contradiction
      | none=>contradiction
      | str x =>
      cases ht with
      | bool _=>contradiction
      | none=>contradiction
      | str _=>contradiction
      | int j =>
      dsimp only
      have agv:=iF (n := "givers") (v0 (τ:=σ)) b.ns kN.2.2.1
      have ahr:=iF (n := "here") (v0 (τ:=σ)) b.ns kN.2.2.2.2
      have key:ev (CC (d + 3)) (.tup (.cons (.v 1) (.cons (.v 2) .nil))) ρ σ=.ok (.tup [.str x,.int j]) σ:=eF (vs:=[.str x,.int j]) (aF v1 (aF v2 rfl)) (show (2:Nat) <= am by decide)
      have t2:tst (CC (d + 3)) (.and (.cons (.cmp (.v 1) .isin (.attr ae (.v 0) "givers")) (.cons (.or (.cons (.cmp (.sub (.sub (.sub (.attr ae (.v 0) "givers") (.v 1)) (.k (.int 1))) (.k (.int 0))) .ne (.k (.str "later"))) (.cons (.cmp (.v 2) .gt (.k (.int 0))) .nil))) .nil))) ρ σ=.ok (gY p x j) σ:=by
        have c1:=aN v1 agv (ad8 (k:=x) b.gv)
        rw [pJ,Option.isSome_map] at c1
        unfold gY
        cases hg:jf p x with
        | none =>
          rw [hg] at c1
          exact gk (jr c1)
        | some s =>
          rw [hg] at c1
          have hs:s ∈ p:=List.mem_of_find?_eq_some hg
          obtain ⟨w,hw1,hw2⟩:=acg (σ:=σ) (h.steps s hs).rule
          have c2:ev (CC (d + 3)) (.sub (.attr ae (.v 0) "givers") (.v 1)) ρ σ=.ok s.pv σ:=bH agv v1 (aeC b.gv (by rw [pJ,hg]; rfl))
          have c3:ev (CC (d + 3)) (.sub (.sub (.attr ae (.v 0) "givers") (.v 1)) (.k (.int 1))) ρ σ=.ok s.rule.pv σ:=bH c2 (y:=.int 1) (σ₂:=σ) rfl rfl
          have c4:ev (CC (d + 3)) (.sub (.sub (.sub (.attr ae (.v 0) "givers") (.v 1)) (.k (.int 1))) (.k (.int 0))) ρ σ=.ok (.str w) σ:=bH c3 (y:=.int 0) (σ₂:=σ) rfl hw1
          have c5:=aN c4 (y:=.str "later") (σ₂:=σ) (b:=.k (.str "later")) rfl nL
          rw [hw2] at c5
          exact gk (jq c1 (fZ (ey (qJ c5 fun _=>fI (aN v2 (y:=.int 0) (σ₂:=σ) rfl gt_int)))))
      cases hb:gY p x j with
      | true =>
        rw [hb] at t2
        refine ⟨fun c hc=>?_,fun x' j' _ _ hc=>by rw [if_pos rfl] at hc; contradiction⟩
        rw [if_pos rfl] at hc
        obtain rfl:=Option.some.inj hc
        exact (congrArg aX ((aa s0).trans ((aa s1).trans (cu (a:=ie) ((aV t2).trans (cu (j1 (hh:=rfl)))))))).trans rfl
      | false =>
        rw [hb] at t2
        rw [if_neg (by decide)]
        have s2:ex (CC (d + 3)) topN ie ρ σ=.next ρ σ:=(aH t2).trans aj
        have t3:tst (CC (d + 3)) (.not (.call gz (.cons (.v 3) .nil))) ρ σ=.ok (!lV vv) σ:=ce (ec (aT v3 (aeZ (d:=d + 2) hv)))
        cases hvv:lV vv with
        | false =>
          rw [hvv] at t3
          refine ⟨fun c hc=>?_,fun x' j' _ _ hc=>by rw [if_pos rfl] at hc; contradiction⟩
          rw [if_pos rfl] at hc
          obtain rfl:=Option.some.inj hc
          exact (congrArg aX ((aa s0).trans ((aa s1).trans ((aa s2).trans (cu (a:=ic) ((aV t3).trans (cu (j1 (hh:=rfl))))))))).trans rfl
        | true =>
          rw [hvv] at t3
          rw [if_neg (by decide)]
          have s3:ex (CC (d + 3)) topN ic ρ σ=.next ρ σ:=(aH t3).trans aj
          have t4:=aN key ahr (o6 (x:=x) (j:=j) b.hr)
          cases ha:(az (x,j) es).isSome with
          | true =>
            rw [ha] at t4
            refine ⟨fun c hc=>?_,fun x' j' _ _ hc=>by rw [if_pos rfl] at hc; contradiction⟩
            rw [if_pos rfl] at hc
            obtain rfl:=Option.some.inj hc
            exact (congrArg aX ((aa s0).trans ((aa s1).trans ((aa s2).trans ((aa s3).trans (cu (a:=ia) ((aV t4).trans (cu (j1 (hh:=rfl)))))))))).trans rfl
          | false =>
            rw [ha] at t4
            refine ⟨fun c hc=>(by rw [if_neg (by decide)] at hc; contradiction),fun x' j' ex' ej' _=>?_⟩
            cases ex'
            cases ej'
            have s4:ex (CC (d + 3)) topN ia ρ σ=.next ρ σ:=(aH t4).trans aj
            have s5:ex (CC (d + 3)) topN lO ρ σ=.next ρ (σ.set hr (.dp (bW (x,j) vv es))):=by
              show (ev (CC (d + 3)) (.v 3) ρ σ).toS ρ (fun v σ=>(ev (CC (d + 3)) (.attr ae (.v 0) "here") ρ σ).toS ρ fun o σ=>(ev (CC (d + 3)) (.tup (.cons (.v 1) (.cons (.v 2) .nil))) ρ σ).toS ρ fun i σ=>cg o i v ρ σ)=_
              rw [v3,vq,ahr,vq,key,vq]
              exact vz b.hr (by rw [be]; omega)
            exact (congrArg aX ((aa s0).trans ((aa s1).trans ((aa s2).trans ((aa s3).trans ((aa s4).trans ((aa s5).trans aj))))))).trans rfl
    · have q2':da 0 ((n:Int) - 1) tv=false:=by simpa using q2
      rw [if_neg q2] at m1
      rw [if_pos q2']
      refine ⟨fun c hc=>?_,fun x' j' _ _ hc=>by contradiction⟩
      obtain rfl:=Option.some.inj hc
      exact (congrArg aX ((aa s0).trans (cu (a:=ig) (wL m1)))).trans rfl
  · have q1':a9 p pv=false:=by simpa using q1
    rw [if_neg q1] at m0
    rw [if_pos q1']
    refine ⟨fun c hc=>?_,fun x' j' _ _ hc=>by contradiction⟩
    obtain rfl:=Option.some.inj hc
    exact (congrArg aX (cu (a:=ii) (wL m0))).trans rfl
end
end Mine
namespace Mine
open PySem
noncomputable def cz (c:Nat):Str:=if c=aG then "NoPlace" else if c=bK then "NoTurn" else if c=j6 then "NoValue" else "TokenThere"
noncomputable def xL:List Nat:=[aG,bK,j6,gj]
noncomputable def agl:List Nat:=[w8,abX,bK,aG,j6,gj,abW,adD,yO,aak,abV]
theorem yP:∀ c ∈ xL,agl.contains c=true:=by decide
section
variable {d m:Nat} {σ:ac} {p:List ah} {n:Nat} {es:List ((Str × Int) × PV)} {i g o hr gn od:Nat}
theorem yQ {c:Nat} (hc:c ∈ xL):bE PP topN 1 (d + 1) dZ [.exc c] σ=.ok (.str (cz c)) σ:=by
  rcases List.mem_cons.mp hc with rfl | hc
  · rfl
  rcases List.mem_cons.mp hc with rfl | hc
  · rfl
  rcases List.mem_cons.mp hc with rfl | hc
  · rfl
  rw [List.mem_singleton.mp hc]; rfl
theorem afq {c:Nat} (hc:c ∈ xL):bE PP topN 2 (d + 1) dZ [.exc c] σ=.ok (.str (cz c)) σ:=by
  rcases List.mem_cons.mp hc with rfl | hc
  · rfl
  rcases List.mem_cons.mp hc with rfl | hc
  · rfl
  rcases List.mem_cons.mp hc with rfl | hc
  · rfl
  rw [List.mem_singleton.mp hc]; rfl
theorem afp {c:Nat} (hm:m <= 1) (hc:c ∈ xL):bE PP topN (m + 1) (d + 1) dZ [.exc c] σ=.ok (.str (cz c)) σ:=by
  cases m with
  | zero=>exact yQ hc
  | succ m =>
    cases m with
    | zero=>exact afq hc
    | succ m=>omega
theorem oW {pv tv vv:PV} {c:Nat} (h:bF p n es pv tv vv=some c):c ∈ xL:=by
  unfold bF at h
  split at h
  · obtain rfl:=Option.some.inj h; decide
  split at h
  · obtain rfl:=Option.some.inj h; decide
  split at h
  · split at h
    · obtain rfl:=Option.some.inj h; decide
    split at h
    · obtain rfl:=Option.some.inj h; decide
    split at h
    · obtain rfl:=Option.some.inj h; decide
    · contradiction
  · contradiction
theorem ad1 {pv tv vv:PV} (h:bD p) (b:dw p n es i g o hr gn od σ) (hp:bP pv) (ht:bJ tv) (hv:bJ vv) (hl:es.length < 1000) :
    (∀ c,bF p n es pv tv vv=some c->aU PP topN (d + 5) nQ [.inst ae i,pv,tv,vv] σ=.ok (.str (cz c)) σ) ∧
    (∀ x j,pv=.str x->tv=.int j->bF p n es pv tv vv=none->aU PP topN (d + 5) nQ [.inst ae i,pv,tv,vv] σ=.ok (.str "") (σ.set hr (.dp (bW (x,j) vv es)))):=by
  obtain ⟨q1,q2⟩:=agc (d:=d) h b hp ht hv hl
  have e1:∀ {r:af PV},aU PP topN (d + 4) em [.inst ae i,pv,tv,vv] σ=r->ev (CC (d + 4)) (.meth ae em "put" (.v 0) (.cons (.v 1) (.cons (.v 2) (.cons (.v 3) .nil)))) [some (.inst ae i),some pv,some tv,some vv,none,none,none] σ=r:=fun {r} e =>
    cL (σ₁:=σ) (σ₂:=σ) (vs:=[pv,tv,vv]) rfl b.ns (br _ (by simp)) rfl e
  constructor
  · intro c hc
    have hx:=oW hc
    rw [bz (fn:=nZ) rfl rfl]
    have y0:ex (CC (d + 4)) topN (.cons hY .nil) [some (.inst ae i),some pv,some tv,some vv,none,none,none] σ=.exc c [some (.inst ae i),some pv,some tv,some vv,none,none,none] σ:=by
      refine cu ?_
      show (tst (CC (d + 4)) (.cmp (.meth ae em "put" (.v 0) (.cons (.v 1) (.cons (.v 2) (.cons (.v 3) .nil)))) .isNot (.k .none)) [some (.inst ae i),some pv,some tv,some vv,none,none,none] σ).toS _ _=_
      rw [ya,e1 (q1 c hc)]; rfl
    have s0:ex (CC (d + 4)) topN jJ [some (.inst ae i),some pv,some tv,some vv,none,none,none] σ=.ret (.str (cz c)) ([some (.inst ae i),some pv,some tv,some vv,some (.exc c),none,none].map fun _=>none) σ:=by
      refine (sU (h:=.cons fu .nil) y0 (yP c hx) (by simp) rfl).trans ?_
      have hh:ex (CC (d + 4)).inH topN (.cons fu .nil) [some (.inst ae i),some pv,some tv,some vv,some (.exc c),none,none] σ=.ret (.str (cz c)) [some (.inst ae i),some pv,some tv,some vv,some (.exc c),none,none] σ:=
        ao (aB (aT (x:=.exc c) (σ₁:=σ) rfl (yQ (d:=d + 3) hx)))
      show iG (ex (CC (d + 4)).inH topN (.cons fu .nil) [some (.inst ae i),some pv,some tv,some vv,some (.exc c),none,none] σ)=_
      rw [hh]; rfl
    exact (congrArg aX (ao s0)).trans rfl
  · intro x j ex' ej' hc
    rw [bz (fn:=nZ) rfl rfl]
    have y0:ex (CC (d + 4)) topN (.cons hY .nil) [some (.inst ae i),some pv,some tv,some vv,none,none,none] σ=.next [some (.inst ae i),some pv,some tv,some vv,none,none,none] (σ.set hr (.dp (bW (x,j) vv es))):=
      (aa ((aH (aN (e1 (q2 x j ex' ej' hc)) (y:=.none) (σ₂:=σ.set hr (.dp (bW (x,j) vv es))) rfl rfl)).trans aj)).trans aj
    have s0:ex (CC (d + 4)) topN jJ [some (.inst ae i),some pv,some tv,some vv,none,none,none] σ=.next [some (.inst ae i),some pv,some tv,some vv,none,none,none] (σ.set hr (.dp (bW (x,j) vv es))):=yx y0 (fun _ _ _ z=>by contradiction)
    exact (congrArg aX ((aa s0).trans (ao (a:=nY) (aB rfl)))).trans rfl
theorem mi {pv tv:PV} {c:Nat} (hm:m <= 1) (b:dw p n es i g o hr gn od σ) (hx:c ∈ xL) (e:bE PP topN m (d + 3) cP [.inst ae i,pv,tv] σ=.exc c σ) :
    bE PP topN m (d + 4) d3 [.inst ae i,pv,tv] σ=.ok (.str (cz c)) σ:=by
  rw [mH (fn:=qf) rfl rfl]
  have hrz:(CM m (d + 3)).rz=true:=Nat.ble_eq_true_of_le hm
  have e1:ev (CM m (d + 3)) (.meth ae cP "at" (.v 0) (.cons (.v 1) (.cons (.v 2) .nil))) [some (.inst ae i),some pv,some tv,none,none,none] σ=.exc c σ:=
    cL (σ₁:=σ) (σ₂:=σ) (vs:=[pv,tv]) rfl b.ns (br _ (by simp)) rfl e
  have y0:ex (CM m (d + 3)) topN (.cons mZ .nil) [some (.inst ae i),some pv,some tv,none,none,none] σ=.exc c [some (.inst ae i),some pv,some tv,none,none,none] σ:=cu (yy e1)
  have s0:ex (CM m (d + 3)) topN k4 [some (.inst ae i),some pv,some tv,none,none,none] σ=.ret (.str (cz c)) ([some (.inst ae i),some pv,some tv,some (.exc c),none,none].map fun _=>none) σ:=by
    refine (sU (h:=.cons fP .nil) y0 (yP c hx) (by simp) hrz).trans ?_
    have hh:ex (CM m (d + 3)).inH topN (.cons fP .nil) [some (.inst ae i),some pv,some tv,some (.exc c),none,none] σ=.ret (.str (cz c)) [some (.inst ae i),some pv,some tv,some (.exc c),none,none] σ:=
      ao (aB (aT (x:=.exc c) (σ₁:=σ) rfl (afp (d:=d + 2) hm hx)))
    show iG (ex (CM m (d + 3)).inH topN (.cons fP .nil) [some (.inst ae i),some pv,some tv,some (.exc c),none,none] σ)=_
    rw [hh]; rfl
  exact (congrArg aX (ao s0)).trans rfl
theorem aa7 {x:Str} {j:Int} (b:dw p n es i g o hr gn od σ) (h1:a9 p (.str x)=true) (h2:da 0 ((n:Int) - 1) (.int j)=true) :
    aU PP topN (d + 4) d3 [.inst ae i,.str x,.int j] σ=.ok ((az (x,j) es).getD .none) σ:=by
  rw [bz (fn:=qf) rfl rfl]
  have e1:ev (CC (d + 3)) (.meth ae cP "at" (.v 0) (.cons (.v 1) (.cons (.v 2) .nil))) [some (.inst ae i),some (.str x),some (.int j),none,none,none] σ=.ok ((az (x,j) es).getD .none) σ:=
    cL (σ₁:=σ) (σ₂:=σ) (vs:=[.str x,.int j]) rfl b.ns (br _ (by simp)) rfl (adz (m:=0) (Nat.zero_le _) b h1 h2)
  have s0:ex (CC (d + 3)) topN k4 [some (.inst ae i),some (.str x),some (.int j),none,none,none] σ=.ret ((az (x,j) es).getD .none) [some (.inst ae i),some (.str x),some (.int j),none,none,none] σ:=
    yx (ao (aB e1)) (fun _ _ _ z=>by contradiction)
  exact (congrArg aX (ao s0)).trans rfl
theorem vZ {pv tv:PV} (b:dw p n es i g o hr gn od σ) (hp:bP pv) (h1:a9 p pv=false) :
    aU PP topN (d + 5) lw [.inst ae i,pv,tv] σ=.ok (.fl [.str "NoPlace",.str "NoPlace"]) σ:=by
  rw [bz (fn:=lE) rfl rfl]
  have hx:aG ∈ xL:=by decide
  have w:cz aG = "NoPlace" := rfl
  have a0:=mi (m:=0) (d:=d) (tv:=tv) (Nat.zero_le _) b hx (wS (Nat.zero_le _) b hp h1)
  have a1:=mi (m:=1) (d:=d) (tv:=tv) (Nat.le_refl _) b hx (wS (Nat.le_refl _) b hp h1)
  have tl:=y8 (d:=d + 2) b hp h1
  have e1:ev (CC (d + 4)) (.lst true (.cons (.call d3 (.cons (.v 0) (.cons (.v 1) (.cons (.v 2) .nil)))) (.cons (.meth ae cD "told" (.v 0) (.cons (.v 1) .nil)) .nil))) [some (.inst ae i),some pv,some tv,none,none,none,none] σ=.exc aG σ:=by
    have c1:ev (CC (d + 4)) (.call d3 (.cons (.v 0) (.cons (.v 1) (.cons (.v 2) .nil)))) [some (.inst ae i),some pv,some tv,none,none,none,none] σ=.ok (.str (cz aG)) σ:=fw (x:=.inst ae i) (y:=pv) (z:=tv) (σ₁:=σ) (σ₂:=σ) (σ₃:=σ) rfl rfl rfl a0
    have c2:ev (CC (d + 4)) (.meth ae cD "told" (.v 0) (.cons (.v 1) .nil)) [some (.inst ae i),some pv,some tv,none,none,none,none] σ=.exc aG σ:=cL (σ₁:=σ) (σ₂:=σ) (vs:=[pv]) rfl b.ns (br _ (by simp)) rfl tl
    rw [abu,cJ,c1,av,cJ,c2]; rfl
  have y0:ex (CC (d + 4)) topN (.cons g6 .nil) [some (.inst ae i),some pv,some tv,none,none,none,none] σ=.exc aG [some (.inst ae i),some pv,some tv,none,none,none,none] σ:=cu (yy e1)
  have s0:ex (CC (d + 4)) topN i3 [some (.inst ae i),some pv,some tv,none,none,none,none] σ=.ret (.fl [.str "NoPlace",.str "NoPlace"]) ([some (.inst ae i),some pv,some tv,some (.exc aG),none,none,none].map fun _=>none) σ:=by
    refine (sU (h:=.cons de .nil) y0 (yP _ hx) (by simp) rfl).trans ?_
    have c1:ev (CC (d + 4)).inH (.call d3 (.cons (.v 0) (.cons (.v 1) (.cons (.v 2) .nil)))) [some (.inst ae i),some pv,some tv,some (.exc aG),none,none,none] σ=.ok (.str (cz aG)) σ:=fw (x:=.inst ae i) (y:=pv) (z:=tv) (σ₁:=σ) (σ₂:=σ) (σ₃:=σ) rfl rfl rfl a1
    have c2:ev (CC (d + 4)).inH (.call dZ (.cons (.v 3) .nil)) [some (.inst ae i),some pv,some tv,some (.exc aG),none,none,none] σ=.ok (.str (cz aG)) σ:=aT (x:=.exc aG) (σ₁:=σ) rfl (yQ (d:=d + 3) hx)
    have hh:ex (CC (d + 4)).inH topN (.cons de .nil) [some (.inst ae i),some pv,some tv,some (.exc aG),none,none,none] σ=.ret (.fl [.str "NoPlace",.str "NoPlace"]) [some (.inst ae i),some pv,some tv,some (.exc aG),none,none,none] σ:=
      ao (aB (acS (vs:=[.str "NoPlace",.str "NoPlace"]) (aF (w ▸ c1) (aF (w ▸ c2) rfl)) (show (2:Nat) <= am by decide)))
    show iG (ex (CC (d + 4)).inH topN (.cons de .nil) [some (.inst ae i),some pv,some tv,some (.exc aG),none,none,none] σ)=_
    rw [hh]; rfl
  exact (congrArg aX (ao s0)).trans rfl
end
end Mine
namespace Mine
open PySem
noncomputable def bg (p:List ah):List Str:=(p.filter fun s=>eT s.rule).flatMap (·.gives)
noncomputable def aq (p:List ah):List Str:=nI [] (p.flatMap fun s=>s.needs++s.gives)
theorem zo {r:dc} {n g:Nat} {σ:ac} (h:cM r n g):bn .eq r.pv (.tup [.str "later"]) σ=.ok (eT r) σ:=by
  have:∀ w:Str,bn .eq (.tup [.str w]) (.tup [.str "later"]) σ=.ok (w == "later") σ:=fun w=>by
    show af.ofOpt (some ((w == "later") && true)) σ=_
    rw [Bool.and_true]; rfl
  cases h <;> first | exact this _ | rfl
section
variable {d:Nat} {σ:ac}
theorem adZ {pl:PV} {τ:ac}:∀ (p:List ah) (x:Option PV) (acc:List Str),acc.length + 3 * p.length <= 900->(∀ s ∈ p,iH s) ->
    ∃ x',bB none (cI 2) (fun ρ σ=>ex (CC d) topN kA ρ σ) (p.map ah.pv) [some pl,some (.ref τ.length),x] (τ++[.lst (acc.map .str)]) =
      .next [some pl,some (.ref τ.length),x'] (τ++[.lst ((acc++bg p).map .str)]):=by
  intro p
  induction p with
  | nil=>intro x acc _ _; exact ⟨x,by simpa [bg] using cH⟩
  | cons s p ih =>
    intro x acc hl h3
    have hs:=h3 s (by simp)
    have hg:=hs.gives3
    rw [List.length_cons] at hl
    have t:tst (CC d) (.cmp (.sub (.v 2) (.k (.int 1))) .eq (.tup (.cons (.k (.str "later")) .nil))) [some pl,some (.ref τ.length),some s.pv] (τ++[.lst (acc.map .str)])=.ok (eT s.rule) (τ++[.lst (acc.map .str)]):=
      aN (x:=s.rule.pv) (y:=.tup [.str "later"]) (σ₁:=τ++[.lst (acc.map .str)]) (σ₂:=τ++[.lst (acc.map .str)]) rfl rfl (zo hs.rule)
    cases hq:eT s.rule with
    | false =>
      rw [hq] at t
      obtain ⟨x',e⟩:=ih (some s.pv) acc (by omega) fun t ht=>h3 t (List.mem_cons_of_mem _ ht)
      have e0:bg (s::p)=bg p:=by unfold bg; rw [List.filter_cons,hq,if_neg (by decide)]
      rw [e0]
      refine ⟨x',(bZ (ρ₁:=[some pl,some (.ref τ.length),some s.pv]) (ρ₂:=[some pl,some (.ref τ.length),some s.pv]) (σ₂:=τ++[.lst (acc.map .str)]) rfl ?_).trans e⟩
      exact (aa ((aH t).trans aj)).trans aj
    | true =>
      rw [hq] at t
      obtain ⟨x',e⟩:=ih (some s.pv) (acc++s.gives) (by rw [List.length_append]; omega) fun t ht=>h3 t (List.mem_cons_of_mem _ ht)
      have e0:bg (s::p)=s.gives++bg p:=by unfold bg; rw [List.filter_cons,hq,if_pos rfl,List.flatMap_cons]
      rw [e0,<- List.append_assoc]
      refine ⟨x',(bZ (ρ₁:=[some pl,some (.ref τ.length),some s.pv]) (ρ₂:=[some pl,some (.ref τ.length),some s.pv]) (σ₂:=τ++[.lst ((acc++s.gives).map .str)]) rfl ?_).trans e⟩
      refine (aa ((aV t).trans ?_)).trans aj
      refine (aa (cb (gW (m:=.extend) (x:=.ref τ.length) (σ₁:=τ++[.lst (acc.map .str)]) (σ₂:=τ++[.lst (acc.map .str)]) rfl (iD (.inr (.inl rfl))) (y:=.tup (s.gives.map .str)) rfl ?_))).trans aj
      show dP (.ref τ.length) (.tup (s.gives.map .str)) _=_
      unfold dP; dsimp only; rw [cw]; dsimp only
      rw [if_pos (by rw [List.length_map,List.length_map,be]; omega),oV,List.map_append]
theorem tG {p:List ah} (h:bD p):aU PP topN (d + 1) ek [ak p] σ=.ok (.ref σ.length) (σ++[.lst ((bg p).map .str)]):=by
  rw [bz (fn:=kZ) rfl rfl]
  obtain ⟨x',e⟩:=adZ (d:=d) (pl:=ak p) (τ:=σ) p none [] (by show 0 + 3 * p.length <= 900; have:=h.most; omega) h.steps
  rw [List.nil_append] at e
  have:ex (CC d) topN kZ.body [some (ak p),none,none] σ=.ret (.ref σ.length) [some (ak p),some (.ref σ.length),x'] (σ++[.lst ((bg p).map .str)]):=
    (aa (a:=lM) (ρ':=[some (ak p),some (.ref σ.length),none]) (σ':=σ++[.lst []]) rfl).trans ((aa (dQ (ys:=p.map ah.pv) (σ₁:=σ++[.lst []]) rfl e)).trans (ao (aB rfl)))
  exact (congrArg aX this).trans rfl
theorem afD {pl s:PV} {τ:ac}:∀ (ns:List Str) (y:Option PV) (acc:List Str),acc.length + ns.length <= 900 ->
    ∃ y',bB none (cI 3) (fun ρ σ=>ex (CC d) topN iE ρ σ) (ns.map .str) [some pl,some (.ref τ.length),some s,y] (τ++[.lst (acc.map .str)]) =
      .next [some pl,some (.ref τ.length),some s,y'] (τ++[.lst ((ns.foldl (aS []) acc).map .str)]):=by
  intro ns
  induction ns with
  | nil=>intro y acc _; exact ⟨y,cH⟩
  | cons n ns ih =>
    intro y acc hl
    rw [List.length_cons] at hl
    obtain ⟨y',e⟩:=ih (some (.str n)) (aS [] acc n) (by have:=ip (G:=[]) (acc:=acc) (n:=n); omega)
    refine ⟨y',(bZ (ρ₁:=[some pl,some (.ref τ.length),some s,some (.str n)]) (ρ₂:=[some pl,some (.ref τ.length),some s,some (.str n)]) (σ₂:=τ++[.lst ((aS [] acc n).map .str)]) rfl ?_).trans e⟩
    have t:tst (CC d) (.cmp (.v 3) .notin (.v 1)) [some pl,some (.ref τ.length),some s,some (.str n)] (τ++[.lst (acc.map .str)])=.ok (!decide (n ∈ acc)) (τ++[.lst (acc.map .str)]):=
      aN (x:=.str n) (y:=.ref τ.length) (σ₁:=τ++[.lst (acc.map .str)]) (σ₂:=τ++[.lst (acc.map .str)]) rfl rfl (dW cw)
    have e0:aS [] acc n=if (!decide (n ∈ acc))=true then acc++[n] else acc:=by
      unfold aS
      rw [decide_eq_false (show n ∉ ([]:List Str) from List.not_mem_nil)]; rfl
    rw [e0]
    cases hq:(!decide (n ∈ acc)) with
    | false =>
      rw [hq] at t
      exact (aa ((aH t).trans aj)).trans aj
    | true =>
      rw [hq] at t
      rw [if_pos rfl]
      refine (aa ((aV t).trans ((aa (cb (gW (m:=.append) (x:=.ref τ.length) (σ₁:=τ++[.lst (acc.map .str)]) rfl ?_ (y:=.str n) (σ₂:=τ++[.lst (acc.map .str)]) rfl (sX (by rw [List.length_map]; omega))))).trans ?_))).trans aj
      · exact iD (.inl rfl)
      · rw [List.map_append]; exact aj
theorem aeS {pl:PV} {τ:ac}:∀ (p:List ah) (x y:Option PV) (acc:List Str),acc.length + 7 * p.length <= 900->(∀ s ∈ p,iH s) ->
    ∃ x' y',bB none (cI 2) (fun ρ σ=>ex (CC d) topN jL ρ σ) (p.map ah.pv) [some pl,some (.ref τ.length),x,y] (τ++[.lst (acc.map .str)]) =
      .next [some pl,some (.ref τ.length),x',y'] (τ++[.lst (((p.flatMap fun s=>s.needs++s.gives).foldl (aS []) acc).map .str)]):=by
  intro p
  induction p with
  | nil=>intro x y acc _ _; exact ⟨x,y,cH⟩
  | cons s p ih =>
    intro x y acc hl h4
    have hs:=h4 s (by simp)
    have h1:=hs.needs4
    have h2:=hs.gives3
    have hll:(s.needs++s.gives).length <= 7:=by rw [List.length_append]; omega
    rw [List.length_cons] at hl
    obtain ⟨y1,e1⟩:=afD (d:=d) (pl:=pl) (s:=s.pv) (τ:=τ) (s.needs++s.gives) y acc (by omega)
    obtain ⟨x',y',e2⟩:=ih (some s.pv) y1 ((s.needs++s.gives).foldl (aS []) acc) (by have:=lq (G:=[]) (s.needs++s.gives) acc; omega) fun t ht=>h4 t (List.mem_cons_of_mem _ ht)
    have e3:((s::p).flatMap fun s=>s.needs++s.gives).foldl (aS []) acc=(p.flatMap fun s=>s.needs++s.gives).foldl (aS []) ((s.needs++s.gives).foldl (aS []) acc):=by
      rw [List.flatMap_cons]; exact List.foldl_append
    rw [e3]
    refine ⟨x',y',(bZ (ρ₁:=[some pl,some (.ref τ.length),some s.pv,y]) (ρ₂:=[some pl,some (.ref τ.length),some s.pv,y1]) (σ₂:=τ++[.lst (((s.needs++s.gives).foldl (aS []) acc).map .str)]) rfl ?_).trans e2⟩
    have ad:ev (CC d) (.bin .add (.sub (.v 2) (.k (.int 2))) (.sub (.v 2) (.k (.int 3)))) [some pl,some (.ref τ.length),some s.pv,y] (τ++[.lst (acc.map .str)])=.ok (.tup ((s.needs++s.gives).map .str)) (τ++[.lst (acc.map .str)]):=by
      refine aC (x:=.tup (s.needs.map .str)) (y:=.tup (s.gives.map .str)) (σ₁:=τ++[.lst (acc.map .str)]) (σ₂:=τ++[.lst (acc.map .str)]) rfl rfl ?_
      rw [List.map_append]
      exact if_pos (by rw [List.length_map,List.length_map,be]; omega)
    refine (aa (dQ (ys:=(s.needs++s.gives).map .str) (σ₁:=τ++[.lst (acc.map .str)]) ?_ e1)).trans aj
    show (ev (CC d) (.bin .add (.sub (.v 2) (.k (.int 2))) (.sub (.v 2) (.k (.int 3)))) [some pl,some (.ref τ.length),some s.pv,y] (τ++[.lst (acc.map .str)])).bind g4=_
    rw [ad]; rfl
theorem gx {p:List ah} (h:bD p):aU PP topN (d + 1) bM [ak p] σ=.ok (.ref σ.length) (σ++[.lst ((aq p).map .str)]):=by
  rw [bz (fn:=jM) rfl rfl]
  obtain ⟨x',y',e⟩:=aeS (d:=d) (pl:=ak p) (τ:=σ) p none none [] (by show 0 + 7 * p.length <= 900; have:=h.most; omega) h.steps
  have:ex (CC d) topN jM.body [some (ak p),none,none,none] σ=.ret (.ref σ.length) [some (ak p),some (.ref σ.length),x',y'] (σ++[.lst ((aq p).map .str)]):=
    (aa (a:=ku) (ρ':=[some (ak p),some (.ref σ.length),none,none]) (σ':=σ++[.lst []]) rfl).trans ((aa (dQ (ys:=p.map ah.pv) (σ₁:=σ++[.lst []]) rfl e)).trans (ao (aB rfl)))
  exact (congrArg aX this).trans rfl
theorem xy {G acc:List Str} {n x:Str}:x ∈ aS G acc n ↔ x ∈ acc\/(x=n/\n ∉ G):=by
  unfold aS
  by_cases h1:n ∈ G
  · rw [decide_eq_true h1]
    exact ⟨.inl,fun h=>h.elim id fun z=>absurd h1 z.2⟩
  · rw [decide_eq_false h1]
    by_cases h2:n ∈ acc
    · rw [decide_eq_true h2]
      exact ⟨.inl,fun h=>h.elim id fun z=>z.1 ▸ h2⟩
    · rw [decide_eq_false h2]
      show x ∈ acc++[n] ↔ _
      rw [List.mem_append,List.mem_singleton]
      exact ⟨fun h=>h.imp id fun z=>⟨z,h1⟩,fun h=>h.imp id fun z=>z.1⟩
theorem ym {G:List Str} {x:Str}:∀ (ns acc:List Str),x ∈ ns.foldl (aS G) acc ↔ x ∈ acc\/(x ∈ ns/\x ∉ G):=by
  intro ns
  induction ns with
  | nil=>intro acc; exact ⟨.inl,fun h=>h.elim id fun z=>nomatch z.1⟩
  | cons n ns ih =>
    intro acc
    rw [List.foldl_cons,ih,xy,List.mem_cons]
    constructor
    · rintro ((h | ⟨rfl,h⟩) | h)
      · exact .inl h
      · exact .inr ⟨.inl rfl,h⟩
      · exact .inr ⟨.inr h.1,h.2⟩
    · rintro (h | ⟨rfl | h,h'⟩)
      · exact .inl (.inl h)
      · exact .inl (.inr ⟨rfl,h'⟩)
      · exact .inr ⟨h,h'⟩
theorem pR {p:List ah} {x:Str}:x ∈ ch p ↔ x ∈ p.flatMap (·.needs)/\x ∉ p.flatMap (·.gives):=by
  unfold ch nI
  rw [ym]
  exact ⟨fun h=>h.elim (fun z=>nomatch z) id,.inr⟩
theorem kR {p:List ah} {x:Str}:x ∈ aq p ↔ x ∈ p.flatMap (·.needs)\/x ∈ p.flatMap (·.gives):=by
  unfold aq nI
  rw [ym]
  simp only [List.mem_flatMap,List.mem_append]
  constructor
  · rintro (h | ⟨⟨s,hs,h | h⟩,_⟩)
    · exact nomatch h
    · exact .inl ⟨s,hs,h⟩
    · exact .inr ⟨s,hs,h⟩
  · rintro (⟨s,hs,h⟩ | ⟨s,hs,h⟩)
    · exact .inr ⟨⟨s,hs,.inl h⟩,fun z=>nomatch z⟩
    · exact .inr ⟨⟨s,hs,.inr h⟩,fun z=>nomatch z⟩
theorem nH {p:List ah} {x:Str}:a9 p (.str x)=decide (x ∈ aq p):=by
  show (decide (x ∈ p.flatMap (·.gives)) || decide (x ∈ ch p))=_
  rw [Bool.eq_iff_iff,Bool.or_eq_true,decide_eq_true_eq,decide_eq_true_eq,decide_eq_true_eq,kR,pR]
  by_cases h:x ∈ p.flatMap (·.gives)
  · exact ⟨fun _=>.inr h,fun _=>.inl h⟩
  · exact ⟨fun z=>z.elim (fun z=>absurd z h) fun z=>.inl z.1,fun z=>z.elim (fun z=>.inr ⟨z,h⟩) fun z=>absurd z h⟩
theorem abo {p:List ah} {x:Str} (h:bD p):x ∈ bg p ↔ ∃ s,jf p x=some s/\eT s.rule=true:=by
  unfold bg
  rw [List.mem_flatMap]
  constructor
  · rintro ⟨s,hs,hx⟩
    obtain ⟨h1,h2⟩:=List.mem_filter.mp hs
    cases hg:jf p x with
    | none =>
      have:=mq (p:=p) (x:=x)
      rw [hg,eq_comm,Option.isSome_none,decide_eq_false_iff_not] at this
      exact absurd (List.mem_flatMap.mpr ⟨s,h1,hx⟩) this
    | some t =>
      refine ⟨t,rfl,?_⟩
      have ht:t ∈ p:=List.mem_of_find?_eq_some hg
      have hxt:x ∈ t.gives:=by simpa using List.find?_some hg
      have key:∀ (q:List ah),(q.flatMap (·.gives)).Nodup->s ∈ q->t ∈ q->s=t:=by
        intro q
        induction q with
        | nil=>intro _ h; contradiction
        | cons a q ih =>
          intro hn h1 h2
          rw [List.flatMap_cons] at hn
          obtain ⟨_,n2,n3⟩:=List.nodup_append.mp hn
          rcases List.mem_cons.mp h1 with e1 | k1
          · rcases List.mem_cons.mp h2 with e2 | k2
            · exact e1.trans e2.symm
            · subst e1; exact absurd rfl (n3 x hx x (List.mem_flatMap.mpr ⟨t,k2,hxt⟩))
          · rcases List.mem_cons.mp h2 with e2 | k2
            · subst e2; exact absurd rfl (n3 x hxt x (List.mem_flatMap.mpr ⟨s,k1,hx⟩))
            · exact ih n2 k1 k2
      rw [<- key p h.gives h1 ht]; exact h2
  · rintro ⟨s,hg,hl⟩
    exact ⟨s,List.mem_filter.mpr ⟨List.mem_of_find?_eq_some hg,hl⟩,by simpa using List.find?_some hg⟩
end
end Mine
namespace Mine
open PySem
noncomputable def d6:Option Nat->Str
  | some c=>cz c
  | none => ""
noncomputable def inL (l:List Str):PV->Bool
  | .str x=>decide (x ∈ l)
  | _=>false
theorem vK {p:List ah} {pv:PV} (h:bP pv):a9 p pv=inL (aq p) pv:=by
  cases h with
  | int i=>rfl
  | none=>rfl
  | str x=>exact nH
theorem abJ {p:List ah} {x:Str} {j:Int} (h:bD p) (hp:a9 p (.str x)=true):(!decide (x ∈ ch p) && (!decide (x ∈ bg p) || decide (j > 0)))=gY p x j:=by
  unfold gY
  cases hg:jf p x with
  | none =>
    have h1:=mq (p:=p) (x:=x)
    rw [hg,eq_comm,Option.isSome_none,decide_eq_false_iff_not] at h1
    have h2:(decide (x ∈ p.flatMap (·.gives)) || decide (x ∈ ch p))=true:=hp
    rw [decide_eq_false h1,Bool.false_or] at h2
    rw [h2]; rfl
  | some s =>
    have h1:=mq (p:=p) (x:=x)
    rw [hg,eq_comm,Option.isSome_some,decide_eq_true_eq] at h1
    have h2:x ∉ ch p:=fun z=>(pR.mp z).2 h1
    have h3:decide (x ∈ bg p)=eT s.rule:=by
      rw [Bool.eq_iff_iff,decide_eq_true_eq,abo h]
      exact ⟨fun ⟨t,e1,e2⟩=>by rw [hg] at e1; obtain rfl:=Option.some.inj e1; exact e2,fun z=>⟨s,hg,z⟩⟩
    rw [decide_eq_false h2,h3]; rfl
section
variable {d:Nat} {σ:ac} {C:a8} {ρ:aw}
theorem abM {τ:ac} {a b:MO}:(τ++[a,b])[τ.length + 1]?=some b:=by simp
theorem acu {ns:List Str} {pv:PV} (h:bP pv):iK σ pv (ns.map .str)=some (inL ns pv):=by
  cases h with
  | str x=>exact tF
  | int i =>
    unfold iK
    rw [nx]
    show some ((ns.map PyData.str).any fun y=>PyData.eqv y (.int i))=some false
    congr 1
    rw [List.any_eq_false]
    intro y hy
    obtain ⟨s,_,rfl⟩:=List.mem_map.mp hy
    exact Bool.false_ne_true
  | none =>
    unfold iK
    rw [nx]
    show some ((ns.map PyData.str).any fun y=>PyData.eqv y .none)=some false
    congr 1
    rw [List.any_eq_false]
    intro y hy
    obtain ⟨s,_,rfl⟩:=List.mem_map.mp hy
    exact Bool.false_ne_true
theorem tz {r:Nat} {ns:List Str} {pv:PV} (hp:bP pv) (h:σ[r]?=some (.lst (ns.map .str))):bn .notin pv (.ref r) σ=.ok (!inL ns pv) σ:=by
  show af.ofOpt ((cA pv (.ref r) σ).map (!·)) σ=_
  have:cA pv (.ref r) σ=some (inL ns pv):=by
    unfold cA
    dsimp only
    rw [h]
    exact acu hp
  rw [this]; rfl
theorem za {a b c:X} {i j k:Int} (ha:ev C a ρ σ=.ok (.int i) σ) (hb:ev C b ρ σ=.ok (.int j) σ) (hc:ev C c ρ σ=.ok (.int k) σ):tst C (.cmp2 a .le b .lt c) ρ σ=.ok (decide (i <= j) && decide (j < k)) σ:=by
  rw [u5,ha,av,hb,av,le_int,av]
  cases decide (i <= j)
  · rfl
  · rw [if_pos rfl,hc,av,lt_int]; rfl
theorem adb {v k:Nat} {x:X} {tv:PV} {hi:Int} (h:bJ tv) (hv:ev C (.v v) ρ σ=.ok tv σ) (hx:ev C x ρ σ=.ok (.int hi) σ) :
    tst C (.or (.cons (.isinst (.v v) .bool) (.cons (.not (.isinst (.v v) .int)) (.cons (.not (.cmp2 (.k (.int 0)) .le (.v v) .lt x)) .nil)))) ρ σ=.ok (!da 0 (hi - 1) tv) σ:=by
  cases h with
  | int i =>
    refine ey (dm (cZ (cK hv rfl)) (dm (ce (q:=true) (cZ (cK hv rfl))) (fI ((ce (za (σ:=σ) rfl hv hx)).trans ?_))))
    show af.ok (!(decide (0 <= i) && decide (i < hi))) σ=af.ok (!(decide (0 <= i) && decide (i <= hi - 1))) σ
    rw [show decide (i < hi)=decide (i <= hi - 1) from decide_eq_decide.mpr (by omega)]
  | bool b=>exact ey (jA (cZ (cK hv rfl)))
  | none=>exact ey (dm (cZ (cK hv rfl)) (jA (ce (q:=false) (cZ (cK hv rfl)))))
  | str x=>exact ey (dm (cZ (cK hv rfl)) (jA (ce (q:=false) (cZ (cK hv rfl)))))
theorem ad2 {p:List ah} {n r:Nat} {es:List ((Str × Int) × PV)} {pv tv vv:PV} (h:bD p) (hr:σ[r]?=some (.dp es)) (hp:bP pv) (ht:bJ tv) (hv:bJ vv) :
    ∃ τ,aU PP topN (d + 2) tI [ak p,.ref r,.int n,pv,tv,vv] σ=.ok (.str (d6 (bF p n es pv tv vv))) (σ++τ):=by
  rw [bz (fn:=ol) rfl rfl]
  show ∃ τ,aX (ex (CC (d + 1)) topN ol.body [some (ak p),some (.ref r),some (.int n),some pv,some tv,some vv,none,none,none,none,none,none] σ)=_
  generalize cE:([some (ak p),some (.ref r),some (.int n),some pv,some tv,some vv,none,none,none,none,none,none]:aw)=ρ
  have v0:∀ {τ:ac},ev (CC (d + 1)) (.v 0) ρ τ=.ok (ak p) τ:=fun {τ}=>by subst cE; rfl
  have v1:∀ {τ:ac},ev (CC (d + 1)) (.v 1) ρ τ=.ok (.ref r) τ:=fun {τ}=>by subst cE; rfl
  have v2:∀ {τ:ac},ev (CC (d + 1)) (.v 2) ρ τ=.ok (.int n) τ:=fun {τ}=>by subst cE; rfl
  have v3:∀ {τ:ac},ev (CC (d + 1)) (.v 3) ρ τ=.ok pv τ:=fun {τ}=>by subst cE; rfl
  have v4:∀ {τ:ac},ev (CC (d + 1)) (.v 4) ρ τ=.ok tv τ:=fun {τ}=>by subst cE; rfl
  have v5:∀ {τ:ac},ev (CC (d + 1)) (.v 5) ρ τ=.ok vv τ:=fun {τ}=>by subst cE; rfl
  have t0:tst (CC (d + 1)) (.cmp (.v 3) .notin (.call bM (.cons (.v 0) .nil))) ρ σ=.ok (!a9 p pv) (σ++[.lst ((aq p).map .str)]):=by
    rw [vK hp]
    exact aN v3 (aT v0 (gx (d:=d) h)) (tz hp (by simp))
  have kr:∀ {τ:ac},(σ++τ)[r]?=some (.dp es):=fun {τ}=>by rw [List.getElem?_append_left (List.getElem?_eq_some_iff.mp hr).1]; exact hr
  unfold bF
  cases q1:a9 p pv with
  | false =>
    rw [q1] at t0
    rw [if_pos rfl]
    exact ⟨_,(congrArg aX (ao (a:=jS) ((aV t0).trans (ao (aB rfl))))).trans rfl⟩
  | true =>
  rw [q1] at t0
  rw [if_neg (by decide)]
  have s0:ex (CC (d + 1)) topN jS ρ σ=.next ρ (σ++[.lst ((aq p).map .str)]):=(aH t0).trans aj
  generalize [MO.lst ((aq p).map .str)]=mL at s0
  have t1:=adb (k:=0) ht (v4 (τ:=σ++mL)) v2
  cases q2:da 0 ((n:Int) - 1) tv with
  | false =>
    rw [q2] at t1
    rw [if_pos rfl]
    exact ⟨_,(congrArg aX ((aa s0).trans (ao (a:=jR) ((aV t1).trans (ao (aB rfl)))))).trans rfl⟩
  | true =>
  rw [q2] at t1
  rw [if_neg (by decide)]
  have s1:ex (CC (d + 1)) topN jR ρ (σ++mL)=.next ρ (σ++mL):=(aH t1).trans aj
  cases hp with
  | int _=>contradiction
  | none=>contradiction
  | str x =>
  cases ht with
  | bool _=>contradiction
  | none=>contradiction
  | str _=>contradiction
  | int j =>
  dsimp only
  have t2:∃ cY,tst (CC (d + 1)) (.and (.cons (.cmp (.v 3) .notin (.call dh (.cons (.v 0) .nil))) (.cons (.or (.cons (.cmp (.v 3) .notin (.call ek (.cons (.v 0) .nil))) (.cons (.cmp (.v 4) .gt (.k (.int 0))) .nil))) .nil))) ρ (σ++mL)=.ok (gY p x j) (σ++cY):=by
    rw [<- abJ h q1]
    have c1:tst (CC (d + 1)) (.cmp (.v 3) .notin (.call dh (.cons (.v 0) .nil))) ρ (σ++mL)=.ok (!decide (x ∈ ch p)) (σ++mL++[.lst ((p.flatMap (·.gives)).map .str),.lst ((ch p).map .str)]):=
      aN v3 (aT v0 (pA (d:=d) h)) (dW (ns:=ch p) abM)
    rw [List.append_assoc] at c1
    generalize mL++[MO.lst ((p.flatMap (·.gives)).map .str),.lst ((ch p).map .str)]=τa at c1
    cases q3:decide (x ∈ ch p) with
    | true =>
      rw [q3] at c1
      exact ⟨τa,gk (jr c1)⟩
    | false =>
      rw [q3] at c1
      have c2:tst (CC (d + 1)) (.cmp (.v 3) .notin (.call ek (.cons (.v 0) .nil))) ρ (σ++τa)=.ok (!decide (x ∈ bg p)) (σ++τa++[.lst ((bg p).map .str)]):=
        aN v3 (aT v0 (tG (d:=d) h)) (dW (ns:=bg p) cw)
      rw [List.append_assoc] at c2
      exact ⟨τa++[.lst ((bg p).map .str)],gk (jq c1 (fZ (ey (qJ c2 fun _=>fI (aN v4 (y:=.int 0) (σ₂:=σ++(τa++[.lst ((bg p).map .str)])) rfl gt_int)))))⟩
  obtain ⟨cY,t2⟩:=t2
  cases q3:gY p x j with
  | true =>
    rw [q3] at t2
    rw [if_pos rfl]
    exact ⟨_,(congrArg aX ((aa s0).trans ((aa s1).trans (ao (a:=jQ) ((aV t2).trans (ao (aB rfl))))))).trans rfl⟩
  | false =>
  rw [q3] at t2
  rw [if_neg (by decide)]
  have s2:ex (CC (d + 1)) topN jQ ρ (σ++mL)=.next ρ (σ++cY):=(aH t2).trans aj
  have t3:=adb (k:=0) (x:=.bin .pow (.k (.int 10)) (.k (.int 6))) (hi:=1000000) hv (v5 (τ:=σ++cY)) rfl
  rw [show da 0 ((1000000:Int) - 1) vv=lV vv by cases hv <;> rfl] at t3
  cases q4:lV vv with
  | false =>
    rw [q4] at t3
    rw [if_pos rfl]
    exact ⟨_,(congrArg aX ((aa s0).trans ((aa s1).trans ((aa s2).trans (ao (a:=jP) ((aV t3).trans (ao (aB rfl)))))))).trans rfl⟩
  | true =>
  rw [q4] at t3
  rw [if_neg (by decide)]
  have s3:ex (CC (d + 1)) topN jP ρ (σ++cY)=.next ρ (σ++cY):=(aH t3).trans aj
  have key:ev (CC (d + 1)) (.tup (.cons (.v 3) (.cons (.v 4) .nil))) ρ (σ++cY)=.ok (.tup [.str x,.int j]) (σ++cY):=eF (vs:=[.str x,.int j]) (aF v3 (aF v4 rfl)) (show (2:Nat) <= am by decide)
  have c4:ev (CC (d + 1)) (.b1 .int (.cmp (.tup (.cons (.v 3) (.cons (.v 4) .nil))) .isin (.v 1))) ρ (σ++cY)=.ok (.int (if (az (x,j) es).isSome=true then 1 else 0)) (σ++cY):=cQ (jk key v1 (o6 kr)) int_bool
  refine ⟨cY,(congrArg aX ((aa s0).trans ((aa s1).trans ((aa s2).trans ((aa s3).trans (ao (a:=oj) (aB (bH (x:=.fl [.str "",.str "TokenThere"]) (σ₁:=σ++cY) rfl c4 (v:=.ok (.str (d6 (if (az (x,j) es).isSome=true then some gj else none))) (σ++cY)) ?_)))))))).trans rfl⟩
  cases (az (x,j) es).isSome <;> rfl
end
end Mine
namespace Mine
open PySem
section
variable {d:Nat} {σ:ac} {C:a8} {ρ:aw}
theorem tY {a b:PV} {xs ys:List PV} (h1:aY σ a=some xs) (h2:aY σ b=some ys) (ha:∀ s,a ≠ .str s) (hi:∀ i,a ≠ .int i) (ht:∀ l,a ≠ .tup l) (h:xs.length + ys.length <= am):fS .add a b σ=.ok (.fl (xs++ys)) σ:=by
  show sZ a b σ=_
  unfold sZ
  cases a with
  | str s=>exact absurd rfl (ha s)
  | int i=>exact absurd rfl (hi i)
  | tup l=>exact absurd rfl (ht l)
  | fl l=>cases b <;> simp_all [aY]
  | ref r=>cases b <;> simp_all [aY]
  | none=>contradiction
  | bool b=>contradiction
  | exc c=>contradiction
  | inst c i=>contradiction
theorem oX {L:List PV} {P:PV->Prop} {c:Int} {k:Nat} (hk:L.length=k) (h0:0 < k) (hl:k <= 100) (h:∀ v ∈ L,P v):∃ v,P v/\∀ {σ:ac},dK (.fl L) (.int (c % k)) σ=.ok v σ:=by
  have n0:=Int.emod_nonneg c (show (k:Int) ≠ 0 by omega)
  have n1:=Int.emod_lt_of_pos c (show (0:Int) < k by omega)
  have hi:(c % k).toNat < L.length:=by rw [hk]; exact eK n0 n1
  exact ⟨L[(c % k).toNat],h _ (List.getElem_mem hi),fun {σ}=>dL (by rw [hk]; exact Nat.le_trans hl (by decide)) n0 (List.getElem?_eq_getElem hi)⟩
theorem abn:∀ (q:List ah),(∀ s ∈ q,s.needs.length <= 4)->(q.flatMap (·.needs)).length <= 4 * q.length:=by
  intro q
  induction q with
  | nil=>intro _; exact Nat.le_refl _
  | cons s q ih =>
    intro h
    have h1:=h s List.mem_cons_self
    have h2:=ih fun t ht=>h t (List.mem_cons_of_mem _ ht)
    rw [List.flatMap_cons,List.length_append,List.length_cons]; omega
noncomputable abbrev RD (p:List ah) (n:Nat) (c:Int) (L:List PV) (a b e:Option PV):aw:=[some (ak p),some (.int n),some (.int c),some (.fl L),a,b,e,none,none,none,none,none]
theorem l5 {p:List ah} (h:bD p):(ch p).length <= 80/\(bg p).length <= 60/\(aq p).length <= 140/\0 < (aq p).length:=by
  have hm:=h.most
  have h1:=lq (G:=p.flatMap (·.gives)) (p.flatMap (·.needs)) []
  have h2:=abn p fun s hs=>(h.steps s hs).needs4
  have h3:=su (p.filter fun s=>eT s.rule) fun s hs=>(h.steps s (List.mem_filter.mp hs).1).gives3
  have h4:=List.length_filter_le (fun s=>eT s.rule) p
  have h5:=lq (G:=[]) (p.flatMap fun s=>s.needs++s.gives) []
  have h6:(p.flatMap fun s=>s.needs++s.gives).length <= 7 * p.length:=by
    have:∀ q:List ah,(∀ s ∈ q,iH s)->(q.flatMap fun s=>s.needs++s.gives).length <= 7 * q.length:=by
      intro q
      induction q with
      | nil=>intro _; exact Nat.le_refl _
      | cons s q ih =>
        intro hq
        have a1:=(hq s List.mem_cons_self).needs4
        have a2:=(hq s List.mem_cons_self).gives3
        have a3:=ih fun t ht=>hq t (List.mem_cons_of_mem _ ht)
        rw [List.flatMap_cons,List.length_append,List.length_append,List.length_cons]; omega
    exact this p h.steps
  refine ⟨?_,?_,?_,?_⟩
  · have:(ch p).length <= ([]:List Str).length + (p.flatMap (·.needs)).length:=h1
    rw [List.length_nil] at this; omega
  · have:(bg p).length <= 3 * (p.filter fun s=>eT s.rule).length:=h3
    omega
  · have:(aq p).length <= ([]:List Str).length + (p.flatMap fun s=>s.needs++s.gives).length:=h5
    rw [List.length_nil] at this; omega
  · cases hp:p with
    | nil=>have:=h.pos; rw [hp] at this; contradiction
    | cons s q =>
      have hs:s ∈ p:=by rw [hp]; exact List.mem_cons_self
      have g1:=(h.steps s hs).gives1
      cases hg:s.gives with
      | nil=>rw [hg] at g1; contradiction
      | cons x r =>
        have:x ∈ aq p:=kR.mpr (.inr (List.mem_flatMap.mpr ⟨s,hs,by rw [hg]; exact List.mem_cons_self⟩))
        rw [<- hp]
        exact List.length_pos_of_mem this
theorem aeN {p:List ah} (h:bD p):∀ x ∈ ch p++bg p++aq p,x.length <= 8:=by
  have hn:∀ x,x ∈ p.flatMap (·.needs)\/x ∈ p.flatMap (·.gives)->x.length <= 8:=fun x hx=>by
    rcases hx with hx | hx
    · obtain ⟨s,hs,hx⟩:=List.mem_flatMap.mp hx; exact ((h.steps s hs).needs x hx).len
    · obtain ⟨s,hs,hx⟩:=List.mem_flatMap.mp hx; exact ((h.steps s hs).gives x hx).len
  intro x hx
  rcases List.mem_append.mp hx with hx | hx
  · rcases List.mem_append.mp hx with hx | hx
    · exact hn x (.inl (pR.mp hx).1)
    · obtain ⟨s,hs,hx⟩:=List.mem_flatMap.mp hx
      exact hn x (.inr (List.mem_flatMap.mpr ⟨s,(List.mem_filter.mp hs).1,hx⟩))
  · exact hn x (kR.mp hx)
theorem acB {p:List ah} {n:Nat} {c:Int} (h:bD p) (hn:1 <= n) (hn2:n <= 200) :
    ∃ pv tv vv τ,bP pv/\bJ tv/\bJ vv/\aU PP topN (d + 2) je [ak p,.int n,.int c] σ=.ok (.tup [pv,tv,vv]) (σ++τ):=by
  rw [bz (fn:=mz) rfl rfl]
  obtain ⟨l1,l2,l3,l4⟩:=l5 h
  have n8:=aeN h
  have s0:∃ τ,ex (CC (d + 1)) topN mY [some (ak p),some (.int n),some (.int c),none,none,none,none,none,none,none,none,none] σ=.next (RD p n c ((ch p++bg p++aq p).map .str) none none none) (σ++τ):=by
    have c1:ev (CC (d + 1)) (.call dh (.cons (.v 0) .nil)) [some (ak p),some (.int n),some (.int c),none,none,none,none,none,none,none,none,none] σ=.ok (.ref (σ.length + 1)) (σ++[.lst ((p.flatMap (·.gives)).map .str),.lst ((ch p).map .str)]):=aT (x:=ak p) (σ₁:=σ) rfl (pA (d:=d) h)
    have a1:(σ++[MO.lst ((p.flatMap (·.gives)).map .str),.lst ((ch p).map .str)])[σ.length + 1]?=some (.lst ((ch p).map .str)):=abM
    generalize agh:σ++[MO.lst ((p.flatMap (·.gives)).map .str),.lst ((ch p).map .str)]=aW at c1 a1
    have c2:ev (CC (d + 1)) (.call ek (.cons (.v 0) .nil)) [some (ak p),some (.int n),some (.int c),none,none,none,none,none,none,none,none,none] aW=.ok (.ref aW.length) (aW++[.lst ((bg p).map .str)]):=aT (x:=ak p) (σ₁:=aW) rfl (tG (d:=d) h)
    have k:∀ {σ:ac} {τ:ac} {r:Nat} {m:MO},σ[r]?=some m->(σ++τ)[r]?=some m:=fun {σ τ r m} e=>by rw [List.getElem?_append_left (List.getElem?_eq_some_iff.mp e).1]; exact e
    have as:∀ {σ:ac} {r:Nat} {xs:List PV},σ[r]?=some (.lst xs)->aY σ (.ref r)=some xs:=fun {σ r xs} e=>by unfold aY; dsimp only; rw [e]
    have c3:=aC c1 c2 (tY (as (k a1)) (as (cw (υ:=[]))) (fun _ z=>by contradiction) (fun _ z=>by contradiction) (fun _ z=>by contradiction) (by rw [List.length_map,List.length_map,be]; omega))
    have c4:ev (CC (d + 1)) (.call bM (.cons (.v 0) .nil)) [some (ak p),some (.int n),some (.int c),none,none,none,none,none,none,none,none,none] (aW++[MO.lst ((bg p).map .str)])=.ok (.ref (aW++[MO.lst ((bg p).map .str)]).length) (aW++[.lst ((bg p).map .str)]++[.lst ((aq p).map .str)]):=aT (x:=ak p) (σ₁:=aW++[MO.lst ((bg p).map .str)]) rfl (gx (d:=d) h)
    have c5:=aC c3 c4 (tY (a:=.fl ((ch p).map .str++(bg p).map .str)) rfl (as (cw (υ:=[]))) (fun _ z=>by contradiction) (fun _ z=>by contradiction) (fun _ z=>by contradiction) (by rw [List.length_append,List.length_map,List.length_map,List.length_map,be]; omega))
    rw [<- List.map_append,<- List.map_append] at c5
    subst agh
    refine ⟨[.lst ((p.flatMap (·.gives)).map .str),.lst ((ch p).map .str)]++[.lst ((bg p).map .str)]++[.lst ((aq p).map .str)],?_⟩
    rw [<- List.append_assoc,<- List.append_assoc]
    exact a7 c5
  obtain ⟨τ,s0⟩:=s0
  generalize agi:σ++τ=σ' at s0
  generalize hL:ch p++bg p++aq p=L at s0 n8
  have hl0:0 < L.length:=by rw [<- hL]; simp only [List.length_append]; omega
  have hl1:L.length <= 300:=by rw [<- hL]; simp only [List.length_append]; omega
  have hlim:(L.map PV.str).length <= am:=by rw [List.length_map,be]; omega
  have s1:∃ x,ex (CC (d + 1)) topN mX (RD p n c (L.map .str) none none none) σ'=.next (RD p n c (L.map .str) (some (.str x)) none none) σ':=by
    have n0:=Int.emod_nonneg c (show ((L.length:Nat):Int) ≠ 0 by omega)
    have n1:=Int.emod_lt_of_pos c (show (0:Int) < ((L.length:Nat):Int) by omega)
    have hi:=eK n0 n1
    refine ⟨L[(c % (L.length:Int)).toNat],a7 (bH (x:=.fl (L.map .str)) (σ₁:=σ') rfl (aC (x:=.int c) (σ₁:=σ') rfl (cQ (x:=.fl (L.map .str)) (σ₁:=σ') rfl ((vY hlim).trans (by rw [List.length_map]))) (bA (by omega))) (dL hlim n0 ?_))⟩
    rw [List.getElem?_map,List.getElem?_eq_getElem hi]; rfl
  obtain ⟨x,s1⟩:=s1
  have s2:∃ pv,bP pv/\ex (CC (d + 1)) topN mW (RD p n c (L.map .str) (some (.str x)) none none) σ'=.next (RD p n c (L.map .str) (some pv) none none) σ':=by
    have t:=aN (ly (a:=50) (b:=9) (C:=CC (d + 1)) (ρ:=RD p n c (L.map .str) (some (.str x)) none none) (σ:=σ') (x:=.v 2) (p:=c) (by decide) (by decide) (by decide) rfl) (b:=.k (.int 1)) (y:=.int 1) (σ₂:=σ') rfl dv
    cases hq:(c / 50 % 9 == 1) with
    | false=>rw [hq] at t; exact ⟨_,.str x,(aH t).trans aj⟩
    | true =>
      rw [hq] at t
      have h0:L[0]?=some L[0]:=List.getElem?_eq_getElem hl0
      have x8:=n8 L[0] (List.getElem_mem hl0)
      have e0:ev (CC (d + 1)) (.sub (.v 3) (.k (.int 0))) (RD p n c (L.map .str) (some (.str x)) none none) σ'=.ok (.str L[0]) σ':=bH (x:=.fl (L.map .str)) (y:=.int 0) (σ₁:=σ') (σ₂:=σ') rfl rfl (dL hlim (by decide) (by rw [List.getElem?_map]; show (L[0]?).map _=_; rw [h0]; rfl))
      have e1:ev (CC (d + 1)) (.bin .add (.sub (.v 3) (.k (.int 0))) (.k (.str "q"))) (RD p n c (L.map .str) (some (.str x)) none none) σ'=.ok (.str (L[0] ++ "q")) σ':=aC e0 (y:=.str "q") (σ₂:=σ') rfl (add_str (by rw [show ("q" : Str).length=1 by decide +kernel,be]; omega))
      have e2:ev (CC (d + 1)) (.slice (.sub (.v 3) (.k (.int 0))) (.k .none) (.neg (.k (.int 1)))) (RD p n c (L.map .str) (some (.str x)) none none) σ'=.ok (.str (eN L[0] none (some (-1)))) σ':=yC e0 (y:=.none) (z:=.int (-1)) (σ₂:=σ') (σ₃:=σ') rfl rfl (vC rfl rfl (if_pos (by rw [be]; omega)))
      obtain ⟨pv,hp,hs⟩:=oX (P:=bP) (c:=c / 450) (k:=6) (L:=[.str "",.str "zz99zz9",.none,.int 7,.str (L[0] ++ "q"),.str (eN L[0] none (some (-1)))]) rfl (by decide) (by decide) (by
        intro v hv
        simp only [List.mem_cons,List.not_mem_nil,or_false] at hv
        rcases hv with rfl | rfl | rfl | rfl | rfl | rfl
        · exact .str _
        · exact .str _
        · exact .none
        · exact .int _
        · exact .str _
        · exact .str _)
      exact ⟨pv,hp,(aV t).trans ((aa (a:=kE) (a7 (bH (acS (vs:=[.str "",.str "zz99zz9",.none,.int 7,.str (L[0] ++ "q"),.str (eN L[0] none (some (-1)))]) (aF (x:=.str "") (σ₁:=σ') rfl (aF (x:=.str "zz99zz9") (σ₁:=σ') rfl (aF (x:=.none) (σ₁:=σ') rfl (aF (x:=.int 7) (σ₁:=σ') rfl (aF e1 (aF e2 rfl)))))) (show (6:Nat) <= am by decide)) (ly (a:=450) (b:=6) (x:=.v 2) (p:=c) (by decide) (by decide) (by decide) rfl) hs))).trans aj)⟩
  obtain ⟨pv,hpv,s2⟩:=s2
  have s3:ex (CC (d + 1)) topN mV (RD p n c (L.map .str) (some pv) none none) σ'=.next (RD p n c (L.map .str) (some pv) (some (.int (c / 7 % n))) none) σ':=
    a7 (aC (aC (x:=.int c) (y:=.int 7) (σ₁:=σ') (σ₂:=σ') rfl rfl (dz (by decide) (by decide))) (y:=.int n) (σ₂:=σ') rfl (bA (by omega)))
  have s4:∃ tv,bJ tv/\ex (CC (d + 1)) topN mU (RD p n c (L.map .str) (some pv) (some (.int (c / 7 % n))) none) σ'=.next (RD p n c (L.map .str) (some pv) (some tv) none) σ':=by
    have t:=aN (ly (a:=60) (b:=9) (C:=CC (d + 1)) (ρ:=RD p n c (L.map .str) (some pv) (some (.int (c / 7 % n))) none) (σ:=σ') (x:=.v 2) (p:=c) (by decide) (by decide) (by decide) rfl) (b:=.k (.int 1)) (y:=.int 1) (σ₂:=σ') rfl dv
    cases hq:(c / 60 % 9 == 1) with
    | false=>rw [hq] at t; exact ⟨_,.int _,(aH t).trans aj⟩
    | true =>
      rw [hq] at t
      obtain ⟨tv,hp,hs⟩:=oX (P:=bJ) (c:=c / 540) (k:=8) (L:=[.int (-1),.int n,.bool true,.none,.str "0",.int (10 ^ 20),.int ((n:Int) - 1),.int 0]) rfl (by decide) (by decide) (by
        intro v hv
        simp only [List.mem_cons,List.not_mem_nil,or_false] at hv
        rcases hv with rfl | rfl | rfl | rfl | rfl | rfl | rfl | rfl
        · exact .int _
        · exact .int _
        · exact .bool _
        · exact .none
        · exact .str _
        · exact .int _
        · exact .int _
        · exact .int _)
      exact ⟨tv,hp,(aV t).trans ((aa (a:=kC) (a7 (bH (x:=.fl [.int (-1),.int n,.bool true,.none,.str "0",.int (10 ^ 20),.int ((n:Int) - 1),.int 0]) (σ₁:=σ') rfl (ly (a:=540) (b:=8) (x:=.v 2) (p:=c) (by decide) (by decide) (by decide) rfl) hs))).trans aj)⟩
  obtain ⟨tv,htv,s4⟩:=s4
  have s5:∃ tv',bJ tv'/\ex (CC (d + 1)) topN mT (RD p n c (L.map .str) (some pv) (some tv) none) σ'=.next (RD p n c (L.map .str) (some pv) (some tv') none) σ':=by
    have t:=aN (ly (a:=11) (b:=4) (C:=CC (d + 1)) (ρ:=RD p n c (L.map .str) (some pv) (some tv) none) (σ:=σ') (x:=.v 2) (p:=c) (by decide) (by decide) (by decide) rfl) (b:=.k (.int 0)) (y:=.int 0) (σ₂:=σ') rfl dv
    cases hq:(c / 11 % 4 == 0) with
    | false=>rw [hq] at t; exact ⟨_,htv,(aH t).trans aj⟩
    | true=>rw [hq] at t; exact ⟨.int 0,.int _,(aV t).trans rfl⟩
  obtain ⟨tv',htv',s5⟩:=s5
  obtain ⟨v,v0,v1,hval⟩:=h15 (p:=c / 13)
  have s6:ex (CC (d + 1)) topN mS (RD p n c (L.map .str) (some pv) (some tv') none) σ'=.next (RD p n c (L.map .str) (some pv) (some tv') (some (.int v))) σ':=
    a7 (aT (aC (x:=.int c) (y:=.int 13) (σ₁:=σ') (σ₂:=σ') rfl rfl (dz (by decide) (by decide))) hval)
  have s7:∃ vv,bJ vv/\ex (CC (d + 1)) topN mR (RD p n c (L.map .str) (some pv) (some tv') (some (.int v))) σ'=.next (RD p n c (L.map .str) (some pv) (some tv') (some vv)) σ':=by
    have t:=aN (ly (a:=70) (b:=9) (C:=CC (d + 1)) (ρ:=RD p n c (L.map .str) (some pv) (some tv') (some (.int v))) (σ:=σ') (x:=.v 2) (p:=c) (by decide) (by decide) (by decide) rfl) (b:=.k (.int 1)) (y:=.int 1) (σ₂:=σ') rfl dv
    cases hq:(c / 70 % 9 == 1) with
    | false=>rw [hq] at t; exact ⟨_,.int _,(aH t).trans aj⟩
    | true =>
      rw [hq] at t
      obtain ⟨vv,hp,hs⟩:=oX (P:=bJ) (c:=c / 630) (k:=8) (L:=[.int (-1),.int (10 ^ 6),.bool false,.none,.str "5",.int (10 ^ 20),.int 0,.int 999999]) rfl (by decide) (by decide) (by
        intro v hv
        simp only [List.mem_cons,List.not_mem_nil,or_false] at hv
        rcases hv with rfl | rfl | rfl | rfl | rfl | rfl | rfl | rfl
        · exact .int _
        · exact .int _
        · exact .bool _
        · exact .none
        · exact .str _
        · exact .int _
        · exact .int _
        · exact .int _)
      exact ⟨vv,hp,(aV t).trans ((aa (a:=kB) (a7 (bH (x:=.fl [.int (-1),.int (10 ^ 6),.bool false,.none,.str "5",.int (10 ^ 20),.int 0,.int 999999]) (σ₁:=σ') rfl (ly (a:=630) (b:=8) (x:=.v 2) (p:=c) (by decide) (by decide) (by decide) rfl) hs))).trans aj)⟩
  obtain ⟨vv,hvv,s7⟩:=s7
  refine ⟨pv,tv',vv,τ,hpv,htv',hvv,?_⟩
  rw [agi]
  have s8:ex (CC (d + 1)) topN mQ (RD p n c (L.map .str) (some pv) (some tv') (some vv)) σ'=.ret (.tup [pv,tv',vv]) (RD p n c (L.map .str) (some pv) (some tv') (some vv)) σ':=
    aB (eF (vs:=[pv,tv',vv]) (aF (x:=pv) (σ₁:=σ') rfl (aF (x:=tv') (σ₁:=σ') rfl (aF (x:=vv) (σ₁:=σ') rfl rfl))) (show (3:Nat) <= am by decide))
  have body:ex (CC (d + 1)) topN mz.body [some (ak p),some (.int n),some (.int c),none,none,none,none,none,none,none,none,none] σ=.ret (.tup [pv,tv',vv]) (RD p n c (L.map .str) (some pv) (some tv') (some vv)) σ':=
    (aa s0).trans ((aa s1).trans ((aa s2).trans ((aa s3).trans ((aa s4).trans ((aa s5).trans ((aa s6).trans ((aa s7).trans (ao s8))))))))
  exact (congrArg aX body).trans rfl
end
end Mine
namespace Mine
open PySem
noncomputable def bc (q:Int × Int):PV:=.tup [.int q.1,.int q.2]
section
variable {d:Nat} {σ:ac}
theorem yf {n:Nat}:∀ (l:List (Int × Int)),(l.map bc).mapM (bT (n + 2) σ)=some (l.map fun q=>PyData.tuple [.int q.1,.int q.2]):=by
  intro l
  induction l with
  | nil=>rfl
  | cons q l ih=>rw [List.map_cons,List.mapM_cons,ih]; rfl
theorem afb:∀ (l:List (Int × Int)),PyData.eqv (.list (l.map fun q=>PyData.tuple [.int q.1,.int q.2])) (.list (l.map fun q=>PyData.tuple [.int q.1,.int q.2]))=true:=by
  intro l
  show PyData.eqvAll _ _=true
  induction l with
  | nil=>rfl
  | cons q l ih =>
    rw [List.map_cons]
    show ((q.1 == q.1 && (q.2 == q.2 && true)) && PyData.eqvAll _ _)=true
    rw [ih,beq_self_eq_true,beq_self_eq_true]; rfl
theorem aeB {r:Nat} {l:List (Int × Int)} (h:σ[r]?=some (.lst (l.map bc))):bT 16 σ (.ref r)=some (.list (l.map fun q=>PyData.tuple [.int q.1,.int q.2])):=by
  show (match σ[r]? with | some (.lst xs)=>(xs.mapM (bT 15 σ)).map PyData.list | _=>none)=_
  rw [h]
  show ((l.map bc).mapM (bT 15 σ)).map PyData.list=_
  rw [yf (n:=13) l]; rfl
theorem aeA {l:List (Int × Int)}:bT 16 σ (.fl (l.map bc))=some (.list (l.map fun q=>PyData.tuple [.int q.1,.int q.2])):=by
  show ((l.map bc).mapM (bT 15 σ)).map PyData.list=_
  rw [yf (n:=13) l]; rfl
theorem aaL {r:Nat} {l:List (Int × Int)} (h:σ[r]?=some (.lst (l.map bc))):bn .ne (.ref r) (.fl (l.map bc)) σ=.ok false σ:=by
  show af.ofOpt ((eqv σ (.ref r) (.fl (l.map bc))).map (!·)) σ=_
  unfold eqv
  rw [aeB h,aeA]
  show af.ofOpt (some (!PyData.eqv _ _)) σ=_
  rw [afb]; rfl
theorem adY {r:Nat} {xs:List PV} (h:σ[r]?=some (.lst xs)):fk (.ref r) .list σ=.ok true σ:=by
  have e:aY σ (.ref r)=some xs:=by unfold aY; dsimp only; rw [h]
  show (match aY σ (.ref r) with | some _=>af.ok true σ | none=>.stuck)=_
  rw [e]
theorem adX {a b:Option PV} {q:Int × Int}:ex (CC d) topN eE [a,b,some (bc q),none,none,none] σ=.next [a,b,some (bc q),none,none,none] σ:=by
  have c0:ev (CC d) lD [a,b,some (bc q),none,none,none] σ=.ok (.fl []) σ:=by
    refine (wO (fun _=>none) (xs:=[.int q.1,.int q.2]) rfl (show (2:Nat) <= am by decide) (fun x hx=>?_) (fun x hx v hv=>by contradiction)).trans rfl
    rcases List.mem_cons.mp hx with rfl | hx
    · rfl
    · rw [List.mem_singleton.mp hx]; rfl
  exact (aa ((aH (σ':=σ) (ey (dm (σ₁:=σ) rfl (fI (aN c0 (y:=.fl []) (σ₂:=σ) rfl rfl))))).trans aj)).trans aj
theorem adW {r:Nat} {vs:List PV} {a b:Option PV} (hr:σ[r]?=some (.lst vs)):∀ (l:List (Int × Int)) (y:Option PV),∃ y',bB (some (r,vs)) (cI 2) (fun ρ σ=>ex (CC d) topN eE ρ σ) (l.map bc) [a,b,y,none,none,none] σ=.next [a,b,y',none,none,none] σ:=by
  intro l
  induction l with
  | nil=>intro y; exact ⟨y,if_pos hr⟩
  | cons q l ih =>
    intro y
    obtain ⟨y',e⟩:=ih (some (bc q))
    refine ⟨y',(if_pos hr).trans ?_⟩
    show jF _ (ex (CC d) topN eE [a,b,some (bc q),none,none,none] σ)=_
    rw [adX]; exact e
theorem aa6 {r:Nat} {l:List (Int × Int)} (hr:σ[r]?=some (.lst (l.map bc))):aU PP topN (d + 1) kW [.ref r,.fl (l.map bc)] σ=.ok (.bool true) σ:=by
  rw [bz (fn:=pC) rfl rfl]
  obtain ⟨y',e⟩:=adW (d:=d) (a:=some (.ref r)) (b:=some (.fl (l.map bc))) hr l none
  have s0:ex (CC d) topN lC [some (.ref r),some (.fl (l.map bc)),none,none,none,none] σ=.next [some (.ref r),some (.fl (l.map bc)),none,none,none,none] σ:=
    (aH (σ':=σ) (ey (dm (σ₁:=σ) (ce (q:=true) (cZ (cK (x:=.ref r) (σ₁:=σ) rfl (adY hr)))) (fI (aN (x:=.ref r) (y:=.fl (l.map bc)) (σ₁:=σ) (σ₂:=σ) rfl rfl (aaL hr)))))).trans aj
  have s1:ex (CC d) topN lB [some (.ref r),some (.fl (l.map bc)),none,none,none,none] σ=.next [some (.ref r),some (.fl (l.map bc)),y',none,none,none] σ:=by
    show (evIt (CC d) (.v 0) [some (.ref r),some (.fl (l.map bc)),none,none,none,none] σ).toS _ _=_
    have it:evIt (CC d) (.v 0) [some (.ref r),some (.fl (l.map bc)),none,none,none,none] σ=.ok (l.map bc,some (r,l.map bc)) σ:=by
      show g4 (.ref r) σ=_
      unfold g4 ai fh
      dsimp only
      rw [hr]
    rw [it]; exact e
  exact (congrArg aX ((aa s0).trans ((aa s1).trans (ao (a:=lA) (aB rfl))))).trans rfl
end
end Mine
namespace Mine
open PySem
noncomputable def iX (es:List ((Str × Int) × PV)):Prop:=∀ e ∈ es,∃ v,e.2=.int v
theorem iX.get {es:List ((Str × Int) × PV)} {k:Str × Int} {v:PV} (h:iX es) (hv:az k es=some v):∃ i,v=.int i:=by
  obtain ⟨e,he,rfl⟩:=Option.map_eq_some_iff.mp hv
  exact h e (List.mem_of_find?_eq_some he)
theorem vn {x:Str} {n:Nat} {es:List ((Str × Int) × PV)} (h:iX es):∃ l:List (Int × Int),ja x n es=l.map bc:=by
  unfold ja
  generalize List.range n=ts
  induction ts with
  | nil=>exact ⟨[],rfl⟩
  | cons t ts ih =>
    obtain ⟨l,hl⟩:=ih
    rw [List.filterMap_cons]
    cases hv:az (x,(t:Int)) es with
    | none=>exact ⟨l,hl⟩
    | some v =>
      obtain ⟨i,rfl⟩:=h.get hv
      exact ⟨((t:Int),i)::l,by show _::_=bc _::_; rw [hl]; rfl⟩
section
variable {d:Nat} {σ:ac} {p:List ah} {n:Nat} {es:List ((Str × Int) × PV)} {i g o hr gn od tk:Nat}
noncomputable abbrev ej (p:List ah) (n i tk:Nat) (b:Int) (pl x y:Option PV):aw:=[some (.inst ae i),some (ak p),some (.ref tk),some (.int n),some (.int b),pl,x,y,none,none,none]
theorem aaY {x:Str} {b:Int} {pl y:Option PV} (hn:n <= 200) (hi:iX es) (B:dw p n es i g o hr gn od σ) (ht:σ[tk]?=some (.dp es)) (hx:a9 p (.str x)=true) :
    ∃ τ y',ex (CC (d + 2)) topN d4 (ej p n i tk b pl (some (.str x)) y) σ=.next (ej p n i tk b pl (some (.str x)) y') (σ++τ):=by
  obtain ⟨l,hl⟩:=vn (x:=x) (n:=n) hi
  have c0:ev (CC (d + 2)) kz (ej p n i tk b pl (some (.str x)) y) σ=.ok (.fl (ja x n es)) σ:=by
    have lm:(aP 0 1 n).length <= am:=by rw [be]; simp [aP]; omega
    have rng:evIt (CC (d + 2)) (.range1 (.v 3)) (ej p n i tk b pl (some (.str x)) y) σ=.ok (aP 0 1 n,none) σ:=by
      rw [k8]
      show (if 0 <= (n:Int)/\(n:Int) <= am then af.ok (aP 0 1 (n:Int).toNat,none) σ else .stuck)=_
      rw [if_pos ⟨by omega,by rw [be]; omega⟩]; rfl
    refine (wO (fun y=>match y with | .int t=>(az (x,t) es).map fun v=>.tup [.int t,v] | _=>none) rng lm (fun y hy=>?_) (fun y hy v hv=>?_)).trans ?_
    · obtain ⟨t,_,rfl⟩:=eO hy
      refine (aN (x:=.tup [.str x,.int t]) (y:=.ref tk) (σ₁:=σ) (σ₂:=σ) rfl rfl (o6 ht)).trans ?_
      show af.ok (az (x,(t:Int)) es).isSome σ=af.ok ((az (x,(t:Int)) es).map fun v=>PV.tup [.int t,v]).isSome σ
      rw [Option.isSome_map]
    · obtain ⟨t,_,rfl⟩:=eO hy
      obtain ⟨w,hw,rfl⟩:=Option.map_eq_some_iff.mp hv
      exact eF (vs:=[.int t,w]) (aF (x:=.int t) (σ₁:=σ) rfl (aF (bH (x:=.ref tk) (y:=.tup [.str x,.int t]) (σ₁:=σ) (σ₂:=σ) rfl rfl (aaq ht hw)) rfl)) (show (2:Nat) <= am by decide)
    · refine congrArg (fun l=>af.ok (PV.fl l) σ) ?_
      unfold ja aP
      rw [List.filterMap_map]
      refine congrArg (fun f=>(List.range n).filterMap f) (funext fun (t:Nat)=>?_)
      show Option.map (fun v=>PV.tup [.int (0 + (t:Int) * 1),v]) (az (x,0 + (t:Int) * 1) es)=_
      rw [show (0:Int) + (t:Int) * 1=t by omega]
  have b0:ex (CC (d + 2)) topN i5 (ej p n i tk b pl (some (.str x)) y) σ=.next (ej p n i tk b pl (some (.str x)) (some (.fl (ja x n es)))) σ:=a7 c0
  have td:=ye (d:=d) hn B hx
  rw [hl] at td b0
  have e1:ev (CC (d + 2)) (.meth ae cD "told" (.v 0) (.cons (.v 6) .nil)) (ej p n i tk b pl (some (.str x)) (some (.fl (l.map bc)))) σ=.ok (.ref σ.length) (σ++[.lst (l.map bc)]):=cL (σ₁:=σ) (σ₂:=σ) (vs:=[.str x]) rfl B.ns (br _ (by simp)) rfl td
  have b1:ex (CC (d + 2)) topN i4 (ej p n i tk b pl (some (.str x)) (some (.fl (l.map bc)))) σ=.next (ej p n i tk b pl (some (.str x)) (some (.fl (l.map bc)))) (σ++[.lst (l.map bc)]):=
    (aH (ce (q:=true) (ec (di (f:=kW) e1 (y:=.fl (l.map bc)) (σ₂:=σ++[MO.lst (l.map bc)]) rfl (aa6 (d:=d + 1) (σ:=σ++[MO.lst (l.map bc)]) (r:=σ.length) cw))))).trans aj
  exact ⟨_,_,(aa b0).trans ((aa b1).trans aj)⟩
theorem aaX {b:Int} {pl:Option PV} {w:Option (Nat × List PV)} (hn:n <= 200) (hi:iX es):∀ (xs:List Str) (x y:Option PV) (σ:ac),(∀ x ∈ xs,a9 p (.str x)=true)->dw p n es i g o hr gn od σ->σ[tk]?=some (.dp es)->cn w σ ->
    ∃ x' y' σ',bB w (cI 6) (fun ρ σ=>ex (CC (d + 2)) topN d4 ρ σ) (xs.map .str) (ej p n i tk b pl x y) σ=.next (ej p n i tk b pl x' y') σ':=by
  intro xs
  induction xs with
  | nil=>intro x y σ _ _ _ hw; exact ⟨x,y,σ,if_pos hw⟩
  | cons a xs ih =>
    intro x y σ hx B ht hw
    obtain ⟨τ,y1,e⟩:=aaY (d:=d) (b:=b) (pl:=pl) (y:=y) hn hi B ht (hx a List.mem_cons_self)
    have k:∀ {r:Nat} {m:MO},σ[r]?=some m->(σ++τ)[r]?=some m:=fun {r m} e=>by rw [List.getElem?_append_left (List.getElem?_eq_some_iff.mp e).1]; exact e
    have hw':cn w (σ++τ):=by
      cases w with
      | none=>trivial
      | some q=>exact k hw
    obtain ⟨x',y',σ',e2⟩:=ih (some (.str a)) y1 (σ++τ) (fun z hz=>hx z (List.mem_cons_of_mem _ hz)) B.more (k ht) hw'
    refine ⟨x',y',σ',(if_pos hw).trans ?_⟩
    show jF _ (ex (CC (d + 2)) topN d4 (ej p n i tk b pl (some (.str a)) y) σ)=_
    rw [e]; exact e2
theorem zL {b:Int} (h:bD p) (hn:n <= 200) (hi:iX es) (B:dw p n es i g o hr gn od σ) (ht:σ[tk]?=some (.dp es)) :
    ∃ σ',aU PP topN (d + 3) nR [.inst ae i,ak p,.ref tk,.int n,.int b] σ=.ok (.bool true) σ':=by
  rw [bz (fn:=og) rfl rfl]
  have k:∀ {τ:ac} {r:Nat} {m:MO},σ[r]?=some m->(σ++τ)[r]?=some m:=fun {τ r m} e=>by rw [List.getElem?_append_left (List.getElem?_eq_some_iff.mp e).1]; exact e
  have s0:ex (CC (d + 2)) topN ky (ej p n i tk b none none none) σ=.next (ej p n i tk b (some (.ref σ.length)) none none) (σ++[.lst ((aq p).map .str)]):=a7 (aT (x:=ak p) (σ₁:=σ) rfl (gx (d:=d + 1) h))
  have hpl:∀ x ∈ aq p,a9 p (.str x)=true:=fun x hx=>by rw [nH]; exact decide_eq_true hx
  have hlen:=(l5 h).2.2.1
  have B1:dw p n es i g o hr gn od (σ++[.lst ((aq p).map .str)]):=B.more
  have ht1:(σ++[MO.lst ((aq p).map .str)])[tk]?=some (.dp es):=k ht
  have hw1:(σ++[MO.lst ((aq p).map .str)])[σ.length]?=some (.lst ((aq p).map .str)):=cw
  generalize σ++[MO.lst ((aq p).map .str)]=aW at s0 B1 ht1 hw1
  have t1:tst (CC (d + 2)) (.cmp (.bin .mod (.v 4) (.k (.int 2))) .eq (.k (.int 1))) (ej p n i tk b (some (.ref σ.length)) none none) aW=.ok (b % 2 == 1) aW:=aN (aC (x:=.int b) (y:=.int 2) (σ₁:=aW) (σ₂:=aW) rfl rfl (bA (by decide))) (y:=.int 1) (σ₂:=aW) rfl dv
  have fin:∀ {pl:PV} {xs:List Str} {w:Option (Nat × List PV)},g4 pl aW=.ok (xs.map .str,w) aW->(∀ x ∈ xs,a9 p (.str x)=true)->cn w aW->∃ ρ' σ',ex (CC (d + 2)) topN (.cons gK (.cons kv .nil)) (ej p n i tk b (some pl) none none) aW=.ret (.bool true) ρ' σ':=fun {pl xs w} hit hx hw=>by
    obtain ⟨x',y',σ',e⟩:=aaX (d:=d) (b:=b) (pl:=some pl) hn hi xs none none aW hx B1 ht1 hw
    have s2:ex (CC (d + 2)) topN gK (ej p n i tk b (some pl) none none) aW=.next (ej p n i tk b (some pl) x' y') σ':=by
      show (evIt (CC (d + 2)) (.v 5) (ej p n i tk b (some pl) none none) aW).toS _ _=_
      rw [show evIt (CC (d + 2)) (.v 5) (ej p n i tk b (some pl) none none) aW=.ok (xs.map .str,w) aW from hit]; exact e
    exact ⟨_,_,(aa s2).trans (ao (aB rfl))⟩
  cases hq:(b % 2 == 1) with
  | false =>
    rw [hq] at t1
    have s1:ex (CC (d + 2)) topN gL (ej p n i tk b (some (.ref σ.length)) none none) aW=.next (ej p n i tk b (some (.ref σ.length)) none none) aW:=(aH t1).trans aj
    obtain ⟨ρ',σ',e⟩:=fin (pl:=.ref σ.length) (xs:=aq p) (w:=some (σ.length,(aq p).map .str)) (by unfold g4 ai fh; dsimp only; rw [hw1]) hpl hw1
    exact ⟨σ',(congrArg aX ((aa s0).trans ((aa s1).trans e))).trans rfl⟩
  | true =>
    rw [hq] at t1
    have rv:ev (CC (d + 2)) (.rev (.v 5)) (ej p n i tk b (some (.ref σ.length)) none none) aW=.ok (.fl ((aq p).reverse.map .str)) aW:=by
      rw [abq]
      show vH (.ref σ.length) aW=_
      unfold vH aY
      dsimp only
      rw [hw1]
      dsimp only
      rw [if_pos (by rw [List.length_map,be]; omega),List.map_reverse]
    have s1:ex (CC (d + 2)) topN gL (ej p n i tk b (some (.ref σ.length)) none none) aW=.next (ej p n i tk b (some (.fl ((aq p).reverse.map .str))) none none) aW:=(aV t1).trans ((aa (a:=i6) (a7 rv)).trans aj)
    obtain ⟨ρ',σ',e⟩:=fin (pl:=.fl ((aq p).reverse.map .str)) (xs:=(aq p).reverse) (w:=none) rfl (fun x hx=>hpl x (List.mem_reverse.mp hx)) trivial
    exact ⟨σ',(congrArg aX ((aa s0).trans ((aa s1).trans e))).trans rfl⟩
end
end Mine
namespace Mine
open PySem
theorem yF {es:List ((Str × Int) × PV)} {k:Str × Int} {v:PV} (h:az k es=none):bW k v es=es++[(k,v)]:=by
  unfold bW
  rw [if_neg]
  intro z
  obtain ⟨e,he,hk⟩:=List.any_eq_true.mp z
  unfold az at h
  rw [Option.map_eq_none_iff,List.find?_eq_none] at h
  exact h e he hk
theorem iX.put {es:List ((Str × Int) × PV)} {k:Str × Int} {i:Int} (h:iX es):iX (es++[(k,.int i)]):=fun e he=>by
  rcases List.mem_append.mp he with q | q
  · exact h e q
  · rw [List.mem_singleton.mp q]; exact ⟨i,rfl⟩
theorem aaF {p:List ah} {n:Nat} {es:List ((Str × Int) × PV)} {pv tv vv:PV} (hp:bP pv) (ht:bJ tv) (h:bF p n es pv tv vv=none) :
    ∃ x j,pv=.str x/\tv=.int j/\a9 p (.str x)=true/\da 0 ((n:Int) - 1) (.int j)=true/\lV vv=true/\az (x,j) es=none:=by
  unfold bF at h
  cases q1:a9 p pv with
  | false=>rw [q1,if_pos rfl] at h; contradiction
  | true =>
  rw [q1,if_neg (by decide)] at h
  cases q2:da 0 ((n:Int) - 1) tv with
  | false=>rw [q2,if_pos rfl] at h; contradiction
  | true =>
  rw [q2,if_neg (by decide)] at h
  cases hp with
  | int _=>contradiction
  | none=>contradiction
  | str x =>
  cases ht with
  | bool _=>contradiction
  | none=>contradiction
  | str _=>contradiction
  | int j =>
  dsimp only at h
  cases q3:gY p x j with
  | true=>rw [q3,if_pos rfl] at h; contradiction
  | false =>
  rw [q3,if_neg (by decide)] at h
  cases q4:lV vv with
  | false=>rw [q4,if_pos rfl] at h; contradiction
  | true =>
  rw [q4,if_neg (by decide)] at h
  cases q5:az (x,j) es with
  | some v=>rw [q5] at h; contradiction
  | none=>exact ⟨x,j,rfl,rfl,q1,q2,rfl,q5⟩
theorem abY {vv:PV} (h:lV vv=true):∃ i,vv=.int i:=by
  cases vv with
  | int i=>exact ⟨i,rfl⟩
  | _=>contradiction
noncomputable def oK (bad:List Nat) (σ:ac) (v:PV):Prop:=∃ (k:Nat) (l:List (Int × Int)),v=.tup [.ref k,.fl (l.map bc)]/\σ[k]?=some (.lst (l.map bc))/\k ∉ bad/\(l.map bc).length <= am
structure eH (p:List ah) (n:Nat) (es:List ((Str × Int) × PV)) (held:List PV) (i g o hr gn od tk hd:Nat) (σ:ac):Prop where
  brd:dw p n es i g o hr gn od σ
  tok:σ[tk]?=some (.dp es)
  hel:σ[hd]?=some (.lst held)
  ne1:tk ≠ i/\tk ≠ g/\tk ≠ o/\tk ≠ hr
  ne2:hd ≠ i/\hd ≠ g/\hd ≠ o/\hd ≠ hr/\hd ≠ tk
  all:∀ v ∈ held,oK [hr,tk,hd,i,g,o] σ v
  int:iX es
section
variable {p:List ah} {n:Nat} {es:List ((Str × Int) × PV)} {held:List PV} {i g o hr gn od tk hd:Nat} {σ τ:ac}
theorem jG {r:Nat} {m:MO} (e:σ[r]?=some m):(σ++τ)[r]?=some m:=by rw [List.getElem?_append_left (List.getElem?_eq_some_iff.mp e).1]; exact e
theorem eH.more (I:eH p n es held i g o hr gn od tk hd σ):eH p n es held i g o hr gn od tk hd (σ++τ):=
  ⟨I.brd.more,jG I.tok,jG I.hel,I.ne1,I.ne2,fun v hv=>let ⟨k,l,h1,h2,h3,h4⟩:=I.all v hv; ⟨k,l,h1,jG h2,h3,h4⟩,I.int⟩
theorem oK.set {bad:List Nat} {v:PV} {r:Nat} {m:MO} (h:oK bad σ v) (hr:r ∈ bad):oK bad (σ.set r m) v:=by
  obtain ⟨k,l,h1,h2,h3,h4⟩:=h
  refine ⟨k,l,h1,?_,h3,h4⟩
  have hk:r ≠ k:=fun z=>by subst z; exact h3 hr
  rw [List.getElem?_set_ne hk]; exact h2
theorem eH.put {es':List ((Str × Int) × PV)} (I:eH p n es held i g o hr gn od tk hd σ) (h:iX es'):eH p n es' held i g o hr gn od tk hd ((σ.set hr (.dp es')).set tk (.dp es')):=by
  obtain ⟨a1,a2,a3,a4⟩:=I.ne1
  obtain ⟨b1,b2,b3,b4,b5⟩:=I.ne2
  refine ⟨(I.brd.put (es':=es')).other ⟨a1,a2,a3,a4⟩,?_,?_,I.ne1,I.ne2,fun v hv=>((I.all v hv).set (by simp)).set (by simp),h⟩
  · rw [List.getElem?_set_self (by rw [List.length_set]; exact (List.getElem?_eq_some_iff.mp I.tok).1)]
  · rw [List.getElem?_set_ne (Ne.symm b5),List.getElem?_set_ne (Ne.symm b4)]; exact I.hel
theorem eH.lt (I:eH p n es held i g o hr gn od tk hd σ):∀ r ∈ [hr,tk,hd,i,g,o],r < σ.length:=by
  have f:∀ {r:Nat} {m:MO},σ[r]?=some m->r < σ.length:=fun e=>(List.getElem?_eq_some_iff.mp e).1
  intro r h
  simp only [List.mem_cons,List.not_mem_nil,or_false] at h
  rcases h with rfl | rfl | rfl | rfl | rfl | rfl
  · exact f I.brd.hr
  · exact f I.tok
  · exact f I.hel
  · exact f I.brd.ns
  · exact f I.brd.gv
  · exact f I.brd.ot
theorem eH.keep {l:List (Int × Int)} (hl:(l.map bc).length <= am) (I:eH p n es held i g o hr gn od tk hd σ):eH p n es (held++[.tup [.ref σ.length,.fl (l.map bc)]]) i g o hr gn od tk hd ((σ++[MO.lst (l.map bc)]).set hd (MO.lst (held++[PV.tup [.ref σ.length,.fl (l.map bc)]]))):=by
  obtain ⟨b1,b2,b3,b4,b5⟩:=I.ne2
  have J:=I.more (τ:=[.lst (l.map bc)])
  refine ⟨J.brd.other ⟨b1,b2,b3,b4⟩,(List.getElem?_set_ne b5).trans J.tok,List.getElem?_set_self (List.getElem?_eq_some_iff.mp J.hel).1,I.ne1,I.ne2,fun v hv=>?_,I.int⟩
  rcases List.mem_append.mp hv with q | q
  · exact (J.all v q).set (r:=hd) (by simp)
  · rw [List.mem_singleton.mp q]
    have hk:σ.length ∉ [hr,tk,hd,i,g,o]:=fun z=>absurd (I.lt _ z) (Nat.lt_irrefl _)
    exact oK.set (σ:=σ++[MO.lst (l.map bc)]) (r:=hd) ⟨σ.length,l,rfl,cw,hk,hl⟩ (by simp)
end
end Mine
namespace Mine
open PySem
noncomputable abbrev RR (sc:PV) (p:List ah) (n i tk hd:Nat) (k c pl tn va du ot tl:Option PV):aw:=[some sc,some (ak p),some (.int n),some (.inst ae i),some (.ref tk),some (.ref hd),k,c,pl,tn,va,du,ot,tl,none,none,none,none,none,none,none,none,none,none,none,none,none,none,none]
theorem o8 {C:a8} {ρ:aw} {σ σ₁:ac} {f:Nat} {xs:X} {vs:List PV} {v:af PV} (h:evs C xs ρ σ=.ok vs σ₁) (hc:C.call f vs σ₁=v):ev C (.call f xs) ρ σ=v:=by
  rw [o7,h]; exact hc
theorem lT:∀ c ∈ xL,(cz c == "")=false/\((cz c == "NoPlace")=true ↔ c=aG)/\((cz c == "NoTurn")=true ↔ c=bK):=by decide +kernel
theorem aaG {p:List ah} {n:Nat} {es:List ((Str × Int) × PV)} {pv tv vv:PV} (hp:bP pv) (ht:bJ tv) (h1:bF p n es pv tv vv ≠ some aG) (h2:bF p n es pv tv vv ≠ some bK) :
    ∃ x j,pv=.str x/\tv=.int j/\a9 p (.str x)=true/\da 0 ((n:Int) - 1) (.int j)=true:=by
  unfold bF at h1 h2
  cases q1:a9 p pv with
  | false=>rw [q1,if_pos rfl] at h1; exact absurd rfl h1
  | true =>
  rw [q1,if_neg (by decide)] at h1 h2
  cases q2:da 0 ((n:Int) - 1) tv with
  | false=>rw [q2,if_pos rfl] at h2; exact absurd rfl h2
  | true =>
  cases hp with
  | int _=>contradiction
  | none=>contradiction
  | str x =>
  cases ht with
  | bool _=>contradiction
  | none=>contradiction
  | str _=>contradiction
  | int j=>exact ⟨x,j,rfl,rfl,q1,q2⟩
theorem aaE {p:List ah} {n:Nat} {es:List ((Str × Int) × PV)} {pv tv vv:PV} (hp:bP pv) (h:bF p n es pv tv vv=some bK):∃ x,pv=.str x/\a9 p (.str x)=true/\da 0 ((n:Int) - 1) tv=false:=by
  unfold bF at h
  cases q1:a9 p pv with
  | false=>rw [q1,if_pos rfl] at h; exact absurd (Option.some.inj h) (by decide)
  | true =>
  rw [q1,if_neg (by decide)] at h
  cases hp with
  | int _=>contradiction
  | none=>contradiction
  | str x =>
  cases q2:da 0 ((n:Int) - 1) tv with
  | false=>exact ⟨x,rfl,q1,rfl⟩
  | true =>
    rw [q2,if_neg (by decide)] at h
    cases tv with
    | int j =>
      dsimp only at h
      split at h
      · exact absurd (Option.some.inj h) (by decide)
      split at h
      · exact absurd (Option.some.inj h) (by decide)
      split at h
      · exact absurd (Option.some.inj h) (by decide)
      · contradiction
    | _=>contradiction
theorem aaM {es:List ((Str × Int) × PV)} {k:Str × Int} {σ:ac} (h:iX es):bn .ne ((az k es).getD .none) ((az k es).getD .none) σ=.ok false σ:=by
  cases hv:az k es with
  | none=>rfl
  | some v =>
    obtain ⟨i,rfl⟩:=h.get hv
    show bn .ne (.int i) (.int i) σ=_
    rw [aeM]; simp
end Mine
namespace Mine
open PySem
section
variable {sc:PV} {p:List ah} {n:Nat} {es:List ((Str × Int) × PV)} {held:List PV} {i g o hr gn od tk hd:Nat} {σ:ac} {kk c:Int}
theorem aeG {pv tv vv:PV} {ot tl:Option PV} (h:bD p) (I:eH p n es held i g o hr gn od tk hd σ) (hp:bP pv) (ht:bJ tv) (hv:bJ vv) (hl:es.length < 900) :
    ∃ es' σ',eH p n es' held i g o hr gn od tk hd σ'/\es'.length <= es.length + 1 ∧
      ex (CC 19) topN rt (RR sc p n i tk hd (some (.int kk)) (some (.int c)) (some pv) (some tv) (some vv) (some (.str (d6 (bF p n es pv tv vv)))) ot tl) σ=.next (RR sc p n i tk hd (some (.int kk)) (some (.int c)) (some pv) (some tv) (some vv) (some (.str (d6 (bF p n es pv tv vv)))) ot tl) (match bF p n es pv tv vv with | some _=>σ | none=>σ.set hr (.dp es')) ∧
      ex (CC 19) topN rq (RR sc p n i tk hd (some (.int kk)) (some (.int c)) (some pv) (some tv) (some vv) (some (.str (d6 (bF p n es pv tv vv)))) ot tl) (match bF p n es pv tv vv with | some _=>σ | none=>σ.set hr (.dp es'))=.next (RR sc p n i tk hd (some (.int kk)) (some (.int c)) (some pv) (some tv) (some vv) (some (.str (d6 (bF p n es pv tv vv)))) ot tl) σ':=by
  obtain ⟨q1,q2⟩:=ad1 (d:=14) h I.brd hp ht hv (by omega)
  cases hW:bF p n es pv tv vv with
  | some w =>
    have hx:=oW hW
    obtain ⟨f1,_,_⟩:=lT w hx
    refine ⟨es,σ,I,by omega,(aH (σ':=σ) (aN (o8 (vs:=[.inst ae i,pv,tv,vv]) (σ₁:=σ) rfl (q1 w hW)) (y:=.str (cz w)) (σ₂:=σ) rfl (nL.trans ?_))).trans aj,(aH (σ':=σ) (aN (x:=.str (cz w)) (y:=.str "") (σ₁:=σ) (σ₂:=σ) rfl rfl (oE.trans ?_))).trans aj⟩
    · simp
    · rw [f1]
  | none =>
    obtain ⟨x,j,rfl,rfl,a1,a2,a3,a4⟩:=aaF hp ht hW
    obtain ⟨v,rfl⟩:=abY a3
    have e:=q2 x j rfl rfl hW
    rw [yF a4] at e
    refine ⟨es++[((x,j),.int v)],_,I.put (I.int.put (k:=(x,j)) (i:=v)),by simp,(aH (σ':=σ.set hr (.dp (es++[((x,j),.int v)]))) (aN (o8 (vs:=[.inst ae i,.str x,.int j,.int v]) (σ₁:=σ) rfl e) (y:=.str "") (σ₂:=σ.set hr (.dp (es++[((x,j),.int v)]))) rfl (nL.trans ?_))).trans aj,?_⟩
    · simp
    · refine (aV (σ':=σ.set hr (.dp (es++[((x,j),.int v)]))) (aN (x:=.str "") (y:=.str "") (σ₁:=σ.set hr (.dp (es++[((x,j),.int v)]))) (σ₂:=σ.set hr (.dp (es++[((x,j),.int v)]))) rfl rfl (oE.trans ?_))).trans ((aa (a:=nW) (ρ':=RR sc p n i tk hd (some (.int kk)) (some (.int c)) (some (.str x)) (some (.int j)) (some (.int v)) (some (.str (d6 none))) ot tl) (σ':=(σ.set hr (.dp (es++[((x,j),.int v)]))).set tk (.dp (es++[((x,j),.int v)]))) ?_).trans aj)
      · simp
      · show cg (.ref tk) (.tup [.str x,.int j]) (.int v) _ (σ.set hr (.dp (es++[((x,j),.int v)])))=_
        rw [vz ((List.getElem?_set_ne (Ne.symm I.ne1.2.2.2)).trans I.tok) (by rw [be]; omega),yF a4]
end
end Mine
namespace Mine
open PySem
section
variable {p:List ah} {n:Nat} {es es0:List ((Str × Int) × PV)} {held:List PV} {i g o hr gn od tk hd:Nat} {σ:ac} {ρ:aw} {pv tv vv:PV}
theorem abz {W:Option Nat} {s:Str} {x:Nat} (hs:(s == "")=false) (hW:∀ w,W=some w->w ∈ xL) (f:∀ w ∈ xL,(cz w == s)=true ↔ w=x):(d6 W == s)=decide (W=some x):=by
  cases W with
  | none =>
    rw [decide_eq_false (by simp)]
    show (("" : Str) == s)=false
    rw [<- hs]
    rw [Bool.eq_iff_iff,beq_iff_eq,beq_iff_eq]; exact ⟨Eq.symm,Eq.symm⟩
  | some w =>
    show (cz w == s)=_
    rw [Bool.eq_iff_iff,f w (hW w rfl),decide_eq_true_eq]
    exact ⟨fun e=>by rw [e],Option.some.inj⟩
theorem aby {W:Option Nat} (hW:∀ w,W=some w->w ∈ xL):(d6 W == "NoPlace")=decide (W=some aG):=abz (by decide +kernel) hW fun w hw=>(lT w hw).2.1
theorem wN {W:Option Nat} (hW:∀ w,W=some w->w ∈ xL):(d6 W == "NoTurn")=decide (W=some bK):=abz (by decide +kernel) hW fun w hw=>(lT w hw).2.2
theorem afA (I:eH p n es held i g o hr gn od tk hd σ) (hp:bP pv) (ht:bJ tv) (v3:ev (CC 19) (.v 3) ρ σ=.ok (.inst ae i) σ) (v4:ev (CC 19) (.v 4) ρ σ=.ok (.ref tk) σ) (v8:ev (CC 19) (.v 8) ρ σ=.ok pv σ) (v9:ev (CC 19) (.v 9) ρ σ=.ok tv σ) (v11:ev (CC 19) (.v 11) ρ σ=.ok (.str (d6 (bF p n es0 pv tv vv))) σ) :
    ex (CC 19) topN mx ρ σ=.next ρ σ:=by
  have hW:∀ w,bF p n es0 pv tv vv=some w->w ∈ xL:=fun w=>oW
  have c1:=aN (b:=.k (.str "NoPlace")) v11 (y:=.str "NoPlace") (σ₂:=σ) rfl nL
  have c2:=aN (b:=.k (.str "NoTurn")) v11 (y:=.str "NoTurn") (σ₂:=σ) rfl nL
  rw [aby hW] at c1
  rw [wN hW] at c2
  refine (aH (σ':=σ) (gk ?_)).trans aj
  by_cases h1:bF p n es0 pv tv vv=some aG
  · rw [decide_eq_true h1] at c1; exact jr c1
  rw [decide_eq_false h1] at c1
  refine jq c1 ?_
  by_cases h2:bF p n es0 pv tv vv=some bK
  · rw [decide_eq_true h2] at c2; exact jr c2
  rw [decide_eq_false h2] at c2
  refine jq c2 (fZ ?_)
  obtain ⟨x,j,rfl,rfl,a1,a2⟩:=aaG hp ht h1 h2
  refine aN (fw v3 v8 v9 (aa7 (d:=15) I.brd a1 a2)) (gW v4 (wj I.tok) (eF (vs:=[.str x,.int j]) (aF v8 (aF v9 rfl)) (show (2:Nat) <= am by decide)) (wh I.tok)) (aaM I.int)
theorem afz (h:bD p) (I:eH p n es held i g o hr gn od tk hd σ) (hp:bP pv) (v1:ev (CC 19) (.v 1) ρ σ=.ok (ak p) σ) (v3:∀ {σ:ac},ev (CC 19) (.v 3) ρ σ=.ok (.inst ae i) σ) (v8:∀ {σ:ac},ev (CC 19) (.v 8) ρ σ=.ok pv σ) (v9:∀ {σ:ac},ev (CC 19) (.v 9) ρ σ=.ok tv σ) :
    ∃ τ,ex (CC 19) topN ro ρ σ=.next ρ (σ++τ):=by
  refine ⟨[.lst ((aq p).map .str)],?_⟩
  have c1:tst (CC 19) (.cmp (.v 8) .notin (.call bM (.cons (.v 1) .nil))) ρ σ=.ok (!a9 p pv) (σ++[.lst ((aq p).map .str)]):=by
    rw [vK hp]
    exact aN v8 (aT v1 (gx (d:=18) h)) (tz hp cw)
  have J:=I.more (τ:=[.lst ((aq p).map .str)])
  refine (aH (gk ?_)).trans aj
  cases q:a9 p pv with
  | true=>rw [q] at c1; exact jr c1
  | false =>
    rw [q] at c1
    exact jq c1 (fZ (aN (fw v3 v8 v9 (vZ (d:=14) J.brd hp q)) (y:=.fl [.str "NoPlace",.str "NoPlace"]) (σ₂:=σ++[.lst ((aq p).map .str)]) rfl rfl))
theorem afy (I:eH p n es held i g o hr gn od tk hd σ) (hp:bP pv) (ht:bJ tv) (v3:ev (CC 19) (.v 3) ρ σ=.ok (.inst ae i) σ) (v8:ev (CC 19) (.v 8) ρ σ=.ok pv σ) (v9:ev (CC 19) (.v 9) ρ σ=.ok tv σ) (v11:ev (CC 19) (.v 11) ρ σ=.ok (.str (d6 (bF p n es0 pv tv vv))) σ) :
    ex (CC 19) topN mw ρ σ=.next ρ σ:=by
  have hW:∀ w,bF p n es0 pv tv vv=some w->w ∈ xL:=fun w=>oW
  have c2:=aN (b:=.k (.str "NoTurn")) v11 (y:=.str "NoTurn") (σ₂:=σ) rfl oE
  rw [wN hW] at c2
  refine (aH (σ':=σ) (gk ?_)).trans aj
  by_cases h2:bF p n es0 pv tv vv=some bK
  · rw [decide_eq_true h2] at c2
    refine jq c2 (fZ ?_)
    obtain ⟨x,rfl,a1,a2⟩:=aaE hp h2
    have e:=mi (m:=0) (d:=15) (Nat.zero_le _) I.brd (show bK ∈ xL by decide) (aer (Nat.zero_le _) I.brd a1 ht a2)
    exact aN (fw v3 v8 v9 e) (y:=.str "NoTurn") (σ₂:=σ) rfl rfl
  · rw [decide_eq_false h2] at c2; exact jr c2
end
end Mine
namespace Mine
open PySem
section
variable {sc:PV} {p:List ah} {n:Nat} {es:List ((Str × Int) × PV)} {held:List PV} {i g o hr gn od tk hd:Nat} {σ:ac} {c:Int} {kk pl tn va du ot tl:Option PV}
theorem adN (h:bD p) (hn:1 <= n) (hn2:n <= 200) (I:eH p n es held i g o hr gn od tk hd σ) (hl:held.length < 900) :
    ∃ ot' tl' v σ',eH p n es (held++[v]) i g o hr gn od tk hd σ' ∧
      ex (CC 19) topN (.cons mv (.cons mu (.cons mt (.cons kX .nil)))) (RR sc p n i tk hd kk (some (.int c)) pl tn va du ot tl) σ=.next (RR sc p n i tk hd kk (some (.int c)) pl tn va du ot' tl') σ':=by
  obtain ⟨_,_,l3,l4⟩:=l5 h
  have lp:((aq p).map PV.str).length <= am:=by rw [List.length_map,be]; omega
  have n0:=Int.emod_nonneg c (show (((aq p).length:Nat):Int) ≠ 0 by omega)
  have n1:=Int.emod_lt_of_pos c (show (0:Int) < (((aq p).length:Nat):Int) by omega)
  have hi:=eK n0 n1
  have hx:a9 p (.str (aq p)[(c % ((aq p).length:Int)).toNat])=true:=by rw [nH]; exact decide_eq_true (List.getElem_mem hi)
  have hat:((aq p).map PV.str)[(c % ((aq p).length:Int)).toNat]?=some (.str (aq p)[(c % ((aq p).length:Int)).toNat]):=by rw [List.getElem?_map,List.getElem?_eq_getElem hi]; rfl
  generalize (aq p)[(c % ((aq p).length:Int)).toNat]=x at hx hat
  have pc:∀ {σ:ac},ev (CC 19) (.call bM (.cons (.v 1) .nil)) (RR sc p n i tk hd kk (some (.int c)) pl tn va du ot tl) σ=.ok (.ref σ.length) (σ++[.lst ((aq p).map .str)]):=fun {σ}=>aT (x:=ak p) (σ₁:=σ) rfl (gx (d:=18) h)
  have b7:ex (CC 19) topN mv (RR sc p n i tk hd kk (some (.int c)) pl tn va du ot tl) σ=.next (RR sc p n i tk hd kk (some (.int c)) pl tn va du (some (.str x)) tl) (σ++[.lst ((aq p).map .str)]++[.lst ((aq p).map .str)]):=by
    have ln:db .len (.ref (σ++[MO.lst ((aq p).map PV.str)]).length) (σ++[.lst ((aq p).map .str)]++[.lst ((aq p).map .str)])=.ok (.int (aq p).length) (σ++[.lst ((aq p).map .str)]++[.lst ((aq p).map .str)]):=by
      show kc (fun xs=>if xs.length <= am then af.ok (PV.int xs.length) (σ++[.lst ((aq p).map .str)]++[.lst ((aq p).map .str)]) else .stuck) (.ref (σ++[MO.lst ((aq p).map PV.str)]).length) _=_
      rw [gu (xs:=(aq p).map .str) (by unfold a5; dsimp only; rw [cw])]
      rw [if_pos lp,List.length_map]
    exact a7 (bH pc (aC (x:=.int c) (σ₁:=σ++[.lst ((aq p).map .str)]) rfl (cQ pc ln) (bA (by omega))) (yh (jG cw) lp n0 hat))
  have J:=(I.more (τ:=[.lst ((aq p).map .str)])).more (τ:=[.lst ((aq p).map .str)])
  generalize σ++[MO.lst ((aq p).map .str)]++[MO.lst ((aq p).map .str)]=aW at b7 J
  have m0:=Int.emod_nonneg (c / 9) (show (n:Int) ≠ 0 by omega)
  have m1:=Int.emod_lt_of_pos (c / 9) (show (0:Int) < (n:Int) by omega)
  have hb:da 0 ((n:Int) - 1) (.int (c / 9 % n))=true:=by
    show (decide (0 <= c / 9 % n) && decide (c / 9 % n <= (n:Int) - 1))=true
    rw [decide_eq_true m0,decide_eq_true (by omega)]; rfl
  have tv:ev (CC 19) (.bin .mod (.bin .fdiv (.v 7) (.k (.int 9))) (.v 2)) (RR sc p n i tk hd kk (some (.int c)) pl tn va du (some (.str x)) tl) aW=.ok (.int (c / 9 % n)) aW:=aC (aC (x:=.int c) (y:=.int 9) (σ₁:=aW) (σ₂:=aW) rfl rfl (dz (by decide) (by decide))) (y:=.int n) (σ₂:=aW) rfl (bA (by omega))
  have ea:ev (CC 19) (.meth ae cP "at" (.v 3) (.cons (.v 12) (.cons (.bin .mod (.bin .fdiv (.v 7) (.k (.int 9))) (.v 2)) .nil))) (RR sc p n i tk hd kk (some (.int c)) pl tn va du (some (.str x)) tl) aW=.ok ((az (x,c / 9 % n) es).getD .none) aW:=
    cL (i:=i) (σ₁:=aW) (σ₂:=aW) (vs:=[.str x,.int (c / 9 % n)]) rfl J.brd.ns (br _ (by simp)) (aF (x:=.str x) (σ₁:=aW) rfl (aF tv rfl)) (adz (m:=0) (d:=16) (Nat.zero_le _) J.brd hx hb)
  have b8:ex (CC 19) topN mu (RR sc p n i tk hd kk (some (.int c)) pl tn va du (some (.str x)) tl) aW=.next (RR sc p n i tk hd kk (some (.int c)) pl tn va du (some (.str x)) tl) aW:=
    (aH (σ':=aW) (aN ea (gW (x:=.ref tk) (σ₁:=aW) rfl (wj J.tok) (eF (vs:=[.str x,.int (c / 9 % n)]) (aF (x:=.str x) (σ₁:=aW) rfl (aF tv rfl)) (show (2:Nat) <= am by decide)) (wh J.tok)) (aaM J.int))).trans aj
  obtain ⟨l,hlt⟩:=vn (x:=x) (n:=n) J.int
  have td:=ye (d:=17) hn2 J.brd hx
  rw [hlt] at td
  have b9:ex (CC 19) topN mt (RR sc p n i tk hd kk (some (.int c)) pl tn va du (some (.str x)) tl) aW=.next (RR sc p n i tk hd kk (some (.int c)) pl tn va du (some (.str x)) (some (.ref aW.length))) (aW++[.lst (l.map bc)]):=
    a7 (cL (σ₁:=aW) (σ₂:=aW) (vs:=[.str x]) rfl J.brd.ns (br _ (by simp)) rfl td)
  have ll:(l.map bc).length <= am:=by
    rw [<- hlt]
    unfold ja
    exact Nat.le_trans (List.length_filterMap_le _ _) (by rw [List.length_range,be]; omega)
  have lc:db (.list true) (.ref aW.length) (aW++[.lst (l.map bc)])=.ok (.fl (l.map bc)) (aW++[.lst (l.map bc)]):=by
    show kc (fun xs=>bR true xs (aW++[.lst (l.map bc)])) (.ref aW.length) _=_
    rw [gu (xs:=l.map bc) (by unfold a5; dsimp only; rw [cw])]
    exact l9 ll
  have J1:=J.more (τ:=[.lst (l.map bc)])
  have ap:kf .append (.ref hd) [.tup [.ref aW.length,.fl (l.map bc)]] (aW++[.lst (l.map bc)])=.ok .none ((aW++[MO.lst (l.map bc)]).set hd (.lst (held++[.tup [.ref aW.length,.fl (l.map bc)]]))):=by
    show cX (.ref hd) _ _=_
    unfold cX; dsimp only; rw [J1.hel]; dsimp only
    exact if_pos (by rw [be]; omega)
  have mo:pT .append (.ref hd) (aW++[.lst (l.map bc)])=true:=by
    show fm (.ref hd) (aW++[.lst (l.map bc)])=true
    unfold fm; dsimp only; rw [J1.hel]
  have b10:ex (CC 19) topN kX (RR sc p n i tk hd kk (some (.int c)) pl tn va du (some (.str x)) (some (.ref aW.length))) (aW++[.lst (l.map bc)])=.next (RR sc p n i tk hd kk (some (.int c)) pl tn va du (some (.str x)) (some (.ref aW.length))) ((aW++[MO.lst (l.map bc)]).set hd (.lst (held++[.tup [.ref aW.length,.fl (l.map bc)]]))):=
    cb (gW (x:=.ref hd) (σ₁:=aW++[.lst (l.map bc)]) rfl mo (eF (vs:=[.ref aW.length,.fl (l.map bc)]) (aF (x:=.ref aW.length) (σ₁:=aW++[.lst (l.map bc)]) rfl (aF (cQ (x:=.ref aW.length) (σ₁:=aW++[.lst (l.map bc)]) rfl lc) rfl)) (show (2:Nat) <= am by decide)) ap)
  exact ⟨_,_,_,_,J.keep ll,(aa b7).trans ((aa b8).trans ((aa b9).trans ((aa b10).trans aj)))⟩
end
end Mine
namespace Mine
open PySem
section
variable {sc:PV} {p:List ah} {n:Nat} {i g o hr gn od tk hd:Nat}
theorem aeH {es:List ((Str × Int) × PV)} {held:List PV} {σ:ac} {c kk:Int} {pl tn va du ot tl:Option PV} (h:bD p) (hn:1 <= n) (hn2:n <= 200) (I:eH p n es held i g o hr gn od tk hd σ) (he:es.length < 900) (hl:held.length < 900) :
    ∃ pl' tn' va' du' ot' tl' es' held' σ',eH p n es' held' i g o hr gn od tk hd σ'/\es'.length <= es.length + 1/\held'.length <= held.length + 1 ∧
      ex (CC 19) topN nX (RR sc p n i tk hd (some (.int kk)) (some (.int c)) pl tn va du ot tl) σ=.next (RR sc p n i tk hd (some (.int kk)) (some (.int c)) pl' tn' va' du' ot' tl') σ':=by
  obtain ⟨pv,tv,vv,τ0,hp,ht,hv,e0⟩:=acB (d:=17) (σ:=σ) (c:=eR (c + kk)) h hn hn2
  have d0:ev (CC 19) (.call je (.cons (.v 1) (.cons (.v 2) (.cons (.call cj (.cons (.bin .add (.v 7) (.v 6)) .nil)) .nil)))) (RR sc p n i tk hd (some (.int kk)) (some (.int c)) pl tn va du ot tl) σ=.ok (.tup [pv,tv,vv]) (σ++τ0):=
    fw (x:=ak p) (y:=.int n) (σ₁:=σ) (σ₂:=σ) rfl rfl (aT (aC (x:=.int c) (y:=.int kk) (σ₁:=σ) (σ₂:=σ) rfl rfl add_int) (yw (d:=18))) e0
  have b0:ex (CC 19) topN rx (RR sc p n i tk hd (some (.int kk)) (some (.int c)) pl tn va du ot tl) σ=.next (RR sc p n i tk hd (some (.int kk)) (some (.int c)) (some pv) (some tv) (some vv) du ot tl) (σ++τ0):=by
    show (ev (CC 19) (.call je (.cons (.v 1) (.cons (.v 2) (.cons (.call cj (.cons (.bin .add (.v 7) (.v 6)) .nil)) .nil)))) (RR sc p n i tk hd (some (.int kk)) (some (.int c)) pl tn va du ot tl) σ).toS _ _=_
    rw [d0]; rfl
  have I0:=I.more (τ:=τ0)
  generalize σ++τ0=σ0 at b0 I0
  obtain ⟨mL,e1⟩:=ad2 (d:=17) (σ:=σ0) (n:=n) h I0.tok hp ht hv
  have b1:ex (CC 19) topN ru (RR sc p n i tk hd (some (.int kk)) (some (.int c)) (some pv) (some tv) (some vv) du ot tl) σ0=.next (RR sc p n i tk hd (some (.int kk)) (some (.int c)) (some pv) (some tv) (some vv) (some (.str (d6 (bF p n es pv tv vv)))) ot tl) (σ0++mL):=
    a7 (o8 (vs:=[ak p,.ref tk,.int n,pv,tv,vv]) (σ₁:=σ0) rfl e1)
  have I1:=I0.more (τ:=mL)
  generalize σ0++mL=aW at b1 I1
  obtain ⟨es',bI,I2,l2,b2,b3⟩:=aeG (sc:=sc) (kk:=kk) (c:=c) (ot:=ot) (tl:=tl) h I1 hp ht hv he
  have b4:ex (CC 19) topN mx (RR sc p n i tk hd (some (.int kk)) (some (.int c)) (some pv) (some tv) (some vv) (some (.str (d6 (bF p n es pv tv vv)))) ot tl) bI=.next (RR sc p n i tk hd (some (.int kk)) (some (.int c)) (some pv) (some tv) (some vv) (some (.str (d6 (bF p n es pv tv vv)))) ot tl) bI:=afA (vv:=vv) (es0:=es) I2 hp ht rfl rfl rfl rfl rfl
  obtain ⟨τ5,b5⟩:=afz (ρ:=RR sc p n i tk hd (some (.int kk)) (some (.int c)) (some pv) (some tv) (some vv) (some (.str (d6 (bF p n es pv tv vv)))) ot tl) (tv:=tv) h I2 hp rfl rfl rfl rfl
  have I5:=I2.more (τ:=τ5)
  generalize bI++τ5=lf at b5 I5
  have b6:ex (CC 19) topN mw (RR sc p n i tk hd (some (.int kk)) (some (.int c)) (some pv) (some tv) (some vv) (some (.str (d6 (bF p n es pv tv vv)))) ot tl) lf=.next (RR sc p n i tk hd (some (.int kk)) (some (.int c)) (some pv) (some tv) (some vv) (some (.str (d6 (bF p n es pv tv vv)))) ot tl) lf:=afy (vv:=vv) (es0:=es) I5 hp ht rfl rfl rfl rfl
  obtain ⟨ot',tl',v,xZ,I6,bt⟩:=adN (sc:=sc) (c:=c) (kk:=some (.int kk)) (pl:=some pv) (tn:=some tv) (va:=some vv) (du:=some (.str (d6 (bF p n es pv tv vv)))) (ot:=ot) (tl:=tl) h hn hn2 I5 hl
  exact ⟨_,_,_,_,ot',tl',es',held++[v],xZ,I6,l2,by simp,(aa b0).trans ((aa b1).trans ((aa b2).trans ((aa b3).trans ((aa b4).trans ((aa b5).trans ((aa b6).trans bt))))))⟩
theorem adO (h:bD p) (hn:1 <= n) (hn2:n <= 200):∀ (cs:List Int) (k0:Nat) (kk c pl tn va du ot tl:Option PV) (es:List ((Str × Int) × PV)) (held:List PV) (σ:ac),eH p n es held i g o hr gn od tk hd σ->es.length + cs.length <= 800->held.length + cs.length <= 800 ->
    ∃ kk' c' pl' tn' va' du' ot' tl' es' held' σ',eH p n es' held' i g o hr gn od tk hd σ'/\held'.length <= held.length + cs.length ∧
      bB none (jm [6,7]) (fun ρ σ=>ex (CC 19) topN nX ρ σ) (dU k0 (cs.map .int)) (RR sc p n i tk hd kk c pl tn va du ot tl) σ=.next (RR sc p n i tk hd kk' c' pl' tn' va' du' ot' tl') σ':=by
  intro cs
  induction cs with
  | nil=>intro k0 kk c pl tn va du ot tl es held σ I _ _; exact ⟨kk,c,pl,tn,va,du,ot,tl,es,held,σ,I,by simp,cH⟩
  | cons x cs ih =>
    intro k0 kk c pl tn va du ot tl es held σ I h1 h2
    rw [List.length_cons] at h1 h2
    obtain ⟨pl1,tn1,va1,du1,ot1,tl1,es1,held1,aW,I1,a1,a2,e⟩:=aeH (sc:=sc) (c:=x) (kk:=k0) (pl:=pl) (tn:=tn) (va:=va) (du:=du) (ot:=ot) (tl:=tl) h hn hn2 I (by omega) (by omega)
    obtain ⟨kk',c',pl',tn',va',du',ot',tl',es',held',σ',I',a3,e'⟩:=ih (k0 + 1) (some (.int k0)) (some (.int x)) pl1 tn1 va1 du1 ot1 tl1 es1 held1 aW I1 (by omega) (by omega)
    refine ⟨kk',c',pl',tn',va',du',ot',tl',es',held',σ',I',by rw [List.length_cons]; omega,(bZ (x:=.tup [.int k0,.int x]) (ρ₁:=RR sc p n i tk hd (some (.int k0)) (some (.int x)) pl tn va du ot tl) rfl e).trans e'⟩
end
end Mine
namespace Mine
open PySem
section
variable {p:List ah} {n:Nat} {es:List ((Str × Int) × PV)} {held:List PV} {i g o hr gn od tk hd:Nat} {σ:ac} {ρ:aw}
theorem wP {w:Option (Nat × List PV)} {f:PV->ac->af (Option PV)} (hw:cn w σ):∀ (xs:List PV),(∀ x ∈ xs,f x σ=.ok none σ)->bh w f xs σ=.ok [] σ:=by
  intro xs
  induction xs with
  | nil=>intro _; exact if_pos hw
  | cons x xs ih =>
    intro h
    refine (if_pos hw).trans ?_
    rw [h x List.mem_cons_self]
    show (bh w f xs σ).bind _=_
    rw [ih fun y hy=>h y (List.mem_cons_of_mem _ hy)]
    rfl
theorem aen (I:eH p n es held i g o hr gn od tk hd σ) (hl:held.length <= 900) (v5:ev (CC 19) (.v 5) ρ σ=.ok (.ref hd) σ):ex (CC 19) topN wv ρ σ=.next ρ σ:=by
  have c0:ev (CC 19) wI ρ σ=.ok (.fl []) σ:=by
    show ev (CC 19) (.comp true 1 [none,none] (.v 1) (.cmp (.sub (.v 1) (.k (.int 0))) .ne (.sub (.v 1) (.k (.int 1)))) (.v 5)) ρ σ=_
    have it:evIt (CC 19) (.v 5) ρ σ=.ok (held,some (hd,held)) σ:=by
      show (ev (CC 19) (.v 5) ρ σ).bind g4=_
      rw [v5]
      show g4 (.ref hd) σ=_
      unfold g4 ai fh
      dsimp only
      rw [I.hel]
    rw [et,show (CC 19).hd=false from rfl,it]
    show cW held.length (bh (some (hd,held)) (fun x σ=>((tst (CC 19) (.cmp (.sub (.v 1) (.k (.int 0))) .ne (.sub (.v 1) (.k (.int 1)))) ((aR [none,none] ρ).set 1 (some x)) σ).bind fun b σ=>if b=true then (ev (CC 19) (.v 1) ((aR [none,none] ρ).set 1 (some x)) σ).bind fun v σ=>.ok (some v) σ else .ok none σ)) held σ) _=_
    rw [wP (w:=some (hd,held)) (σ:=σ) (show cn (some (hd,held)) σ from I.hel) held fun x hx=>by
      obtain ⟨k,l,rfl,h2,_,_⟩:=I.all x hx
      show (tst (CC 19) (.cmp (.sub (.v 1) (.k (.int 0))) .ne (.sub (.v 1) (.k (.int 1)))) ((aR [none,none] ρ).set 1 (some (.tup [.ref k,.fl (l.map bc)]))) σ).bind _=_
      rw [aN (x:=.ref k) (y:=.fl (l.map bc)) (σ₁:=σ) (σ₂:=σ) rfl rfl (aaL h2)]; rfl]
    rfl
  exact (aH (σ':=σ) (aN (cQ c0 rfl) (y:=.int 0) (σ₂:=σ) rfl rfl)).trans aj
noncomputable def uT (bad:List Nat) (σ:ac) (v:PV):Prop:=∃ (k:Nat) (w:PV) (xs:List PV),v=.tup [.ref k,w]/\σ[k]?=some (.lst xs)/\xs.length <= am/\k ∉ bad
theorem uT.set {bad:List Nat} {v:PV} {r:Nat} (h:uT bad σ v):uT bad (σ.set r (.lst [])) v:=by
  obtain ⟨k,w,xs,h1,h2,h3,h4⟩:=h
  by_cases hk:r=k
  · subst hk
    exact ⟨r,w,[],h1,List.getElem?_set_self (List.getElem?_eq_some_iff.mp h2).1,Nat.zero_le _,h4⟩
  · exact ⟨k,w,xs,h1,(List.getElem?_set_ne hk).trans h2,h3,h4⟩
theorem acV {sc:PV} {kk c pl tn va du ot tl:Option PV}:∀ (vs:List PV) (y:Option PV) (σ:ac),(∀ v ∈ vs,uT [hr,tk,hd,i,g,o] σ v)->dw p n es i g o hr gn od σ->σ[tk]?=some (.dp es)->σ[hd]?=some (.lst held) ->
    ∃ y' σ',bB (some (hd,held)) (cI 14) (fun ρ σ=>ex (CC 19) topN km ρ σ) vs ((RR sc p n i tk hd kk c pl tn va du ot tl).set 14 y) σ=.next ((RR sc p n i tk hd kk c pl tn va du ot tl).set 14 y') σ'/\dw p n es i g o hr gn od σ'/\σ'[tk]?=some (.dp es):=by
  intro vs
  induction vs with
  | nil=>intro y σ _ B T H; exact ⟨y,σ,if_pos H,B,T⟩
  | cons v vs ih =>
    intro y σ hv B T H
    obtain ⟨k,w,xs,rfl,h2,h3,h4⟩:=hv v List.mem_cons_self
    simp only [List.mem_cons,List.not_mem_nil,or_false,not_or] at h4
    obtain ⟨n1,n2,n3,n4,n5,n6⟩:=h4
    obtain ⟨y',σ',e,B',T'⟩:=ih (some (.tup [.ref k,w])) (σ.set k (.lst [])) (fun v' hv'=>(hv v' (List.mem_cons_of_mem _ hv')).set) (B.other ⟨n4,n5,n6,n1⟩) ((List.getElem?_set_ne n2).trans T) ((List.getElem?_set_ne n3).trans H)
    refine ⟨y',σ',(if_pos H).trans ?_,B',T'⟩
    have cl:ev (CC 19) (.me0 .clear (.sub (.v 14) (.k (.int 0)))) ((RR sc p n i tk hd kk c pl tn va du ot tl).set 14 (some (.tup [.ref k,w]))) σ=.ok .none (σ.set k (.lst [])):=by
      rw [abt]
      show iL .clear (.ref k) σ=_
      unfold iL
      dsimp only
      rw [h2]
      dsimp only
      exact if_pos h3
    have bd:ex (CC 19) topN km ((RR sc p n i tk hd kk c pl tn va du ot tl).set 14 (some (.tup [.ref k,w]))) σ=.next ((RR sc p n i tk hd kk c pl tn va du ot tl).set 14 (some (.tup [.ref k,w]))) (σ.set k (.lst [])):=(aa (cb cl)).trans aj
    show jF _ (ex (CC 19) topN km ((RR sc p n i tk hd kk c pl tn va du ot tl).set 14 (some (.tup [.ref k,w]))) σ)=_
    rw [bd]; exact e
end
end Mine
namespace Mine
open PySem
theorem aay {l:List Int} {a b:Option Int}:bo (l.map PV.int) a b=(bo l a b).map PV.int:=by
  unfold bo
  rw [List.length_map,List.map_take,List.map_drop]
theorem aax {α:Type} (xs:List α) (a b:Option Int):(bo xs a b).length <= xs.length:=by
  unfold bo
  exact Nat.le_trans (List.length_take_le' _ _) (by rw [List.length_drop]; exact Nat.sub_le _ _)
theorem ab0 {c:Int}:∃ n:Nat,1 <= n/\n <= 200/\∀ {σ:ac},dK (.fl [.int 1,.int 2,.int 3,.int 5,.int 200]) (.int (c % 5)) σ=.ok (.int n) σ:=by
  obtain ⟨v,⟨n,h1,h2,rfl⟩,h⟩:=oX (P:=fun v=>∃ n:Nat,1 <= n/\n <= 200/\v=.int n) (c:=c) (k:=5) (L:=[.int 1,.int 2,.int 3,.int 5,.int 200]) rfl (by decide) (by decide) (by
    intro v hv
    simp only [List.mem_cons,List.not_mem_nil,or_false] at hv
    rcases hv with rfl | rfl | rfl | rfl | rfl
    · exact ⟨1,by decide,by decide,rfl⟩
    · exact ⟨2,by decide,by decide,rfl⟩
    · exact ⟨3,by decide,by decide,rfl⟩
    · exact ⟨5,by decide,by decide,rfl⟩
    · exact ⟨200,by decide,by decide,rfl⟩)
  exact ⟨n,h1,h2,h⟩
theorem runX {l:List Int} (hl:l.length <= 63):∃ σ,aU PP topN 20 afN [.fl (l.map .int)] []=.ok (.bool true) σ:=by
  obtain ⟨p,σ₁,hp,_,c17⟩:=h17 (d:=16) hl
  obtain ⟨n,hn,hn2,ht⟩:=ab0 (c:=l.getD 12 0)
  obtain ⟨υ,g,o,hr,gn,od,ib,B,q1,q2,q3⟩:=acL (d:=14) (σ:=σ₁) hp hn hn2
  rw [bz (d:=19) (fn:=zS) rfl rfl]
  have e0:ex (CC 19) topN wH ((some (PV.fl (l.map .int))::List.replicate 28 none:aw)) []=.next (some (.fl (l.map .int))::some (ak p)::List.replicate 27 none) σ₁:=
    a7 (di (x:=.fl (l.map .int)) (y:=.int 0) (σ₁:=[]) (σ₂:=[]) rfl rfl c17)
  have e1:ex (CC 19) topN wG (some (.fl (l.map .int))::some (ak p)::List.replicate 27 none) σ₁=.next (some (.fl (l.map .int))::some (ak p)::some (.int n)::List.replicate 26 none) σ₁:=
    a7 (bH (x:=.fl [.int 1,.int 2,.int 3,.int 5,.int 200]) (σ₁:=σ₁) rfl (aC (di (x:=.fl (l.map .int)) (y:=.int ((12:Nat):Int)) (σ₁:=σ₁) (σ₂:=σ₁) rfl rfl (h12 (d:=18) hl)) (y:=.int 5) (σ₂:=σ₁) rfl (bA (by decide))) ht)
  have e2:ex (CC 19) topN wF (some (.fl (l.map .int))::some (ak p)::some (.int n)::List.replicate 26 none) σ₁=.next (some (.fl (l.map .int))::some (ak p)::some (.int n)::some (.inst ae σ₁.length)::List.replicate 25 none) (σ₁++υ):=by
    refine a7 ?_
    have ib':(CC 19).call fV (.inst ae σ₁.length::[ak p,.int n]) (σ₁++[.ns []])=.ok .none (σ₁++υ):=ib
    rw [abr,show evs (CC 19) (.cons (.v 1) (.cons (.v 2) .nil)) (some (.fl (l.map .int))::some (ak p)::some (.int n)::List.replicate 26 none) σ₁=.ok [ak p,.int n] σ₁ from rfl,av]
    unfold l7
    rw [ib']; rfl
  generalize agw:σ₁++υ=bI at e2 B
  have e3:ex (CC 19) topN wE (some (.fl (l.map .int))::some (ak p)::some (.int n)::some (.inst ae σ₁.length)::List.replicate 25 none) bI=.next (some (.fl (l.map .int))::some (ak p)::some (.int n)::some (.inst ae σ₁.length)::some (.ref bI.length)::List.replicate 24 none) (bI++[.dp []]):=rfl
  have hlen:(bI++[MO.dp []]).length=bI.length + 1:=by simp
  have e4:ex (CC 19) topN wD (some (.fl (l.map .int))::some (ak p)::some (.int n)::some (.inst ae σ₁.length)::some (.ref bI.length)::List.replicate 24 none) (bI++[.dp []])=.next (RR (.fl (l.map .int)) p n σ₁.length bI.length (bI.length + 1) none none none none none none none none) (bI++[.dp []]++[.lst []]):=by
    rw [<- hlen]; rfl
  have f:∀ {r:Nat} {m:MO},bI[r]?=some m->r < bI.length:=fun e=>(List.getElem?_eq_some_iff.mp e).1
  have f1:=f B.ns
  have f2:=f B.gv
  have f3:=f B.ot
  have f4:=f B.hr
  have I:eH p n [] [] σ₁.length g o hr gn od bI.length (bI.length + 1) (bI++[.dp []]++[.lst []]):=
    ⟨B.more.more,jG (by simp),by rw [<- hlen]; exact cw,by omega,by omega,(fun v hv=>nomatch hv),(fun e he=>nomatch he)⟩
  generalize bI++[MO.dp []]++[MO.lst []]=nr at e4 I
  generalize hcs:bo l (some 13) (some 61)=cs
  have hcl:cs.length <= 63:=by rw [<- hcs]; exact Nat.le_trans (aax _ _ _) hl
  obtain ⟨kk,c,pl,tn,va,du,ot,tl,es,held,uU,I4,h4,e5⟩:=adO (sc:=.fl (l.map .int)) hp hn hn2 cs 0 none none none none none none none none [] [] nr I (by simp; omega) (by simp; omega)
  have s5:ex (CC 19) topN wC (RR (.fl (l.map .int)) p n σ₁.length bI.length (bI.length + 1) none none none none none none none none) nr=.next (RR (.fl (l.map .int)) p n σ₁.length bI.length (bI.length + 1) kk c pl tn va du ot tl) uU:=by
    have sl:ev (CC 19) (.slice (.v 0) (.k (.int 13)) (.k (.int 61))) (RR (.fl (l.map .int)) p n σ₁.length bI.length (bI.length + 1) none none none none none none none none) nr=.ok (.fl (cs.map .int)) nr:=by
      refine yC (x:=.fl (l.map .int)) (y:=.int 13) (z:=.int 61) (σ₁:=nr) (σ₂:=nr) (σ₃:=nr) rfl rfl rfl ?_
      refine (afw (a:=some 13) (b:=some 61) rfl rfl (by rw [List.length_map,be]; omega)).trans ?_
      rw [aay,hcs]
    show (evIt (CC 19) (.enum (.slice (.v 0) (.k (.int 13)) (.k (.int 61)))) (RR (.fl (l.map .int)) p n σ₁.length bI.length (bI.length + 1) none none none none none none none none) nr).toS _ _=_
    rw [abw,sl]
    show (kJ (.fl (cs.map .int)) nr).toS _ _=_
    rw [show kJ (.fl (cs.map .int)) nr=.ok (dU 0 (cs.map .int),none) nr from if_pos (by rw [List.length_map,be]; omega)]
    exact e5
  have s6:=aen (ρ:=RR (.fl (l.map .int)) p n σ₁.length bI.length (bI.length + 1) kk c pl tn va du ot tl) I4 (by simp at h4; omega) rfl
  obtain ⟨y,lf,e7,B5,T5⟩:=acV (sc:=.fl (l.map .int)) (kk:=kk) (c:=c) (pl:=pl) (tn:=tn) (va:=va) (du:=du) (ot:=ot) (tl:=tl) held none uU (fun v hv=>by
    obtain ⟨k,l',h1,h2,h3,h4'⟩:=I4.all v hv
    exact ⟨k,_,_,h1,h2,h4',h3⟩) I4.brd I4.tok I4.hel
  have s7:ex (CC 19) topN wu (RR (.fl (l.map .int)) p n σ₁.length bI.length (bI.length + 1) kk c pl tn va du ot tl) uU=.next ((RR (.fl (l.map .int)) p n σ₁.length bI.length (bI.length + 1) kk c pl tn va du ot tl).set 14 y) lf:=by
    show (evIt (CC 19) (.v 5) (RR (.fl (l.map .int)) p n σ₁.length bI.length (bI.length + 1) kk c pl tn va du ot tl) uU).toS _ _=_
    have it:evIt (CC 19) (.v 5) (RR (.fl (l.map .int)) p n σ₁.length bI.length (bI.length + 1) kk c pl tn va du ot tl) uU=.ok (held,some (bI.length + 1,held)) uU:=by
      show g4 (.ref (bI.length + 1)) uU=_
      unfold g4 ai fh
      dsimp only
      rw [I4.hel]
    rw [it]; exact e7
  obtain ⟨xZ,lk⟩:=zL (d:=16) (b:=l.getD 12 0 / 5) hp hn2 I4.int B5 T5
  have s8:ex (CC 19) topN wq ((RR (.fl (l.map .int)) p n σ₁.length bI.length (bI.length + 1) kk c pl tn va du ot tl).set 14 y) lf=.ret (.bool true) ((RR (.fl (l.map .int)) p n σ₁.length bI.length (bI.length + 1) kk c pl tn va du ot tl).set 14 y) xZ:=
    aB (o8 (vs:=[.inst ae σ₁.length,ak p,.ref bI.length,.int n,.int (l.getD 12 0 / 5)]) (σ₁:=lf) (aF (x:=.inst ae σ₁.length) (σ₁:=lf) rfl (aF (x:=ak p) (σ₁:=lf) rfl (aF (x:=.ref bI.length) (σ₁:=lf) rfl (aF (x:=.int n) (σ₁:=lf) rfl (aF (aC (di (x:=.fl (l.map .int)) (y:=.int ((12:Nat):Int)) (σ₁:=lf) (σ₂:=lf) rfl rfl (h12 (d:=18) hl)) (y:=.int 5) (σ₂:=lf) rfl (dz (by decide) (by decide))) rfl))))) lk)
  refine ⟨xZ,?_⟩
  have body:ex (CC 19) topN zS.body (some (PV.fl (l.map .int))::List.replicate 28 none) []=.ret (.bool true) ((RR (.fl (l.map .int)) p n σ₁.length bI.length (bI.length + 1) kk c pl tn va du ot tl).set 14 y) xZ:=
    (aa e0).trans ((aa e1).trans ((aa e2).trans ((aa e3).trans ((aa e4).trans ((aa s5).trans ((aa s6).trans ((aa s7).trans (ao s8))))))))
  exact (congrArg aX body).trans rfl
end Mine
namespace Mine
open PySem PySem.W PyProof.Rows
noncomputable abbrev uN (w:World) (os:OsState):Option Shared:=qX PySem.Challenge.pw_uf020019_03 w os topN
set_option maxRecDepth 1000000 in
set_option maxHeartbeats 80000000 in
theorem afI:∀ w os,(uN w os).map (fun s=>(PySem.W.Fast.tw4187177175401517315 (viewOf PySem.Challenge.pw_uf020019_03) [] (importedModules PySem.Challenge.pw_uf020019_03.main.body) (fun s=>xlAt (viewOf PySem.Challenge.pw_uf020019_03) [] s && recOk (RowW.records (OpenRow.toRowW PySem.Challenge.rw_uf020019_03.row)) s) true s))=some (openGood (viewOf PySem.Challenge.pw_uf020019_03) []):=fun w os=>by kernel_rfl
set_option maxRecDepth 1000000 in
set_option maxHeartbeats 80000000 in
theorem afH:∀ w os,(uN w os).map (fun s=>(qH s.heap (cG s.heap) TT,rM (cG s.heap) TT.cst,oG (cG s.heap) TT.bins))=some (true,true,true):=fun w os=>by kernel_rfl
set_option maxRecDepth 1000000 in
set_option maxHeartbeats 80000000 in
theorem afG:∀ w os,(uN w os).map (uR TT (List.take 20))=some (some (PP.fns.take 20)):=fun w os=>by kernel_rfl
set_option maxRecDepth 1000000 in
set_option maxHeartbeats 80000000 in
theorem afF:∀ w os,(uN w os).map (uR TT (List.drop 20))=some (some (PP.fns.drop 20)):=fun w os=>by kernel_rfl
theorem adM {α β γ δ ε:Type} {o:Option α} {f:α->β} {a:α->γ} {b:α->δ} {c:α->ε} {ζ:Type} {e:α->ζ} {x:β} {y:γ × δ × ε} {z:ζ} (h1:o.map f=some x) (h2:o.map (fun s=>(a s,b s,c s))=some y) (h3:o.map e=some z):o.map (fun s=>(f s,a s,b s,c s,e s))=some (x,y.1,y.2.1,y.2.2,z):=by
  cases o with
  | none=>exact nomatch h1
  | some s =>
    obtain rfl:=Option.some.inj h1
    obtain rfl:=Option.some.inj h2
    obtain rfl:=Option.some.inj h3
    rfl
theorem aeW:∀ w os,(qX PySem.Challenge.pw_uf020019_03 w os topN).map (fun s=>(PySem.W.Fast.tw4187177175401517315 (viewOf PySem.Challenge.pw_uf020019_03) [] (importedModules PySem.Challenge.pw_uf020019_03.main.body) (fun s=>xlAt (viewOf PySem.Challenge.pw_uf020019_03) [] s && recOk (RowW.records (OpenRow.toRowW PySem.Challenge.rw_uf020019_03.row)) s) true s,Hook.obs (topHook TT 40 30 PP.fns) s))=some (openGood (viewOf PySem.Challenge.pw_uf020019_03) [],Hook.val (topHook TT 40 30 PP.fns) w):=fun w os =>
  adM (afI w os) (afH w os) ((aei (afG w os) (afF w os)).trans (congrArg (fun l=>some (some l)) (List.take_append_drop 20 PP.fns)))
theorem leftX:LeftO PySem.Challenge.pw_uf020019_03 (viewOf PySem.Challenge.pw_uf020019_03) [] (fun s=>xlAt (viewOf PySem.Challenge.pw_uf020019_03) [] s && recOk (RowW.records (OpenRow.toRowW PySem.Challenge.rw_uf020019_03.row)) s) (Hook.obs (topHook TT 40 30 PP.fns)) (Hook.val (topHook TT 40 30 PP.fns)) topN:=
  ad0 (by kernel_rfl) (by rfl) (fun s=>by kernel_rfl) aeW
end Mine
open PySem PySem.W PyProof.Rows
set_option maxRecDepth 100000 in
set_option maxHeartbeats 8000000 in
theorem PySem.Challenge.cw_uf020019_03_holds : PySem.Challenge.rw_uf020019_03.Holds := by
  w_on
  refine holds_law (by decide +kernel) fun said=>?_
  refine holds_open (q:=Mine.viewOf PySem.Challenge.pw_uf020019_03) (loose:=[]) (Xt:=fun s=>xlAt (Mine.viewOf PySem.Challenge.pw_uf020019_03) [] s && recOk (RowW.records (OpenRow.toRowW PySem.Challenge.rw_uf020019_03.row)) s)
    (XP:=XL (Mine.viewOf PySem.Challenge.pw_uf020019_03) []) (Yf:=Hook.obs (Mine.topHook Mine.TT 40 30 Mine.PP.fns)) (Ya:=Hook.val (Mine.topHook Mine.TT 40 30 Mine.PP.fns)) (YP:=Hook.says (Mine.topHook Mine.TT 40 30 Mine.PP.fns)) (N:=Mine.topN)
    Mine.leftX (Hook.of (Mine.topHook Mine.TT 40 30 Mine.PP.fns)) (Hook.keeps (Mine.topHook Mine.TT 40 30 Mine.PP.fns)) (fun s e=>xl_of s (Bool.and_eq_true_iff.mp e).1) XL.keeps (by rfl) (by rfl) (by rfl) (fun s e=>recFacts_of (Bool.and_eq_true_iff.mp e).2)
    (by rfl) (by first | assumption | decide +kernel) (by decide +kernel) ⟨rfl,rfl,rfl,rfl,rfl,by decide +kernel⟩ ?hw ?hc
  (case hw=>w_witness2)
  intro w fC s₁ mg mb G Y fa o pm cd doc dV kV ho hd hcd hD hmg hg args vals as hpre hlay hrd hwl hlo
  obtain ⟨K,aM,KX,acC,k0,k1,k2,k3⟩:=Mine.Says.ex Y
  refine Ground.open G ?_
  intro T B D TE TW
  clear hd hcd hD ho TE TW D B Y
  have hmg':mg (PySem.Str.ofString "law")=some (.ref fa):=hmg
  clear hmg
  wrow_args hpre hlay hrd hwl hlo
  rename_i xs q1 q2 q3 q4 q5 q6 q7 a q8 q9 q10 q11 W q12 q13 q14 hc q15
  obtain ⟨σ,hrun⟩:=Mine.runX (l:=xs) (by omega)
  have p:Mine.PrgOk ⟨⟨s₁.heap,[],PySem.Challenge.rw_uf020019_03.row.prog,w⟩,mg,mb,Mine.TT.repl,false⟩ Mine.TT Mine.PP:=
    Mine.prgOk (n1:=40) (n2:=30) (topRead_of T) KX acC k0 k1 k2 k3 fun q=>q
  refine Mine.law_end p (f:=27) rfl hmg' (by decide) rfl W hrun fun s' hk ho hg'=>?_
  refine GoodW.toG ⟨.inl ⟨_,_,[],rfl,fun cls=>rfl,.bool true,?_,fun _=>⟨List.nodup_nil,fun a h=>by simp at h⟩⟩,hk,ho,hg'.trans hg⟩
  first | rfl | wrow_post
