import PyProof.Rows.All
import Wide.All
import OpenK.AllK
import Wide.FinOn
import PySem.Sem
import PyProof.P3Statements
import PyProof.Cells
import PyProof.WalksMore
import PyProof.Claim2
import PyProof.StrBlock2
import PyProof.StrBlockL
import PyProof.SliceMore
import PyProof.SliceStr
import PyProof.Logic
import PyProof.TupleKey
import PyProof.DictList
import PyProof.EqKinds
import PyProof.DictKinds
import PyProof.NsCount
import PyProof.Rows.IntOr
import PyProof.Rows.RuleB_pow
import PyProof.Rows.SeqMore
import PyProof.Rows.TupAdd
import PyProof.Rows.EqDataRows
import PyProof.Rows.InDataRows
import PyProof.DictRoads
import PyProof.DictRoadsH
import PyProof.DictStraight
import PyProof.Rows.TupTab
import PyProof.FactsAll.tuple_2
import PyProof.IsiPairs
import PyProof.IsiNone
import PyProof.IsiHeapPairs
import PyProof.Rows.RuleIs2
import PyProof.Rows.StrRules
import PyProof.Rows.TupSub
import PyProof.Rows.StrTemp
import PyProof.Rows.Lst
import PyProof.ListIndexNeg
import PyProof.Conv_int_bool
import PyProof.Rows.StrMul
import PyProof.Rows.ListMulCarried
import PyProof.SeqI3
import PyProof.StrLawsIn
import PyProof.Rows.SortShell
import PyProof.Rows.SetFrom
import PyProof.Rows.StrInSeq
import PyProof.SetRoads
import PyProof.CallStr
import PyProof.ConsumeWalk
import PyProof.WalkInts
import PyProof.ListCopy
import PyProof.TupleOfSeq
import PyProof.TupleCall
import PyProof.Rows.SortWalk
import PyProof.Rows.ListMade
import PyProof.CompFree
import PyProof.RangeFor
import PyProof.StrWalks
import PyProof.Rows.Range3
import PyProof.ListRange
import PyProof.ZipIter
import PyProof.TupleIter
import PyProof.EnumMake
import PyProof.EnumFor
import PyProof.EnumStmt
import PyProof.StationsW
import OpenK.KCall
import PyProof.Rows.Exc
import PyProof.ExcBaseAll.ValueError
import PyProof.ExcClsAt2
import PyProof.ExcAttrAll.ValueError
import KE.KIsAll
import OpenK.KMake
import OpenK.KWalk
import PyProof.DictDisplay
import PyProof.StrBlock
import PyProof.DefCall
import PyProof.Rows.Chain
import PyProof.Rows.StrWeight2
import PyProof.SeqRoads2
import PyProof.AutoSeq1
import PyProof.MeetsSeq
import PyProof.Rows.StrSplitJoin
import PyProof.Rows.SeqSlice
import PyProof.Rows.TupMore
import PyProof.SliceStr2
import KE.KRevSl
import PyProof.StrReplace2
import PyProof.Rows.StrLen
import PyProof.Rows.StrCase
import PyProof.ListOps
import OpenK.KCls
import PyProof.LetGo
import PyProof.Raises
import PyProof.RulesTry
import PyProof.ExcClass2
import PyProof.RulesAs
import PyProof.AssignAttr
import PyProof.Rows.TupAssign
import PyProof.StrLawsTight
import PyProof.StrLawsChain
import PyProof.Rows.StrItems
import PySem.Challenge.RW_uf020019_10
set_option autoImplicit false
set_option linter.all false
set_option Elab.async false
set_option genInjectivity false
set_option genSizeOf false
set_option bootstrap.genMatcherCode false
namespace Mine
open PySem Classical
inductive PV where
  | none | bool (b:Bool) | int (i:Int) | str (s:Str)
  | tup (xs:List PV) | fl (xs:List PV) | ref (i:Nat)
  | exc (c:Nat)
  | inst (c i:Nat)
inductive MO where
  | lst (xs:List PV)
  | ds (es:List (Str × PV))
  | dp (es:List ((Str × Int) × PV))
  | ns (fs:List (Str × PV))
  | tp
  | no
noncomputable abbrev ab:=List MO
noncomputable abbrev au:=List (Option PV)
inductive ae (α:Type) where
  | ok (a:α) (σ:ab)
  | exc (i:Nat) (σ:ab)
  | stuck
noncomputable def ae.bind {α β:Type}:ae α->(α->ab->ae β)->ae β
  | .ok a σ,f=>f a σ
  | .exc i σ,_=>.exc i σ
  | .stuck,_=>.stuck
noncomputable def ae.ofOpt {α:Type}:Option α->ab->ae α
  | some a,σ=>.ok a σ
  | none,_=>.stuck
inductive Op where | add | sub | mul | mod | fdiv | pow
inductive Cm where | eq | ne | lt | le | gt | ge | is | isNot | isin | notin
inductive Ty where | int | str | bool | tuple
  | list
inductive B1 where | len | list (fz:Bool) | tuple | all | int | str | lenset
  | sum
  | min | max
  | dict
inductive Me where | append | extend
  | get
inductive X where
  | nil | cons (a r:X)
  | k (v:PV)
  | v (i:Nat)
  | and (xs:X) | or (xs:X) | not (a:X) | neg (a:X)
  | bin (o:Op) (a b:X)
  | cmp (a:X) (o:Cm) (b:X)
  | cmp2 (a:X) (o:Cm) (b:X) (o2:Cm) (c:X)
  | lst (fz:Bool) (xs:X)
  | tup (xs:X)
  | comp (fz:Bool) (t:Nat) (cap:List (Option Nat)) (elt:X) (cond:X) (it:X)
  | range1 (a:X)
  | call (f:Nat) (args:X)
  | b1 (b:B1) (a:X)
  | min2 (a b:X)
  | isinst (a:X) (t:Ty)
  | me (m:Me) (o:X) (args:X)
  | sub (o i:X)
  | slice (o lo hi:X)
  | max2 (xs:X)
  | range3 (xs:X)
  | zip (xs:X)
  | listIt (fz:Bool) (a:X)
  | dnew (pk:Bool)
  | attr (c:Nat) (o:X) (n:Str)
  | meth (c f:Nat) (n:Str) (o args:X)
  | new (c f:Nat) (args:X)
noncomputable def ao:Nat:=1000000
noncomputable def a7 (σ:ab):PV->Option (List PV)
  | .fl xs=>some xs
  | .ref i=>match σ[i]? with
    | some (.lst xs)=>some xs
    | _=>none
  | _=>none
noncomputable def a8 (σ:ab):PV->Option (List PV)
  | .fl xs=>some xs
  | .tup xs=>some xs
  | .ref i=>match σ[i]? with
    | some (.lst xs)=>some xs
    | _=>none
  | _=>none
noncomputable def rj (s:Str):List PV:=s.cps.toList.map fun n=>.str ⟨#[n]⟩
noncomputable def am (σ:ab):PV->Option (List PV)
  | .str s=>some (rj s)
  | .fl xs=>some xs
  | .tup xs=>some xs
  | .ref i=>match σ[i]? with
    | some (.lst xs)=>some xs
    | _=>none
  | _=>none
noncomputable def cQ:Nat->ab->PV->Option PyData
  | 0,_,_=>none
  | n + 1,σ,.tup xs=>(xs.mapM (cQ n σ)).map .tuple
  | n + 1,σ,.fl xs=>(xs.mapM (cQ n σ)).map .list
  | n + 1,σ,.ref i=>match σ[i]? with
    | some (.lst xs)=>(xs.mapM (cQ n σ)).map .list
    | _=>none
  | _ + 1,_,.none=>some .none
  | _ + 1,_,.bool b=>some (.bool b)
  | _ + 1,_,.int i=>some (.int i)
  | _ + 1,_,.str s=>some (.str s)
  | _ + 1,_,.exc _=>none
  | _ + 1,_,.inst _ _=>none
noncomputable def eqv (σ:ab) (a b:PV):Option Bool:=
  match cQ 16 σ a,cQ 16 σ b with
  | some x,some y=>some (PyData.eqv x y)
  | _,_=>none
noncomputable def mz (σ:ab) (x:PV) (xs:List PV):Option Bool:=
  match cQ 16 σ x,xs.mapM (cQ 16 σ) with
  | some d,some ds=>some (ds.any fun y=>PyData.eqv y d)
  | _,_=>none
noncomputable def ac {κ:Type} [DecidableEq κ] (k:κ) (es:List (κ × PV)):Option PV:=(es.find? fun e=>decide (e.1=k)).map (·.2)
noncomputable def bL {κ:Type} [DecidableEq κ] (k:κ) (v:PV) (es:List (κ × PV)):List (κ × PV):=
  if (es.any fun e=>decide (e.1=k)) then es.map (fun e=>if e.1=k then (e.1,v) else e) else es++[(k,v)]
noncomputable def fh:PV->Option (Str × Int)
  | .tup [.str x,.int i]=>some (x,i)
  | _=>none
noncomputable def bQ (i:Int) (n:Nat):Option Nat:=
  if 0 <= i then (if i.toNat < n then some i.toNat else none)
  else if 0 <= i + n then some (i + n).toNat else none
end Mine
namespace Mine
open PySem
noncomputable def dn (o:Obj):Prop:=∃ es n,o.data=.dict es n
noncomputable def jn (o:Obj):Prop:=(∃ xs n,o.data=.seq xs n)\/(∃ C vs,o.cls=.ref C/\o.data=.fields vs)\/∃ C,o.cls=.ref C/\o.data=.plain
theorem jn.seq {c:Value} {d:Option Addr} {xs:Array Value} {n:Nat} {sl:Array (Option Value)}:jn { cls:=c,dict:=d,data:=.seq xs n,slots:=sl }:=.inl ⟨xs,n,rfl⟩
theorem dn.notSolid {o:Obj} (d:dn o):¬ jn o:=by
  obtain ⟨es,n,d⟩:=d
  rintro (⟨xs,m,e⟩ | ⟨C,vs,_,e⟩ | ⟨C,_,e⟩) <;> rw [d] at e <;> contradiction
noncomputable def ff (fr:List Addr) (h':Heap) (b:Addr) (o:Obj):Prop:=h'.get? b=some o\/(b ∈ fr/\dn o/\∃ sl,h'.get? b=some { o with slots:=sl })
theorem ff.trans {fr:List Addr} {h' h'':Heap} {b:Addr} {o:Obj} (x:ff fr h' b o) (y:∀ o',h'.get? b=some o'->ff fr h'' b o'):ff fr h'' b o:=by
  rcases x with x | ⟨f,d,sl,x⟩
  · rcases y o x with y | ⟨f,d,sl,y⟩
    · exact .inl y
    · exact .inr ⟨f,d,sl,y⟩
  · rcases y _ x with y | ⟨_,_,sl',y⟩
    · exact .inr ⟨f,d,sl,y⟩
    · exact .inr ⟨f,d,sl',y⟩
theorem ff.ns {fr:List Addr} {h h':Heap} {b:Addr} {o:Obj} {m:Str->Option Value} (n:h.Ns b m) (e:h.get? b=some o) (x:ff fr h' b o):h'.Ns b m:=by
  obtain ⟨o',es,ep,e',r⟩:=n
  rw [e] at e'; obtain rfl:=Option.some.inj e'
  rcases x with x | ⟨_,d,sl,x⟩
  · exact ⟨o,es,ep,x,r⟩
  · exact ⟨_,es,ep,x,r⟩
theorem ff.same {fr:List Addr} {h':Heap} {b:Addr} {o:Obj} (x:ff fr h' b o) (n:¬ dn o):h'.get? b=some o:=by
  rcases x with x | ⟨_,d,_⟩
  · exact x
  · exact absurd d n
theorem ff.not {fr:List Addr} {h':Heap} {b:Addr} {o:Obj} (x:ff fr h' b o) (n:b ∉ fr):h'.get? b=some o:=by
  rcases x with x | ⟨f,_⟩
  · exact x
  · exact absurd f n
structure AL where
  ix:List Addr
  hid:List Addr
  fr:List Addr
noncomputable def AL.all (α:AL):List Addr:=α.ix++α.hid
inductive VR (h:Heap) (α:AL):PV->Value->Prop where
  | none:VR h α .none .none
  | bool (b:Bool):VR h α (.bool b) (.bool b)
  | int (i:Int) (t:Tok):VR h α (.int i) (.int i t)
  | str (s:Str) (t:Tok):PyData.strOk s=true->VR h α (.str s) (.str s t)
  | tup {xs:List PV} {a:Addr} {am:Array Value} {n:Nat}:h.get? a=some { cls:=.type "tuple",data:=.seq am n }->a ∉ α.all->xs.length=am.size ->
      (∀ (i:Nat) (x:PV) (v:Value),xs[i]?=some x->am[i]?=some v->VR h α x v)->VR h α (.tup xs) (.ref a)
  | fl {xs:List PV} {a:Addr} {am:Array Value} {n:Nat}:h.get? a=some { cls:=.type "list",data:=.seq am n }->a ∉ α.all->xs.length=am.size ->
      (∀ (i:Nat) (x:PV) (v:Value),xs[i]?=some x->am[i]?=some v->VR h α x v)->VR h α (.fl xs) (.ref a)
  | ref {i:Nat} {a:Addr}:α.ix[i]?=some a->VR h α (.ref i) (.ref a)
  | exc {c:Nat} {a:Addr} {o:Obj} {vs:Array Value}:h.get? a=some o->o.cls=.ref c->o.data=.fields vs->a ∉ α.all->VR h α (.exc c) (.ref a)
  | inst {c i:Nat} {a D:Addr}:h.get? a=some { cls:=.ref c,dict:=some D,data:=.plain }->a ∉ α.all->α.ix[i]?=some D->VR h α (.inst c i) (.ref a)
structure aB (F:List Addr) (α:AL) (h:Heap) (α':AL) (h':Heap):Prop where
  hid:α'.hid=α.hid
  pre:∃ β,α'.ix=α.ix++β/\∀ x ∈ β,h.get? x=none/\x ∉ F
  seqs:∀ b o,b ∉ α.ix->h.get? b=some o->jn o->h'.get? b=some o
  rest:∀ b o,b ∉ α.ix->b ∉ F->h.get? b=some o->ff α.fr h' b o
  alive:∀ b o,b ∉ F->h.get? b=some o->∃ o',h'.get? b=some o'
  fre:α'.fr=α.fr
theorem aB.refl {F α h}:aB F α h α h:=
  ⟨rfl,⟨[],by simp,fun _ hx=>by simp at hx⟩,fun _ _ _ e _=>e,fun _ _ _ _ e=>.inl e,fun _ o _ e=>⟨o,e⟩,rfl⟩
theorem aB.keeps {F α h h'} (k:∀ b o,h.get? b=some o->h'.get? b=some o):aB F α h α h':=
  ⟨rfl,⟨[],by simp,fun _ hx=>by simp at hx⟩,fun b o _ e _=>k b o e,fun b o _ _ e=>.inl (k b o e),fun b o _ e=>⟨o,k b o e⟩,rfl⟩
theorem aB.notMem {F α h α' h'} (x:aB F α h α' h') {b:Addr} {o:Obj} (hb:b ∉ α.ix) (e:h.get? b=some o):b ∉ α'.ix:=by
  obtain ⟨β,q,hf⟩:=x.pre
  rw [q]
  intro hm
  rcases List.mem_append.mp hm with q | q
  · exact hb q
  · rw [(hf b q).1] at e; contradiction
theorem AL.not_ix {α:AL} {b:Addr} (h:b ∉ α.all):b ∉ α.ix:=fun q=>h (List.mem_append_left _ q)
theorem aB.notAll {F α h α' h'} (x:aB F α h α' h') {b:Addr} {o:Obj} (hb:b ∉ α.all) (e:h.get? b=some o):b ∉ α'.all:=by
  intro hm
  rcases List.mem_append.mp hm with q | q
  · exact x.notMem (AL.not_ix hb) e q
  · rw [x.hid] at q; exact hb (List.mem_append_right _ q)
theorem aB.mono {F F' α h α' h'} (x:aB F α h α' h') (hF:∀ b ∈ F,b ∈ F') (al:∀ b ∈ F',∃ o,h.get? b=some o):aB F' α h α' h':=by
  obtain ⟨β,e,hf⟩:=x.pre
  exact ⟨x.hid,⟨β,e,fun y hy=>⟨(hf y hy).1,fun q=>by obtain ⟨o,ho⟩:=al y q; rw [(hf y hy).1] at ho; cases ho⟩⟩,x.seqs,fun b o hb hbF e=>x.rest b o hb (fun q=>hbF (hF b q)) e,
    fun b o hb e=>x.alive b o (fun q=>hb (hF b q)) e,x.fre⟩
theorem aB.trans {F α h α' h' hW h''} (x:aB F α h α' h') (y:aB F α' h' hW h''):aB F α h hW h'':=by
  obtain ⟨β,q1,hf⟩:=x.pre
  obtain ⟨γ,q2,hg⟩:=y.pre
  refine ⟨y.hid.trans x.hid,⟨β++γ,by rw [q2,q1,List.append_assoc],fun a ha=>?_⟩,fun b o hb e hs=>?_,fun b o hb hF e=>?_,fun b o hb e=>?_,y.fre.trans x.fre⟩
  · rcases List.mem_append.mp ha with q | q
    · exact hf a q
    · refine ⟨?_,(hg a q).2⟩
      cases hq:h.get? a with
      | none=>rfl
      | some o =>
        obtain ⟨o',ho'⟩:=x.alive a o (hg a q).2 hq
        rw [(hg a q).1] at ho'; contradiction
  · exact y.seqs b o (x.notMem hb e) (x.seqs b o hb e hs) hs
  · exact (x.rest b o hb hF e).trans fun o' e'=>x.fre ▸ y.rest b o' (x.notMem hb e) hF e'
  · obtain ⟨o',e'⟩:=x.alive b o hb e
    exact y.alive b o' hb e'
theorem aB.drop {F own α h α' h' hW h''} (x:aB [] α h α' h') (hown:∀ b ∈ own,h.get? b=none) (al:∀ b ∈ F,∃ o,h.get? b=some o) (y:aB (own++F) α' h' hW h''):aB F α h hW h'':=by
  obtain ⟨β,q1,hf⟩:=x.pre
  obtain ⟨γ,q2,hg⟩:=y.pre
  have no:∀ b o,h.get? b=some o->b ∉ own:=fun b o e q=>by rw [hown b q] at e; contradiction
  refine ⟨y.hid.trans x.hid,⟨β++γ,by rw [q2,q1,List.append_assoc],fun a ha=>?_⟩,fun b o hb e hs=>?_,fun b o hb hF e=>?_,fun b o hb e=>?_,y.fre.trans x.fre⟩
  · rcases List.mem_append.mp ha with q | q
    · refine ⟨(hf a q).1,fun qF=>?_⟩
      obtain ⟨o,ho⟩:=al a qF
      rw [(hf a q).1] at ho; contradiction
    · refine ⟨?_,fun qF=>(hg a q).2 (List.mem_append_right _ qF)⟩
      cases hq:h.get? a with
      | none=>rfl
      | some o =>
        obtain ⟨o',ho'⟩:=x.alive a o (by simp) hq
        rw [(hg a q).1] at ho'; contradiction
  · exact y.seqs b o (x.notMem hb e) (x.seqs b o hb e hs) hs
  · exact (x.rest b o hb (by simp) e).trans fun o' e'=>x.fre ▸ y.rest b o' (x.notMem hb e) (fun q=>by
      rcases List.mem_append.mp q with q | q
      · exact no b o e q
      · exact hF q) e'
  · obtain ⟨o',e'⟩:=x.alive b o (by simp) e
    exact y.alive b o' (fun q=>by
      rcases List.mem_append.mp q with q | q
      · exact no b o e q
      · exact hb q) e'
theorem aB.get {F α h α' h'} (x:aB F α h α' h') {i:Nat} {a:Addr} (e:α.ix[i]?=some a):α'.ix[i]?=some a:=by
  obtain ⟨β,q,_⟩:=x.pre
  rw [q,List.getElem?_append_left (List.getElem?_eq_some_iff.mp e).1]; exact e
section
variable {h:Heap} {α:AL} {v:Value}
theorem VR.noneE (r:VR h α .none v):v=.none:=by cases r; rfl
theorem VR.boolE {b:Bool} (r:VR h α (.bool b) v):v=.bool b:=by cases r; rfl
theorem VR.intE {i:Int} (r:VR h α (.int i) v):∃ t,v=.int i t:=by cases r; exact ⟨_,rfl⟩
theorem VR.strE {x:Str} (r:VR h α (.str x) v):∃ t,v=.str x t/\PyData.strOk x=true:=by
  cases r with
  | str _ t h=>exact ⟨_,rfl,h⟩
theorem VR.refE {i:Nat} (r:VR h α (.ref i) v):∃ a,v=.ref a/\α.ix[i]?=some a:=by
  cases r with
  | ref e=>exact ⟨_,rfl,e⟩
end
theorem VR.ext {F α h α' h'} (x:aB F α h α' h') {p:PV} {v:Value} (r:VR h α p v):VR h' α' p v:=by
  induction r with
  | none=>exact .none
  | bool b=>exact .bool b
  | int i t=>exact .int i t
  | str s t hs=>exact .str s t hs
  | tup e hn hl _ ih=>exact .tup (x.seqs _ _ (AL.not_ix hn) e .seq) (x.notAll hn e) hl ih
  | fl e hn hl _ ih=>exact .fl (x.seqs _ _ (AL.not_ix hn) e .seq) (x.notAll hn e) hl ih
  | ref e=>exact .ref (x.get e)
  | exc e hc hd hn=>exact .exc (x.seqs _ _ (AL.not_ix hn) e (.inr (.inl ⟨_,_,hc,hd⟩))) hc hd (x.notAll hn e)
  | inst e hn hi=>exact .inst (x.seqs _ _ (AL.not_ix hn) e (.inr (.inr ⟨_,rfl,rfl⟩))) (x.notAll hn e) (x.get hi)
noncomputable def aN (h:Heap) (α:AL) (xs:List PV) (vs:List Value):Prop:=
  xs.length=vs.length/\∀ (i:Nat) (x:PV) (v:Value),xs[i]?=some x->vs[i]?=some v->VR h α x v
theorem aN.nil {h α}:aN h α [] []:=⟨rfl,fun _ _ _ e=>by simp at e⟩
theorem aN.cons {h α x xs v vs} (a:VR h α x v) (b:aN h α xs vs):aN h α (x::xs) (v::vs):=by
  refine ⟨by simp [b.1],fun i y w e1 e2=>?_⟩
  cases i with
  | zero=>simp at e1 e2; subst e1 e2; exact a
  | succ i=>simp at e1 e2; exact b.2 i y w e1 e2
theorem aN.ext {F α h α' h'} (x:aB F α h α' h') {p:List PV} {v:List Value} (r:aN h α p v):aN h' α' p v:=
  ⟨r.1,fun i a b e1 e2=>(r.2 i a b e1 e2).ext x⟩
theorem aN.inv_cons {h α x xs vs} (r:aN h α (x::xs) vs):∃ v vs',vs=v::vs'/\VR h α x v/\aN h α xs vs':=by
  cases vs with
  | nil=>simp [aN] at r
  | cons v vs'=>exact ⟨v,vs',rfl,r.2 0 x v (by simp) (by simp),by have:=r.1; simp at this; exact this,fun i a b e1 e2=>r.2 (i + 1) a b (by simpa using e1) (by simpa using e2)⟩
theorem aN.append {h α xs vs ys ws} (a:aN h α xs vs) (b:aN h α ys ws):aN h α (xs++ys) (vs++ws):=by
  refine ⟨by simp [a.1,b.1],fun i y w e1 e2=>?_⟩
  by_cases hi:i < xs.length
  · rw [List.getElem?_append_left hi] at e1
    rw [List.getElem?_append_left (by rw [<- a.1]; exact hi)] at e2
    exact a.2 i y w e1 e2
  · rw [List.getElem?_append_right (by omega)] at e1
    rw [List.getElem?_append_right (by rw [<- a.1]; omega),<- a.1] at e2
    exact b.2 _ y w e1 e2
theorem VR.tupI {h:Heap} {α:AL} {xs:List PV} {a:Addr} {am:List Value} {n:Nat} (e:h.get? a=some { cls:=.type "tuple",data:=.seq am.toArray n }) (hn:a ∉ α.all) (r:aN h α xs am):VR h α (.tup xs) (.ref a):=
  .tup e hn (by simpa using r.1) fun i x v e1 e2=>r.2 i x v e1 (by simpa using e2)
theorem VR.flI {h:Heap} {α:AL} {xs:List PV} {a:Addr} {am:List Value} {n:Nat} (e:h.get? a=some { cls:=.type "list",data:=.seq am.toArray n }) (hn:a ∉ α.all) (r:aN h α xs am):VR h α (.fl xs) (.ref a):=
  .fl e hn (by simpa using r.1) fun i x v e1 e2=>r.2 i x v e1 (by simpa using e2)
inductive SeqAt (T:String) (h:Heap) (α:AL) (xs:List PV) (v:Value):Prop
  | mk (a:Addr) (am:List Value) (n:Nat) (e:v=.ref a) (ht:h.get? a=some { cls:=.type T,data:=.seq (List.toArray am) n }) (hn:a ∉ α.all) (vs:aN h α xs am):SeqAt T h α xs v
theorem VR.tupE {h:Heap} {α:AL} {xs:List PV} {v:Value} (r:VR h α (.tup xs) v):SeqAt "tuple" h α xs v:=by
  cases r with
  | tup e hn hl hr=>exact ⟨_,_,_,rfl,by simpa using e,hn,by simpa using hl,fun i x v e1 e2=>hr i x v e1 (by simpa using e2)⟩
theorem VR.flE {h:Heap} {α:AL} {xs:List PV} {v:Value} (r:VR h α (.fl xs) v):SeqAt "list" h α xs v:=by
  cases r with
  | fl e hn hl hr=>exact ⟨_,_,_,rfl,by simpa using e,hn,by simpa using hl,fun i x v e1 e2=>hr i x v e1 (by simpa using e2)⟩
end Mine
namespace Mine
open PySem Classical
structure bc where
  calls:Nat->Nat->List PV->ab->ae PV
  md:Nat
noncomputable abbrev bc.call (C:bc):Nat->List PV->ab->ae PV:=C.calls C.md
noncomputable def bc.hd (C:bc):Bool:=C.md != 0
noncomputable def cK (w:Option (Nat × MO)) (σ:ab):Prop:=
  match w with
  | none=>True
  | some (i,m)=>σ[i]?=some m
noncomputable def zM:Option PV->List PV->List PV
  | some v,ys=>v::ys
  | none,ys=>ys
noncomputable def bG (w:Option (Nat × MO)) (f:PV->ab->ae (Option PV)):List PV->ab->ae (List PV)
  | [],σ=>if cK w σ then .ok [] σ else .stuck
  | x::xs,σ=>if cK w σ then (f x σ).bind fun y σ=>(bG w f xs σ).bind fun ys σ=>.ok (zM y ys) σ else .stuck
noncomputable def d4 (n:Nat) (c:ae (List PV)) (f:List PV->ab->ae PV):ae PV:=
  match c with
  | .ok ys σ=>f ys σ
  | _=>.stuck
noncomputable def sD (σ:ab):PV->Option (Nat × MO)
  | .ref i=>match σ[i]? with
    | some (.lst xs)=>some (i,.lst xs)
    | _=>none
  | _=>none
noncomputable def bh (fz:Bool) (xs:List PV) (σ:ab):ae PV:=
  if xs.length <= ao then (if fz then .ok (.fl xs) σ else .ok (.ref σ.length) (σ++[.lst xs])) else .stuck
noncomputable def aq (a c:Int) (n:Nat):List PV:=(List.range n).map fun (i:Nat)=>.int (a + (i:Int) * c)
noncomputable def pg (a b:Int):Bool:=decide (a.natAbs < 2 ^ 60\/b.natAbs < 2 ^ 60)
noncomputable def sw (f:Int->Int->ae PV) (a b:PV):ae PV:=
  match a with
  | .int x=>match b with
    | .int y=>f x y
    | _=>.stuck
  | _=>.stuck
noncomputable def zX (a b:PV) (σ:ab):ae PV:=
  match a with
  | .int x=>match b with
    | .int y=>.ok (.int (x + y)) σ
    | _=>.stuck
  | .str x=>match b with
    | .str y=>if x.length + y.length <= ao then .ok (.str (x++y)) σ else .stuck
    | _=>.stuck
  | .tup x=>match b with
    | .tup y=>if x.length + y.length <= ao then .ok (.tup (x++y)) σ else .stuck
    | _=>.stuck
  | a=>match a7 σ a with
    | some x=>match a7 σ b with
      | some y=>if x.length + y.length <= ao then .ok (.fl (x++y)) σ else .stuck
      | none=>.stuck
    | none=>.stuck
noncomputable def afk (a b:PV) (σ:ab):ae PV:=
  match b with
  | .int y=>match a with
    | .int x=>if pg x y then .ok (.int (x * y)) σ else .stuck
    | .str x=>if x.length <= 100/\0 <= y/\y <= 100 then .ok (.str (Txt.mul x y)) σ else .stuck
    | _=>.stuck
  | _=>.stuck
noncomputable def fP (o:Op) (a b:PV) (σ:ab):ae PV:=
  match o with
  | .add=>zX a b σ
  | .sub=>sw (fun x y=>.ok (.int (x - y)) σ) a b
  | .mul=>afk a b σ
  | .mod=>sw (fun x y=>if y=0 then .stuck else .ok (.int (x.fmod y)) σ) a b
  | .fdiv=>sw (fun x y=>if y ≠ 0/\y.natAbs < 1073741824 then .ok (.int (x.fdiv y)) σ else .stuck) a b
  | .pow=>sw (fun x n=>if 0 <= n/\n <= 100/\x=10 then .ok (.int (x ^ n.toNat)) σ else .stuck) a b
noncomputable def v7 (f:Int->Int->Bool) (a b:PV) (σ:ab):ae Bool:=
  match a with
  | .int x=>match b with
    | .int y=>.ok (f x y) σ
    | _=>.stuck
  | _=>.stuck
noncomputable def gd:PV->Bool
  | .none=>true
  | _=>false
noncomputable def isv (f:Bool->Bool) (a b:PV) (σ:ab):ae Bool:=
  match b with
  | .none=>.ok (f (gd a)) σ
  | .bool y=>match a with
    | .bool x=>.ok (f (decide (x=y))) σ
    | _=>.stuck
  | _=>.stuck
noncomputable def b9 (a b:PV) (σ:ab):Option Bool:=
  match b with
  | .str y=>match a with
    | .str x=>match x.cps.toList with
      | [c]=>some (y.cps.toList.contains c)
      | _=>none
    | _=>none
  | .tup xs=>mz σ a xs
  | .fl xs=>mz σ a xs
  | .ref r=>match σ[r]? with
    | some (.lst xs)=>mz σ a xs
    | some (.ds es)=>match a with
      | .str k=>some (ac k es).isSome
      | _=>none
    | some (.dp es)=>(fh a).map fun k=>(ac k es).isSome
    | _=>none
  | _=>none
noncomputable def bp (o:Cm) (a b:PV) (σ:ab):ae Bool:=
  match o with
  | .eq=>ae.ofOpt (eqv σ a b) σ
  | .ne=>ae.ofOpt ((eqv σ a b).map (!·)) σ
  | .lt=>v7 (fun x y=>decide (x < y)) a b σ
  | .le=>v7 (fun x y=>decide (x <= y)) a b σ
  | .gt=>v7 (fun x y=>decide (x > y)) a b σ
  | .ge=>v7 (fun x y=>decide (x >= y)) a b σ
  | .is=>isv id a b σ
  | .isNot=>isv (!·) a b σ
  | .isin=>ae.ofOpt (b9 a b σ) σ
  | .notin=>ae.ofOpt ((b9 a b σ).map (!·)) σ
noncomputable def bF:List PV->Option (List Int)
  | []=>some []
  | .int i::r=>(bF r).map (i::·)
  | _::_=>none
noncomputable def dl:List PV->Option (List Bool)
  | []=>some []
  | .bool b::r=>(dl r).map (b::·)
  | _::_=>none
noncomputable def c8:List PV->Option (List Str)
  | []=>some []
  | .str s::r=>(c8 r).map (s::·)
  | _::_=>none
noncomputable def bV (l:List Str):List Str:=l.foldl (fun a x=>if a.any (· == x) then a else a++[x]) []
noncomputable def j9 (f:List PV->ae PV) (a:PV) (σ:ab):ae PV:=
  match a8 σ a with
  | some xs=>f xs
  | none=>.stuck
noncomputable def cX {α:Type} (g:List PV->Option α) (f:α->ae PV) (a:PV) (σ:ab):ae PV:=
  match (a7 σ a).bind g with
  | some l=>f l
  | none=>.stuck
noncomputable def agN (a:PV) (σ:ab):ae PV:=
  match a with
  | .str s=>if s.length <= ao then .ok (.int s.length) σ else .stuck
  | a=>j9 (fun xs=>if xs.length <= ao then .ok (.int xs.length) σ else .stuck) a σ
noncomputable def agO (a:PV) (σ:ab):ae PV:=
  match a with
  | .bool b=>.ok (.int (if b then 1 else 0)) σ
  | _=>.stuck
noncomputable def agK (a:PV) (σ:ab):ae PV:=
  match a with
  | .str s=>.ok (.str s) σ
  | .int i=>if 0 <= i/\i < 1000000000 then .ok (.str (Str.ofString (toString i))) σ else .stuck
  | _=>.stuck
noncomputable def afM:List PV->List ((Str × Int) × PV)->Option (List ((Str × Int) × PV))
  | [],es=>some es
  | .tup [k,v]::r,es=>match fh k with
    | some k=>afM r (bL k v es)
    | none=>none
  | _::_,_=>none
noncomputable def agx (a:PV) (σ:ab):ae PV:=
  match a with
  | .ref r=>match σ[r]? with
    | some (.dp es)=>if es.length <= ao then .ok (.ref σ.length) (σ++[.dp es]) else .stuck
    | _=>.stuck
  | .fl xs=>match afM xs [] with
    | some es=>if xs.length <= ao then .ok (.ref σ.length) (σ++[.dp es]) else .stuck
    | none=>.stuck
  | _=>.stuck
noncomputable def cC (b:B1) (a:PV) (σ:ab):ae PV:=
  match b with
  | .dict=>agx a σ
  | .len=>agN a σ
  | .list fz=>j9 (fun xs=>bh fz xs σ) a σ
  | .tuple=>j9 (fun xs=>if xs.length <= ao then .ok (.tup xs) σ else .stuck) a σ
  | .sum=>cX bF (fun l=>if l.length <= 1000/\l.all (fun x=>decide (x.natAbs < 2 ^ 40)) then .ok (.int l.sum) σ else .stuck) a σ
  | .min=>cX bF (fun l=>match l with
    | x::l=>.ok (.int (l.foldl min x)) σ
    | []=>.stuck) a σ
  | .max=>cX bF (fun l=>match l with
    | x::l=>.ok (.int (l.foldl max x)) σ
    | []=>.stuck) a σ
  | .all=>cX dl (fun l=>.ok (.bool (l.all id)) σ) a σ
  | .int=>agO a σ
  | .str=>agK a σ
  | .lenset=>match (a8 σ a).bind c8 with
    | some l=>if l.length <= 1000 then .ok (.int (bV l).length) σ else .stuck
    | none=>.stuck
noncomputable def vg:B1->Bool
  | .all | .lenset=>true
  | .sum=>true
  | .min | .max=>true
  | .dict=>true
  | _=>false
noncomputable def kK (hd:Bool) (b:B1) (a:PV) (σ:ab):ae PV:=bif hd && vg b then .stuck else cC b a σ
noncomputable def ga (a:PV) (t:Ty) (σ:ab):ae Bool:=
  match t with
  | .int=>match a with
    | .int _=>.ok true σ
    | .bool _=>.ok true σ
    | .none=>.ok false σ
    | .str _=>.ok false σ
    | _=>.stuck
  | .bool=>match a with
    | .bool _=>.ok true σ
    | .int _=>.ok false σ
    | .none=>.ok false σ
    | .str _=>.ok false σ
    | _=>.stuck
  | .str=>match a with
    | .str _=>.ok true σ
    | .int _=>.ok false σ
    | .none=>.ok false σ
    | .bool _=>.ok false σ
    | .tup _=>.ok false σ
    | _=>.stuck
  | .tuple=>match a with
    | .tup _=>.ok true σ
    | .str _=>.ok false σ
    | .int _=>.ok false σ
    | _=>.stuck
  | .list=>match a with
    | .tup _=>.ok false σ
    | a=>match a7 σ a with
      | some _=>.ok true σ
      | none=>.stuck
noncomputable def jE (xs:List PV) (i:Int) (σ:ab):ae PV:=if xs.length <= ao then ae.ofOpt ((bQ i xs.length).bind (xs[·]?)) σ else .stuck
noncomputable def p9 (o i:PV) (σ:ab):ae PV:=
  match o with
  | .ref r=>match σ[r]? with
    | some (.ds es)=>match i with
      | .str k=>ae.ofOpt (ac k es) σ
      | _=>.stuck
    | some (.dp es)=>ae.ofOpt ((fh i).bind fun k=>ac k es) σ
    | _=>.stuck
  | _=>.stuck
noncomputable def dg (o i:PV) (σ:ab):ae PV:=
  match i with
  | .int i=>match o with
    | .str s=>if s.cps.size <= ao then
        match (bQ i s.cps.size).bind (s.cps[·]?) with
        | some c=>.ok (.str ⟨#[c]⟩) σ
        | none=>.stuck
      else .stuck
    | .tup xs=>jE xs i σ
    | o=>match a7 σ o with
      | some xs=>jE xs i σ
      | none=>.stuck
  | i=>p9 o i σ
noncomputable def gD:PV->Option (Option Int)
  | .none=>some none
  | .int i=>some (some i)
  | _=>none
noncomputable def bI {α:Type} (xs:List α) (lo hi:Option Int):List α:=
  (xs.drop (lo.elim 0 (clipAt xs.length))).take (hi.elim xs.length (clipAt xs.length) - lo.elim 0 (clipAt xs.length))
noncomputable def yl (σ:ab) (o:PV) (lo hi:Option Int):Option PV:=
  match o with
  | o=>(a7 σ o).bind fun xs=>if xs.length <= ao then some (.fl (bI xs lo hi)) else none
noncomputable def dy (o lo hi:PV) (σ:ab):ae PV:=ae.ofOpt ((gD lo).bind fun lo=>(gD hi).bind fun hi=>yl σ o lo hi) σ
noncomputable def afi (a:PV) (σ:ab):ae PV:=
  match a with
  | .int i=>.ok (.int (-i)) σ
  | _=>.stuck
noncomputable def jg (o:PV) (σ:ab):Bool:=
  match o with
  | .ref r=>match σ[r]? with
    | some (.lst _)=>true
    | _=>false
  | _=>false
noncomputable def age:PV->Bool
  | .str _=>true
  | _=>false
noncomputable def rK (o:PV) (σ:ab):Bool:=
  match o with
  | .ref r=>match σ[r]? with
    | some (.ds _)=>true
    | some (.dp _)=>true
    | _=>false
  | _=>false
noncomputable def qh (m:Me) (o:PV) (σ:ab):Bool:=
  match m with
  | .append | .extend=>jg o σ
  | .get=>rK o σ
noncomputable def eZ (o v:PV) (σ:ab):ae PV:=
  match o with
  | .ref r=>match σ[r]? with
    | some (.lst xs)=>if xs.length < ao then .ok .none (σ.set r (.lst (xs++[v]))) else .stuck
    | _=>.stuck
  | _=>.stuck
noncomputable def eY (o v:PV) (σ:ab):ae PV:=
  match o with
  | .ref r=>match σ[r]? with
    | some (.lst xs)=>match v with
      | .tup ys=>if xs.length + ys.length <= ao then .ok .none (σ.set r (.lst (xs++ys))) else .stuck
      | .fl ys=>if xs.length + ys.length <= ao then .ok .none (σ.set r (.lst (xs++ys))) else .stuck
      | _=>.stuck
    | _=>.stuck
  | _=>.stuck
noncomputable def qk (o v:PV) (σ:ab):ae PV:=
  match o with
  | .ref r=>match σ[r]? with
    | some (.ds es)=>match v with
      | .str k=>.ok ((ac k es).getD .none) σ
      | _=>.stuck
    | some (.dp es)=>match fh v with
      | some k=>.ok ((ac k es).getD .none) σ
      | none=>.stuck
    | _=>.stuck
  | _=>.stuck
noncomputable def lr (m:Me) (o:PV) (args:List PV) (σ:ab):ae PV:=
  match args with
  | [v]=>match m with
    | .append=>eZ o v σ
    | .extend=>eY o v σ
    | .get=>qk o v σ
  | _=>.stuck
noncomputable def rE (x y:PV) (σ:ab):ae PV:=
  match x,y with
  | .int x,.int y=>.ok (.int (min x y)) σ
  | _,_=>.stuck
noncomputable def af7 (x y:PV) (σ:ab):ae PV:=
  match x,y with
  | .int x,.int y=>.ok (.int (max x y)) σ
  | _,_=>.stuck
noncomputable def pi (vs:List PV) (σ:ab):ae PV:=
  match vs with
  | [a,b]=>af7 a b σ
  | _=>.stuck
noncomputable def sv (c:Nat) (o:PV) (n:Str) (σ:ab):ae PV:=
  match o with
  | .inst c' i=>if c'=c then (match σ[i]? with
    | some (.ns fs)=>ae.ofOpt (ac n fs) σ
    | _=>.stuck) else .stuck
  | _=>.stuck
noncomputable def cP (v:PV) (σ:ab):ae Bool:=
  match v with
  | .bool b=>.ok b σ
  | _=>.stuck
noncomputable def mR (v:PV) (σ:ab):ae (List PV × Option (Nat × MO)):=
  match am σ v with
  | some xs=>.ok (xs,sD σ v) σ
  | none=>.stuck
noncomputable def f9 (a:PV) (σ:ab):ae (List PV × Option (Nat × MO)):=
  match a with
  | .int n=>if 0 <= n/\n <= ao then .ok (aq 0 1 n.toNat,none) σ else .stuck
  | _=>.stuck
noncomputable def jq (a b c:PV) (σ:ab):ae (List PV × Option (Nat × MO)):=
  match a,b,c with
  | .int a,.int b,.int c=>if c ≠ 0/\a.natAbs <= ao/\b.natAbs <= ao/\c.natAbs <= ao then .ok (aq a c (Builtin.Range.rangeSize a b c).toNat,none) σ else .stuck
  | _,_,_=>.stuck
noncomputable def pe (vs:List PV) (σ:ab):ae (List PV × Option (Nat × MO)):=
  match vs with
  | [a,b,c]=>jq a b c σ
  | _=>.stuck
noncomputable def gx:List PV->List PV->List PV
  | x::r,y::q=>.tup [x,y]::gx r q
  | _,_=>[]
noncomputable def sA (a b:PV) (σ:ab):ae (List PV × Option (Nat × MO)):=
  match a,b with
  | .tup xs,.fl ys=>if xs.length=ys.length/\ys.length <= ao then .ok (gx xs ys,some (σ.length,.tp)) (σ++[.tp]) else .stuck
  | _,_=>.stuck
noncomputable def yJ (vs:List PV) (σ:ab):ae (List PV × Option (Nat × MO)):=
  match vs with
  | [a,b]=>sA a b σ
  | _=>.stuck
noncomputable def aY (cap:List (Option Nat)) (ρ:au):au:=cap.map fun (o:Option Nat)=>match o with | some i=>(ρ[i]?).join | none=>none
noncomputable def yN (ρ:au) (i:Nat) (σ:ab):ae PV:=
  match ρ[i]? with
  | some (some v)=>.ok v σ
  | _=>.stuck
structure i8 where
  ev:au->ab->ae PV
  tst:au->ab->ae Bool
  evs:au->ab->ae (List PV)
  evAnd:au->ab->ae PV
  evOr:au->ab->ae PV
  tstAnd:au->ab->ae Bool
  tstOr:au->ab->ae Bool
  evIt:au->ab->ae (List PV × Option (Nat × MO))
noncomputable def i8.two (e:au->ab->ae PV) (t:au->ab->ae Bool):i8:=
  ⟨e,t,fun _ _=>.stuck,fun _ _=>.stuck,fun _ _=>.stuck,fun _ _=>.stuck,fun _ _=>.stuck,fun ρ σ=>(e ρ σ).bind mR⟩
noncomputable def i8.val (e:au->ab->ae PV):i8:=i8.two e fun ρ σ=>(e ρ σ).bind cP
noncomputable def i8.nil:i8:=
  ⟨fun _ _=>.stuck,fun _ _=>.stuck,fun _ σ=>.ok [] σ,fun _ _=>.stuck,fun _ _=>.stuck,fun _ σ=>.ok true σ,fun _ σ=>.ok false σ,fun _ _=>.stuck⟩
noncomputable def i8.cons (a:i8) (last:Bool) (r:i8):i8:=
  ⟨fun _ _=>.stuck,fun _ _=>.stuck,fun ρ σ=>(a.ev ρ σ).bind fun v σ=>(r.evs ρ σ).bind fun vs σ=>.ok (v::vs) σ,
    fun ρ σ=>if last then a.ev ρ σ else (a.ev ρ σ).bind fun v σ=>(cP v σ).bind fun b σ=>if b then r.evAnd ρ σ else .ok v σ,
    fun ρ σ=>if last then a.ev ρ σ else (a.ev ρ σ).bind fun v σ=>(cP v σ).bind fun b σ=>if b then .ok v σ else r.evOr ρ σ,
    fun ρ σ=>(a.tst ρ σ).bind fun b σ=>if b then r.tstAnd ρ σ else .ok false σ,
    fun ρ σ=>(a.tst ρ σ).bind fun b σ=>if b then .ok true σ else r.tstOr ρ σ,
    fun _ _=>.stuck⟩
noncomputable def i8.it (f:au->ab->ae (List PV × Option (Nat × MO))):i8:=
  ⟨fun _ _=>.stuck,fun _ _=>.stuck,fun _ _=>.stuck,fun _ _=>.stuck,fun _ _=>.stuck,fun _ _=>.stuck,fun _ _=>.stuck,f⟩
noncomputable def X.isNil:X->Bool
  | .nil=>true
  | _=>false
noncomputable def ka (C:bc) (c f:Nat) (n:Str) (x:PV) (args:ab->ae (List PV)) (σ:ab):ae PV:=
  match x with
  | .inst c' i=>if c'=c then (match σ[i]? with
    | some (.ns fs)=>(match ac n fs with
      | none=>(args σ).bind fun vs σ=>C.call f (.inst c' i::vs) σ
      | some _=>.stuck)
    | _=>.stuck) else .stuck
  | _=>.stuck
noncomputable def mx (C:bc) (c f:Nat) (vs:List PV) (σ:ab):ae PV:=
  (C.call f (.inst c σ.length::vs) (σ++[.ns []])).bind fun v σ'=>match v with
    | .none=>.ok (.inst c σ.length) σ'
    | _=>.stuck
noncomputable def bk (C:bc):X->i8
  | .nil=>i8.nil
  | .cons a r=>i8.cons (bk C a) r.isNil (bk C r)
  | .k v=>.val fun _ σ=>.ok v σ
  | .v i=>.val fun ρ σ=>yN ρ i σ
  | .and xs=>.two (bk C xs).evAnd (bk C xs).tstAnd
  | .or xs=>.two (bk C xs).evOr (bk C xs).tstOr
  | .not a=>.two (fun ρ σ=>((bk C a).ev ρ σ).bind fun v σ=>(cP v σ).bind fun b σ=>.ok (.bool (!b)) σ) (fun ρ σ=>((bk C a).tst ρ σ).bind fun b σ=>.ok (!b) σ)
  | .neg a=>.val fun ρ σ=>((bk C a).ev ρ σ).bind afi
  | .bin o a b=>.val fun ρ σ=>((bk C a).ev ρ σ).bind fun x σ=>((bk C b).ev ρ σ).bind fun y σ=>fP o x y σ
  | .cmp a o b=>.two (fun ρ σ=>((bk C a).ev ρ σ).bind fun x σ=>((bk C b).ev ρ σ).bind fun y σ=>(bp o x y σ).bind fun r σ=>.ok (.bool r) σ)
      (fun ρ σ=>((bk C a).ev ρ σ).bind fun x σ=>((bk C b).ev ρ σ).bind fun y σ=>bp o x y σ)
  | .cmp2 a o b o2 c=>.two (fun ρ σ=>((bk C a).ev ρ σ).bind fun x σ=>((bk C b).ev ρ σ).bind fun y σ=>(bp o x y σ).bind fun r σ =>
      if r then ((bk C c).ev ρ σ).bind fun z σ=>(bp o2 y z σ).bind fun r σ=>.ok (.bool r) σ else .ok (.bool false) σ)
      (fun ρ σ=>((bk C a).ev ρ σ).bind fun x σ=>((bk C b).ev ρ σ).bind fun y σ=>(bp o x y σ).bind fun r σ =>
      if r then ((bk C c).ev ρ σ).bind fun z σ=>bp o2 y z σ else .ok false σ)
  | .lst fz xs=>.val fun ρ σ=>((bk C xs).evs ρ σ).bind fun vs σ=>bh fz vs σ
  | .tup xs=>.val fun ρ σ=>((bk C xs).evs ρ σ).bind fun vs σ=>if vs.length <= ao then .ok (.tup vs) σ else .stuck
  | .comp fz t cap elt cond it=>.val fun ρ σ=>bif C.hd then .stuck else ((bk C it).evIt ρ σ).bind fun (xs,w) σ =>
      d4 xs.length (bG w (fun x σ =>
        ((bk C cond).tst ((aY cap ρ).set t (some x)) σ).bind fun b σ=>if b then ((bk C elt).ev ((aY cap ρ).set t (some x)) σ).bind fun v σ=>.ok (some v) σ else .ok none σ) xs σ) fun ys σ=>bh fz ys σ
  | .range1 a=>.it fun ρ σ=>((bk C a).ev ρ σ).bind f9
  | .range3 xs=>.it fun ρ σ=>((bk C xs).evs ρ σ).bind pe
  | .zip xs=>.it fun ρ σ=>((bk C xs).evs ρ σ).bind yJ
  | .listIt fz a=>.val fun ρ σ=>bif C.hd then .stuck else ((bk C a).evIt ρ σ).bind fun p σ=>bh fz p.1 σ
  | .dnew pk=>.val fun _ σ=>.ok (.ref σ.length) (σ++[bif pk then .dp [] else .ds []])
  | .attr c o n=>.val fun ρ σ=>((bk C o).ev ρ σ).bind fun x σ=>sv c x n σ
  | .meth c f n o args=>.val fun ρ σ=>((bk C o).ev ρ σ).bind fun x σ=>ka C c f n x (fun σ=>(bk C args).evs ρ σ) σ
  | .new c f args=>.val fun ρ σ=>((bk C args).evs ρ σ).bind fun vs σ=>mx C c f vs σ
  | .max2 xs=>.val fun ρ σ=>bif C.hd then .stuck else ((bk C xs).evs ρ σ).bind pi
  | .call f args=>.val fun ρ σ=>((bk C args).evs ρ σ).bind fun vs σ=>C.call f vs σ
  | .b1 b a=>.val fun ρ σ=>((bk C a).ev ρ σ).bind fun v σ=>kK C.hd b v σ
  | .min2 a b=>.val fun ρ σ=>bif C.hd then .stuck else ((bk C a).ev ρ σ).bind fun x σ=>((bk C b).ev ρ σ).bind fun y σ=>rE x y σ
  | .isinst a t=>.val fun ρ σ=>((bk C a).ev ρ σ).bind fun v σ=>(ga v t σ).bind fun b σ=>.ok (.bool b) σ
  | .me m o args=>.val fun ρ σ=>((bk C o).ev ρ σ).bind fun r σ=>if qh m r σ then ((bk C args).evs ρ σ).bind fun vs σ=>lr m r vs σ else .stuck
  | .sub o i=>.val fun ρ σ=>((bk C o).ev ρ σ).bind fun x σ=>((bk C i).ev ρ σ).bind fun y σ=>dg x y σ
  | .slice o lo hi=>.val fun ρ σ=>((bk C o).ev ρ σ).bind fun x σ=>((bk C lo).ev ρ σ).bind fun a σ=>((bk C hi).ev ρ σ).bind fun b σ=>dy x a b σ
noncomputable def ev (C:bc) (x:X) (ρ:au) (σ:ab):ae PV:=(bk C x).ev ρ σ
noncomputable def evs (C:bc) (x:X) (ρ:au) (σ:ab):ae (List PV):=(bk C x).evs ρ σ
noncomputable def evAnd (C:bc) (x:X) (ρ:au) (σ:ab):ae PV:=(bk C x).evAnd ρ σ
noncomputable def evOr (C:bc) (x:X) (ρ:au) (σ:ab):ae PV:=(bk C x).evOr ρ σ
noncomputable def tst (C:bc) (x:X) (ρ:au) (σ:ab):ae Bool:=(bk C x).tst ρ σ
noncomputable def tstAnd (C:bc) (x:X) (ρ:au) (σ:ab):ae Bool:=(bk C x).tstAnd ρ σ
noncomputable def tstOr (C:bc) (x:X) (ρ:au) (σ:ab):ae Bool:=(bk C x).tstOr ρ σ
noncomputable def evIt (C:bc) (x:X) (ρ:au) (σ:ab):ae (List PV × Option (Nat × MO)):=(bk C x).evIt ρ σ
section
variable {C:bc} {ρ:au} {σ:ab}
theorem agS {i:Nat}:ev C (.v i) ρ σ=yN ρ i σ:=rfl
theorem agu {xs:X}:ev C (.or xs) ρ σ=evOr C xs ρ σ:=rfl
theorem afH {a:X}:ev C (.not a) ρ σ=(ev C a ρ σ).bind fun v σ=>(cP v σ).bind fun b σ=>.ok (.bool (!b)) σ:=rfl
theorem afJ {o:Op} {a b:X}:ev C (.bin o a b) ρ σ=(ev C a ρ σ).bind fun x σ=>(ev C b ρ σ).bind fun y σ=>fP o x y σ:=rfl
theorem afI {o:Cm} {a b:X}:ev C (.cmp a o b) ρ σ=(ev C a ρ σ).bind fun x σ=>(ev C b ρ σ).bind fun y σ=>(bp o x y σ).bind fun r σ=>.ok (.bool r) σ:=rfl
theorem aeH {o o2:Cm} {a b c:X}:ev C (.cmp2 a o b o2 c) ρ σ=(ev C a ρ σ).bind fun x σ=>(ev C b ρ σ).bind fun y σ=>(bp o x y σ).bind fun r σ =>
      if r then (ev C c ρ σ).bind fun z σ=>(bp o2 y z σ).bind fun r σ=>.ok (.bool r) σ else .ok (.bool false) σ:=rfl
theorem abv {fz:Bool} {xs:X}:ev C (.lst fz xs) ρ σ=(evs C xs ρ σ).bind fun vs σ=>bh fz vs σ:=rfl
theorem afF {xs:X}:ev C (.tup xs) ρ σ=(evs C xs ρ σ).bind fun vs σ=>if vs.length <= ao then .ok (.tup vs) σ else .stuck:=rfl
theorem jt {fz:Bool} {t:Nat} {cap:List (Option Nat)} {elt cond it:X}:ev C (.comp fz t cap elt cond it) ρ σ=bif C.hd then .stuck else (evIt C it ρ σ).bind fun (xs,w) σ =>
      d4 xs.length (bG w (fun x σ =>
        (tst C cond ((aY cap ρ).set t (some x)) σ).bind fun b σ=>if b then (ev C elt ((aY cap ρ).set t (some x)) σ).bind fun v σ=>.ok (some v) σ else .ok none σ) xs σ) fun ys σ=>bh fz ys σ:=rfl
theorem pn {f:Nat} {args:X}:ev C (.call f args) ρ σ=(evs C args ρ σ).bind fun vs σ=>C.call f vs σ:=rfl
theorem adI {b:B1} {a:X}:ev C (.b1 b a) ρ σ=(ev C a ρ σ).bind fun v σ=>kK C.hd b v σ:=rfl
theorem aeF {a b:X}:ev C (.min2 a b) ρ σ=bif C.hd then .stuck else (ev C a ρ σ).bind fun x σ=>(ev C b ρ σ).bind fun y σ=>rE x y σ:=rfl
theorem abw {a:X} {t:Ty}:ev C (.isinst a t) ρ σ=(ev C a ρ σ).bind fun v σ=>(ga v t σ).bind fun b σ=>.ok (.bool b) σ:=rfl
theorem adH {m:Me} {o args:X}:ev C (.me m o args) ρ σ=(ev C o ρ σ).bind fun r σ=>if qh m r σ then (evs C args ρ σ).bind fun vs σ=>lr m r vs σ else .stuck:=rfl
theorem afG {o i:X}:ev C (.sub o i) ρ σ=(ev C o ρ σ).bind fun x σ=>(ev C i ρ σ).bind fun y σ=>dg x y σ:=rfl
theorem w5 {o lo hi:X}:ev C (.slice o lo hi) ρ σ=(ev C o ρ σ).bind fun x σ=>(ev C lo ρ σ).bind fun a σ=>(ev C hi ρ σ).bind fun b σ=>dy x a b σ:=rfl
theorem cu:evs C .nil ρ σ=.ok [] σ:=rfl
theorem dj {a r:X}:evs C (.cons a r) ρ σ=(ev C a ρ σ).bind fun v σ=>(evs C r ρ σ).bind fun vs σ=>.ok (v::vs) σ:=rfl
theorem oR:evAnd C .nil ρ σ=.stuck:=rfl
theorem oQ {a:X}:evAnd C (.cons a .nil) ρ σ=ev C a ρ σ:=rfl
theorem gY {a b r:X}:evAnd C (.cons a (.cons b r)) ρ σ=(ev C a ρ σ).bind fun v σ=>(cP v σ).bind fun t σ=>if t then evAnd C (.cons b r) ρ σ else .ok v σ:=rfl
theorem qG:evOr C .nil ρ σ=.stuck:=rfl
theorem qE {a:X}:evOr C (.cons a .nil) ρ σ=ev C a ρ σ:=rfl
theorem kH {a b r:X}:evOr C (.cons a (.cons b r)) ρ σ=(ev C a ρ σ).bind fun v σ=>(cP v σ).bind fun t σ=>if t then .ok v σ else evOr C (.cons b r) ρ σ:=rfl
theorem adR {a:X}:tst C (.not a) ρ σ=(tst C a ρ σ).bind fun b σ=>.ok (!b) σ:=rfl
theorem adS {o:Cm} {a b:X}:tst C (.cmp a o b) ρ σ=(ev C a ρ σ).bind fun x σ=>(ev C b ρ σ).bind fun y σ=>bp o x y σ:=rfl
theorem abW {o o2:Cm} {a b c:X}:tst C (.cmp2 a o b o2 c) ρ σ=(ev C a ρ σ).bind fun x σ=>(ev C b ρ σ).bind fun y σ=>(bp o x y σ).bind fun r σ =>
      if r then (ev C c ρ σ).bind fun z σ=>bp o2 y z σ else .ok false σ:=rfl
theorem abX {f:Nat} {args:X}:tst C (.call f args) ρ σ=(ev C (.call f args) ρ σ).bind cP:=rfl
theorem aeW {b:B1} {a:X}:tst C (.b1 b a) ρ σ=(ev C (.b1 b a) ρ σ).bind cP:=rfl
theorem yQ {a:X} {t:Ty}:tst C (.isinst a t) ρ σ=(ev C (.isinst a t) ρ σ).bind cP:=rfl
theorem qW:tstAnd C .nil ρ σ=.ok true σ:=rfl
theorem dY {a r:X}:tstAnd C (.cons a r) ρ σ=(tst C a ρ σ).bind fun b σ=>if b then tstAnd C r ρ σ else .ok false σ:=rfl
theorem tG:tstOr C .nil ρ σ=.ok false σ:=rfl
theorem eS {a r:X}:tstOr C (.cons a r) ρ σ=(tst C a ρ σ).bind fun b σ=>if b then .ok true σ else tstOr C r ρ σ:=rfl
theorem iH {a:X}:evIt C (.range1 a) ρ σ=(ev C a ρ σ).bind f9:=rfl
theorem xU {xs:X}:evIt C (.range3 xs) ρ σ=(evs C xs ρ σ).bind pe:=rfl
theorem acS {xs:X}:evIt C (.zip xs) ρ σ=(evs C xs ρ σ).bind yJ:=rfl
theorem uv {fz:Bool} {a:X}:ev C (.listIt fz a) ρ σ=bif C.hd then .stuck else (evIt C a ρ σ).bind fun p σ=>bh fz p.1 σ:=rfl
theorem yC {c:Nat} {o:X} {n:Str}:ev C (.attr c o n) ρ σ=(ev C o ρ σ).bind fun x σ=>sv c x n σ:=rfl
theorem yB {c f:Nat} {n:Str} {o args:X}:ev C (.meth c f n o args) ρ σ=(ev C o ρ σ).bind fun x σ=>ka C c f n x (fun σ=>evs C args ρ σ) σ:=rfl
theorem abu {c f:Nat} {args:X}:ev C (.new c f args) ρ σ=(evs C args ρ σ).bind fun vs σ=>mx C c f vs σ:=rfl
theorem aeG {xs:X}:ev C (.max2 xs) ρ σ=bif C.hd then .stuck else (evs C xs ρ σ).bind pi:=rfl
end
inductive S where
  | nil | cons (a r:S)
  | asg (i:Nat) (x:X)
  | asgSub (o i x:X)
  | expr (x:X)
  | ret (x:X)
  | ret0
  | ife (c:X) (a b:S)
  | for1 (i:Nat) (it:X) (body:S)
  | whl (c:X) (body:S)
  | brk
  | asgAttr (c:Nat) (o:X) (n:Str) (x:X)
  | forT (is:List Nat) (it:X) (body:S)
  | stk
inductive bz where
  | next (ρ:au) (σ:ab)
  | brk (ρ:au) (σ:ab)
  | cont (ρ:au) (σ:ab)
  | ret (v:PV) (ρ:au) (σ:ab)
  | exc (i:Nat) (ρ:au) (σ:ab)
  | stuck
noncomputable def ae.toS {α:Type} (o:ae α) (ρ:au) (f:α->ab->bz):bz:=
  match o with
  | .ok a σ=>f a σ
  | .exc i σ=>.exc i ρ σ
  | .stuck=>.stuck
noncomputable def nQ (go:au->ab->bz):bz->bz
  | .next ρ σ=>go ρ σ
  | .cont ρ σ=>go ρ σ
  | .brk ρ σ=>.next ρ σ
  | .ret v ρ σ=>.ret v ρ σ
  | _=>.stuck
noncomputable def afP (f:au->bz):Option au->bz
  | none=>.stuck
  | some ρ=>f ρ
noncomputable def aZ (w:Option (Nat × MO)) (bind:PV->au->Option au) (f:au->ab->bz):List PV->au->ab->bz
  | [],ρ,σ=>if cK w σ then .next ρ σ else .stuck
  | x::xs,ρ,σ=>if cK w σ then afP (fun ρ=>nQ (aZ w bind f xs) (f ρ σ)) (bind x ρ) else .stuck
noncomputable def cJ (c:au->ab->ae Bool) (f:au->ab->bz):Nat->au->ab->bz
  | 0,_,_=>.stuck
  | n + 1,ρ,σ=>match c ρ σ with
    | .ok true σ=>match f ρ σ with
      | .next ρ σ=>cJ c f n ρ σ
      | .cont ρ σ=>cJ c f n ρ σ
      | .brk ρ σ=>.next ρ σ
      | .ret v ρ σ=>.ret v ρ σ
      | _=>.stuck
    | .ok false σ=>.next ρ σ
    | _=>.stuck
noncomputable def li (m:MO) (i v:PV):Option MO:=
  match m with
  | .ds es=>match i with
    | .str k=>if es.length < ao then some (.ds (bL k v es)) else none
    | _=>none
  | .dp es=>(fh i).bind fun k=>if es.length < ao then some (.dp (bL k v es)) else none
  | _=>none
noncomputable def bN (o i v:PV) (ρ:au) (σ:ab):bz:=
  match o with
  | .ref r=>match (σ[r]?).bind fun m=>li m i v with
    | some m=>.next ρ (σ.set r m)
    | none=>.stuck
  | _=>.stuck
noncomputable def ew (c:Nat) (o:PV) (n:Str) (v:PV) (ρ:au) (σ:ab):bz:=
  match o with
  | .inst c' i=>if c'=c then (match σ[i]? with
    | some (.ns fs)=>if fs.length < 100 then .next ρ (σ.set i (.ns (bL n v fs))) else .stuck
    | _=>.stuck) else .stuck
  | _=>.stuck
noncomputable def lk:List Nat->List PV->au->Option au
  | [],[],ρ=>some ρ
  | i::is,v::vs,ρ=>lk is vs (ρ.set i (some v))
  | _,_,_=>none
noncomputable def mI (is:List Nat) (v:PV) (ρ:au):Option au:=
  match v with
  | .tup xs=>if xs.length <= 100 then lk is xs ρ else none
  | _=>none
noncomputable def bq (i:Nat) (v:PV) (ρ:au):Option au:=some (ρ.set i (some v))
noncomputable def ex (C:bc) (N:Nat):S->au->ab->bz
  | .nil,ρ,σ=>.next ρ σ
  | .cons a r,ρ,σ=>match ex C N a ρ σ with
    | .next ρ σ=>ex C N r ρ σ
    | o=>o
  | .asg i x,ρ,σ=>(ev C x ρ σ).toS ρ fun v σ=>.next (ρ.set i (some v)) σ
  | .asgSub o i x,ρ,σ=>(ev C x ρ σ).toS ρ fun v σ=>(ev C o ρ σ).toS ρ fun o σ=>(ev C i ρ σ).toS ρ fun i σ=>bN o i v ρ σ
  | .asgAttr c o n x,ρ,σ=>(ev C x ρ σ).toS ρ fun v σ=>(ev C o ρ σ).toS ρ fun o σ=>ew c o n v ρ σ
  | .forT is it body,ρ,σ=>bif C.hd then .stuck else (evIt C it ρ σ).toS ρ fun (xs,w) σ=>aZ w (mI is) (fun ρ σ=>ex C N body ρ σ) xs ρ σ
  | .expr x,ρ,σ=>(ev C x ρ σ).toS ρ fun _ σ=>.next ρ σ
  | .ret x,ρ,σ=>(ev C x ρ σ).toS ρ fun v σ=>.ret v ρ σ
  | .ret0,ρ,σ=>.ret .none ρ σ
  | .ife c a b,ρ,σ=>(tst C c ρ σ).toS ρ fun t σ=>if t then ex C N a ρ σ else ex C N b ρ σ
  | .for1 i it body,ρ,σ=>bif C.hd then .stuck else (evIt C it ρ σ).toS ρ fun (xs,w) σ=>aZ w (bq i) (fun ρ σ=>ex C N body ρ σ) xs ρ σ
  | .whl c body,ρ,σ=>bif C.hd then .stuck else cJ (fun ρ σ=>tst C c ρ σ) (fun ρ σ=>ex C N body ρ σ) N ρ σ
  | .brk,ρ,σ=>.brk ρ σ
  | .stk,_,_=>.stuck
structure Fn where
  params:Nat
  slots:Nat
  body:S
structure j0 where
  fns:List Fn
noncomputable def cZ (P:j0) (N:Nat):Nat->Nat->Nat->List PV->ab->ae PV
  | _,0,_,_,_=>.stuck
  | m,d + 1,f,vs,σ=>match P.fns[f]? with
    | some fn=>if vs.length=fn.params then
        match ex ⟨fun m=>cZ P N m d,m⟩ N fn.body (vs.map some++List.replicate (fn.slots - fn.params) none) σ with
        | .next _ σ=>.ok .none σ
        | .ret v _ σ=>.ok v σ
        | .exc i _ σ=>.exc i σ
        | _=>.stuck
      else .stuck
    | none=>.stuck
noncomputable def aK (P:j0) (N:Nat):Nat->Nat->List PV->ab->ae PV:=cZ P N 0
noncomputable def i7 (P:j0) (N:Nat) (m:Nat) (d:Nat):bc:=⟨fun m=>cZ P N m d,m⟩
end Mine
namespace Mine
open PySem
section
variable {α β γ δ ε ζ:Type} {a:Option α} {b:Option β} {c:Option γ} {d:Option δ}
noncomputable def aE (q:Bool) (o:Option α):Option α:=bif q then o else none
theorem aF {q:Bool} {x:α} {P:Prop} (h:aE q a=some x) (k:q=true->a=some x->P):P:=by
  cases q with
  | true=>exact k rfl h
  | false=>exact nomatch h
noncomputable def iV (a:Option α) (f:α->Option β) (y:Option β):Option β:=match a with
  | some x=>f x
  | none=>y
theorem fy {f:α->Option β} {y:Option β} {z:β} {P:Prop} (h:iV a f y=some z) (k1:∀ x,a=some x->f x=some z->P) (k2:a=none->y=some z->P):P:=by
  cases a with
  | none=>exact k2 rfl h
  | some x=>exact k1 x rfl h
theorem w9 {q:Bool} {o o':Option α} {x:α} {P:Prop} (h:(bif q then o else o')=some x) (k1:q=true->o=some x->P) (k2:o'=some x->P):P:=by
  cases q with
  | true=>exact k1 rfl h
  | false=>exact k2 h
theorem zD {q:Prop} [Decidable q] {x:α} {P:Prop} (h:(if q then a else none)=some x) (k:q->a=some x->P):P:=by
  by_cases hq:q
  · exact k hq ((if_pos hq).symm.trans h)
  · exact nomatch (if_neg hq).symm.trans h
theorem aP {f:α->Option β} {z:β} {P:Prop} (h:a.bind f=some z) (k:∀ x,a=some x->f x=some z->P):P:=by
  cases a with
  | none=>exact nomatch h
  | some x=>exact k x rfl h
theorem b8 {f:α->β} {M:β->Prop} {z:β} (h:a.map f=some z) (k:∀ x,a=some x->M (f x)):M z:=by
  cases a with
  | none=>exact nomatch h
  | some x=>obtain rfl:=Option.some.inj h; exact k x rfl
noncomputable def o2 (a:Option α) (b:Option β) (f:α->β->ζ):Option ζ:=a.bind fun x=>b.map (f x)
theorem ez {f:α->β->ζ} {M:ζ->Prop} {z:ζ} (h:o2 a b f=some z) (k:∀ x y,a=some x->b=some y->M (f x y)):M z:=
  aP h fun x h1 h=>b8 h fun y h2=>k x y h1 h2
noncomputable def o3 (a:Option α) (b:Option β) (c:Option γ) (f:α->β->γ->ζ):Option ζ:=a.bind fun x=>o2 b c (f x)
theorem kU {f:α->β->γ->ζ} {M:ζ->Prop} {z:ζ} (h:o3 a b c f=some z) (k:∀ x y w,a=some x->b=some y->c=some w->M (f x y w)):M z:=
  aP h fun x h1 h=>ez h fun y w h2 h3=>k x y w h1 h2 h3
noncomputable def o4 (a:Option α) (b:Option β) (c:Option γ) (d:Option δ) (f:α->β->γ->δ->ζ):Option ζ:=a.bind fun x=>o3 b c d (f x)
theorem agM {f:α->β->γ->δ->ζ} {M:ζ->Prop} {z:ζ} (h:o4 a b c d f=some z) (k:∀ x y w u,a=some x->b=some y->c=some w->d=some u->M (f x y w u)):M z:=
  aP h fun x h1 h=>kU h fun y w u h2 h3 h4=>k x y w u h1 h2 h3 h4
noncomputable def iM:List α->Option α
  | []=>none
  | x::r=>aE r.isEmpty (some x)
theorem v8 {l:List α} {x:α} (h:iM l=some x):l=[x]:=by
  cases l with
  | nil=>exact nomatch h
  | cons y r =>
    refine aF h fun h1 h2=>?_
    rw [List.isEmpty_iff.mp h1,Option.some.inj h2]
end
noncomputable def a6 (N names:List (Str × NameKind)):List (Str × NameKind):=names.map fun (n,k)=>if (k == .free && N.lookup n == some .cell) then (n,.cell) else (n,k)
noncomputable def dv (N N':List (Str × NameKind)):List (Option Nat):=N'.map fun (n,k)=>if k == .cell then N.findIdx? (·.1 == n) else none
structure aV where
  fns:List Str
  cst:List (Str × PV)
  bins:List Str
  muts:List (Nat × Nat)
  excs:List (Str × Nat × List Nat)
  brd:Option (Str × Nat)
  meths:List Str
  repl:Bool
  dstr:List (Nat × Nat)
noncomputable def yg:Const->Option PV
  | .none=>some .none
  | .bool b=>some (.bool b)
  | .int i=>some (.int i)
  | .str s=>aE (PyData.strOk s) (some (.str s))
  | _=>none
noncomputable def aeY:Operator->Option Op
  | .Add=>some .add | .Sub=>some .sub | .Mult=>some .mul | .Mod=>some .mod | .FloorDiv=>some .fdiv | .Pow=>some .pow
  | _=>none
noncomputable def sF:CmpOp->Option Cm
  | .Eq=>some .eq | .NotEq=>some .ne | .Lt=>some .lt | .LtE=>some .le | .Gt=>some .gt | .GtE=>some .ge
  | .Is=>some .is | .IsNot=>some .isNot | .In=>some .isin | .NotIn=>some .notin
theorem fS {α:Type} {x:Str} {v:α}:∀ {l:List (Str × α)},l.lookup x=some v->(x,v) ∈ l
  | [],h=>by cases h
  | (y,u)::l,h=>by
    rw [List.lookup_cons] at h
    cases hb:x == y with
    | true=>rw [hb] at h; cases h; rw [eq_of_beq hb]; exact .head _
    | false=>rw [hb] at h; exact .tail _ (fS h)
noncomputable def zT (fz:Bool):List (Str × B1):=[("len",.len),("list",.list fz),("tuple",.tuple),("all",.all),("int",.int),("str",.str)
  ,("sum",.sum)
  ,("min",.min),("max",.max)
  ]
noncomputable def su (fz:Bool) (x:Str):Option B1:=(zT fz).lookup x
noncomputable def adr:List (Str × Me):=[("append",.append),("extend",.extend)
  ,("get",.get)
  ]
noncomputable def wj (x:Str):Option Me:=adr.lookup x
noncomputable def adh:List (Str × Ty):=[("int",.int),("str",.str),("bool",.bool),("tuple",.tuple)
  ,("list",.list)
  ]
noncomputable def vy (x:Str):Option Ty:=adh.lookup x
noncomputable def adJ:List (Str × Value):=[("len",.builtin "len"),("list",.type "list"),("tuple",.type "tuple"),("min",.builtin "min"),("all",.builtin "all"),("int",.type "int"),("str",.type "str"),("bool",.type "bool"),("ValueError",.type "ValueError"),("isinstance",.builtin "isinstance"),("range",.type "range"),("set",.type "set")
  ,("sum",.builtin "sum")
  ,("max",.builtin "max")
  ,("dict",.type "dict")
  ,("zip",.type "zip")
  ]
noncomputable def iI (x:Str):Option Value:=adJ.lookup x
noncomputable def cI:List Str:=["plan", "turns", "givers", "outer", "here", "gone", "order"]
noncomputable def mr:List (Str × NameKind)->Bool
  | []=>true
  | (x,k)::r=>!(r.any fun p=>p.1 == x) && !(x == ("__debug__" : Str)) && (k == .local || k == .cell || k == .globalImplicit) && mr r
noncomputable def acH:X->Bool
  | .range1 _=>true
  | .range3 _=>true
  | .zip _=>true
  | _=>false
noncomputable def dQ (f:Expr->Option X):List Expr->Option X
  | []=>some .nil
  | e::r=>o2 (f e) (dQ f r) .cons
noncomputable def af6 (T:aV) (x:Str) (i:Nat):NameKind->Option X
  | .local=>some (.v i)
  | .cell=>some (.v i)
  | .globalImplicit=>(T.cst.lookup x).map .k
  | _=>none
noncomputable def vE (T:aV) (N:List (Str × NameKind)) (x:Str):Option X:=
  (N.findIdx? (·.1 == x)).bind fun i=>(N[i]?).bind fun q=>af6 T x i q.2
noncomputable def fB (N:List (Str × NameKind)) (x:Str):Bool:=N.lookup x == some .globalImplicit
noncomputable def isB (T:aV) (N:List (Str × NameKind)) (x:Str):Bool:=fB N x && T.bins.contains x
noncomputable def jF:Expr->Option (Str × Pos)
  | .Name x p=>some (x,p)
  | _=>none
structure aaa where
  g:Str
  p:Pos
  a:Expr
  pos:Pos
noncomputable def zQ:Expr->Option aaa
  | .Call f as ks pos=>aE ks.isEmpty (o2 (jF f) (iM as) fun n a=>⟨n.1,n.2,a,pos⟩)
  | _=>none
structure z9 where
  g:Str
  p:Pos
  as:List Expr
  pos:Pos
noncomputable def callN?:Expr->Option z9
  | .Call f as ks pos=>aE ks.isEmpty ((jF f).map fun n=>⟨n.1,n.2,as,pos⟩)
  | _=>none
noncomputable def vK (T:aV) (N:List (Str × NameKind)) (f:Expr->Option X) (g:Str) (k:Nat) (e:Expr):Option X:=
  (callN? e).bind fun q=>aE (q.g == g && isB T N q.g && q.as.length == k) (dQ f q.as)
noncomputable def aa7 (T:aV) (N:List (Str × NameKind)) (g:Str) (a:Expr):Option Expr:=
  (zQ a).bind fun q=>aE (g == "len" && q.g == "set" && isB T N q.g) (some q.a)
noncomputable def sE (T:aV) (N:List (Str × NameKind)) (f:Expr->Option X) (e:Expr):Option X:=
  (zQ e).bind fun q=>aE (q.g == "range" && isB T N q.g) ((f q.a).map .range1)
noncomputable def aeX (T:aV) (N:List (Str × NameKind)) (f:Expr->Option X) (e:Expr):Option X:=(vK T N f "range" 3 e).map .range3
noncomputable def vC (T:aV) (N:List (Str × NameKind)) (f:Expr->Option X) (e:Expr):Option X:=
  iV (sE T N f e) some (aeX T N f e)
noncomputable def yT (T:aV) (N:List (Str × NameKind)) (f:Expr->Option X) (pos:Pos) (g:Str) (a:Expr):Option X:=
  iV (aa7 T N g a) (fun x=>(f x).map (.b1 .lenset)) <|
  iV (aE (g == "list") (vC T N f a)) (fun it=>some (.listIt (!(T.muts.contains (pos.line,pos.col))) it)) <|
  (o2 (su (!(T.muts.contains (pos.line,pos.col))) g) (f a) .b1)
noncomputable def yR (T:aV) (N:List (Str × NameKind)) (f:Expr->Option X) (g:Str) (a b:Expr):Option X:=
  bif g == "isinstance" then
    (jF b).bind fun q =>
    (aE (isB T N q.1) (o2 (f a) (vy q.1) .isinst))
  else bif g == "max" then (dQ f [a,b]).map .max2
  else aE (g == "min") (o2 (f a) (f b) .min2)
noncomputable def ae0 (T:aV) (N:List (Str × NameKind)) (f:Expr->Option X) (pos:Pos) (g:Str):List Expr->Option X
  | []=>none
  | a::r=>match r with
    | []=>yT T N f pos g a
    | b::r=>aE r.isEmpty (yR T N f g a b)
noncomputable def yU (T:aV) (f:Expr->Option X) (g:Str) (args:List Expr):Option X:=
  T.brd.bind fun q=>aE (g == q.1 && !args.isEmpty) ((T.meths.findIdx? (· == ("__init__" : Str))).bind fun j=>(dQ f args).map (.new q.2 (T.fns.length + j)))
noncomputable def vJ (T:aV) (N:List (Str × NameKind)) (f:Expr->Option X) (pos:Pos) (g:Str) (args:List Expr):Option X:=
  aE (fB N g) (iV (T.fns.findIdx? (· == g)) (fun i=>aE (!args.isEmpty) ((dQ f args).map (.call i))) (iV (yU T f g args) some (aE (T.bins.contains g) (ae0 T N f pos g args))))
noncomputable def adj (f:Expr->Option X) (e:Expr):Option X:=(f e).bind fun x=>aE (!acH x) (some x)
noncomputable def p7 (T:aV) (N:List (Str × NameKind)) (f:Expr->Option X) (e:Expr):Option X:=
  iV (vC T N f e) some (adj f e)
noncomputable def abY (f:Expr->Option X):List Expr->Option X
  | []=>some (.k (.bool true))
  | c::r=>aE r.isEmpty (f c)
noncomputable def rb (T:aV) (N:List (Str × NameKind)) (f:List (Str × NameKind)->Expr->Option X) (elt:Expr) (x:Str) (iter:Expr) (ifs:List Expr) (scope:Scope) (pos:Pos):Option X:=
  aE (scope.kind == .function && mr (a6 N scope.names) && scope.names.all (fun p=>p.2 != .cell))
    (((a6 N scope.names).findIdx? (·.1 == x)).bind fun t=>aE ((a6 N scope.names)[t]? == some (x,NameKind.local))
      (o3 (p7 T N (f N) iter) (f (a6 N scope.names) elt) (abY (f (a6 N scope.names)) ifs) fun it elt c=>.comp (!(T.muts.contains (pos.line,pos.col))) t (dv N (a6 N scope.names)) elt c it))
noncomputable def qZ (f:Expr->Option X):Option Expr->Option X
  | none=>some (.k .none)
  | some e=>f e
noncomputable def ia:Expr->Bool
  | .Call _ a _ _=>!a.isEmpty
  | _=>true
noncomputable def yW (f:Expr->Option X) (l:Expr) (os:List CmpOp) (rs:List Expr):Option X:=
  match os with
  | []=>none
  | o::os=>match rs with
    | []=>none
    | r::rs=>match os with
      | []=>aE rs.isEmpty (o3 (sF o) (f l) (f r) fun o a b=>.cmp a o b)
      | o2::os=>match rs with
        | []=>none
        | r2::rs=>aE (os.isEmpty && rs.isEmpty) ((sF o).bind fun o=>o4 (f l) (f r) (sF o2) (f r2) fun a b o2 c=>.cmp2 a o b o2 c)
noncomputable def agI (f:Expr->Option X) (o:Expr) (m:Str) (a:Expr):Option X:=o3 (wj m) (f o) (f a) fun m o a=>.me m o (.cons a .nil)
noncomputable def agH (T:aV) (f:Expr->Option X) (o:Expr) (m:Str):List Expr->Option X
  | []=>none
  | a::r=>match r with
    | []=>agI f o m a
    | _::_=>none
noncomputable def adT (T:aV) (f:Expr->Option X) (o:Expr) (m:Str) (args:List Expr):Option X:=
  T.brd.bind fun q=>(T.meths.findIdx? (· == m)).bind fun j=>aE (decide (args.length < 20)) (o2 (f o) (dQ f args) fun o xs=>.meth q.2 (T.fns.length + j) m o xs)
noncomputable def aeZ (T:aV) (f:Expr->Option X) (o:Expr) (n:Str):Option X:=
  T.brd.bind fun q=>aE (ia o && cI.contains n) ((f o).map fun o=>.attr q.2 o n)
noncomputable def vG (T:aV) (f:Expr->Option X) (o:Expr) (m:Str) (args:List Expr):Option X:=
  (aE (ia o)
    (bif T.meths.contains m then adT T f o m args else agH T f o m args))
noncomputable def adU (T:aV) (N:List (Str × NameKind)) (f:Expr->Option X) (fn:Expr) (args:List Expr) (pos:Pos):Option X:=
  match fn with
  | .Name g _=>vJ T N f pos g args
  | .Attribute o m apos=>aE (apos.endLine == pos.line) (vG T f o m args)
  | _=>none
noncomputable def agG (f:Expr->Option X) (o:Expr) (lo hi:Option Expr):Option Expr->Option X
  | none=>o3 (f o) (qZ f lo) (qZ f hi) .slice
  | some _=>none
noncomputable def yD:Expr->Option (Option Expr × Option Expr × Option Expr × Pos)
  | .Slice lo hi st p=>some (lo,hi,st,p)
  | _=>none
noncomputable def vA (f:Expr->Option X) (o i:Expr):Option X:=
  iV (yD i) (fun q=>agG f o q.1 q.2.1 q.2.2.1) (o2 (f o) (f i) .sub)
noncomputable def lg (T:aV) (N:List (Str × NameKind)) (f:List (Str × NameKind)->Expr->Option X) (elt:Expr) (gens:List Comprehension) (scope:Scope) (pos:Pos):Option X:=
  (iM gens).bind fun g=>aE (g.is_async == 0) ((jF g.target).bind fun q=>rb T N f elt q.1 g.iter g.ifs scope pos)
noncomputable def aad (T:aV) (f:List (Str × NameKind)->Expr->Option X) (N:List (Str × NameKind)) (e:Expr):Option X:=
    match e with
    | .Constant c _ _=>(yg c).map .k
    | .Name x _=>vE T N x
    | .BoolOp o es _=>match o with
      | .And=>(dQ (f N) es).map .and
      | .Or=>(dQ (f N) es).map .or
    | .UnaryOp o a _=>match o with
      | .Not=>(f N a).map .not
      | .USub=>(f N a).map .neg
      | _=>none
    | .BinOp l o r _=>o3 (aeY o) (f N l) (f N r) .bin
    | .Compare l os rs _=>yW (f N) l os rs
    | .List es pos=>(dQ (f N) es).map (.lst (!(T.muts.contains (pos.line,pos.col))))
    | .Tuple es _ _=>(dQ (f N) es).map .tup
    | .Call fn args kws pos=>aE kws.isEmpty (adU T N (f N) fn args pos)
    | .Attribute o n _=>aeZ T (f N) o n
    | .Subscript o i _=>vA (f N) o i
    | .Dict ks vs pos=>aE (ks.isEmpty && vs.isEmpty) (some (.dnew (!(T.dstr.contains (pos.line,pos.col)))))
    | .ListComp elt gens scope pos=>lg T N f elt gens scope pos
    | _=>none
noncomputable def yf (T:aV):Nat->List (Str × NameKind)->Expr->Option X
  | 0,_,_=>none
  | n + 1,N,e=>aad T (yf T n) N e
noncomputable def gF:Expr->Bool
  | .ListComp .. | .SetComp .. | .DictComp ..=>true
  | _=>false
noncomputable def ze:NameKind->Bool
  | .local=>true
  | .cell=>true
  | _=>false
noncomputable def iL (N:List (Str × NameKind)) (x:Str):Option Nat:=
  (N.findIdx? (·.1 == x)).bind fun i=>(N[i]?).bind fun q=>aE (ze q.2) (some i)
noncomputable def kQ (g:Stmt->Option S):List Stmt->Option S
  | []=>some .nil
  | st::r=>o2 (g st) (kQ g r) .cons
noncomputable def abK:Expr->Option (Expr × List Comprehension × Scope × Pos)
  | .ListComp elt gens scope pos=>some (elt,gens,scope,pos)
  | _=>none
noncomputable def jo (N:List (Str × NameKind)):List Expr->Option (List Nat)
  | []=>some []
  | e::r=>o2 ((jF e).bind fun q=>iL N q.1) (jo N r) fun i l=>i::l
noncomputable def adk (T:aV) (N:List (Str × NameKind)) (acN:List (Str × NameKind)->Expr->Option X) (f:Expr->Option X) (t v:Expr):Option S:=
  match t with
  | .Name z _=>iV (abK v) (fun q=>o2 (iL N z) (lg T N acN q.1 q.2.1 q.2.2.1 q.2.2.2) .asg) (aE (!gF v) (o2 (iL N z) (f v) .asg))
  | .Subscript o i _=>aE (!gF v) (o3 (f o) (f i) (f v) .asgSub)
  | .Attribute o n _=>T.brd.bind fun q=>aE (!gF v && cI.contains n) (o2 (f o) (f v) fun o v=>.asgAttr q.2 o n v)
  | _=>none
noncomputable def agz:Expr->Option (List Expr)
  | .Tuple ts _ _=>some ts
  | _=>none
noncomputable def afY (T:aV) (N:List (Str × NameKind)) (f:Expr->Option X) (e:Expr):Option X:=(vK T N f "zip" 2 e).map .zip
noncomputable def u4 (T:aV) (N:List (Str × NameKind)) (f:Expr->Option X) (e:Expr):Option X:=
  iV (afY T N f e) some <|
  (p7 T N f e)
noncomputable def ye (T:aV) (N:List (Str × NameKind)) (acN:List (Str × NameKind)->Expr->Option X) (f:Expr->Option X) (g:Stmt->Option S) (st:Stmt):Option S:=
  match st with
  | .Assign ts v _=>(iM ts).bind fun t=>adk T N acN f t v
  | .Expr e _=>aE (!gF e) ((f e).map .expr)
  | .Return v _=>match v with
    | some e=>(f e).map .ret
    | none=>some .ret0
  | .If t b o _=>o3 (f t) (kQ g b) (kQ g o) .ife
  | .For t it b o _=>aE o.isEmpty (iV (jF t) (fun q=>o3 (iL N q.1) (p7 T N f it) (kQ g b) .for1) ((agz t).bind fun ts=>o3 (jo N ts) (u4 T N f it) (kQ g b) .forT))
  | .While t b o _=>aE o.isEmpty (o2 (f t) (kQ g b) .whl)
  | .Break _=>some .brk
  | .Raise _ _ _=>some .stk
  | _=>none
noncomputable def trS (T:aV) (N:List (Str × NameKind)) (f:List (Str × NameKind)->Expr->Option X):Nat->Stmt->Option S
  | 0,_=>none
  | n + 1,st=>ye T N f (f N) (trS T N f n) st
end Mine
namespace Mine
open PySem
theorem nJ {M:Model} {Γ:PySem.Ctx} {p:Pos} {t:Sem Fin} {fs:List Frame} {s:Shared} {e:End} {s':Shared} (h:PySem.Runs M Γ p t fs s e s'):s.toks <= s'.toks:=by
  induction h <;> first | exact Nat.le_refl _ | assumption | (try simp only [Shared.setGen] at *) <;> first | assumption | omega
theorem yM {M:Model} {Γ:PySem.Ctx} {p:Pos} {g:Nat} {r:Resume} {s:Shared} {res:GenResult} {s':Shared} (h:PySem.Wakes M Γ p g r s res s'):s.toks <= s'.toks:=by
  unfold PySem.Wakes at h
  split at h
  · exact h.elim
  · split at h
    · obtain ⟨e,s₁,h1,_,_,rfl⟩:=h
      have:=nJ h1; exact this
    · rw [h.2]; exact Nat.le_refl _
    · rw [h.2]; exact Nat.le_refl _
  · obtain ⟨e,s₁,h1,_,_,rfl⟩:=h
    have:=nJ h1; exact this
  · rw [h.2]; exact Nat.le_refl _
  · rw [h.2]; exact Nat.le_refl _
theorem o5 {γ:Type} {M:Model} {Γ:PySem.Ctx} {n:Nat} (t:Sem γ):∀ {Q:γ->Pos->Shared->Prop} {E:Value->Pos->Shared->Prop} {p:Pos} {s:Shared},n <= s.toks->Sem.wp M Γ t Q E p s ->
    Sem.wp M Γ t (fun a p s=>Q a p s/\n <= s.toks) (fun e p s=>E e p s/\n <= s.toks) p s:=by
  induction t with
  | pure a=>intro Q E p s hn h; exact ⟨h,hn⟩
  | raise e=>intro Q E p s hn h; exact ⟨h,hn⟩
  | rule tag k ih=>intro Q E p s hn h; exact ih () hn h
  | «at» p' k ih=>intro Q E p s hn h; exact ih () hn h
  | load a part k ih=>intro Q E p s hn h; obtain ⟨o,h1,h2⟩:=h; exact ⟨o,h1,ih o hn h2⟩
  | update a part f k ih=>intro Q E p s hn h; exact ⟨h.1,ih () (s:={ s with heap:=s.heap.update a f }) hn h.2⟩
  | alloc o k ih=>intro Q E p s hn h; exact ih _ (s:={ s with heap:=s.heap.push o }) hn h
  | loadIfAlive a k ih=>intro Q E p s hn h; exact ih _ hn h
  | point l k ih=>intro Q E p s hn h; exact ih () hn h
  | fresh k ih=>intro Q E p s hn h; exact ih _ (s:={ s with toks:=s.toks + 1 }) (Nat.le_succ_of_le hn) h
  | ask k ih=>intro Q E p s hn h; exact ih _ hn h
  | choose src m k ih=>intro Q E p s hn h; exact ⟨h.1,ih _ (s:={ s with drawn:=s.drawn.bump src }) hn h.2⟩
  | os q l k ih=>intro Q E p s hn h; exact ih _ (s:={ s with os:=(Os.step s.os q).1 }) hn h
  | call c hd g l k ih =>
    intro Q E p s hn h
    obtain ⟨r,s',h1,h2⟩:=h
    exact ⟨r,s',h1,ih r (Nat.le_trans hn (nJ h1)) h2⟩
  | handled own k ih=>intro Q E p s hn h; exact ih _ hn h
  | newGen c k ih=>intro Q E p s hn h; exact ih _ (s:={ s with gens:=s.gens.push (.fresh c) }) hn h
  | genState g k ih=>intro Q E p s hn h; obtain ⟨st,h1,h2⟩:=h; exact ⟨st,h1,ih _ hn h2⟩
  | resume g r l k ih=>intro Q E p s hn h; obtain ⟨res,s',h1,h2⟩:=h; exact ⟨res,s',h1,ih res (Nat.le_trans hn (yM h1)) h2⟩
  | stack k ih=>intro Q E p s hn h; exact ih _ hn h
  | thread k ih=>intro Q E p s hn h; exact ih _ hn h
  | _=>intro Q E p s hn h; exact h.elim
theorem b4 {γ:Type} {M:Model} {A:Around} {t:Sem γ} {Q:γ->Shared->Prop} {E:Value->Shared->Prop} {s:Shared} (h:wpAny M A t Q E s) :
    wpAny M A t (fun v s'=>Q v s'/\s.toks <= s'.toks) (fun e s'=>E e s'/\s.toks <= s'.toks) s:=
  fun Γ p hΓ=>o5 t (Nat.le_refl _) (h Γ p hΓ)
end Mine
namespace Mine
open PySem
noncomputable def agf:Str ⊕ Int->Value->Bool
  | .inl x,v=>Value.isStrOf x v
  | .inr i,v=>Value.isInt i v
noncomputable def aew (w:World):Str ⊕ Int->Int
  | .inl x=>hashStr w x
  | .inr i=>hashInt i
noncomputable def jr (prog:Program) (w:World):KeyKind prog w (Str ⊕ Int) where
  is:=agf
  hash:=aew w
  inj:=fun v a b ha hb=>by
    cases a with
    | inl x =>
      obtain ⟨t,rfl⟩:=Value.isStrOf_shape (show Value.isStrOf x v=true from ha)
      cases b with
      | inl y=>exact congrArg Sum.inl (Value.isStrOf_inj (.str x t) x y ha hb)
      | inr j=>cases hb
    | inr i =>
      obtain ⟨t,rfl⟩:=Value.isInt_shape (show Value.isInt i v=true from ha)
      cases b with
      | inl y=>cases hb
      | inr j=>exact congrArg Sum.inr (Value.isInt_inj (.int i t) i j ha hb)
  byValue:=fun k v h=>by
    cases k with
    | inl x=>obtain ⟨t,rfl⟩:=Value.isStrOf_shape (show Value.isStrOf x v=true from h); rfl
    | inr i=>obtain ⟨t,rfl⟩:=Value.isInt_shape (show Value.isInt i v=true from h); rfl
  pyHash:=fun {A E s k v Q} hv h=>by
    cases k with
    | inl x=>obtain ⟨t,rfl⟩:=Value.isStrOf_shape (show Value.isStrOf x v=true from hv); exact wpAny_pyHash_str h
    | inr i=>obtain ⟨t,rfl⟩:=Value.isInt_shape (show Value.isInt i v=true from hv); exact wpAny_pyHash_int h
  eqBool:=fun {A E s a b u v Q} hu hv h=>by
    cases a with
    | inl x =>
      obtain ⟨t,rfl⟩:=Value.isStrOf_shape (show Value.isStrOf x u=true from hu)
      cases b with
      | inl y =>
        obtain ⟨t',rfl⟩:=Value.isStrOf_shape (show Value.isStrOf y v=true from hv)
        refine wpAny_eqBool_str ?_
        have e:decide (Sum.inl (β:=Int) x=Sum.inl y)=decide (x=y):=by simp
        rw [<- e]; exact h
      | inr j =>
        obtain ⟨t',rfl⟩:=Value.isInt_shape (show Value.isInt j v=true from hv)
        exact SeqAt.EqAt.str_int x t j t' prog w E Q (by simpa using h)
    | inr i =>
      obtain ⟨t,rfl⟩:=Value.isInt_shape (show Value.isInt i u=true from hu)
      cases b with
      | inl y =>
        obtain ⟨t',rfl⟩:=Value.isStrOf_shape (show Value.isStrOf y v=true from hv)
        exact SeqAt.EqAt.int_str i t y t' prog w E Q (by simpa using h)
      | inr j =>
        obtain ⟨t',rfl⟩:=Value.isInt_shape (show Value.isInt j v=true from hv)
        refine wpAny_eqBool_int ?_
        have e:decide (Sum.inr (α:=Str) i=Sum.inr j)=(i == j):=by
          by_cases q:i=j <;> simp [q]
        rw [<- e]; exact h
  «strs»:=fun k x t v h=>by
    cases k with
    | inl y=>exact (strKind prog w).«strs» y x t v h
    | inr i=>cases h
end Mine
namespace Mine
open PySem
structure Bs where
  h:Heap
  fr:List Addr
  prog:Program
  w:World
noncomputable abbrev Bs.get? (b:Bs) (a:Addr):Option Obj:=b.h.get? a
structure Kt where
  hb:Bs
  mg:Str->Option Value
  mb:Str->Option Value
  pos:Bool
  ph:Bool
noncomputable abbrev Kt.prog (K:Kt):Program:=K.hb.prog
noncomputable abbrev Kt.w (K:Kt):World:=K.hb.w
noncomputable def Kt.Tk (K:Kt) (s:Shared):Prop:=K.pos=true->0 < s.toks
theorem Kt.Tk.up {K:Kt} {s s':Shared} (tk:K.Tk s) (tl:s.toks <= s'.toks):K.Tk s':=fun q=>Nat.lt_of_lt_of_le (tk q) tl
theorem f8 {γ:Type} {K:Kt} {M:Model} {A:Around} {t:Sem γ} {Q:γ->Shared->Prop} {E:Value->Shared->Prop} {s:Shared} (tk:K.Tk s)
    (h:wpAny M A t (fun v s'=>K.Tk s'->Q v s') (fun e s'=>K.Tk s'->E e s') s):wpAny M A t Q E s:=
  wpAny_mono (b4 h) (fun _ _ q=>q.1 (tk.up q.2)) fun _ _ q=>q.1 (tk.up q.2)
structure Kt.Ok (K:Kt):Prop where
  g:K.hb.h.Ns mainGlobals K.mg
  b:K.hb.h.Ns builtinsNs K.mb
  nolimit:K.hb.h.NoLimit
  mods:∃ o,K.hb.get? sysModules=some o
noncomputable def OR (B:Bs) (h:Heap) (α:AL):MO->Addr->Prop
  | .lst xs,a=>∃ am n,h.get? a=some { cls:=.type "list",data:=.seq (List.toArray am) n }/\aN h α xs am
  | .ds es,a=>∃ kvs,h.DictOf (strKind B.prog B.w) a kvs/\kvs.map (·.1)=es.map (·.1)/\aN h α (es.map (·.2)) (kvs.map (·.2))
  | .dp es,a=>∃ xs,h.DictOfH (tupleKind (jr B.prog B.w)) a xs/\xs.map (·.1)=es.map (fun e=>[.inl e.1.1,.inr e.1.2])/\(∀ x ∈ xs,x.2.1 ∉ α.all)/\aN h α (es.map (·.2)) (xs.map (·.2.2))
  | .ns fs,a=>∃ m,h.Ns1 a m/\(∀ n v,ac n fs=some v->∃ u,m n=some u/\VR h α v u)/\(∀ n,ac n fs=none->m n=none)
  | .tp,a=>∃ x y,h.get? a=some { cls:=.type "tuple",data:=.seq #[x,y] }
  | .no,_=>False
theorem OR.live {B:Bs} {h:Heap} {α:AL} {m:MO} {a:Addr} (o:OR B h α m a):∃ o,h.get? a=some o:=by
  cases m with
  | lst xs=>obtain ⟨am,n,e,_⟩:=o; exact ⟨_,e⟩
  | ds es=>obtain ⟨kvs,⟨o,_,_,e,_⟩,_⟩:=o; exact ⟨o,e⟩
  | dp es=>obtain ⟨kvs,⟨o,_,_,e,_⟩,_⟩:=o; exact ⟨o,e⟩
  | ns fs=>obtain ⟨m,⟨o,_,_,e,_⟩,_⟩:=o; exact ⟨o,e⟩
  | tp=>obtain ⟨x,y,e⟩:=o; exact ⟨_,e⟩
  | no=>exact o.elim
theorem OR.map {B:Bs} {h h':Heap} {α α':AL} {m:MO} {a:Addr} (v:∀ p u,VR h α p u->VR h' α' p u) (k:h'.get? a=h.get? a)
    (kk:∀ b o,b ∉ α.all->h.get? b=some o->jn o->h'.get? b=some o/\b ∉ α'.all) (o:OR B h α m a):OR B h' α' m a:=by
  have vs:∀ {p:List PV} {u:List Value},aN h α p u->aN h' α' p u:=fun r=>⟨r.1,fun i x y e1 e2=>v _ _ (r.2 i x y e1 e2)⟩
  cases m with
  | lst xs=>obtain ⟨am,n,e,w⟩:=o; exact ⟨am,n,k.trans e,vs w⟩
  | ds es =>
    obtain ⟨kvs,⟨o,es',ep,e,r⟩,q,w⟩:=o
    exact ⟨kvs,⟨o,es',ep,k.trans e,r⟩,q,vs w⟩
  | dp es =>
    obtain ⟨xs,⟨o,es',ep,e,r1,r2,r3,r4,r5⟩,q,hn,w⟩:=o
    have key:∀ x ∈ xs,IsTupleKey (jr B.prog B.w) h' x.1 x.2.1/\x.2.1 ∉ α'.all:=fun x hx=>by
      obtain ⟨o,am,n,e1,e2,e3,e4⟩:=r4 x hx
      obtain ⟨z1,z2⟩:=kk _ o (hn x hx) e1 (.inl ⟨_,_,e3⟩)
      exact ⟨⟨o,am,n,z1,e2,e3,e4⟩,z2⟩
    exact ⟨xs,⟨o,es',ep,k.trans e,r1,r2,r3,fun x hx=>(key x hx).1,r5⟩,q,fun x hx=>(key x hx).2,vs w⟩
  | ns fs =>
    obtain ⟨m,⟨o,es',ep,e,r⟩,q1,q2⟩:=o
    exact ⟨m,⟨o,es',ep,k.trans e,r⟩,fun n v' hn=>let ⟨u,z1,z2⟩:=q1 n v' hn; ⟨u,z1,v _ _ z2⟩,q2⟩
  | tp=>obtain ⟨x,y,e⟩:=o; exact ⟨x,y,k.trans e⟩
  | no=>exact o.elim
theorem OR.ext {F α h α' h'} {B:Bs} {m:MO} {a:Addr} (x:aB F α h α' h') (k:h'.get? a=h.get? a) (o:OR B h α m a):OR B h' α' m a:=
  o.map (fun _ _ r=>r.ext x) k fun b o hb e hs=>⟨x.seqs b o (AL.not_ix hb) e hs,x.notAll hb e⟩
structure R (hb:Bs) (h:Heap) (σ:ab) (α:AL):Prop where
  base:∀ b o,hb.get? b=some o->h.get? b=some o
  fresh:∀ a ∈ α.ix,hb.get? a=none
  nodup:α.ix.Nodup
  len:σ.length=α.ix.length
  hidden:∀ a ∈ α.hid,a ∉ α.ix/\∃ o,h.get? a=some o
  obj:∀ (i:Nat) (m:MO) (a:Addr),σ[i]?=some m->α.ix[i]?=some a->OR hb h α m a
  hfr:∀ a ∈ α.hid,hb.get? a=none
  fe:α.fr=hb.fr
  frs:∀ a ∈ hb.fr,hb.get? a=none/\∃ o,h.get? a=some o/\dn o
  frNot:∀ a ∈ hb.fr,a ∉ α.ix
structure Sm (s s':Shared):Prop where
  gens:s'.gens=s.gens
  os:s'.os=s.os
theorem Sm.refl (s:Shared):Sm s s:=⟨rfl,rfl⟩
theorem Sm.trans {a b c:Shared} (x:Sm a b) (y:Sm b c):Sm a c:=⟨y.gens.trans x.gens,y.os.trans x.os⟩
noncomputable def Up (fr:List Addr) (h h':Heap):Prop:=∀ b o,h.get? b=some o->h'.get? b=some o\/(b ∈ fr/\∃ sl,h'.get? b=some { o with slots:=sl })
theorem Up.keeps {fr:List Addr} {h h':Heap} (k:∀ b o,h.get? b=some o->h'.get? b=some o):Up fr h h':=fun b o e=>.inl (k b o e)
theorem Up.trans {fr:List Addr} {h h' h'':Heap} (x:Up fr h h') (y:Up fr h' h''):Up fr h h'':=fun b o e=>by
  rcases x b o e with x | ⟨m,sl,x⟩
  · exact y b o x
  · rcases y b _ x with y | ⟨_,sl',y⟩
    · exact .inr ⟨m,sl,y⟩
    · exact .inr ⟨m,sl',y⟩
inductive z8 (aQ h:Heap) (a:Addr) (noted:Bool) (x:Value):Prop
  | inl (hn:noted=false) (e:x=.none):z8 aQ h a noted x
  | inr (T:Addr) (oT:Obj) (ts:Array Value) (e:x=.ref T) (h0:aQ.get? T=none) (hn:T ≠ a) (ht:h.get? T=some oT) (hc:oT.cls=.type "traceback") (hd:oT.data=.fields ts) (h3:3 < ts.size):z8 aQ h a noted x
inductive hB (ph:Bool) (aQ h:Heap) (c:Nat) (a:Addr) (noted:Bool):Prop
  | mk (new:aQ.get? a=none) (oe:Obj) (vs:Array Value) (x:Value) (he:h.get? a=some oe) (hc:oe.cls=.ref c) (hd:oe.data=.fields vs) (h1:vs[1]?=some x) (tb:z8 aQ h a noted x) (cx:∃ y,vs[2]?=some y/\(ph=false->y=.none)):hB ph aQ h c a noted
theorem hB.new {ph:Bool} {aQ h:Heap} {c:Nat} {a:Addr} {noted:Bool} (x:hB ph aQ h c a noted):aQ.get? a=none:=by cases x; assumption
inductive FX (K:Kt) (s:Shared) (α:AL) (i:Nat) (σ:ab) (noted:Bool) (e:Value) (s':Shared):Prop where
  | mk (a:Addr) (aQ:Heap) (α':AL) (he:e=.ref a) (x:aB [] α s.heap α' aQ) (r:R K.hb aQ σ α') (u:Up K.hb.fr aQ s'.heap) (ea:hB K.ph aQ s'.heap i a noted) (m:Sm s s'):FX K s α i σ noted e s'
section
variable (K:Kt) {β γ:Type} (Rel:Heap->AL->β->γ->Prop)
inductive aT (c:ae β) (s:Shared) (α:AL) (y:γ) (s':Shared):Prop where
  | mk (b:β) (σ':ab) (α':AL) (h:c=.ok b σ') (x:aB [] α s.heap α' s'.heap) (r:R K.hb s'.heap σ' α') (v:Rel s'.heap α' b y) (m:Sm s s'):aT c s α y s'
inductive aS (_A:Around) (c:ae β) (s:Shared) (α:AL) (e:Value) (s':Shared):Prop where
  | mk (i:Nat) (σ':ab) (h:c=.exc i σ') (fx:∃ nt,FX K s α i σ' nt e s'):aS _A c s α e s'
noncomputable def Runs (A:Around) (t:Sem γ) (c:ae β) (s:Shared) (α:AL):Prop:=
  c ≠ .stuck->K.Tk s->wpAny (model K.prog K.w) A t (aT K Rel c s α) (aS K A c s α) s
end
noncomputable def dx {β:Type} (_h:Heap) (_α:AL) (b y:β):Prop:=y=b
theorem FX.lift {K:Kt} {s s₁:Shared} {α α₁:AL} {i:Nat} {σ:ab} {nt:Bool} {e:Value} {s':Shared} (x:aB [] α s.heap α₁ s₁.heap) (m:Sm s s₁) (f:FX K s₁ α₁ i σ nt e s'):FX K s α i σ nt e s':=by
  obtain ⟨a,aQ,α',e,x',r,u,ea,m'⟩:=f
  exact ⟨a,aQ,α',e,x.trans x',r,u,ea,m.trans m'⟩
theorem aS.lift {K:Kt} {A:Around} {β:Type} {s:Shared} {α:AL} {c:ae β} {s₁:Shared} {α₁:AL} {y:Value} {s':Shared} (x:aB [] α s.heap α₁ s₁.heap) (m:Sm s s₁) (p:aS K A c s₁ α₁ y s'):aS K A c s α y s':=by
  obtain ⟨i,σ',e,nt,fx⟩:=p
  exact ⟨i,σ',e,nt,fx.lift x m⟩
section
variable {K:Kt} {A:Around} {β γ pC yc:Type} {Rel:Heap->AL->β->γ->Prop} {Rel':Heap->AL->pC->yc->Prop} {s:Shared} {α:AL}
theorem Runs.bind {t:Sem γ} {k:γ->Sem yc} {c:ae β} {f:β->ab->ae pC} (H:Runs K Rel A t c s α)
    (N:∀ b σ' α' y s',c=.ok b σ'->aB [] α s.heap α' s'.heap->R K.hb s'.heap σ' α'->Rel s'.heap α' b y->Sm s s'->Runs K Rel' A (k y) (f b σ') s' α') :
    Runs K Rel' A (t >>= k) (c.bind f) s α:=by
  intro hc tk
  have h1:c ≠ .stuck:=by rintro rfl; exact hc rfl
  refine wpAny_bind (wpAny_mono (b4 (H h1 tk)) (fun y s' hp=>?_) fun e s' hx=>?_)
  · obtain ⟨⟨b,σ',α',rfl,x,r,v,m⟩,tl⟩:=hp
    refine wpAny_mono (N b σ' α' y s' rfl x r v m hc (Kt.Tk.up tk tl)) (fun y' s'' hp'=>?_) fun e s'' hx=>?_
    · obtain ⟨b',d7,hW,e',x',r',v',m'⟩:=hp'
      exact ⟨b',d7,hW,e',x.trans x',r',v',m.trans m'⟩
    · exact hx.lift x m
  · obtain ⟨⟨i,σ',rfl,fx⟩,_⟩:=hx
    exact ⟨i,σ',rfl,fx⟩
theorem Runs.pure {y:γ} {b:β} {σ:ab} (r:R K.hb s.heap σ α) (v:Rel s.heap α b y):Runs K Rel A (pure y) (.ok b σ) s α:=
  fun _ _=>wpAny_pure ⟨b,σ,α,rfl,.refl,r,v,.refl s⟩
theorem Runs.standAt {pos:Pos} {t:Sem γ} {c:ae β} (H:Runs K Rel A t c s α):Runs K Rel A (do standAt pos; t) c s α:=
  fun h tk=>wpAny_bind (wpAny_standAt (H h tk))
theorem Runs.holding {vs:List Value} {t:Sem γ} {c:ae β} (H:Runs K Rel A t c s α):Runs K Rel A (holding vs t) c s α:=
  fun h tk=>wpAny_holding (H h tk)
theorem Runs.step {t:Sem γ} {b:β} {σ:ab} (r:R K.hb s.heap σ α)
    (H:∀ (Q:γ->Shared->Prop) (E:Value->Shared->Prop),(∀ y s',(∀ b o,s.heap.get? b=some o->s'.heap.get? b=some o)->R K.hb s'.heap σ α->Rel s'.heap α b y->Sm s s'->Q y s')->wpAny (model K.prog K.w) A t Q E s) :
    Runs K Rel A t (.ok b σ) s α:=
  fun _ _=>H _ _ fun y s' k r' v m=>⟨b,σ,α,rfl,.keeps k,r',v,m⟩
end
theorem R.live {hb h σ α} (r:R hb h σ α) {a:Addr} (ha:a ∈ α.ix):∃ o,h.get? a=some o:=by
  obtain ⟨i,hi,rfl⟩:=List.mem_iff_getElem.mp ha
  have hs:i < σ.length:=by rw [r.len]; exact hi
  exact (r.obj i σ[i] α.ix[i] (by simp [hs]) (by simp [hi])).live
theorem R.keeps {hb h h' σ α} (r:R hb h σ α) (k:∀ b o,h.get? b=some o->h'.get? b=some o):R hb h' σ α:=
  ⟨fun b o e=>k b o (r.base b o e),r.fresh,r.nodup,r.len,fun a ha=>⟨(r.hidden a ha).1,let ⟨o,e⟩:=(r.hidden a ha).2; ⟨o,k a o e⟩⟩,fun i m a e1 e2=>(r.obj i m a e1 e2).ext (.keeps (F:=[]) k) (by
    obtain ⟨o,e⟩:=r.live (List.mem_of_getElem? e2)
    rw [e,k a o e]),r.hfr,r.fe,fun a ha=>⟨(r.frs a ha).1,let ⟨o,e,d⟩:=(r.frs a ha).2; ⟨o,k a o e,d⟩⟩,r.frNot⟩
theorem R.liveAll {hb h σ α} (r:R hb h σ α) {a:Addr} (ha:a ∈ α.all):∃ o,h.get? a=some o:=by
  rcases List.mem_append.mp ha with q | q
  · exact r.live q
  · exact (r.hidden a q).2
theorem R.upExt {hb h h' σ α} (r:R hb h σ α) (u:Up hb.fr h h'):aB [] α h α h':=by
  refine ⟨rfl,⟨[],by simp,fun _ hx=>by simp at hx⟩,fun b o hb e hs=>?_,fun b o hb _ e=>?_,fun b o _ e=>?_,rfl⟩
  · rcases u b o e with u | ⟨m,_⟩
    · exact u
    · obtain ⟨_,o',e',d⟩:=r.frs b m
      rw [e] at e'; obtain rfl:=Option.some.inj e'
      exact absurd hs d.notSolid
  · rcases u b o e with u | ⟨m,sl,u⟩
    · exact .inl u
    · obtain ⟨_,o',e',d⟩:=r.frs b m
      rw [e] at e'; obtain rfl:=Option.some.inj e'
      exact .inr ⟨r.fe ▸ m,d,sl,u⟩
  · rcases u b o e with u | ⟨m,sl,u⟩
    · exact ⟨_,u⟩
    · exact ⟨_,u⟩
theorem R.up {hb h h' σ α} (r:R hb h σ α) (u:Up hb.fr h h'):R hb h' σ α:=by
  have x:=r.upExt u
  refine ⟨fun b o e=>?_,r.fresh,r.nodup,r.len,fun a ha=>⟨(r.hidden a ha).1,?_⟩,fun i m a e1 e2=>?_,r.hfr,r.fe,fun a ha=>⟨(r.frs a ha).1,?_⟩,r.frNot⟩
  · rcases u b o (r.base b o e) with u | ⟨m,_⟩
    · exact u
    · rw [(r.frs b m).1] at e; contradiction
  · obtain ⟨o,e⟩:=(r.hidden a ha).2
    exact x.alive a o (by simp) e
  · refine (r.obj i m a e1 e2).ext x ?_
    obtain ⟨o,e⟩:=r.live (List.mem_of_getElem? e2)
    rcases u a o e with u | ⟨m,_⟩
    · rw [e,u]
    · exact absurd (List.mem_of_getElem? e2) (r.frNot a m)
  · obtain ⟨_,o,e,d⟩:=r.frs a ha
    rcases u a o e with u | ⟨m,sl,u⟩
    · exact ⟨o,u,d⟩
    · exact ⟨_,u,d⟩
end Mine
namespace Mine
open PySem PyProof.Rows
noncomputable def AL.add (α:AL) (D:Addr):AL:=⟨α.ix++[D],α.hid,α.fr⟩
theorem aB.add {α:AL} {h h':Heap} {D:Addr} (k:∀ b o,h.get? b=some o->h'.get? b=some o) (hD:h.get? D=none):aB [] α h (α.add D) h':=
  ⟨rfl,⟨[D],rfl,fun y hy=>by simp at hy; rw [hy]; exact ⟨hD,by simp⟩⟩,fun b o _ e _=>k b o e,fun b o _ _ e=>.inl (k b o e),fun b o _ e=>⟨o,k b o e⟩,rfl⟩
theorem R.add {hb h h' σ α} {D:Addr} {m:MO} (r:R hb h σ α) (k:∀ b o,h.get? b=some o->h'.get? b=some o) (hD:h.get? D=none)
    (o:OR hb h' (α.add D) m D):R hb h' (σ++[m]) (α.add D)/\aB [] α h (α.add D) h':=by
  have x:aB [] α h (α.add D) h':=.add k hD
  have hDa:D ∉ α.all:=fun hm=>by obtain ⟨o,e⟩:=r.liveAll hm; rw [hD] at e; contradiction
  refine ⟨⟨fun b o e=>k b o (r.base b o e),fun a ha=>?_,?_,by simp [AL.add,r.len],fun a ha=>?_,fun i m' a e1 e2=>?_,r.hfr,r.fe,fun a ha=>⟨(r.frs a ha).1,let ⟨o,e,d⟩:=(r.frs a ha).2; ⟨o,k a o e,d⟩⟩,fun a ha=>?_⟩,x⟩
  · rcases List.mem_append.mp ha with q | q
    · exact r.fresh a q
    · simp at q; subst q
      cases hq:hb.get? a with
      | none=>rfl
      | some o=>rw [r.base _ _ hq] at hD; contradiction
  · show (α.ix++[D]).Nodup
    rw [List.nodup_append]
    exact ⟨r.nodup,by simp,fun a ha b hb=>by simp at hb; subst hb; rintro rfl; exact AL.not_ix hDa ha⟩
  · have ha':a ∈ α.hid:=ha
    refine ⟨fun q=>?_,let ⟨o,e⟩:=(r.hidden a ha').2; ⟨o,k a o e⟩⟩
    rcases List.mem_append.mp q with q | q
    · exact (r.hidden a ha').1 q
    · simp at q; subst q; exact hDa (List.mem_append_right _ ha')
  · have e2':(α.ix++[D])[i]?=some a:=e2
    by_cases hi:i < σ.length
    · rw [List.getElem?_append_left hi] at e1
      rw [List.getElem?_append_left (by rw [<- r.len]; exact hi)] at e2'
      have:=r.obj i m' a e1 e2'
      have hk:h'.get? a=h.get? a:=by
        obtain ⟨o,e⟩:=r.live (List.mem_of_getElem? e2')
        rw [e,k a o e]
      exact this.ext x hk
    · have e3:i=σ.length:=by
        have:=(List.getElem?_eq_some_iff.mp e1).1
        simp at this; omega
      subst e3
      rw [List.getElem?_append_right (Nat.le_refl _)] at e1
      rw [List.getElem?_append_right (by rw [r.len]; exact Nat.le_refl _)] at e2'
      simp [r.len] at e1 e2'
      subst e1 e2'
      exact o
  · intro q
    rcases List.mem_append.mp q with q | q
    · exact r.frNot a ha q
    · simp at q; subst q
      obtain ⟨_,o,e,_⟩:=r.frs a ha
      rw [hD] at e; contradiction
section
variable {K:Kt} {A:Around} {s:Shared} {α:AL} {σ:ab}
theorem b6 {n:Nat} (h:n <= ao):n <= sizeLine:=Nat.le_trans h (by decide)
theorem uG {xs:List PV} {vs:List Value} {fz:Bool} (r:R K.hb s.heap σ α) (v:aN s.heap α xs vs) :
    Runs K VR A (newList vs) (bh fz xs σ) s α:=by
  intro hc tk
  unfold bh at hc ⊢
  by_cases hl:xs.length <= ao
  · rw [if_pos hl]
    have hD:s.heap.get? s.heap.objs.size=none:=by
      cases hq:s.heap.get? s.heap.objs.size with
      | none=>rfl
      | some o=>exact absurd (Heap.lt_size hq) (Nat.lt_irrefl _)
    have k:∀ b o,s.heap.get? b=some o->(s.heap.push { cls:=.type "list",data:=.seq vs.toArray }).get? b=some o:=fun b o e=>Heap.get?_push_of_some _ e
    refine wpAny_newObj_type ?_ (by show vs.toArray.size <= sizeLine; rw [List.size_toArray,<- v.1]; exact b6 hl)
    cases fz with
    | true =>
      refine ⟨_,_,_,rfl,.keeps k,r.keeps k,?_,⟨rfl,rfl⟩⟩
      refine VR.flI (n:=0) (Heap.get?_push_size _ rfl) (fun hm=>?_) (v.ext (.keeps (F:=[]) k))
      obtain ⟨o,e⟩:=r.liveAll hm; rw [hD] at e; contradiction
    | false =>
      obtain ⟨r',x⟩:=r.add (D:=s.heap.objs.size) (m:=.lst xs) k hD ⟨vs,0,Heap.get?_push_size _ rfl,v.ext (.add k hD)⟩
      refine ⟨_,_,_,rfl,x,r',.ref ?_,⟨rfl,rfl⟩⟩
      rw [r.len]; simp [AL.add]
  · rw [if_neg hl] at hc; exact absurd rfl hc
theorem sM {xs:List PV} {vs:List Value} (r:R K.hb s.heap σ α) (v:aN s.heap α xs vs) :
    Runs K VR A (newTuple vs) (if xs.length <= ao then .ok (.tup xs) σ else .stuck) s α:=by
  intro hc tk
  by_cases hl:xs.length <= ao
  · rw [if_pos hl]
    have hD:s.heap.get? s.heap.objs.size=none:=by
      cases hq:s.heap.get? s.heap.objs.size with
      | none=>rfl
      | some o=>exact absurd (Heap.lt_size hq) (Nat.lt_irrefl _)
    have k:∀ b o,s.heap.get? b=some o->(s.heap.push { cls:=.type "tuple",data:=.seq vs.toArray }).get? b=some o:=fun b o e=>Heap.get?_push_of_some _ e
    refine wpAny_newObj_type ?_ (by show vs.toArray.size <= sizeLine; rw [List.size_toArray,<- v.1]; exact b6 hl)
    refine ⟨_,_,_,rfl,.keeps k,r.keeps k,?_,⟨rfl,rfl⟩⟩
    refine VR.tupI (n:=0) (Heap.get?_push_size _ rfl) (fun hm=>?_) (v.ext (.keeps (F:=[]) k))
    obtain ⟨o,e⟩:=r.liveAll hm; rw [hD] at e; contradiction
  · rw [if_neg hl] at hc; exact absurd rfl hc
end
end Mine
namespace Mine
open PySem PyProof.Rows
theorem gE {h:Heap} {n:Nat} {f:PV->Option PyData}:∀ {xs:List PV} {vs:List Value} {ds:List PyData},xs.mapM f=some ds->xs.length=vs.length ->
    (∀ (i:Nat) (x:PV) (v:Value) (d:PyData),xs[i]?=some x->vs[i]?=some v->f x=some d->∃ as,Reads h v d as/\d.canLay0=true/\d.depth <= n) ->
    ∃ as,ReadsAll h vs ds as/\PyData.canLayAll0 ds=true/\PyData.depthAll ds <= n
  | [],vs,ds,e,hl,_=>by
    cases vs with
    | nil=>simp at e; subst e; exact ⟨[],.nil,rfl,Nat.zero_le _⟩
    | cons=>simp at hl
  | x::xs,vs,ds,e,hl,H=>by
    cases vs with
    | nil=>simp at hl
    | cons v vs =>
      rw [List.mapM_cons] at e
      cases hx:f x with
      | none=>rw [hx] at e; contradiction
      | some d =>
        rw [hx] at e
        cases hr:xs.mapM f with
        | none=>rw [hr] at e; contradiction
        | some ds' =>
          rw [hr] at e
          obtain rfl:=Option.some.inj e
          obtain ⟨as,r1,c1,d1⟩:=H 0 x v d (by simp) (by simp) hx
          obtain ⟨bs,r2,c2,d2⟩:=gE hr (by simpa using hl) fun i y w d' e1 e2 e3=>H (i + 1) y w d' (by simpa using e1) (by simpa using e2) e3
          exact ⟨as++bs,.cons r1 r2,by simp [PyData.canLayAll0,c1,c2],by simp only [PyData.depthAll]; omega⟩
theorem h8 {hb:Bs} {h:Heap} {σ:ab} {α:AL} (r:R hb h σ α):∀ (n:Nat) (p:PV) (v:Value) (d:PyData),VR h α p v->cQ n σ p=some d->∃ as,Reads h v d as/\d.canLay0=true/\d.depth <= n:=by
  intro n
  induction n with
  | zero=>intro p v d _ e; simp [cQ] at e
  | succ n ih =>
    intro p v d hv e
    cases p with
    | exc c=>simp [cQ] at e
    | inst c i=>simp [cQ] at e
    | none=>obtain rfl:=hv.noneE; simp [cQ] at e; subst e; exact ⟨[],.none,rfl,by simp [PyData.depth]⟩
    | bool b=>obtain rfl:=hv.boolE; simp [cQ] at e; subst e; exact ⟨[],.bool _,rfl,by simp [PyData.depth]⟩
    | int i=>obtain ⟨_,rfl⟩:=hv.intE; simp [cQ] at e; subst e; exact ⟨[],.int _ _,rfl,by simp [PyData.depth]⟩
    | str x=>obtain ⟨_,rfl,hs⟩:=hv.strE; simp [cQ] at e; subst e; exact ⟨[],.str _ _,hs,by simp [PyData.depth]⟩
    | tup xs =>
      obtain ⟨a,am,k,rfl,e1,_,vs⟩:=hv.tupE
      simp only [cQ] at e
      cases hm:xs.mapM (cQ n σ) with
      | none=>rw [hm] at e; contradiction
      | some ds =>
        rw [hm] at e; obtain rfl:=Option.some.inj e
        obtain ⟨as,r1,c1,d1⟩:=gE (n:=n) hm vs.1 fun i x v d e1 e2 e3=>ih x v d (vs.2 i x v e1 e2) e3
        exact ⟨as,.tuple e1 rfl rfl (by simpa using r1),by simpa [PyData.canLay0] using c1,by simp only [PyData.depth]; omega⟩
    | fl xs =>
      obtain ⟨a,am,k,rfl,e1,_,vs⟩:=hv.flE
      simp only [cQ] at e
      cases hm:xs.mapM (cQ n σ) with
      | none=>rw [hm] at e; contradiction
      | some ds =>
        rw [hm] at e; obtain rfl:=Option.some.inj e
        obtain ⟨as,r1,c1,d1⟩:=gE (n:=n) hm vs.1 fun i x v d e1 e2 e3=>ih x v d (vs.2 i x v e1 e2) e3
        exact ⟨a::as,.list e1 rfl rfl (by simpa using r1),by simpa [PyData.canLay0] using c1,by simp only [PyData.depth]; omega⟩
    | ref i =>
      obtain ⟨a,rfl,ea⟩:=hv.refE
      simp only [cQ] at e
      cases hs:σ[i]? with
      | none=>rw [hs] at e; contradiction
      | some m =>
        rw [hs] at e
        cases m with
        | lst xs =>
          simp only at e
          cases hm:xs.mapM (cQ n σ) with
          | none=>rw [hm] at e; contradiction
          | some ds =>
            rw [hm] at e; obtain rfl:=Option.some.inj e
            obtain ⟨am,k,e1,vs⟩:=r.obj i _ a hs ea
            obtain ⟨as,r1,c1,d1⟩:=gE (n:=n) hm vs.1 fun i x v d e1 e2 e3=>ih x v d (vs.2 i x v e1 e2) e3
            exact ⟨a::as,.list e1 rfl rfl (by simpa using r1),by simpa [PyData.canLay0] using c1,by simp only [PyData.depth]; omega⟩
        | _=>simp at e
theorem j7 {d:PyData} (c:d.canLay0=true) (h:d.depth <= 16):SeqAt.shaped d=true:=by
  unfold SeqAt.shaped
  rw [c]; simp; (exact Nat.le_trans (by assumption) (by decide))
noncomputable def dE (_h:Heap) (_α:AL) (b:Bool) (y:Value):Prop:=y=.bool b
structure de (A:Around):Prop where
  depth:A.depth + 200 < recursionLimit
  units:A.units + 200 < cLine
section
variable {K:Kt} {A:Around} {s:Shared} {α:AL} {σ:ab}
theorem xY {a b:PV} {x y:Value} (hA:de A) (r:R K.hb s.heap σ α) (va:VR s.heap α a x) (vb:VR s.heap α b y) :
    Runs K dE A (compareOp .Eq x y) (ae.ofOpt (eqv σ a b) σ) s α:=by
  intro hc tk
  unfold eqv at hc ⊢
  cases h1:cQ 16 σ a with
  | none=>rw [h1] at hc; exact absurd rfl hc
  | some d1 =>
    cases h2:cQ 16 σ b with
    | none=>rw [h1,h2] at hc; exact absurd rfl hc
    | some d2 =>
      obtain ⟨as,r1,c1,p1⟩:=h8 r 16 a x d1 va h1
      obtain ⟨bs,r2,c2,p2⟩:=h8 r 16 b y d2 vb h2
      exact eq_dataH r1 r2 (j7 c1 p1) (j7 c2 p2) (by have:=hA.units; omega) ⟨_,σ,α,rfl,.refl,r,rfl,.refl s⟩
theorem xX {a b:PV} {x y:Value} (hA:de A) (r:R K.hb s.heap σ α) (va:VR s.heap α a x) (vb:VR s.heap α b y) :
    Runs K dE A (compareOp .NotEq x y) (ae.ofOpt ((eqv σ a b).map (!·)) σ) s α:=by
  intro hc tk
  unfold eqv at hc ⊢
  cases h1:cQ 16 σ a with
  | none=>rw [h1] at hc; exact absurd rfl hc
  | some d1 =>
    cases h2:cQ 16 σ b with
    | none=>rw [h1,h2] at hc; exact absurd rfl hc
    | some d2 =>
      obtain ⟨as,r1,c1,p1⟩:=h8 r 16 a x d1 va h1
      obtain ⟨bs,r2,c2,p2⟩:=h8 r 16 b y d2 vb h2
      exact ne_dataH r1 r2 (j7 c1 p1) (j7 c2 p2) (by have:=hA.units; omega) ⟨_,σ,α,rfl,.refl,r,rfl,.refl s⟩
end
end Mine
namespace Mine
open PySem PyProof.Rows
section
variable {h:Heap} {α:AL} {κ qT:Type} [DecidableEq κ] [DecidableEq qT] {g:κ->qT}
theorem abQ {e:κ × PV} {es:List (κ × PV)} {k:κ}:ac k (e::es)=if e.1=k then some e.2 else ac k es:=by
  unfold ac
  rw [List.find?_cons]
  by_cases q:e.1=k
  · simp [q]
  · simp [q]
theorem vw {e:qT × Value} {es:List (qT × Value)} {k:qT}:valueAt (e::es) k=if e.1=k then some e.2 else valueAt es k:=by
  unfold valueAt
  rw [List.find?_cons]
  by_cases q:e.1=k
  · simp [q]
  · simp [q]
theorem fY (hg:∀ a b,g a=g b->a=b):∀ {es:List (κ × PV)} {ys:List (qT × Value)},ys.map (·.1)=es.map (fun e=>g e.1)->aN h α (es.map (·.2)) (ys.map (·.2))->∀ k,
    (∀ v,ac k es=some v->∃ u,valueAt ys (g k)=some u/\VR h α v u)/\(ac k es=none->valueAt ys (g k)=none)
  | [],ys,h1,_,k=>by
    have:ys=[]:=by simpa using h1
    subst this
    exact ⟨fun v e=>(by contradiction),fun _=>rfl⟩
  | e::es,[],h1,_,k=>by simp at h1
  | e::es,y::ys,h1,h2,k=>by
    simp only [List.map_cons,List.cons.injEq] at h1 h2
    obtain ⟨u,us,q,v1,v2⟩:=h2.inv_cons
    cases q
    have ih:=fY hg h1.2 v2 k
    rw [abQ,vw,h1.1]
    by_cases q:e.1=k
    · rw [if_pos q,if_pos (by rw [q])]
      exact ⟨fun v e'=>(by obtain rfl:=Option.some.inj e'; exact ⟨_,rfl,v1⟩),fun e'=>(by contradiction)⟩
    · rw [if_neg q,if_neg (fun z=>q (hg _ _ z))]
      exact ih
theorem yF (hg:∀ a b,g a=g b->a=b):∀ {es:List (κ × PV)} {ys:List (qT × Value)},ys.map (·.1)=es.map (fun e=>g e.1)->∀ k,(ys.any fun y=>decide (y.1=g k))=es.any fun e=>decide (e.1=k)
  | [],ys,h1,k=>by
    have:ys=[]:=by simpa using h1
    subst this; rfl
  | e::es,[],h1,k=>by simp at h1
  | e::es,y::ys,h1,k=>by
    simp only [List.map_cons,List.cons.injEq] at h1
    rw [List.any_cons,List.any_cons,yF hg h1.2 k,h1.1]
    congr 1
    by_cases q:e.1=k
    · simp [q]
    · rw [decide_eq_false q,decide_eq_false (fun z=>q (hg _ _ z))]
theorem ym (hg:∀ a b,g a=g b->a=b) {k:κ} {v:PV} {u:Value} (vu:VR h α v u):∀ {es:List (κ × PV)} {ys:List (qT × Value)},ys.map (·.1)=es.map (fun e=>g e.1)->aN h α (es.map (·.2)) (ys.map (·.2)) ->
    (ys.map fun y=>if y.1=g k then (y.1,u) else y).map (·.1)=(es.map fun e=>if e.1=k then (e.1,v) else e).map (fun e=>g e.1) ∧
    aN h α ((es.map fun e=>if e.1=k then (e.1,v) else e).map (·.2)) ((ys.map fun y=>if y.1=g k then (y.1,u) else y).map (·.2))
  | [],ys,h1,h2=>by
    have:ys=[]:=by simpa using h1
    subst this; exact ⟨rfl,.nil⟩
  | e::es,[],h1,_=>by simp at h1
  | e::es,y::ys,h1,h2=>by
    simp only [List.map_cons,List.cons.injEq] at h1 h2
    obtain ⟨w,ws,q,v1,v2⟩:=h2.inv_cons
    cases q
    obtain ⟨i1,i2⟩:=ym hg vu h1.2 v2
    simp only [List.map_cons]
    rw [i1]
    by_cases q:e.1=k
    · rw [if_pos q,if_pos (by rw [h1.1,q])]
      exact ⟨by rw [h1.1],.cons vu i2⟩
    · rw [if_neg q,if_neg (fun z=>q (hg _ _ (h1.1 ▸ z)))]
      exact ⟨by rw [h1.1],.cons v1 i2⟩
theorem xh (hg:∀ a b,g a=g b->a=b) {k:κ} {v:PV} {u:Value} {es:List (κ × PV)} {ys:List (qT × Value)} (h1:ys.map (·.1)=es.map (fun e=>g e.1)) (h2:aN h α (es.map (·.2)) (ys.map (·.2))) (vu:VR h α v u) :
    (stored ys (g k) u).map (·.1)=(bL k v es).map (fun e=>g e.1)/\aN h α ((bL k v es).map (·.2)) ((stored ys (g k) u).map (·.2)):=by
  unfold stored bL
  rw [yF hg h1 k]
  split
  · exact ym hg vu h1 h2
  · rw [List.map_append,List.map_append,List.map_append,List.map_append,h1]
    exact ⟨rfl,h2.append (.cons vu .nil)⟩
end
noncomputable def kX (k:Str × Int):List (Str ⊕ Int):=[.inl k.1,.inr k.2]
theorem mB (a b:Str × Int) (h:kX a=kX b):a=b:=by
  unfold kX at h
  simp only [List.cons.injEq,Sum.inl.injEq,Sum.inr.injEq,and_true] at h
  exact Prod.ext h.1 h.2
theorem aeo {p:PV} {k:Str × Int} (h:fh p=some k):p=.tup [.str k.1,.int k.2]:=by
  unfold fh at h
  split at h
  · obtain rfl:=Option.some.inj h; rfl
  · contradiction
section
variable {K:Kt} {A:Around} {s:Shared} {α:AL} {σ:ab}
theorem rI {p:PV} {k:Str × Int} {x:Value} (h:fh p=some k) (v:VR s.heap α p x):∃ a,x=.ref a/\IsTupleKey (jr K.prog K.w) s.heap (kX k) a/\a ∉ α.all:=by
  rw [aeo h] at v
  obtain ⟨a,am,n,rfl,e,hn,w⟩:=v.tupE
  obtain ⟨u1,us,rfl,w1,w2⟩:=w.inv_cons
  obtain ⟨u2,us,rfl,w3,w4⟩:=w2.inv_cons
  have:us=[]:=List.eq_nil_of_length_eq_zero w4.1.symm
  subst this
  cases w1 with | str _ t1 _ =>
  cases w3 with | int _ t2 =>
  refine ⟨a,rfl,⟨_,_,n,e,rfl,rfl,?_⟩,hn⟩
  refine .cons ?_ (.cons ?_ .nil)
  · show Value.isStrOf k.1 (.str k.1 t1)=true
    simp [Value.isStrOf]
  · show Value.isInt k.2 (.int k.2 t2)=true
    simp [Value.isInt]
theorem mw (hK:K.Ok) (r:R K.hb s.heap σ α) {a:Addr} (ha:a ∈ α.ix):(a == sysModules)=false:=by
  obtain ⟨o,e⟩:=hK.mods
  rw [beq_eq_false_iff_ne]
  rintro rfl
  rw [r.fresh _ ha] at e; contradiction
theorem ro (hA:de A):(tupleKind (jr K.prog K.w)).room A.in1:=by
  have:=hA.units
  show A.units + 1 < cLine
  omega
theorem pw {i:Nat} {a:Addr} {es:List ((Str × Int) × PV)} (r:R K.hb s.heap σ α) (hs:σ[i]?=some (.dp es)) (ea:α.ix[i]?=some a) :
    ∃ xs,s.heap.DictOfH (tupleKind (jr K.prog K.w)) a xs/\(kvsOf xs).map (·.1)=es.map (fun e=>kX e.1)/\(∀ x ∈ xs,x.2.1 ∉ α.all)/\aN s.heap α (es.map (·.2)) ((kvsOf xs).map (·.2)):=by
  obtain ⟨xs,h1,h2,h3,h4⟩:=r.obj i _ a hs ea
  refine ⟨xs,h1,?_,h3,?_⟩
  · rw [kvsOf,List.map_map]; exact h2
  · rw [kvsOf,List.map_map]; exact h4
theorem pt {i:Nat} {a:Addr} {es:List (Str × PV)} (r:R K.hb s.heap σ α) (hs:σ[i]?=some (.ds es)) (ea:α.ix[i]?=some a) :
    ∃ kvs,s.heap.DictOf (strKind K.prog K.w) a kvs/\kvs.map (·.1)=es.map (fun e=>id e.1)/\aN s.heap α (es.map (·.2)) (kvs.map (·.2)):=r.obj i _ a hs ea
theorem nE {k:Str} {t:Tok}:(strKind K.prog K.w).is k (.str k t)=true:=by
  show Value.isStrOf k (.str k t)=true
  simp [Value.isStrOf]
theorem agh {i:Nat} {a:Addr} {es:List ((Str × Int) × PV)} {p:PV} {k:Str × Int} {x:Value} (hK:K.Ok) (hA:de A) (r:R K.hb s.heap σ α) (hs:σ[i]?=some (.dp es)) (ea:α.ix[i]?=some a) (hk:fh p=some k) (vp:VR s.heap α p x) :
    Runs K dE A (compareOp .In x (.ref a)) (.ok (ac k es).isSome σ) s α/\Runs K dE A (compareOp .NotIn x (.ref a)) (.ok (!(ac k es).isSome) σ) s α:=by
  obtain ⟨xs,h1,h2,_,h4⟩:=pw r hs ea
  obtain ⟨b,rfl,hb,_⟩:=rI (K:=K) hk vp
  have e:(atKey xs (kX k)).isSome=(ac k es).isSome:=by
    have:=fY mB h2 h4 k
    rw [valueAt_kvsOf] at this
    cases hq:ac k es with
    | none=>have:=this.2 hq; cases hz:atKey xs (kX k) with | none=>rfl | some z=>rw [hz] at this; contradiction
    | some v=>obtain ⟨u,z,_⟩:=this.1 v hq; cases hz:atKey xs (kX k) with | none=>rw [hz] at z; cases z | some z=>rfl
  have hm:=mw hK r (List.mem_of_getElem? ea)
  exact ⟨fun _ _=>wpAny_in_heap (ro hA) hb hm h1 (by rw [e]; exact ⟨_,σ,α,rfl,.refl,r,rfl,⟨rfl,rfl⟩⟩),fun _ _=>wpAny_notIn_heap (ro hA) hb hm h1 (by rw [e]; exact ⟨_,σ,α,rfl,.refl,r,rfl,⟨rfl,rfl⟩⟩)⟩
theorem agg {i:Nat} {a:Addr} {es:List (Str × PV)} {k:Str} {t:Tok} (hK:K.Ok) (r:R K.hb s.heap σ α) (hs:σ[i]?=some (.ds es)) (ea:α.ix[i]?=some a) :
    Runs K dE A (compareOp .In (.str k t) (.ref a)) (.ok (ac k es).isSome σ) s α/\Runs K dE A (compareOp .NotIn (.str k t) (.ref a)) (.ok (!(ac k es).isSome) σ) s α:=by
  obtain ⟨kvs,h1,h2,h4⟩:=pt r hs ea
  have e:(valueAt kvs k).isSome=(ac k es).isSome:=by
    have:=fY (g:=id) (fun _ _ h=>h) h2 h4 k
    cases hq:ac k es with
    | none=>have:=this.2 hq; simp only [id] at this; rw [this]; rfl
    | some v=>obtain ⟨u,z,_⟩:=this.1 v hq; simp only [id] at z; rw [z]; rfl
  have hm:=mw hK r (List.mem_of_getElem? ea)
  exact ⟨fun _ _=>wpAny_in_of nE hm h1.mapOf (by rw [e]; exact ⟨_,σ,α,rfl,.refl,r,rfl,⟨rfl,rfl⟩⟩),fun _ _=>wpAny_notIn_of nE hm h1.mapOf (by rw [e]; exact ⟨_,σ,α,rfl,.refl,r,rfl,⟨rfl,rfl⟩⟩)⟩
theorem aes {i:Nat} {a:Addr} {es:List ((Str × Int) × PV)} {p v:PV} {k:Str × Int} {x:Value} {E:Value->Shared->Prop} (hA:de A) (r:R K.hb s.heap σ α) (hs:σ[i]?=some (.dp es)) (ea:α.ix[i]?=some a) (hk:fh p=some k) (vp:VR s.heap α p x) (hv:ac k es=some v) :
    wpAny (model K.prog K.w) A (getItem (.ref a) x) (aT K VR (.ok v σ) s α) E s:=by
  obtain ⟨xs,h1,h2,_,h4⟩:=pw r hs ea
  obtain ⟨b,rfl,hb,_⟩:=rI (K:=K) hk vp
  obtain ⟨u,z,vu⟩:=(fY mB h2 h4 k).1 v hv
  rw [valueAt_kvsOf] at z
  obtain ⟨q,hq,rfl⟩:=Option.map_eq_some_iff.mp z
  exact wpAny_getItem_heap (ro hA) hb h1 hq ⟨_,σ,α,rfl,.refl,r,vu,⟨rfl,rfl⟩⟩
theorem aer {i:Nat} {a:Addr} {es:List (Str × PV)} {v:PV} {k:Str} {t:Tok} {E:Value->Shared->Prop} (r:R K.hb s.heap σ α) (hs:σ[i]?=some (.ds es)) (ea:α.ix[i]?=some a) (hv:ac k es=some v) :
    wpAny (model K.prog K.w) A (getItem (.ref a) (.str k t)) (aT K VR (.ok v σ) s α) E s:=by
  obtain ⟨kvs,h1,h2,h4⟩:=pt r hs ea
  obtain ⟨u,z,vu⟩:=(fY (g:=id) (fun _ _ h=>h) h2 h4 k).1 v hv
  exact wpAny_getItem_of nE h1.mapOf z ⟨_,σ,α,rfl,.refl,r,vu,⟨rfl,rfl⟩⟩
theorem afC {i:Nat} {a:Addr} {es:List ((Str × Int) × PV)} {p:PV} {k:Str × Int} {x:Value} {E:Value->Shared->Prop} (hK:K.Ok) (hA:de A) (r:R K.hb s.heap σ α) (hs:σ[i]?=some (.dp es)) (ea:α.ix[i]?=some a) (hk:fh p=some k) (vp:VR s.heap α p x) :
    wpAny (model K.prog K.w) A (call (.builtin "dict.get") [.ref a,x]) (aT K VR (.ok ((ac k es).getD .none) σ) s α) E s:=by
  obtain ⟨xs,h1,h2,_,h4⟩:=pw r hs ea
  obtain ⟨b,rfl,hb,_⟩:=rI (K:=K) hk vp
  refine call_meetsIn F.slot_dict_get h1.typeIs F.entry_dict_get (F.args_dict_get_2 _ _) (meetsH_dict_get (tupleKind (jr K.prog K.w)) a b (mw hK r (List.mem_of_getElem? ea))) ⟨ro hA,kX k,xs,hb,h1,?_⟩
  rw [<- valueAt_kvsOf]
  have:=fY mB h2 h4 k
  cases hq:ac k es with
  | none=>rw [this.2 hq]; exact ⟨_,σ,α,rfl,.refl,r,.none,⟨rfl,rfl⟩⟩
  | some v=>obtain ⟨u,z,vu⟩:=this.1 v hq; rw [z]; exact ⟨_,σ,α,rfl,.refl,r,vu,⟨rfl,rfl⟩⟩
theorem afB {i:Nat} {a:Addr} {es:List (Str × PV)} {k:Str} {t:Tok} {E:Value->Shared->Prop} (hK:K.Ok) (r:R K.hb s.heap σ α) (hs:σ[i]?=some (.ds es)) (ea:α.ix[i]?=some a) :
    wpAny (model K.prog K.w) A (call (.builtin "dict.get") [.ref a,.str k t]) (aT K VR (.ok ((ac k es).getD .none) σ) s α) E s:=by
  obtain ⟨kvs,h1,h2,h4⟩:=pt r hs ea
  refine call_meetsIn F.slot_dict_get h1.typeIs F.entry_dict_get (F.args_dict_get_2 _ _) (meets_dict_get (strKind K.prog K.w) a nE (mw hK r (List.mem_of_getElem? ea))) ⟨_,h1.mapOf,?_⟩
  have:=fY (g:=id) (fun _ _ h=>h) h2 h4 k
  cases hq:ac k es with
  | none=>have z:=this.2 hq; simp only [id] at z; rw [z]; exact ⟨_,σ,α,rfl,.refl,r,.none,⟨rfl,rfl⟩⟩
  | some v=>obtain ⟨u,z,vu⟩:=this.1 v hq; simp only [id] at z; rw [z]; exact ⟨_,σ,α,rfl,.refl,r,vu,⟨rfl,rfl⟩⟩
end
end Mine
namespace Mine
open PySem PyProof.Rows
noncomputable def aff:Op->Operator
  | .add=>.Add | .sub=>.Sub | .mul=>.Mult | .mod=>.Mod | .fdiv=>.FloorDiv | .pow=>.Pow
noncomputable def ft:Cm->CmpOp
  | .eq=>.Eq | .ne=>.NotEq | .lt=>.Lt | .le=>.LtE | .gt=>.Gt | .ge=>.GtE | .is=>.Is | .isNot=>.IsNot | .isin=>.In | .notin=>.NotIn
theorem nF {x y:Str} (a:PyData.strOk x=true) (b:PyData.strOk y=true):PyData.strOk (x++y)=true:=by
  unfold PyData.strOk at *
  rw [Str.cps_append]
  simp only [Array.all_eq_true',Array.mem_append] at *
  rintro c (h | h)
  · exact a c h
  · exact b c h
theorem aam {x:Str} {n:Int} (h:PyData.strOk x=true):PyData.strOk (Txt.mul x n)=true:=by
  unfold Txt.mul
  split
  · simp [PyData.strOk,Str.empty]
  · split
    · exact h
    · have key:∀ (k:Nat) (acc:Array Nat),PyData.strOk ⟨acc⟩=true->PyData.strOk ⟨(List.replicate k x.cps).foldl (·++·) acc⟩=true:=by
        intro k
        induction k with
        | zero=>intro acc h2; exact h2
        | succ k ih =>
          intro acc h2
          rw [List.replicate_succ,List.foldl_cons]
          exact ih _ (nF (x:=⟨acc⟩) (y:=x) h2 h)
      exact key _ _ (by simp [PyData.strOk])
theorem xM {x:Str} {n:Int} (h:x.length <= 100/\0 <= n/\n <= 100):MulOk x n:=
  mulOk_of 100 100 h.1 h.2.2 (by omega) (by decide) (by decide)
theorem sr {a:Int} (h:a.natAbs < 2 ^ 60):Builtin.Int.intBits a <= 64:=by
  unfold Builtin.Int.intBits
  by_cases h0:a.natAbs=0
  · have:a=0:=by omega
    subst this; decide
  · have:=(Nat.log2_lt h0).mpr h
    split <;> omega
inductive adM (h:Heap) (α:AL) (xs:List PV) (v:Value):Prop
  | mk (a:Addr) (am:List Value) (n:Nat) (e:v=.ref a) (ht:h.get? a=some { cls:=.type "list",data:=.seq (List.toArray am) n }) (vs:aN h α xs am):adM h α xs v
theorem eK {h:Heap} {hb:Bs} {σ:ab} {α:AL} {a:PV} {x:Value} {xs:List PV} (r:R hb h σ α) (v:VR h α a x) (e:a7 σ a=some xs) :
    adM h α xs x:=by
  cases a with
  | fl ys=>obtain rfl:=Option.some.inj e; obtain ⟨l,am,n,rfl,e1,_,vs⟩:=v.flE; exact ⟨l,am,n,rfl,e1,vs⟩
  | ref i =>
    obtain ⟨l,rfl,el⟩:=v.refE
    simp only [a7] at e
    cases hs:σ[i]? with
    | none=>rw [hs] at e; contradiction
    | some m =>
      rw [hs] at e
      cases m with
      | lst ys=>obtain rfl:=Option.some.inj e; obtain ⟨am,n,e1,vs⟩:=r.obj i _ l hs el; exact ⟨l,am,n,rfl,e1,vs⟩
      | _=>contradiction
  | _=>contradiction
section
variable {K:Kt} {A:Around} {s:Shared} {α:AL} {σ:ab}
theorem ic (s:Shared):s.heap.get? s.heap.objs.size=none:=by
  cases hq:s.heap.get? s.heap.objs.size with
  | none=>rfl
  | some o=>exact absurd (Heap.lt_size hq) (Nat.lt_irrefl _)
theorem aT.fl {xs:List PV} {vs:List Value} (r:R K.hb s.heap σ α) (v:aN s.heap α xs vs) :
    aT K VR (.ok (.fl xs) σ) s α (.ref s.heap.objs.size) { s with heap:=s.heap.push { cls:=.type "list",data:=.seq vs.toArray } }:=by
  have k:∀ b o,s.heap.get? b=some o->(s.heap.push { cls:=.type "list",data:=.seq vs.toArray }).get? b=some o:=fun b o e=>Heap.get?_push_of_some _ e
  refine ⟨_,_,_,rfl,.keeps k,r.keeps k,?_,⟨rfl,rfl⟩⟩
  refine VR.flI (n:=0) (Heap.get?_push_size _ rfl) (fun hm=>?_) (v.ext (.keeps (F:=[]) k))
  obtain ⟨o,e⟩:=r.liveAll hm; rw [ic] at e; contradiction
theorem aT.tup {xs:List PV} {vs:List Value} (r:R K.hb s.heap σ α) (v:aN s.heap α xs vs) :
    aT K VR (.ok (.tup xs) σ) s α (.ref s.heap.objs.size) { s with heap:=s.heap.push { cls:=.type "tuple",data:=.seq vs.toArray } }:=by
  have k:∀ b o,s.heap.get? b=some o->(s.heap.push { cls:=.type "tuple",data:=.seq vs.toArray }).get? b=some o:=fun b o e=>Heap.get?_push_of_some _ e
  refine ⟨_,_,_,rfl,.keeps k,r.keeps k,?_,⟨rfl,rfl⟩⟩
  refine VR.tupI (n:=0) (Heap.get?_push_size _ rfl) (fun hm=>?_) (v.ext (.keeps (F:=[]) k))
  obtain ⟨o,e⟩:=r.liveAll hm; rw [ic] at e; contradiction
theorem aT.here {β γ:Type} {Rel:Heap->AL->β->γ->Prop} {b:β} {y:γ} {tk:Nat} (r:R K.hb s.heap σ α) (v:Rel s.heap α b y):aT K Rel (.ok b σ) s α y { s with toks:=tk }:=
  ⟨_,_,_,rfl,.refl,r,v,⟨rfl,rfl⟩⟩
theorem xm {l b:Addr} {vs ws:List Value} {n n2:Nat} {Q:Value->Shared->Prop} {E:Value->Shared->Prop} (ho:s.heap.get? l=some { cls:=.type "list",data:=.seq vs.toArray n })
    (ho2:s.heap.get? b=some { cls:=.type "list",data:=.seq ws.toArray n2 }) (hsz:vs.length + ws.length <= sizeLine)
    (h:Q (.ref s.heap.objs.size) { s with heap:=s.heap.push { cls:=.type "list",data:=.seq (vs++ws).toArray } }):wpAny (model K.prog K.w) A (binaryOp .Add (.ref l) (.ref b)) Q E s:=by
  have e:vs.toArray++ws.toArray=(vs++ws).toArray:=by simp
  refine concat_meets ⟨_,ho,rfl⟩ ⟨_,ho2,rfl⟩ noFill_list_add seq_list_add PySem.F.slot_list_add PySem.F.entry_list_add (PySem.F.args_list_add_2 _ _) (list_addW l b vs.toArray ws.toArray n n2 none none #[] #[] (by simpa using hsz)) ⟨ho,ho2,?_⟩
  rw [e]; exact h
theorem uT {t b:Addr} {vs ws:List Value} {n n2:Nat} {Q:Value->Shared->Prop} {E:Value->Shared->Prop} (ho:s.heap.get? t=some { cls:=.type "tuple",data:=.seq vs.toArray n })
    (ho2:s.heap.get? b=some { cls:=.type "tuple",data:=.seq ws.toArray n2 }) (hsz:vs.length + ws.length <= sizeLine)
    (h0:vs=[]->Q (.ref b) s) (h1:vs ≠ []->ws=[]->Q (.ref t) s)
    (h2:Q (.ref s.heap.objs.size) { s with heap:=s.heap.push { cls:=.type "tuple",data:=.seq (vs++ws).toArray } }):wpAny (model K.prog K.w) A (binaryOp .Add (.ref t) (.ref b)) Q E s:=by
  have e:vs.toArray++ws.toArray=(vs++ws).toArray:=by simp
  by_cases hv:vs=[]
  · exact concat_meets ⟨_,ho,rfl⟩ ⟨_,ho2,rfl⟩ noFill_tuple_add seq_tuple_add PySem.F.slot_tuple_add PySem.F.entry_tuple_add (PySem.F.args_tuple_add_2 _ _)
      (tuple_addW0 t b vs.toArray ws.toArray n n2 none none #[] #[] (by simp [hv])) ⟨ho,ho2,h0 hv⟩
  · by_cases hw:ws=[]
    · exact concat_meets ⟨_,ho,rfl⟩ ⟨_,ho2,rfl⟩ noFill_tuple_add seq_tuple_add PySem.F.slot_tuple_add PySem.F.entry_tuple_add (PySem.F.args_tuple_add_2 _ _)
        (tuple_addW1 t b vs.toArray ws.toArray n n2 none none #[] #[] (by simpa using hv) (by simp [hw])) ⟨ho,ho2,h1 hv hw⟩
    · refine concat_meets ⟨_,ho,rfl⟩ ⟨_,ho2,rfl⟩ noFill_tuple_add seq_tuple_add PySem.F.slot_tuple_add PySem.F.entry_tuple_add (PySem.F.args_tuple_add_2 _ _)
        (tuple_addW2 t b vs.toArray ws.toArray n n2 none none #[] #[] (by simpa using hv) (by simpa using hw) (by rw [List.size_toArray,List.size_toArray]; exact hsz)) ⟨ho,ho2,?_⟩
      rw [e]; exact h2
theorem iJ {f:Int->Int->ae PV} {o:Operator} {a b:PV} {x y:Value} (va:VR s.heap α a x) (vb:VR s.heap α b y)
    (H:∀ i j t u,f i j ≠ .stuck->wpAny (model K.prog K.w) A (binaryOp o (.int i t) (.int j u)) (aT K VR (f i j) s α) (aS K A (f i j) s α) s):Runs K VR A (binaryOp o x y) (sw f a b) s α:=by
  intro hc tk
  cases a with
  | int i =>
    cases b with
    | int j=>obtain ⟨_,rfl⟩:=va.intE; obtain ⟨_,rfl⟩:=vb.intE; exact H i j _ _ hc
    | _=>exact absurd rfl hc
  | _=>exact absurd rfl hc
theorem fb {a b:PV} {x y:Value} (r:R K.hb s.heap σ α) (va:VR s.heap α a x) (vb:VR s.heap α b y) (he:zX a b σ=(match a7 σ a with
    | some x=>match a7 σ b with
      | some y=>if x.length + y.length <= ao then .ok (.fl (x++y)) σ else .stuck
      | none=>.stuck
    | none=>.stuck)):Runs K VR A (binaryOp .Add x y) (zX a b σ) s α:=by
  intro hc tk
  rw [he] at hc ⊢
  cases h1:a7 σ a with
  | none=>rw [h1] at hc; exact absurd rfl hc
  | some xs =>
    cases h2:a7 σ b with
    | none=>rw [h1,h2] at hc; exact absurd rfl hc
    | some ys =>
      rw [h1,h2] at hc
      dsimp only at hc ⊢
      by_cases hl:xs.length + ys.length <= ao
      · rw [if_pos hl]
        obtain ⟨l,vs,n,rfl,e1,v1⟩:=eK r va h1
        obtain ⟨l2,ws,m,rfl,e2,v2⟩:=eK r vb h2
        exact xm e1 e2 (by rw [<- v1.1,<- v2.1]; exact b6 hl) (.fl r (v1.append v2))
      · rw [if_neg hl] at hc; exact absurd rfl hc
theorem zW {a b:PV} {x y:Value} (r:R K.hb s.heap σ α) (va:VR s.heap α a x) (vb:VR s.heap α b y):Runs K VR A (binaryOp .Add x y) (zX a b σ) s α:=by
  cases a with
  | int i =>
    intro hc tk
    cases b with
    | int j=>obtain ⟨_,rfl⟩:=va.intE; obtain ⟨_,rfl⟩:=vb.intE; exact P.add_int (.here r (.int _ _))
    | _=>exact absurd rfl hc
  | str p =>
    intro hc tk
    cases b with
    | str q =>
      cases va with | str _ _ h1=>cases vb with | str _ _ h2 =>
      change (if p.length + q.length <= ao then ae.ok (PV.str (p++q)) σ else .stuck) ≠ .stuck at hc
      show wpAny _ _ _ (aT K VR (if p.length + q.length <= ao then ae.ok (PV.str (p++q)) σ else .stuck) s α) (aS K A (if p.length + q.length <= ao then ae.ok (PV.str (p++q)) σ else .stuck) s α) s
      by_cases hl:p.length + q.length <= ao
      · rw [if_pos hl]; exact PyProof.Rows.add_str (fun t' tk=>.here r (.str _ _ (nF h1 h2))) (b6 hl)
      · rw [if_neg hl] at hc; exact absurd rfl hc
    | _=>exact absurd rfl hc
  | tup p =>
    intro hc tk
    cases b with
    | tup q =>
      change (if p.length + q.length <= ao then ae.ok (PV.tup (p++q)) σ else .stuck) ≠ .stuck at hc
      show wpAny _ _ _ (aT K VR (if p.length + q.length <= ao then ae.ok (PV.tup (p++q)) σ else .stuck) s α) (aS K A (if p.length + q.length <= ao then ae.ok (PV.tup (p++q)) σ else .stuck) s α) s
      by_cases hl:p.length + q.length <= ao
      · rw [if_pos hl]
        obtain ⟨t,vs,n,rfl,e1,n1,v1⟩:=va.tupE
        obtain ⟨u,ws,m,rfl,e2,n2,v2⟩:=vb.tupE
        refine uT e1 e2 (by rw [<- v1.1,<- v2.1]; exact b6 hl) (fun h=>?_) (fun _ h=>?_) (.tup r (v1.append v2))
        · refine ⟨_,_,_,rfl,.refl,r,?_,.refl _⟩
          have:_=0:=v1.1.trans (by rw [h]; rfl)
          rw [List.eq_nil_of_length_eq_zero this]; exact vb
        · refine ⟨_,_,_,rfl,.refl,r,?_,.refl _⟩
          have:_=0:=v2.1.trans (by rw [h]; rfl)
          rw [List.eq_nil_of_length_eq_zero this,List.append_nil]; exact va
      · rw [if_neg hl] at hc; exact absurd rfl hc
    | _=>exact absurd rfl hc
  | none=>exact fb r va vb rfl
  | bool _=>exact fb r va vb rfl
  | fl _=>exact fb r va vb rfl
  | ref _=>exact fb r va vb rfl
  | exc _=>exact fb r va vb rfl
  | inst _ _=>exact fb r va vb rfl
theorem zv {a b:PV} {x y:Value} (r:R K.hb s.heap σ α) (va:VR s.heap α a x) (vb:VR s.heap α b y):Runs K VR A (binaryOp .Mult x y) (afk a b σ) s α:=by
  intro hc tk
  cases b with
  | int j =>
    obtain ⟨_,rfl⟩:=vb.intE
    cases a with
    | int i =>
      obtain ⟨_,rfl⟩:=va.intE
      change (if pg i j=true then ae.ok (PV.int (i * j)) σ else .stuck) ≠ .stuck at hc
      show wpAny _ _ _ (aT K VR (if pg i j=true then ae.ok (PV.int (i * j)) σ else .stuck) s α) (aS K A (if pg i j=true then ae.ok (PV.int (i * j)) σ else .stuck) s α) s
      by_cases hm:pg i j=true
      · rw [if_pos hm]
        refine P.mul_int (.here r (.int _ _)) ?_
        exact (of_decide_eq_true hm).elim (fun h=>.of_left (sr h)) fun h=>.of_right (sr h)
      · rw [if_neg hm] at hc; exact absurd rfl hc
    | str p =>
      obtain ⟨_,rfl,hx⟩:=va.strE
      change (if p.length <= 100/\0 <= j/\j <= 100 then ae.ok (PV.str (Txt.mul p j)) σ else .stuck) ≠ .stuck at hc
      show wpAny _ _ _ (aT K VR (if p.length <= 100/\0 <= j/\j <= 100 then ae.ok (PV.str (Txt.mul p j)) σ else .stuck) s α) (aS K A (if p.length <= 100/\0 <= j/\j <= 100 then ae.ok (PV.str (Txt.mul p j)) σ else .stuck) s α) s
      by_cases h0:p.length <= 100/\0 <= j/\j <= 100
      · rw [if_pos h0]; exact SB.mul (xM h0) fun t' tk=>.here r (.str _ _ (aam hx))
      · rw [if_neg h0] at hc; exact absurd rfl hc
    | _=>exact absurd rfl hc
  | _=>exact absurd rfl hc
theorem x8 {o:Op} {a b:PV} {x y:Value} (hA:de A) (r:R K.hb s.heap σ α) (va:VR s.heap α a x) (vb:VR s.heap α b y) :
    Runs K VR A (binaryOp (aff o) x y) (fP o a b σ) s α:=by
  cases o with
  | add=>exact zW r va vb
  | mul=>exact zv r va vb
  | sub=>exact iJ va vb fun i j t u _=>P.sub_int (.here r (.int _ _))
  | mod =>
    refine iJ va vb fun i j t u hc=>?_
    by_cases h0:j=0
    · rw [if_pos h0] at hc; exact absurd rfl hc
    · rw [if_neg h0]; exact mod_int' h0 (.here r (.int _ _))
  | fdiv =>
    refine iJ va vb fun i j t u hc=>?_
    by_cases h0:j ≠ 0/\j.natAbs < 1073741824
    · rw [if_pos h0]; exact floordiv_int h0.1 (.here r (.int _ _)) (.inl (PyProof.noPylong_small h0.2))
    · rw [if_neg h0] at hc; exact absurd rfl hc
  | pow =>
    refine iJ va vb fun i j t u hc=>?_
    by_cases h0:0 <= j/\j <= 100/\i=10
    · rw [if_pos h0]
      obtain ⟨h1,h2,rfl⟩:=h0
      refine pow_int h1 ?_ (.here r (.int _ _))
      have:Builtin.Int.intBits 10=4:=by decide +kernel
      rw [this]; omega
    · rw [if_neg h0] at hc; exact absurd rfl hc
end
end Mine
namespace Mine
open PySem PyProof.Rows
section
variable {K:Kt} {A:Around} {s:Shared} {α:AL} {σ:ab}
theorem VR.ne_none {h:Heap} {a:PV} {x:Value} (v:VR h α a x) (hn:a ≠ .none):x ≠ .none:=by
  cases v <;> first | exact absurd rfl hn | (intro e; contradiction)
theorem my {a:PV} {x:Value} {xs:List PV} {l:Addr} {am:List Value} {n:Nat} {T:String} (hT:T = "list" \/ T = "tuple") (hA:de A) (r:R K.hb s.heap σ α) (va:VR s.heap α a x)
    (e1:s.heap.get? l=some { cls:=.type T,data:=.seq am.toArray n }) (vs:aN s.heap α xs am) :
    Runs K dE A (compareOp .In x (.ref l)) (ae.ofOpt (mz σ a xs) σ) s α ∧
    Runs K dE A (compareOp .NotIn x (.ref l)) (ae.ofOpt ((mz σ a xs).map (!·)) σ) s α:=by
  unfold mz
  cases h1:cQ 16 σ a with
  | none=>exact ⟨fun hc=>absurd rfl hc,fun hc=>absurd rfl hc⟩
  | some d =>
    cases h2:xs.mapM (cQ 16 σ) with
    | none=>exact ⟨fun hc=>absurd rfl hc,fun hc=>absurd rfl hc⟩
    | some ds =>
      obtain ⟨as,r1,c1,p1⟩:=h8 r 16 a x d va h1
      obtain ⟨bs,r2,c2,p2⟩:=gE (n:=16) h2 vs.1 fun i x v d e1 e2 e3=>h8 r 16 x v d (vs.2 i x v e1 e2) e3
      have hu:A.units + 1 + min (PyData.depthAll ds) d.depth < cLine:=by have:=hA.units; omega
      rcases hT with rfl | rfl
      · have rc:Reads s.heap (.ref l) (.list ds) (l::bs):=.list e1 rfl rfl (by simpa using r2)
        exact ⟨fun _ _=>SeqAt.in_list_reads rc r1 (by simpa [PyData.canLay0] using c2) c1 hu ⟨_,σ,α,rfl,.refl,r,rfl,.refl s⟩,
          fun _ _=>SeqAt.notIn_list_reads rc r1 (by simpa [PyData.canLay0] using c2) c1 hu ⟨_,σ,α,rfl,.refl,r,rfl,.refl s⟩⟩
      · have rc:Reads s.heap (.ref l) (.tuple ds) bs:=.tuple e1 rfl rfl (by simpa using r2)
        exact ⟨fun _ _=>SeqAt.in_tuple_reads rc r1 (by simpa [PyData.canLay0] using c2) c1 hu ⟨_,σ,α,rfl,.refl,r,rfl,.refl s⟩,
          fun _ _=>SeqAt.notIn_tuple_reads rc r1 (by simpa [PyData.canLay0] using c2) c1 hu ⟨_,σ,α,rfl,.refl,r,rfl,.refl s⟩⟩
theorem yp (x:Str) (c:Nat):(!(Builtin.Str.occurrences x ⟨#[c]⟩ 0 x.length 1).isEmpty)=x.cps.toList.contains c:=by
  rw [StrLaws.found_one]; simp
theorem j8 {f:Int->Int->Bool} {o:CmpOp} {a b:PV} {x y:Value} (r:R K.hb s.heap σ α) (va:VR s.heap α a x) (vb:VR s.heap α b y)
    (H:∀ i j t u (Q:Value->Shared->Prop) (E:Value->Shared->Prop),Q (.bool (f i j)) s->wpAny (model K.prog K.w) A (compareOp o (.int i t) (.int j u)) Q E s):Runs K dE A (compareOp o x y) (v7 f a b σ) s α:=by
  intro hc tk
  cases a with
  | int i =>
    cases b with
    | int j=>obtain ⟨_,rfl⟩:=va.intE; obtain ⟨_,rfl⟩:=vb.intE; exact H i j _ _ _ _ ⟨_,σ,α,rfl,.refl,r,rfl,.refl s⟩
    | _=>exact absurd rfl hc
  | _=>exact absurd rfl hc
theorem tW {f:Bool->Bool} {o:CmpOp} {a b:PV} {x y:Value} (r:R K.hb s.heap σ α) (va:VR s.heap α a x) (vb:VR s.heap α b y)
    (H1:∀ (Q:Value->Shared->Prop) (E:Value->Shared->Prop),Q (.bool (f true)) s->wpAny (model K.prog K.w) A (compareOp o .none .none) Q E s)
    (H2:∀ (x:Value) (Q:Value->Shared->Prop) (E:Value->Shared->Prop),x ≠ .none->Q (.bool (f false)) s->wpAny (model K.prog K.w) A (compareOp o x .none) Q E s)
    (H3:∀ (p q:Bool) (Q:Value->Shared->Prop) (E:Value->Shared->Prop),Q (.bool (f (decide (p=q)))) s->wpAny (model K.prog K.w) A (compareOp o (.bool p) (.bool q)) Q E s):Runs K dE A (compareOp o x y) (isv f a b σ) s α:=by
  intro hc tk
  cases b with
  | none =>
    obtain rfl:=vb.noneE
    show wpAny _ _ _ (aT K dE (.ok (f (gd a)) σ) s α) _ _
    by_cases hn:a=.none
    · subst hn; obtain rfl:=va.noneE; exact H1 _ _ ⟨_,σ,α,rfl,.refl,r,rfl,.refl s⟩
    · have:gd a=false:=by cases a <;> first | rfl | exact absurd rfl hn
      rw [this]
      exact H2 _ _ _ (va.ne_none hn) ⟨_,σ,α,rfl,.refl,r,rfl,.refl s⟩
  | bool q =>
    cases a with
    | bool p=>obtain rfl:=va.boolE; obtain rfl:=vb.boolE; exact H3 _ _ _ _ ⟨_,σ,α,rfl,.refl,r,rfl,.refl s⟩
    | _=>exact absurd rfl hc
  | _=>exact absurd rfl hc
theorem abc {a:PV} {i:Nat}:b9 a (.ref i) σ=match σ[i]? with
      | some (.lst xs)=>mz σ a xs
      | some (.ds es)=>(match a with
        | .str k=>some (ac k es).isSome
        | _=>none)
      | some (.dp es)=>(fh a).map fun k=>(ac k es).isSome
      | _=>none:=rfl
theorem rJ {a b:PV} {x y:Value} (hK:K.Ok) (hA:de A) (r:R K.hb s.heap σ α) (va:VR s.heap α a x) (vb:VR s.heap α b y):Runs K dE A (compareOp .In x y) (ae.ofOpt (b9 a b σ) σ) s α/\Runs K dE A (compareOp .NotIn x y) (ae.ofOpt ((b9 a b σ).map (!·)) σ) s α:=by
  cases b with
  | tup xs=>obtain ⟨l,am,n,rfl,e1,_,vs⟩:=vb.tupE; exact my (.inr rfl) hA r va e1 vs
  | str z =>
    obtain ⟨_,rfl,_⟩:=vb.strE
    cases a with
    | str w =>
      obtain ⟨_,rfl,_⟩:=va.strE
      have e:b9 (.str w) (.str z) σ=match w.cps.toList with
        | [c]=>some (z.cps.toList.contains c)
        | _=>none:=rfl
      rw [e]
      cases hcs:w.cps.toList with
      | nil=>exact ⟨fun hc=>absurd rfl hc,fun hc=>absurd rfl hc⟩
      | cons c rr =>
        cases rr with
        | cons _ _=>exact ⟨fun hc=>absurd rfl hc,fun hc=>absurd rfl hc⟩
        | nil =>
          have hw:w=⟨#[c]⟩:=by cases w; simp at hcs; simp [<- hcs]
          subst hw
          exact ⟨fun _ _=>PyProof.Rows.in_str (by rw [yp]; exact ⟨_,σ,α,rfl,.refl,r,rfl,.refl s⟩),fun _ _=>PyProof.Rows.notIn_str (by rw [yp]; exact ⟨_,σ,α,rfl,.refl,r,rfl,.refl s⟩)⟩
    | _=>exact ⟨fun hc=>absurd rfl hc,fun hc=>absurd rfl hc⟩
  | fl xs=>obtain ⟨l,am,n,rfl,e1,_,vs⟩:=vb.flE; exact my (.inl rfl) hA r va e1 vs
  | ref i =>
    obtain ⟨l,rfl,el⟩:=vb.refE
    rw [abc]
    cases hs:σ[i]? with
    | none=>exact ⟨fun hc=>absurd rfl hc,fun hc=>absurd rfl hc⟩
    | some m =>
      cases m with
      | lst xs=>obtain ⟨am,n,e1,vs⟩:=r.obj i _ l hs el; exact my (.inl rfl) hA r va e1 vs
      | ds es =>
        cases a with
        | str k=>obtain ⟨_,rfl,_⟩:=va.strE; exact agg hK r hs el
        | _=>exact ⟨fun hc=>absurd rfl hc,fun hc=>absurd rfl hc⟩
      | dp es =>
        cases hk:fh a with
        | none=>exact ⟨fun hc=>absurd rfl hc,fun hc=>absurd rfl hc⟩
        | some k=>exact agh hK hA r hs el hk va
      | _=>exact ⟨fun hc=>absurd rfl hc,fun hc=>absurd rfl hc⟩
  | _=>exact ⟨fun hc=>absurd rfl hc,fun hc=>absurd rfl hc⟩
theorem d5 {o:Cm} {a b:PV} {x y:Value} (hK:K.Ok) (hA:de A) (r:R K.hb s.heap σ α) (va:VR s.heap α a x) (vb:VR s.heap α b y) :
    Runs K dE A (compareOp (ft o) x y) (bp o a b σ) s α:=by
  cases o with
  | eq=>exact xY hA r va vb
  | ne=>exact xX hA r va vb
  | lt=>exact j8 r va vb fun i j t u Q E h=>P.lt_int h
  | le=>exact j8 r va vb fun i j t u Q E h=>P.le_int h
  | gt=>exact j8 r va vb fun i j t u Q E h=>P.gt_int h
  | ge=>exact j8 r va vb fun i j t u Q E h=>P.ge_int h
  | is=>exact tW (f:=id) r va vb (fun Q E h=>is_none_none h) (fun x Q E hn h=>is_none_ne hn h) fun p q Q E h=>is_bool h
  | isNot=>exact tW (f:=(!·)) r va vb (fun Q E h=>isnot_none_none h) (fun x Q E hn h=>isnot_none_ne hn h) fun p q Q E h=>isnot_bool h
  | isin=>exact (rJ hK hA r va vb).1
  | notin=>exact (rJ hK hA r va vb).2
end
end Mine
namespace Mine
open PySem PyProof.Rows
noncomputable def c7 (ys:List Str) (i:Nat):List Str:=bV (ys.take i)
noncomputable def qc (a:List Str) (x:Str):List Str:=if a.any (· == x) then a else a++[x]
theorem tV {ys:List Str} {i:Nat} {y:Str} (h:ys[i]?=some y):c7 ys (i + 1)=qc (c7 ys i) y:=by
  unfold c7 bV
  rw [List.take_add_one,h,Option.toList_some,List.foldl_append]; rfl
theorem ach (a:List Str) (v k:Str):(qc a v).any (· == k)=(a.any (· == k) || decide (k=v)):=by
  unfold qc
  by_cases h:a.any (· == v)=true
  · rw [if_pos h]
    by_cases e:k=v
    · subst e; rw [h]; rfl
    · simp [e]
  · rw [if_neg h,List.any_append]
    congr 1
    by_cases e:k=v
    · subst e; simp
    · have:(v == k)=false:=by simpa using fun q:v=k=>e q.symm
      simp [e,this]
theorem pG (a:List Str) (v:Str):(qc a v).length=if a.any (· == v) then a.length else a.length + 1:=by
  unfold qc; split <;> simp
theorem abB (l:List Str):(bV l).length <= l.length:=by
  unfold bV
  have:∀ (l a:List Str),(l.foldl qc a).length <= a.length + l.length:=by
    intro l
    induction l with
    | nil=>intro a; simp
    | cons x l ih =>
      intro a
      have h1:=ih (qc a x)
      have h2:=pG a x
      rw [List.foldl_cons,List.length_cons]
      split at h2 <;> omega
  have h:=this l []
  rw [List.length_nil,Nat.zero_add] at h
  exact h
theorem aeh (ys:List Str) (i:Nat):(c7 ys i).length <= i:=Nat.le_trans (abB _) (by rw [List.length_take]; exact Nat.min_le_left _ _)
theorem yj:∀ {vs:List Value} {ys:List Str},StrsAre vs ys->∀ (i:Nat) (v:Value),vs[i]?=some v->∃ y t,ys[i]?=some y/\v=.str y t
  | _,_,.nil,i,v,h=>by simp at h
  | _,_,.cons y t r,0,v,h=>by simp at h; exact ⟨y,t,rfl,h.symm⟩
  | _,_,.cons y t r,i + 1,v,h=>by simpa using yj r i v (by simpa using h)
theorem qa:∀ {vs:List Value} {ys:List Str},StrsAre vs ys->vs.length=ys.length
  | _,_,.nil=>rfl
  | _,_,.cons _ _ r=>by simp [qa r]
section
variable {prog:Program} {w:World} {A:Around} {R:Result->Shared->Prop} {I:Addr} {fp wr:List Addr} {G:Array GenState->Array GenState->Prop} {n:Nat} {P:Nat->Value->Prop} {St:Nat->Shared->Prop}
theorem vS (W:WalksS prog w A.in1 I fp wr G n P St) (S:Addr) (hSf:S ∉ fp) (ys:List Str) (hval:∀ i v,P i v->∃ y t,ys[i]?=some y/\v=.str y t) (hb:n + 1 < scanBound) :
    ∀ (k i:Nat) (s:Shared),n - i=k->i <= n->St i s->s.heap.SetOf (strKind prog w) S (fun z=>(c7 ys i).any (· == z)) (c7 ys i).length ->
      (∀ s',Moved (S::wr) G s s'->s'.heap.SetOf (strKind prog w) S (fun z=>(c7 ys n).any (· == z)) (c7 ys n).length->R (.ok (.ret .none)) s') ->
      codeAny (model prog w) A (.builtin "set.update.loop" ⟨[.ref S,.ref I],[]⟩) R s:=by
  have hSw:S ∉ wr:=fun h=>hSf (W.sub _ h)
  have hsub:∀ b ∈ wr,b ∈ S::wr:=fun b hb=>List.mem_cons_of_mem _ hb
  have stay:∀ {s s':Shared} {i:Nat},Moved wr G s s'->s.heap.SetOf (strKind prog w) S (fun z=>(c7 ys i).any (· == z)) (c7 ys i).length->s'.heap.SetOf (strKind prog w) S (fun z=>(c7 ys i).any (· == z)) (c7 ys i).length:=by
    intro s s' i hm hS
    obtain ⟨o,es,ep,t,ho,rest⟩:=hS
    exact ⟨o,es,ep,t,hm.heap S _ hSw ho,rest⟩
  intro k
  induction k with
  | zero =>
    intro i s hk hi hst hS hR
    have:i=n:=by omega
    subst this
    refine codeAny_builtin F.entry_set_update_loop ?_
    rw [Around.under_plainId F.plain_set_update_loop _]
    show wpAny _ A.in1 (pyNext (.ref I) >>= _) _ _ s
    refine wpAny_bind (W.done s _ _ hst fun s' hm=>?_)
    exact wpAny_pure (hR s' (hm.mono hsub) (stay hm hS))
  | succ k ih =>
    intro i s hk hi hst hS hR
    have hlt:i < n:=by omega
    refine codeAny_builtin F.entry_set_update_loop ?_
    rw [Around.under_plainId F.plain_set_update_loop _]
    show wpAny _ A.in1 (pyNext (.ref I) >>= _) _ _ s
    refine wpAny_bind (W.item i s _ _ hlt hst fun v s' hP hst' hm=>?_)
    obtain ⟨y,t,hy,rfl⟩:=hval i v hP
    show wpAny _ A.in1 (holding [Value.str y t] (setAdd S (.str y t)) >>= _) _ _ s'
    refine wpAny_bind (wpAny_holding ?_)
    unfold setAdd
    refine wpAny_holding (wpAny_bind ((strKind prog w).pyHash (k:=y) (strKind_is _ _ _ _) ?_))
    have hS':s'.heap.SetOf (strKind prog w) S (fun z=>(c7 ys i).any (· == z)) (c7 ys i).length:=stay hm hS
    refine wpAny_setAddHashed_of (knd:=strKind prog w) (s:={ s' with toks:=s'.toks + 1 }) (strKind_is _ _ _ _) rfl hS' (by have:=aeh ys i; omega) fun h' hsb hS2=>?_
    have hSi:h'.SetOf (strKind prog w) S (fun z=>(c7 ys (i + 1)).any (· == z)) (c7 ys (i + 1)).length:=
      SetOf_congr hS2 (fun z=>by rw [tV hy,ach]) (by rw [tV hy,pG])
    refine wpAny_pure ⟨plainId_quiet F.plain_set_update_loop _,ih (i + 1) _ (by omega) hlt (W.frame _ s' _ _ hst' (Nat.le_succ _) fun b hb o e=>?_) hSi fun s'' hm'' hS''=>?_⟩
    · rw [hsb.2 b (fun h:b=S=>hSf (h ▸ hb))]; exact e
    · refine hR s'' (Moved.trans W.gtrans ((hm.mono hsub).then_heap (Nat.le_succ _) fun b o hb e=>?_) hm'') hS''
      rw [hsb.2 b (fun h:b=S=>hb (by rw [h]; exact List.mem_cons_self))]; exact e
end
theorem uE:isSubtype (.type "tuple") (.type "set")=pure false:=by rw [isSubtype_type]; kernel_rfl
theorem ni:isSubtype (.type "tuple") (.type "frozenset")=pure false:=by rw [isSubtype_type]; kernel_rfl
section
variable {prog:Program} {w:World} {A:Around} {E:Value->Shared->Prop} {s:Shared}
set_option maxHeartbeats 1600000 in
theorem ab8 {l:Addr} {T:String} {am:Array Value} {n:Nat} {ys:List Str} {led:Bool} {Q:Value->Shared->Prop} (hh:A.handled=none) (hT:T = "list" \/ T = "tuple")
    (ho:s.heap.get? l=some { cls:=.type T,data:=.seq am n }) (hi:StrsAre am.toList ys) (hb:am.size + 1 < scanBound)
    (h:∀ (h':Heap) (tk:Nat),h'.SetOf (strKind prog w) s.heap.objs.size (fun z=>(bV ys).any (· == z)) (bV ys).length->(∀ b o,b < s.heap.objs.size->s.heap.get? b=some o->h'.get? b=some o)->Q .none { s with heap:=h',toks:=tk }) :
    codeAny (model prog w) A (.call (.builtin "set.__init__") ⟨[.ref s.heap.objs.size,.ref l],[]⟩) (wants Q E) { s with heap:=s.heap.push { cls:=.type "set",dict:=none,data:=.set #[] 0 (.fresh 0 0 led) } }:=by
  have hS:(s.heap.push { cls:=.type "set",dict:=none,data:=.set #[] 0 (.fresh 0 0 led) }).get? s.heap.objs.size=some { cls:=.type "set",dict:=none,data:=.set #[] 0 (.fresh 0 0 led) }:=Heap.get?_push_size _ rfl
  have hTs:Shared.TypeIs { s with heap:=s.heap.push { cls:=.type "set",dict:=none,data:=.set #[] 0 (.fresh 0 0 led) } } (.ref s.heap.objs.size) "set" := ⟨_,hS,rfl⟩
  have hlS:l < s.heap.objs.size:=Heap.lt_size ho
  have hol:(s.heap.push { cls:=.type "set",dict:=none,data:=.set #[] 0 (.fresh 0 0 led) }).get? l=some { cls:=.type T,data:=.seq am n }:=Heap.get?_push_of_some _ ho
  have hlen:(ys.take am.size)=ys:=List.take_of_length_le (by rw [<- qa hi]; simp)
  have hmet:c7 ys am.size=bV ys:=by unfold c7; rw [hlen]
  have hh3:A.in1.in1.handled=none:=by simp [hh]
  have hneI:l ≠ (s.heap.push { cls:=.type "set",dict:=none,data:=.set #[] 0 (.fresh 0 0 led) }).objs.size:=by
    rw [Heap.size_push]; exact Nat.ne_of_lt (Nat.lt_succ_of_lt hlS)
  have hSf:s.heap.objs.size ∉ [(s.heap.push { cls:=.type "set",dict:=none,data:=.set #[] 0 (.fresh 0 0 led) }).objs.size,l]:=by
    rw [Heap.size_push]; simp only [List.mem_cons,List.not_mem_nil,or_false,not_or]
    exact ⟨Nat.ne_of_lt (Nat.lt_succ_self _),Nat.ne_of_gt hlS⟩
  have hval:∀ (i:Nat) (v:Value),am[i]?=some v->∃ y t,ys[i]?=some y/\v=.str y t:=fun i v hv=>yj hi i v (by rw [Array.getElem?_toList]; exact hv)
  have fin:∀ (s':Shared) (wr:List Addr),(∀ b ∈ wr,b=s.heap.objs.size\/b=(s.heap.push { cls:=.type "set",dict:=none,data:=.set #[] 0 (.fresh 0 0 led) }).objs.size)->∀ (h1:Heap),(∀ b o,s.heap.get? b=some o->h1.get? b=some o) ->
      Moved wr (fun a b=>b=a) { s with heap:=h1 } s'->s'.heap.SetOf (strKind prog w) s.heap.objs.size (fun z=>(c7 ys am.size).any (· == z)) (c7 ys am.size).length->Q .none s':=by
    intro s' wr hwr h1 hk hm hS'
    obtain ⟨h',g',d',tk',os'⟩:=s'
    have eg:g'=s.gens:=hm.gens
    have ed:d'=s.drawn:=hm.drawn
    have eo:os'=s.os:=hm.os
    subst eg; subst ed; subst eo
    refine h h' tk' (hmet ▸ hS') fun b o hb e=>hm.heap b o (fun q=>?_) (hk b o e)
    rcases hwr b q with q | q
    · exact absurd q (Nat.ne_of_lt hb)
    · rw [Heap.size_push] at q
      exact absurd q (Nat.ne_of_lt (Nat.lt_succ_of_lt hb))
  have start:∀ (c:String),Heap.SetOf (strKind prog w) ((s.heap.push { cls:=.type "set",dict:=none,data:=.set #[] 0 (.fresh 0 0 led) }).push { cls:=.type c,data:=.fields #[.ref l,.int 0 0] }) s.heap.objs.size (fun z=>(c7 ys 0).any (· == z)) (c7 ys 0).length:=fun c =>
    SetOf_congr ((setObjOf_fresh (knd:=strKind prog w) led).setOf (Heap.get?_push_of_some _ hS) (by unfold scanBound; omega)) (fun _=>rfl) rfl
  refine codeAny_call_builtin F.called_set.init.plain F.entry_set_init (check_set_init_1 hTs ?_)
  rcases hT with rfl | rfl
  · have hsls:=F.sub_list_set
    have hslf:=F.sub_list_frozenset
    have hne:(Value.type "list" == Value.type "dict")=false:=by decide
    have hl1:(s.heap.push { cls:=.type "set",dict:=none,data:=.set #[] 0 (.fresh 0 0 led) }).IsList l am:=⟨_,hol,rfl,n,rfl⟩
    unfold Builtin.«set.__init__» noKeywords Builtin.Frozenset.updateFrom
    generalize hPI:pyIter=PI
    wp_walk
    subst hPI
    refine wpAny_pyIter_list hl1 (wpAny_bind (wpAny_runValue ?_))
    refine vS ((Walks.list hh3 _ l hneI am).toS) s.heap.objs.size hSf ys hval hb (am.size - 0) 0 _ (by omega) (Nat.zero_le _) ?hst ?hS0 ?hR
    case hst=>exact ⟨⟨_,Heap.get?_push_size _ rfl,rfl,rfl⟩,hl1.push _⟩
    case hS0=>exact start _
    case hR =>
    intro s' hm hS'
    show wpAny _ _ _ _ _ _
    refine wpAny_pure ?_
    show wpAny _ _ (ret Value.none) _ _ _
    refine wpAny_pure ?_
    refine fin s' _ ?_ _ (fun b o e=>Heap.get?_push_of_some _ (Heap.get?_push_of_some _ e)) hm hS'
    intro b hb
    rcases List.mem_cons.mp hb with q | q
    · exact .inl q
    · exact .inr (List.mem_singleton.mp q)
  · have hsls:=uE
    have hslf:=ni
    have hne:(Value.type "tuple" == Value.type "dict")=false:=by decide
    have hl1:(s.heap.push { cls:=.type "set",dict:=none,data:=.set #[] 0 (.fresh 0 0 led) }).IsTuple l am:=⟨_,hol,rfl,n,rfl⟩
    unfold Builtin.«set.__init__» noKeywords Builtin.Frozenset.updateFrom
    generalize hPI:pyIter=PI
    wp_walk
    subst hPI
    refine wpAny_pyIter_tuple hl1 (wpAny_bind (wpAny_runValue ?_))
    refine vS ((Walks.tuple hh3 _ l hneI am).toS) s.heap.objs.size hSf ys hval hb (am.size - 0) 0 _ (by omega) (Nat.zero_le _) ?hst2 ?hS2 ?hR2
    case hst2=>exact ⟨⟨_,Heap.get?_push_size _ rfl,rfl,rfl⟩,⟨_,Heap.get?_push_of_some _ hol,rfl,n,rfl⟩⟩
    case hS2=>exact start _
    case hR2 =>
    intro s' hm hS'
    show wpAny _ _ _ _ _ _
    refine wpAny_pure ?_
    show wpAny _ _ (ret Value.none) _ _ _
    refine wpAny_pure ?_
    refine fin s' _ ?_ _ (fun b o e=>Heap.get?_push_of_some _ (Heap.get?_push_of_some _ e)) hm hS'
    intro b hb
    rcases List.mem_cons.mp hb with q | q
    · exact .inl q
    · exact .inr (List.mem_singleton.mp q)
set_option maxRecDepth 100000 in
set_option maxHeartbeats 3200000 in
theorem uP {l:Addr} {T:String} {am:Array Value} {n:Nat} {ys:List Str} {Q:Value->Shared->Prop} (hh:A.handled=none) (hT:T = "list" \/ T = "tuple")
    (ho:s.heap.get? l=some { cls:=.type T,data:=.seq am n }) (hi:StrsAre am.toList ys) (hb:am.size + 1 < scanBound)
    (h:∀ (h':Heap) (tk:Nat),h'.SetOf (strKind prog w) s.heap.objs.size (fun z=>(bV ys).any (· == z)) (bV ys).length->(∀ b o,b < s.heap.objs.size->s.heap.get? b=some o->h'.get? b=some o)->Q (.ref s.heap.objs.size) { s with heap:=h',toks:=tk }) :
    wpAny (model prog w) A (call (.type "set") [.ref l]) Q E s:=by
  obtain ⟨c,tl,hmro⟩:=F.called_set.mro
  have hmade:=F.called_set.made
  have hsub:=F.called_set.sub
  refine wpAny_call (codeAny_of_tree ?_)
  show wpAny _ _ (callAny (.type "set") _) _ _ _
  refine wpAny_pure ⟨Code.quiet_builtin _ (by decide +kernel),codeAny_builtin F.entry_type_call ?_⟩
  rw [Around.under_plain (weight_type_call_type "set" [.ref l] []) rfl]
  have h1:=F.called_set.notType
  have h2:=F.called_set.canCreate
  have hct:=F.typeCall_set_1 (.ref l)
  repeat (any_goals (first | assumption | wp_step))
  refine codeAny_mono (code_set_new_1 (.ref l) (E:=E) (Q₁:=fun obj s₁=>∃ led:Bool,obj=.ref s.heap.objs.size/\s₁={ s with heap:=s.heap.push { cls:=.type "set",dict:=none,data:=.set #[] 0 (.fresh 0 0 led) } }) fun led=>⟨led,rfl,rfl⟩) fun r s₁ hr=>?_
  cases r with
  | error e=>exact hr
  | ok fl =>
    cases fl with
    | ret obj =>
      obtain ⟨led,rfl,rfl⟩:=hr
      have hS:(s.heap.push { cls:=.type "set",dict:=none,data:=.set #[] 0 (.fresh 0 0 led) }).get? s.heap.objs.size=some { cls:=.type "set",dict:=none,data:=.set #[] 0 (.fresh 0 0 led) }:=Heap.get?_push_size _ rfl
      have hTy:Shared.TypeIs { s with heap:=s.heap.push { cls:=.type "set",dict:=none,data:=.set #[] 0 (.fresh 0 0 led) } } (.ref s.heap.objs.size) "set" := ⟨_,hS,rfl⟩
      have hli:=F.called_set.init.lookup
      have hbi:=F.called_set.init.bind (.ref s.heap.objs.size)
      repeat (any_goals (first | assumption | wp_step))
      refine codeAny_mono (ab8 (led:=led) (E:=E) (Q:=fun r ay=>r=.none/\∃ h' tk,ay={ s with heap:=h',toks:=tk } ∧
          h'.SetOf (strKind prog w) s.heap.objs.size (fun z=>(bV ys).any (· == z)) (bV ys).length/\(∀ b o,b < s.heap.objs.size->s.heap.get? b=some o->h'.get? b=some o)) (by simp [hh]) hT ho hi hb fun h' tk hS' hk=>⟨rfl,h',tk,rfl,hS',hk⟩) fun bA ay zF=>?_
      cases bA with
      | error e=>exact zF
      | ok ags =>
        cases ags with
        | ret r =>
          obtain ⟨rfl,h',tk,rfl,hS',hk'⟩:=zF
          repeat (any_goals (first | assumption | wp_step))
          exact h _ _ hS' hk'
        | _=>exact zF.elim
    | _=>exact hr.elim
end
end Mine
namespace Mine
open PySem PyProof.Rows
theorem pZ {h:Heap} {α:AL}:∀ {xs:List PV} {l:List Int} {am:List Value},bF xs=some l->aN h α xs am->IntsAre am l
  | [],l,am,e,v=>by
    obtain rfl:=Option.some.inj e
    have:am=[]:=List.eq_nil_of_length_eq_zero v.1.symm
    rw [this]; exact .nil
  | x::xs,l,am,e,v=>by
    obtain ⟨u,us,rfl,v1,v2⟩:=v.inv_cons
    cases x with
    | int i =>
      obtain ⟨_,rfl⟩:=v1.intE
      simp only [bF] at e
      cases hr:bF xs with
      | none=>rw [hr] at e; contradiction
      | some l'=>rw [hr] at e; obtain rfl:=Option.some.inj e; exact .cons _ _ (pZ hr v2)
    | _=>simp [bF] at e
theorem pX {h:Heap} {α:AL}:∀ {xs:List PV} {l:List Str} {am:List Value},c8 xs=some l->aN h α xs am->StrsAre am l
  | [],l,am,e,v=>by
    obtain rfl:=Option.some.inj e
    have:am=[]:=List.eq_nil_of_length_eq_zero v.1.symm
    rw [this]; exact .nil
  | x::xs,l,am,e,v=>by
    obtain ⟨u,us,rfl,v1,v2⟩:=v.inv_cons
    cases x with
    | str i =>
      obtain ⟨_,rfl,_⟩:=v1.strE
      simp only [c8] at e
      cases hr:c8 xs with
      | none=>rw [hr] at e; contradiction
      | some l'=>rw [hr] at e; obtain rfl:=Option.some.inj e; exact .cons _ _ (pX hr v2)
    | _=>simp [c8] at e
theorem sI (x:String):PyData.strOk (Str.ofString x)=true:=by
  rw [Str.ofString_eq_toList]
  unfold PyData.strOk
  rw [Array.all_eq_true']
  intro c hc
  simp at hc
  obtain ⟨d,_,rfl⟩:=hc
  have:=d.valid
  simp only [decide_eq_true_eq]
  rcases this with h | ⟨_,h⟩
  · exact Nat.lt_trans h (by decide)
  · exact h
theorem aaq {i:Int} (h:0 <= i/\i < 1000000000):i.natAbs.log2 < 1920:=by
  by_cases h0:i.natAbs=0
  · rw [h0]; decide
  · rw [Nat.log2_lt h0]
    exact Nat.lt_of_lt_of_le (show i.natAbs < 1000000000 by omega) (Nat.le_trans (show 1000000000 <= 2 ^ 30 by decide) (Nat.pow_le_pow_right (by decide) (by decide)))
theorem mS:∀ {am:List Value} {l:List Int},IntsAre am l->∃ xs:Array (Int × Tok),am.toArray=intItems xs/\xs.toList.map (·.1)=l
  | _,_,.nil=>⟨#[],by simp [intItems],rfl⟩
  | _,_,.cons n t r=>by
    obtain ⟨xs,e1,e2⟩:=mS r
    refine ⟨⟨(n,t)::xs.toList⟩,?_,by simp [e2]⟩
    have:intItems xs=⟨_⟩:=e1.symm
    simp only [intItems] at e1 ⊢
    rw [<- Array.toList_inj] at e1 ⊢
    simp at e1 ⊢
    exact e1
section
variable {K:Kt} {A:Around} {s:Shared} {α:AL} {σ:ab}
theorem jG {a:Addr} {am:List Value} {n:Nat} (e:s.heap.get? a=some { cls:=.type "list",data:=.seq am.toArray n }):s.heap.IsList a am.toArray:=⟨_,e,rfl,n,rfl⟩
theorem isT {a:Addr} {am:List Value} {n:Nat} (e:s.heap.get? a=some { cls:=.type "tuple",data:=.seq am.toArray n }):IsTup s.heap a am.toArray:=⟨_,e,rfl,n,rfl⟩
noncomputable def mK:B1->Value
  | .len=>.builtin "len" | .list _=>.type "list" | .tuple=>.type "tuple" | .all=>.builtin "all" | .int=>.type "int" | .str=>.type "str" | .lenset=>.none
  | .sum=>.builtin "sum"
  | .min=>.builtin "min" | .max=>.builtin "max"
  | .dict=>.none
theorem rV {f:Int->Int->Int} {R:Int->Int->Prop} (rfl':∀ a,R a a) (tr:∀ {a b c},R a b->R b c->R a c) (h1:∀ x y,R (f x y) x) (h2:∀ x y,R (f x y) y) (h3:∀ x y,f x y=x\/f x y=y) (l:List Int):∀ x,(∀ a ∈ x::l,R (l.foldl f x) a)/\l.foldl f x ∈ x::l:=by
  induction l with
  | nil=>exact fun x=>⟨fun a ha=>List.mem_singleton.mp ha ▸ rfl' x,List.mem_cons_self⟩
  | cons y l ih =>
    intro x
    obtain ⟨q1,q2⟩:=ih (f x y)
    have q0:=q1 _ List.mem_cons_self
    refine ⟨fun a ha=>?_,?_⟩
    · rcases List.mem_cons.mp ha with e | ha
      · rw [e]; exact tr q0 (h1 x y)
      · rcases List.mem_cons.mp ha with e | ha
        · rw [e]; exact tr q0 (h2 x y)
        · exact q1 a (List.mem_cons_of_mem _ ha)
    · rcases List.mem_cons.mp q2 with e | q
      · rcases h3 x y with z | z
        · rw [List.foldl_cons,e.trans z]; exact List.mem_cons_self
        · rw [List.foldl_cons,e.trans z]; exact List.mem_cons_of_mem _ List.mem_cons_self
      · exact List.mem_cons_of_mem _ (List.mem_cons_of_mem _ q)
theorem wF (l:List Int) (x:Int):(∀ a ∈ x::l,l.foldl min x <= a)/\l.foldl min x ∈ x::l:=
  rV (R:=(· <= ·)) Int.le_refl Int.le_trans Int.min_le_left Int.min_le_right (fun x y=>by rcases Int.le_total x y with h | h; exact .inl (Int.min_eq_left h); exact .inr (Int.min_eq_right h)) l x
theorem wG (l:List Int) (x:Int):(∀ a ∈ x::l,a <= l.foldl max x)/\l.foldl max x ∈ x::l:=
  rV (R:=fun a b=>b <= a) Int.le_refl (fun p q=>Int.le_trans q p) Int.le_max_left Int.le_max_right (fun x y=>by rcases Int.le_total x y with h | h; exact .inr (Int.max_eq_right h); exact .inl (Int.max_eq_left h)) l x
theorem yY {l:List Int} (h1:l.length <= 1000) (h2:l.all (fun x=>decide (x.natAbs < 2 ^ 40))=true):∀ j,j < l.length->InLong (l.getD j 0)/\InLong ((l.take (j + 1)).sum):=by
  have key:∀ (m:List Int),(∀ x ∈ m,x.natAbs < 2 ^ 40)->m.sum.natAbs <= m.length * 2 ^ 40:=by
    intro m
    induction m with
    | nil=>intro _; simp
    | cons x m ih =>
      intro h
      have h3:=h x (by simp)
      have h4:=ih fun y hy=>h y (by simp [hy])
      rw [List.sum_cons,List.length_cons,Nat.add_mul]
      omega
  intro j hj
  have hall:∀ x ∈ l,x.natAbs < 2 ^ 40:=fun x hx=>by simpa using List.all_eq_true.mp h2 x hx
  constructor
  · have:=hall _ (getD_mem hj)
    unfold InLong; omega
  · have h5:=key (l.take (j + 1)) fun x hx=>hall x (List.mem_of_mem_take hx)
    have h6:(l.take (j + 1)).length <= 1000:=by rw [List.length_take]; omega
    have h7:(l.take (j + 1)).length * 2 ^ 40 <= 1000 * 2 ^ 40:=Nat.mul_le_mul_right _ h6
    unfold InLong; omega
inductive adL (h:Heap) (α:AL) (a:PV) (xs:List PV) (x:Value):Prop
  | mk (l:Addr) (T:String) (vs:List Value) (n:Nat) (e:x=.ref l) (hT:T = "list" \/ T = "tuple") (ht:h.get? l=some { cls:=.type T,data:=.seq (List.toArray vs) n }) (v:aN h α xs vs) (ha:T = "tuple" -> a=.tup xs):adL h α a xs x
theorem rm {a:PV} {x:Value} {xs:List PV} (r:R K.hb s.heap σ α) (va:VR s.heap α a x) (e:a8 σ a=some xs) :
    adL s.heap α a xs x:=by
  cases a with
  | fl ys=>obtain rfl:=Option.some.inj e; obtain ⟨l,vs,n,rfl,e1,_,v⟩:=va.flE; exact ⟨l,_,vs,n,rfl,.inl rfl,e1,v,fun h=>by simp at h⟩
  | tup ys=>obtain rfl:=Option.some.inj e; obtain ⟨l,vs,n,rfl,e1,_,v⟩:=va.tupE; exact ⟨l,_,vs,n,rfl,.inr rfl,e1,v,fun _=>rfl⟩
  | ref i =>
    obtain ⟨l,rfl,el⟩:=va.refE
    simp only [a8] at e
    cases hs:σ[i]? with
    | none=>rw [hs] at e; contradiction
    | some m =>
      rw [hs] at e
      cases m with
      | lst ys=>obtain rfl:=Option.some.inj e; obtain ⟨vs,n,e1,v⟩:=r.obj i _ l hs el; exact ⟨l,_,vs,n,rfl,.inl rfl,e1,v,fun h=>by simp at h⟩
      | _=>contradiction
  | _=>contradiction
theorem aT.list {fz:Bool} {xs:List PV} {vs:List Value} {D:Addr} {h':Heap} {n tk:Nat} (hl:xs.length <= ao) (r:R K.hb s.heap σ α) (v:aN s.heap α xs vs) (k:∀ b o,s.heap.get? b=some o->h'.get? b=some o)
    (hD:s.heap.get? D=none) (e:h'.get? D=some { cls:=.type "list",data:=.seq vs.toArray n }):aT K VR (bh fz xs σ) s α (.ref D) { s with heap:=h',toks:=tk }:=by
  unfold bh
  rw [if_pos hl]
  cases fz with
  | true =>
    refine ⟨_,_,_,rfl,.keeps k,r.keeps k,?_,⟨rfl,rfl⟩⟩
    refine VR.flI e (fun hm=>?_) (v.ext (.keeps (F:=[]) k))
    obtain ⟨o,e⟩:=r.liveAll hm; rw [hD] at e; contradiction
  | false =>
    obtain ⟨r',x⟩:=r.add (D:=D) (m:=.lst xs) k hD ⟨vs,n,e,v.ext (.add k hD)⟩
    refine ⟨_,_,_,rfl,x,r',.ref ?_,⟨rfl,rfl⟩⟩
    rw [r.len]; simp [AL.add]
theorem tU {fz:Bool} {xs:List PV} (h:bh fz xs σ ≠ .stuck):xs.length <= ao:=by
  unfold bh at h
  by_cases hl:xs.length <= ao
  · exact hl
  · rw [if_neg hl] at h; exact absurd rfl h
theorem rF {fz:Bool} {a:PV} {x:Value} (r:R K.hb s.heap σ α) (va:VR s.heap α a x) :
    Runs K VR A (call (.type "list") [x]) (cC (.list fz) a σ) s α:=by
  intro hc tk
  cases he:a8 σ a with
  | none=>exact absurd (show (match a8 σ a with | some xs=>bh fz xs σ | none=>.stuck)=.stuck by rw [he]) hc
  | some xs =>
    have e0:cC (.list fz) a σ=bh fz xs σ:=show (match a8 σ a with | some xs=>bh fz xs σ | none=>.stuck)=_ by rw [he]
    rw [e0] at hc ⊢
    have hl:=tU hc
    obtain ⟨l,T,vs,n,rfl,hT,e1,v,_⟩:=rm r va he
    refine call_list_seq l hT e1 rfl rfl (fun h' c' k e=>?_) (by simpa [<- v.1] using b6 hl)
    exact aT.list (tk:=s.toks) hl r v k (ic s) e
theorem pj {n:Nat} (h:n <= ao):((n:Nat):Int) < 2 ^ 63:=by
  have:ao=1000000:=rfl
  omega
theorem p0 {h:Heap}:∀ {xs:List PV} {l:List Bool} {vs:List Value},dl xs=some l->aN h α xs vs->vs=l.map .bool
  | [],l,vs,e,v=>by obtain rfl:=Option.some.inj e; exact List.eq_nil_of_length_eq_zero v.1.symm
  | x::xs,l,vs,e,v=>by
    obtain ⟨u,us,rfl,v1,v2⟩:=v.inv_cons
    cases x with
    | bool b =>
      obtain rfl:=v1.boolE
      simp only [dl] at e
      cases hr:dl xs with
      | none=>rw [hr] at e; contradiction
      | some l'=>rw [hr] at e; obtain rfl:=Option.some.inj e; rw [p0 hr v2]; rfl
    | _=>simp [dl] at e
theorem aaD (l:List Bool):(List.range l.length).all (fun i=>l.getD i false)=l.all id:=by
  induction l with
  | nil=>rfl
  | cons b l ih=>rw [List.length_cons,List.range_succ_eq_map,List.all_cons,List.all_map,List.all_cons,<- ih]; rfl
theorem zC {o:Obj} {h':Heap} (hk:∀ b o',b ∉ [s.heap.objs.size]->(s.heap.push o).get? b=some o'->h'.get? b=some o'):∀ b o',s.heap.get? b=some o'->h'.get? b=some o':=
  fun b o' e=>hk b o' (by simp; exact Nat.ne_of_lt (Heap.lt_size e)) (Heap.get?_push_of_some _ e)
theorem x6 (bs:List Bool):TruthOf K.prog K.w A.in1 (fun i v=>(bs.map Value.bool).toArray[i]?=some v) (fun i=>bs.getD i false):=fun i v s' Q' E' hP hQ=>by
  simp only [List.getElem?_toArray,List.getElem?_map] at hP
  obtain ⟨b,hb,rfl⟩:=Option.map_eq_some_iff.mp hP
  refine wpAny_truthy_bool ?_
  have:bs.getD i false=b:=by simp [List.getD,hb]
  rw [<- this]; exact hQ
theorem x7 {l:Addr} {bs:List Bool} {n:Nat} (e1:s.heap.get? l=some { cls:=.type "list",data:=.seq (bs.map Value.bool).toArray n }) :
    (s.heap.push { cls:=.type "list_iterator",data:=.fields #[.ref l,.int 0 0] }).IsListIter s.heap.objs.size l 0/\(s.heap.push { cls:=.type "list_iterator",data:=.fields #[.ref l,.int 0 0] }).IsList l (bs.map Value.bool).toArray:=
  ⟨⟨_,Heap.get?_push_size _ rfl,rfl,rfl⟩,⟨_,Heap.get?_push_of_some _ e1,rfl,n,rfl⟩⟩
theorem aeO {l:Addr} {bs:List Bool} {n:Nat} {Q:Value->Shared->Prop} {E:Value->Shared->Prop} (hA:de A) (hh:A.handled=none) (e1:s.heap.get? l=some { cls:=.type "list",data:=.seq (bs.map Value.bool).toArray n })
    (h:∀ h' tk,(∀ b o',s.heap.get? b=some o'->h'.get? b=some o')->Q (.bool (bs.all id)) { s with heap:=h',toks:=tk }):wpAny (model K.prog K.w) A (call (.builtin "all") [.ref l]) Q E s:=by
  refine call_all_walk (wpAny_pyIter_list (jG e1) ⟨_,_,_,_,_,_,_,rfl,Walks.list (A:=A.in1) hh _ l (Nat.ne_of_lt (Heap.lt_size e1)) (bs.map Value.bool).toArray,x7 e1,x6 bs,fun h' tk hk=>?_⟩)
  have:=h h' tk (zC hk)
  rw [show (bs.map Value.bool).toArray.size=bs.length by simp,aaD]; exact this
theorem zy {a:PV} {x:Value} {l:List Str} {Q:Value->Shared->Prop} {E:Value->Shared->Prop} (hA:de A) (hh:A.handled=none) (r:R K.hb s.heap σ α) (va:VR s.heap α a x) (hl:(a8 σ a).bind c8=some l) (hn:l.length <= 1000)
    (h:∀ D h' tk,(∀ b o,s.heap.get? b=some o->h'.get? b=some o)->(∀ (Q':Value->Shared->Prop) (E':Value->Shared->Prop),(∀ t tk',Q' (.int (bV l).length t) { s with heap:=h',toks:=tk' })->wpAny (model K.prog K.w) A (call (.builtin "len") [.ref D]) Q' E' { s with heap:=h',toks:=tk })->Q (.ref D) { s with heap:=h',toks:=tk }) :
    wpAny (model K.prog K.w) A (call (.type "set") [x]) Q E s:=by
  obtain ⟨xs,h1,h2⟩:=Option.bind_eq_some_iff.mp hl
  obtain ⟨ad,T,vs,n,rfl,hT,e1,v,_⟩:=rm r va h1
  have hS:=pX h2 v
  have hlen:vs.length=l.length:=qa hS
  refine uP hh hT e1 (by simpa using hS) (by rw [List.size_toArray,hlen]; unfold scanBound; omega) fun h' tk hset hk=>?_
  refine h _ h' tk (fun b o e=>hk b o (Heap.lt_size e) e) fun Q' E' hq=>?_
  obtain ⟨o,es,ep,t,ho,hex,hd,hel,hmem,hb,hf,hn'⟩:=hset
  refine call_len_set (s:={ s with heap:=h',toks:=tk }) ho hex hd hf (by unfold scanBound at hb; omega) ?_
  rw [hn']; exact hq _ _
theorem pf {β:Type} {g:List PV->Option β} {f:β->ae PV} {a:PV} {P:Prop} (h:cX g f a σ ≠ .stuck) (k:∀ xs l,a7 σ a=some xs->g xs=some l->f l ≠ .stuck->cX g f a σ=f l->P):P:=by
  cases he:(a7 σ a).bind g with
  | none=>exact absurd (by unfold cX; rw [he]) h
  | some l =>
    have e:cX g f a σ=f l:=by unfold cX; rw [he]
    exact aP he fun xs h1 h2=>k xs l h1 h2 (e ▸ h) e
theorem sT {a:PV} {x:Value} {xs:List PV} {l:List Int} (r:R K.hb s.heap σ α) (va:VR s.heap α a x) (h1:a7 σ a=some xs) (h2:bF xs=some l):∃ ad ys,x=.ref ad/\s.heap.IsList ad (intItems ys)/\ys.toList.map (·.1)=l:=by
  obtain ⟨ad,vs,n,rfl,e1,v⟩:=eK r va h1
  obtain ⟨ys,h3,h4⟩:=mS (pZ h2 v)
  exact ⟨ad,ys,rfl,h3 ▸ jG e1,h4⟩
theorem aal {a:PV} {x:Value} (hh:A.handled=none) (r:R K.hb s.heap σ α) (va:VR s.heap α a x):Runs K VR A (call (.builtin "sum") [x]) (cC .sum a σ) s α:=by
  show Runs K VR A _ (cX bF _ a σ) s α
  intro hc tk
  refine pf hc fun xs l h1 h2 hc e=>?_
  rw [e]
  obtain ⟨ad,ys,rfl,hL,h4⟩:=sT r va h1 h2
  by_cases hl:l.length <= 1000/\l.all (fun x=>decide (x.natAbs < 2 ^ 40))
  · rw [if_pos hl]
    refine sum_intList hh hL (fun j hj=>?_) fun h' tk t' k=>?_
    · rw [numAt_eq,preSum_eq,h4]
      exact yY hl.1 hl.2 j (by rw [<- h4]; simpa using hj)
    · rw [preSum_eq,h4,List.take_of_length_le (by rw [<- h4]; simp)]
      exact ⟨_,_,_,rfl,.keeps k,r.keeps k,.int _ _,⟨rfl,rfl⟩⟩
  · exact absurd (if_neg hl) hc
theorem aaU {a:PV} {x:Value} (hh:A.handled=none) (r:R K.hb s.heap σ α) (va:VR s.heap α a x):Runs K VR A (call (.builtin "min") [x]) (cC .min a σ) s α:=by
  show Runs K VR A _ (cX bF _ a σ) s α
  intro hc tk
  refine pf hc fun xs l h1 h2 hc e=>?_
  rw [e]
  obtain ⟨ad,ys,rfl,hL,h4⟩:=sT r va h1 h2
  cases l with
  | nil=>exact absurd rfl hc
  | cons x0 l =>
    have hlen:ys.size=l.length + 1:=by have:=congrArg List.length h4; simpa using this
    refine min_intList hh hL (hlen ▸ Nat.succ_pos _) fun u h' tk hv k=>?_
    obtain ⟨t,rfl⟩:=intItems_at hv
    obtain ⟨q1,q2⟩:=argBest_lt (numAt ys) (ys.size - 1)
    rw [hlen] at q1 q2 ⊢
    obtain ⟨m1,m2⟩:=wF l x0
    have hm:numAt ys (argBest (fun i j=>decide (numAt ys i < numAt ys j)) l.length)=l.foldl min x0:=by
      refine Int.le_antisymm ?_ (m1 _ ?_)
      · obtain ⟨j,hj,e⟩:=mem_getD m2
        have:=q2 j (Nat.le_of_lt_succ hj)
        rw [numAt_eq ys j,h4,e] at this; exact this
      · rw [numAt_eq,h4]; exact getD_mem (Nat.lt_succ_of_le q1)
    refine ⟨_,_,_,rfl,.keeps k,r.keeps k,?_,⟨rfl,rfl⟩⟩
    rw [show l.length + 1 - 1=l.length from rfl,hm]
    exact .int _ _
theorem aa1 {a:PV} {x:Value} (hh:A.handled=none) (r:R K.hb s.heap σ α) (va:VR s.heap α a x):Runs K VR A (call (.builtin "max") [x]) (cC .max a σ) s α:=by
  show Runs K VR A _ (cX bF _ a σ) s α
  intro hc tk
  refine pf hc fun xs l h1 h2 hc e=>?_
  rw [e]
  obtain ⟨ad,ys,rfl,hL,h4⟩:=sT r va h1 h2
  cases l with
  | nil=>exact absurd rfl hc
  | cons x0 l =>
    have hlen:ys.size=l.length + 1:=by have:=congrArg List.length h4; simpa using this
    refine max_intList hh hL (hlen ▸ Nat.succ_pos _) fun u h' tk hv k=>?_
    obtain ⟨t,rfl⟩:=intItems_at hv
    obtain ⟨q1,q2⟩:=argBest_gt (numAt ys) (ys.size - 1)
    rw [hlen] at q1 q2 ⊢
    obtain ⟨m1,m2⟩:=wG l x0
    have hm:numAt ys (argBest (fun i j=>decide (numAt ys i > numAt ys j)) l.length)=l.foldl max x0:=by
      refine Int.le_antisymm (m1 _ ?_) ?_
      · rw [numAt_eq,h4]; exact getD_mem (Nat.lt_succ_of_le q1)
      · obtain ⟨j,hj,e⟩:=mem_getD m2
        have:=q2 j (Nat.le_of_lt_succ hj)
        rw [numAt_eq ys j,h4,e] at this; exact this
    refine ⟨_,_,_,rfl,.keeps k,r.keeps k,?_,⟨rfl,rfl⟩⟩
    rw [show l.length + 1 - 1=l.length from rfl,hm]
    exact .int _ _
theorem abG {b:B1} {a:PV} {x:Value} (hb:mK b ≠ .none) (hA:de A) (hh:vg b=true->A.handled=none) (r:R K.hb s.heap σ α) (va:VR s.heap α a x) :
    Runs K VR A (call (mK b) [x]) (cC b a σ) s α:=by
  cases b with
  | len =>
    intro hc tk
    by_cases hz:∃ z,a=.str z
    · obtain ⟨z,rfl⟩:=hz
      obtain ⟨_,rfl,_⟩:=va.strE
      have e0:cC .len (.str z) σ=if z.length <= ao then .ok (.int z.length) σ else .stuck:=rfl
      rw [e0] at hc ⊢
      by_cases hl:z.length <= ao
      · rw [if_pos hl]
        exact P.len_str (by have:=pj hl; omega) (.here r (.int _ _))
      · rw [if_neg hl] at hc; exact absurd rfl hc
    · have e0:cC .len a σ=match a8 σ a with
          | some xs=>if xs.length <= ao then .ok (.int xs.length) σ else .stuck
          | none=>.stuck:=by
        cases a <;> first | rfl | exact absurd ⟨_,rfl⟩ hz
      rw [e0] at hc ⊢
      cases he:a8 σ a with
      | none=>rw [he] at hc; exact absurd rfl hc
      | some xs =>
        rw [he] at hc
        dsimp only at hc ⊢
        split at hc
        · rename_i hl; rw [if_pos hl]
          obtain ⟨l,T,vs,n,rfl,hT,e1,v,_⟩:=rm r va he
          have hs:(vs.toArray.size:Int) < 2 ^ 63:=by rw [List.size_toArray,<- v.1]; exact pj hl
          rcases hT with rfl | rfl
          · refine PyProof.Rows.len_list (jG e1) hs ?_
            simp only [List.size_toArray,<- v.1]; exact .here r (.int _ _)
          · refine PyProof.Rows.len_tuple (isT e1) hs ?_
            simp only [List.size_toArray,<- v.1]; exact .here r (.int _ _)
        · exact absurd rfl hc
  | list fz=>exact rF r va
  | tuple =>
    intro hc tk
    have e0:cC .tuple a σ=match a8 σ a with
        | some xs=>if xs.length <= ao then .ok (.tup xs) σ else .stuck
        | none=>.stuck:=rfl
    rw [e0] at hc ⊢
    cases he:a8 σ a with
    | none=>rw [he] at hc; exact absurd rfl hc
    | some xs =>
      rw [he] at hc
      dsimp only at hc ⊢
      split at hc
      · rename_i hl; rw [if_pos hl]
        obtain ⟨l,T,vs,n,rfl,hT,e1,v,ht⟩:=rm r va he
        rcases hT with rfl | rfl
        · refine call_tuple_list (jG e1) (fun h' k=>?_) (by simpa [<- v.1] using b6 hl)
          have k':∀ b o,s.heap.get? b=some o->(h'.push { cls:=.type "tuple",data:=.seq vs.toArray }).get? b=some o:=fun b o e=>Heap.get?_push_of_some _ (k b o e)
          refine ⟨_,_,_,rfl,.keeps k',r.keeps k',?_,⟨rfl,rfl⟩⟩
          refine VR.tupI (n:=0) (Heap.get?_push_size _ rfl) (fun hm=>?_) (v.ext (.keeps (F:=[]) k'))
          obtain ⟨o,e⟩:=r.liveAll hm
          exact absurd (Heap.lt_size (k _ _ e)) (Nat.lt_irrefl _)
        · rw [ht rfl] at va
          exact call_tuple_tup (isT e1) ⟨_,_,_,rfl,.refl,r,va,.refl s⟩
      · exact absurd rfl hc
  | sum=>exact aal (hh rfl) r va
  | min=>exact aaU (hh rfl) r va
  | max=>exact aa1 (hh rfl) r va
  | all =>
    show Runs K VR A _ (cX dl _ a σ) s α
    intro hc tk
    refine pf hc fun xs l h1 h2 _ e=>?_
    rw [e]
    obtain ⟨ad,vs,n,rfl,e1,v⟩:=eK r va h1
    rw [p0 h2 v] at e1
    exact aeO hA (hh rfl) e1 fun h' tk k=>⟨_,_,_,rfl,.keeps k,r.keeps k,.bool _,⟨rfl,rfl⟩⟩
  | int =>
    intro hc tk
    cases a with
    | bool b=>obtain rfl:=va.boolE; exact call_int_bool (.here r (.int _ _))
    | _=>exact absurd rfl hc
  | str =>
    intro hc tk
    cases a with
    | str z=>obtain ⟨_,rfl,hz⟩:=va.strE; exact P.str_of_str ⟨_,_,_,rfl,.refl,r,.str _ _ hz,.refl s⟩
    | int i =>
      obtain ⟨_,rfl⟩:=va.intE
      have e0:cC .str (.int i) σ=if 0 <= i/\i < 1000000000 then .ok (.str (Str.ofString (toString i))) σ else .stuck:=rfl
      rw [e0] at hc ⊢
      by_cases hl:0 <= i/\i < 1000000000
      · rw [if_pos hl]
        exact P.str_of_int (aaq hl) (.here r (.str _ _ (sI _)))
      · rw [if_neg hl] at hc; exact absurd rfl hc
    | _=>exact absurd rfl hc
  | lenset=>exact absurd rfl hb
  | dict=>exact absurd rfl hb
end
end Mine
namespace Mine
open PySem PyProof.Rows
theorem R.set {hb h h' σ α} {i:Nat} {a:Addr} {m:MO} {oa:Obj} (r:R hb h σ α) (ea:α.ix[i]?=some a) (k:∀ b o,b ≠ a->h.get? b=some o->h'.get? b=some o) (al:h'.get? a=some oa)
    (o:aB [] α h α h'->OR hb h' α m a):R hb h' (σ.set i m) α/\aB [] α h α h':=by
  have ha:a ∈ α.ix:=List.mem_of_getElem? ea
  have x:aB [] α h α h':=⟨rfl,⟨[],by simp,fun _ hx=>by simp at hx⟩,fun b o hb e _=>k b o (fun q=>hb (q ▸ ha)) e,fun b o hb _ e=>.inl (k b o (fun q=>hb (q ▸ ha)) e),
    fun b o _ e=>by
      by_cases q:b=a
      · subst q; exact ⟨oa,al⟩
      · exact ⟨o,k b o q e⟩,rfl⟩
  refine ⟨⟨fun b o e=>k b o (fun q=>?_) (r.base b o e),r.fresh,r.nodup,by simp [r.len],fun b hb=>⟨(r.hidden b hb).1,let ⟨o,e⟩:=(r.hidden b hb).2; ⟨o,k b o (fun q=>(r.hidden b hb).1 (q ▸ ha)) e⟩⟩,fun j m' a' e1 e2=>?_,r.hfr,r.fe,fun b hb=>⟨(r.frs b hb).1,let ⟨o,e,d⟩:=(r.frs b hb).2; ⟨o,k b o (fun q=>r.frNot b hb (q ▸ ha)) e,d⟩⟩,r.frNot⟩,x⟩
  · rw [q,r.fresh a ha] at e; contradiction
  · by_cases hj:j=i
    · subst hj
      rw [ea] at e2; obtain rfl:=Option.some.inj e2
      rw [List.getElem?_set_self (by rw [r.len]; exact (List.getElem?_eq_some_iff.mp ea).1)] at e1
      obtain rfl:=Option.some.inj e1; exact o x
    · rw [List.getElem?_set_ne (Ne.symm hj)] at e1
      have hne:a' ≠ a:=fun q=>by
        subst q
        exact hj ((List.getElem?_inj (List.getElem?_eq_some_iff.mp e2).1 r.nodup).mp (e2.trans ea.symm))
      obtain ⟨o',e'⟩:=r.live (List.mem_of_getElem? e2)
      exact (r.obj j m' a' e1 e2).ext x (by rw [e',k a' o' hne e'])
section
variable {K:Kt} {A:Around} {s:Shared} {α:AL} {σ:ab}
theorem aaN {a:PV} {x:Value} (r:R K.hb s.heap σ α) (va:VR s.heap α a x):Runs K VR A (unaryOp .USub x) (afi a σ) s α:=by
  intro hc tk
  cases a with
  | int i=>obtain ⟨_,rfl⟩:=va.intE; exact P.neg_int (.here r (.int _ _))
  | _=>exact absurd rfl hc
theorem iy {a:PV} {x:Value} (r:R K.hb s.heap σ α) (va:VR s.heap α a x):Runs K dx A (truthy x) (cP a σ) s α:=by
  intro hc tk
  cases a with
  | bool b=>obtain rfl:=va.boolE; exact wpAny_truthy_bool ⟨_,_,_,rfl,.refl,r,rfl,.refl s⟩
  | _=>exact absurd rfl hc
noncomputable def yO:Ty->Option Value
  | .int=>some (.type "int") | .str=>some (.type "str") | .bool=>some (.type "bool") | .tuple=>some (.type "tuple")
  | .list=>some (.type "list")
theorem wl {t:Ty} {tv:Value} {a:PV} {x:Value} (ht:yO t=some tv) (r:R K.hb s.heap σ α) (va:VR s.heap α a x) :
    Runs K dE A (call (.builtin "isinstance") [x,tv]) (ga a t σ) s α:=by
  intro hc tk
  have ok:∀ {b:Bool} {tk:Nat},aT K dE (.ok b σ) s α (.bool b) { s with toks:=tk }:=⟨_,_,_,rfl,.refl,r,rfl,⟨rfl,rfl⟩⟩
  cases t with
  | int =>
    obtain rfl:=Option.some.inj ht
    cases a with
    | int i=>obtain ⟨_,rfl⟩:=va.intE; exact IsiPair.int_int (ok (tk:=s.toks))
    | bool b=>obtain rfl:=va.boolE; exact IsiPair.bool_int (ok (tk:=s.toks))
    | none=>obtain rfl:=va.noneE; exact IsiPair.NoneType_int ok
    | str z=>obtain ⟨_,rfl,_⟩:=va.strE; exact IsiPair.str_int ok
    | _=>exact absurd rfl hc
  | bool =>
    obtain rfl:=Option.some.inj ht
    cases a with
    | int i=>obtain ⟨_,rfl⟩:=va.intE; exact IsiPair.int_bool ok
    | bool b=>obtain rfl:=va.boolE; exact IsiPair.bool_bool (ok (tk:=s.toks))
    | none=>obtain rfl:=va.noneE; exact IsiPair.NoneType_bool ok
    | str z=>obtain ⟨_,rfl,_⟩:=va.strE; exact IsiPair.str_bool ok
    | _=>exact absurd rfl hc
  | str =>
    obtain rfl:=Option.some.inj ht
    cases a with
    | int i=>obtain ⟨_,rfl⟩:=va.intE; exact IsiPair.int_str ok
    | bool b=>obtain rfl:=va.boolE; exact IsiPair.bool_str ok
    | none=>obtain rfl:=va.noneE; exact IsiPair.NoneType_str ok
    | str z=>obtain ⟨_,rfl,_⟩:=va.strE; exact IsiPair.str_str (ok (tk:=s.toks))
    | tup xs=>obtain ⟨l,vs,n,rfl,e1,_,v⟩:=va.tupE; exact IsiPair.tuple_str e1 rfl ok
    | _=>exact absurd rfl hc
  | tuple =>
    obtain rfl:=Option.some.inj ht
    cases a with
    | int i=>obtain ⟨_,rfl⟩:=va.intE; exact IsiPair.int_tuple ok
    | str z=>obtain ⟨_,rfl,_⟩:=va.strE; exact IsiPair.str_tuple ok
    | tup xs=>obtain ⟨l,vs,n,rfl,e1,_,v⟩:=va.tupE; exact IsiPair.tuple_tuple e1 rfl (ok (tk:=s.toks))
    | _=>exact absurd rfl hc
  | list =>
    obtain rfl:=Option.some.inj ht
    have gen:∀ (e:ga a .list σ=match a7 σ a with | some _=>.ok true σ | none=>.stuck),wpAny (model K.prog K.w) A (call (.builtin "isinstance") [x,.type "list"]) (aT K dE (ga a .list σ) s α) (aS K A (ga a .list σ) s α) s:=fun e=>by
      rw [e] at hc ⊢
      cases h1:a7 σ a with
      | none=>rw [h1] at hc; exact absurd rfl hc
      | some xs=>obtain ⟨l,vs,n,rfl,e1,v⟩:=eK r va h1; exact IsiPair.list_list e1 rfl (ok (tk:=s.toks))
    cases a with
    | tup xs=>obtain ⟨l,vs,n,rfl,e1,_,v⟩:=va.tupE; exact IsiPair.tuple_list e1 rfl ok
    | none=>exact gen rfl
    | bool _=>exact gen rfl
    | int _=>exact gen rfl
    | str _=>exact gen rfl
    | fl _=>exact gen rfl
    | ref _=>exact gen rfl
    | exc _=>exact gen rfl
    | inst _ _=>exact gen rfl
theorem tO (i:Int) (n:Nat):bQ i n=seqIndex? i n:=by
  unfold bQ seqIndex?
  by_cases h:0 <= i
  · have h':¬ i < 0:=by omega
    rw [if_pos h,if_neg h']
    by_cases h2:i.toNat < n
    · rw [if_pos h2,if_pos (by simp; omega)]
    · rw [if_neg h2,if_neg (by simp; omega)]
  · have h':i < 0:=by omega
    rw [if_neg h,if_pos h']
    by_cases h2:0 <= i + n
    · rw [if_pos h2,if_pos (by simp; omega)]
    · rw [if_neg h2,if_neg (by simp; omega)]
theorem nI {i:Int} {n j:Nat} (h:bQ i n=some j):-(n:Int) <= i/\i < n:=by
  unfold bQ at h
  split at h
  · split at h
    · omega
    · contradiction
  · split at h
    · omega
    · contradiction
theorem qn {l:Addr} {vs:List Value} {n j:Nat} {i:Int} {t:Tok} {u:Value} {Q:Value->Shared->Prop} {E:Value->Shared->Prop} (e1:s.heap.get? l=some { cls:=.type "list",data:=.seq vs.toArray n })
    (hsz:vs.length <= ao) (hj:bQ i vs.length=some j) (hu:vs[j]?=some u) (h:Q u s):wpAny (model K.prog K.w) A (getItem (.ref l) (.int i t)) Q E s:=by
  have hl:=pj hsz
  unfold bQ at hj
  by_cases h0:0 <= i
  · rw [if_pos h0] at hj
    split at hj
    · cases hj; exact wpAny_getItem_list (jG e1) h0 (by omega) (by simpa using hu) h
    · cases hj
  · rw [if_neg h0] at hj
    split at hj
    · cases hj; exact wpAny_getItem_list_neg (jG e1) (by omega) (by simp; omega) (by omega) (by simpa using hu) h
    · cases hj
theorem aN.get {h:Heap} {xs:List PV} {vs:List Value} {j:Nat} {p:PV} (v:aN h α xs vs) (e:xs[j]?=some p):∃ u,vs[j]?=some u/\VR h α p u:=by
  have hj:=(List.getElem?_eq_some_iff.mp e).1
  have hv:j < vs.length:=by rw [<- v.1]; exact hj
  exact ⟨vs[j],by simp [hv],v.2 j p vs[j] e (by simp [hv])⟩
theorem nV {value slice:Expr} {xs:List PV} {l:Addr} {vs:List Value} {n:Nat} {i:Int} {t:Tok} {T:String} (hT:T = "list" \/ T = "tuple") (hs:∀ o i:Value,subscripted slice false o i=operate [o,i] (getItem o i))
    (r:R K.hb s.heap σ α) (e1:s.heap.get? l=some { cls:=.type T,data:=.seq vs.toArray n }) (v:aN s.heap α xs vs):Runs K VR A (subscriptTail value slice (.ref l) (.int i t)) (jE xs i σ) s α:=by
  intro hc tk
  unfold jE at hc ⊢
  by_cases hl:xs.length <= ao
  · rw [if_pos hl] at hc ⊢
    cases hj:(bQ i xs.length).bind (xs[·]?) with
    | none=>rw [hj] at hc; exact absurd rfl hc
    | some p =>
      obtain ⟨j,h1,h2⟩:=Option.bind_eq_some_iff.mp hj
      obtain ⟨u,hu,hv⟩:=v.get h2
      have hl':vs.length <= ao:=by rw [<- v.1]; exact hl
      rcases hT with rfl | rfl
      · refine tail_any (jG e1).typeIs slot_list_getitem.lookup ?_ (hs _ _)
        exact qn e1 hl' (by rw [<- v.1]; exact h1) hu ⟨_,_,_,rfl,.refl,r,hv,.refl s⟩
      · have hl3:=pj hl'
        have hr:=nI h1
        have hlen:=v.1
        exact item_tupleT (isT e1) (by omega) (by omega) (by rw [<- tO,<- v.1]; exact h1) hu ⟨_,_,_,rfl,.refl,r,hv,.refl s⟩ (hs _ _)
  · rw [if_neg hl] at hc; exact absurd rfl hc
theorem c9 {value slice:Expr} {a b:PV} {x y:Value} (hA:de A) (hs:∀ o i:Value,subscripted slice false o i=operate [o,i] (getItem o i)) (r:R K.hb s.heap σ α) (va:VR s.heap α a x) (vb:VR s.heap α b y) :
    Runs K VR A (subscriptTail value slice x y) (p9 a b σ) s α:=by
  intro hc tk
  cases a with
  | ref i =>
    obtain ⟨l,rfl,el⟩:=va.refE
    have e:p9 (.ref i) b σ=match σ[i]? with
      | some (.ds es)=>(match b with
        | .str k=>ae.ofOpt (ac k es) σ
        | _=>.stuck)
      | some (.dp es)=>ae.ofOpt ((fh b).bind fun k=>ac k es) σ
      | _=>.stuck:=by cases b <;> rfl
    rw [e] at hc ⊢
    cases hq:σ[i]? with
    | none=>rw [hq] at hc; exact absurd rfl hc
    | some m =>
      rw [hq] at hc
      cases m with
      | ds es =>
        cases b with
        | str k =>
          obtain ⟨_,rfl,_⟩:=vb.strE
          dsimp only at hc ⊢
          cases hv:ac k es with
          | none=>rw [hv] at hc; exact absurd rfl hc
          | some v =>
            obtain ⟨kvs,h1,_⟩:=pt r hq el
            exact tail_any h1.typeIs slot_dict_getitem.lookup (aer r hq el hv) (hs _ _)
        | _=>exact absurd rfl hc
      | dp es =>
        dsimp only at hc ⊢
        cases hv:(fh b).bind fun k=>ac k es with
        | none=>rw [hv] at hc; exact absurd rfl hc
        | some v =>
          obtain ⟨k,hk,hv'⟩:=Option.bind_eq_some_iff.mp hv
          obtain ⟨xs,h1,_⟩:=pw r hq el
          exact tail_any h1.typeIs slot_dict_getitem.lookup (aes hA r hq el hk vb hv') (hs _ _)
      | _=>exact absurd rfl hc
  | _=>exact absurd rfl hc
theorem yZ {value slice:Expr} {a b:PV} {x y:Value} (hA:de A) (hns:∀ l u p,slice ≠ .Slice l u none p) (r:R K.hb s.heap σ α) (va:VR s.heap α a x) (vb:VR s.heap α b y) :
    Runs K VR A (subscriptTail value slice x y) (dg a b σ) s α:=by
  have hs:∀ o i:Value,subscripted slice false o i=operate [o,i] (getItem o i):=fun o i=>by
    unfold subscripted
    split
    · rename_i q; exact absurd rfl (hns _ _ _)
    · rename_i q; contradiction
    · rfl
  cases b with
  | int i =>
    obtain ⟨t,rfl⟩:=vb.intE
    have gen:∀ (e:dg a (.int i) σ=match a7 σ a with | some xs=>jE xs i σ | none=>.stuck),Runs K VR A (subscriptTail value slice x (.int i t)) (dg a (.int i) σ) s α:=fun e=>by
      rw [e]
      cases h1:a7 σ a with
      | none=>exact fun hc=>absurd rfl hc
      | some xs=>obtain ⟨l,vs,n,rfl,e1,v⟩:=eK r va h1; exact nV (.inl rfl) hs r e1 v
    cases a with
    | tup xs=>obtain ⟨l,vs,n,rfl,e1,_,v⟩:=va.tupE; exact nV (.inr rfl) hs r e1 v
    | str z =>
      obtain ⟨_,rfl,hz⟩:=va.strE
      have e:dg (.str z) (.int i) σ=if z.cps.size <= ao then (match (bQ i z.cps.size).bind (z.cps[·]?) with | some c=>ae.ok (.str ⟨#[c]⟩) σ | none=>.stuck) else .stuck:=rfl
      rw [e]
      intro hc tk
      by_cases hl:z.cps.size <= ao
      · rw [if_pos hl] at hc ⊢
        cases hj:(bQ i z.cps.size).bind (z.cps[·]?) with
        | none=>rw [hj] at hc; exact absurd rfl hc
        | some c =>
          have hl3:=pj hl
          obtain ⟨j,h1,h2⟩:=Option.bind_eq_some_iff.mp hj
          have hr:=nI h1
          refine tail_any (typeIs_str s z _) F.slot_str_getitem.lookup ?_ (hs _ _)
          refine P.getItem_str (c:=c) (by simp; omega) (by rw [<- tO]; exact hj) (.here r (.str _ _ ?_))
          unfold PyData.strOk at hz ⊢
          simp only [Array.all_eq_true'] at hz ⊢
          intro d hd
          simp at hd
          subst hd
          exact hz _ (Array.mem_of_getElem? h2)
      · rw [if_neg hl] at hc; exact absurd rfl hc
    | none=>exact gen rfl
    | bool _=>exact gen rfl
    | int _=>exact gen rfl
    | fl _=>exact gen rfl
    | ref _=>exact gen rfl
    | exc _=>exact gen rfl
    | inst _ _=>exact gen rfl
  | str _=>exact c9 hA hs r va vb
  | tup _=>exact c9 hA hs r va vb
  | none=>exact c9 hA hs r va vb
  | bool _=>exact c9 hA hs r va vb
  | fl _=>exact c9 hA hs r va vb
  | ref _=>exact c9 hA hs r va vb
  | exc _=>exact c9 hA hs r va vb
  | inst _ _=>exact c9 hA hs r va vb
end
end Mine
namespace Mine
open PySem PyProof.Rows
structure vk (env:Env):Prop where
  kind:env.scope.kind=.function
  glob:env.globals=mainGlobals
  bins:env.builtins=builtinsNs
  ws:∀ (i:Nat) (x:Str) (k:NameKind),env.scope.names[i]?=some (x,k)->env.kindOf x=some k
  nodbg:∀ (i:Nat) (x:Str) (k:NameKind),env.scope.names[i]?=some (x,k)->(x == ("__debug__" : Str))=false
structure aj (env:Env) (ρ:au) (h:Heap) (α:AL):Prop where
  ok:vk env
  la:env.locals ∉ α.all
  ns:∃ m,h.Ns env.locals m/\∀ (i:Nat) (x:Str) (v:PV),env.scope.names[i]?=some (x,.local)->ρ[i]?=some (some v)->∃ u,m x=some u/\VR h α v u
  ca:∀ x c,env.cells.lookup x=some c->c ∉ α.all/\c ≠ env.locals/\∃ v,h.IsCell c v
  cd:∀ x y c,env.cells.lookup x=some c->env.cells.lookup y=some c->x=y
  cv:∀ (i:Nat) (x:Str),env.scope.names[i]?=some (x,.cell)->∃ c,env.cells.lookup x=some c/\∀ v,ρ[i]?=some (some v)->∃ u,h.IsCell c (some u)/\VR h α v u
  inb:∀ (i:Nat) (v:PV),ρ[i]?=some (some v)->∃ x k,env.scope.names[i]?=some (x,k)/\(k=.local\/k=.cell)
theorem zP {h h':Heap} {fr:List Addr} {c:Addr} {o:Obj} {v:Option Value} (_e:h.get? c=some o) (_d:o.data=.cell v) (x:ff fr h' c o):h'.get? c=some o:=x.same (by rintro ⟨es,n,q⟩; rw [_d] at q; cases q)
theorem eV {F α h α' h'} {c:Addr} {v:Option Value} (x:aB F α h α' h') (hc:c ∉ α.ix) (hF:c ∉ F) (i:h.IsCell c v):h'.IsCell c v:=by
  obtain ⟨o,e,d⟩:=i
  exact ⟨o,zP e d (x.rest c o hc hF e),d⟩
theorem v9 {F α h α' h'} {a:Addr} {m:Str->Option Value} (x:aB F α h α' h') (ha:a ∉ α.ix) (hF:a ∉ F) (n:h.Ns a m):h'.Ns a m:=by
  obtain ⟨o,es,ep,e,r⟩:=id n
  exact (x.rest a o ha hF e).ns n e
noncomputable def mO (env:Env) (F:List Addr):Prop:=env.locals ∉ F/\∀ x c,env.cells.lookup x=some c->c ∉ F
theorem mO.nil {env:Env}:mO env []:=⟨by simp,fun _ _ _=>by simp⟩
theorem aj.ext {F α h α' h'} {env:Env} {ρ:au} (x:aB F α h α' h') (ap:mO env F) (E:aj env ρ h α):aj env ρ h' α':=by
  obtain ⟨m,n,hm⟩:=E.ns
  obtain ⟨oL,_,_,eL,_⟩:=id n
  refine ⟨E.ok,x.notAll E.la eL,⟨m,v9 x (AL.not_ix E.la) ap.1 n,fun i y v e1 e2=>?_⟩,fun y c hc=>?_,E.cd,fun i y e1=>?_,E.inb⟩
  · obtain ⟨u,h1,h2⟩:=hm i y v e1 e2
    exact ⟨u,h1,h2.ext x⟩
  · obtain ⟨h1,h2,v,h3⟩:=E.ca y c hc
    obtain ⟨o,e,d⟩:=id h3
    exact ⟨x.notAll h1 e,h2,v,eV x (AL.not_ix h1) (ap.2 y c hc) h3⟩
  · obtain ⟨c,hc,hv⟩:=E.cv i y e1
    refine ⟨c,hc,fun v e2=>?_⟩
    obtain ⟨u,h1,h2⟩:=hv v e2
    exact ⟨u,eV x (AL.not_ix (E.ca y c hc).1) (ap.2 y c hc) h1,h2.ext x⟩
section
variable {K:Kt} {A:Around} {s:Shared} {α:AL} {σ:ab} {env:Env} {ρ:au}
theorem rA {C:bc} {i:Nat} {x:Str} {k:NameKind} {p:Pos} (r:R K.hb s.heap σ α) (E:aj env ρ s.heap α) (hn:env.scope.names[i]?=some (x,k)) :
    Runs K VR A (eval (.Name x p) env) (ev C (.v i) ρ σ) s α:=by
  intro hc tk
  simp only [agS,yN] at hc ⊢
  split at hc
  · rename_i v hv
    obtain ⟨x',k',h1,h2⟩:=E.inb i v hv
    rw [hn] at h1; cases h1
    have hk:=E.ok.ws i x k hn
    refine wpAny_Name ?_ (E.ok.nodbg i x k hn)
    rcases h2 with rfl | rfl
    · obtain ⟨m,n,hm⟩:=E.ns
      obtain ⟨u,h3,h4⟩:=hm i x v hn hv
      exact wpAny_loadName_local E.ok.kind hk n h3 ⟨_,_,_,rfl,.refl,r,h4,.refl s⟩
    · obtain ⟨c,h3,h4⟩:=E.cv i x hn
      obtain ⟨u,h5,h6⟩:=h4 v hv
      exact wpAny_loadName_cell E.ok.kind hk h3 h5 ⟨_,_,_,rfl,.refl,r,h6,.refl s⟩
  · exact absurd rfl hc
theorem nP {i:Nat} {x:Str} {p:Pos} {v:Value} {Q:Value->Shared->Prop} {X:Value->Shared->Prop} (hK:K.Ok) (r:R K.hb s.heap σ α) (E:vk env) (hn:env.scope.names[i]?=some (x,.globalImplicit))
    (hv:K.mg x=some v) (h:Q v s):wpAny (model K.prog K.w) A (eval (.Name x p) env) Q X s:=
  Calls.Name_function_global E.kind (E.ws i x _ hn) (Calls.loadGlobal_global (by rw [E.glob]; exact hK.g.keeps r.base) hv h) (E.nodbg i x _ hn)
theorem acv {i:Nat} {x:Str} {p:Pos} {v:Value} {Q:Value->Shared->Prop} {X:Value->Shared->Prop} (hK:K.Ok) (r:R K.hb s.heap σ α) (E:vk env) (hn:env.scope.names[i]?=some (x,.globalImplicit))
    (hm:K.mg x=none) (hv:K.mb x=some v) (h:Q v s):wpAny (model K.prog K.w) A (eval (.Name x p) env) Q X s:=
  Calls.Name_function_global E.kind (E.ws i x _ hn) (Calls.loadGlobal_builtin (by rw [E.glob]; exact hK.g.keeps r.base) hm (by rw [E.bins]; exact hK.b.keeps r.base) hv h) (E.nodbg i x _ hn)
end
end Mine
namespace Mine
open PySem PyProof.Rows
theorem VR.re {h:Heap} {α α':AL} (h1:∀ (i:Nat) (a:Addr),α.ix[i]?=some a->α'.ix[i]?=some a) (h2:∀ a,a ∈ α'.all->a ∈ α.all) {p:PV} {v:Value} (r:VR h α p v):VR h α' p v:=by
  induction r with
  | none=>exact .none
  | bool b=>exact .bool b
  | int i t=>exact .int i t
  | str s t hs=>exact .str s t hs
  | tup e hn hl _ ih=>exact .tup e (fun q=>hn (h2 _ q)) hl ih
  | fl e hn hl _ ih=>exact .fl e (fun q=>hn (h2 _ q)) hl ih
  | exc e hc hd hn=>exact .exc e hc hd (fun q=>hn (h2 _ q))
  | inst e hn hi=>exact .inst e (fun q=>hn (h2 _ q)) (h1 _ _ hi)
  | ref e=>exact .ref (h1 _ _ e)
theorem VR.hide {h:Heap} {α:AL} {D:Addr} (hD:h.get? D=Option.none) {p:PV} {v:Value} (r:VR h α p v):VR h ⟨α.ix,D::α.hid,α.fr⟩ p v:=by
  have key:∀ {a:Addr} {o:Obj},h.get? a=some o->a ∉ α.all->a ∉ (⟨α.ix,D::α.hid,α.fr⟩:AL).all:=fun {a o} e hn q=>by
    rcases List.mem_append.mp q with q | q
    · exact hn (List.mem_append_left _ q)
    · rcases List.mem_cons.mp q with q | q
      · subst q; rw [hD] at e; contradiction
      · exact hn (List.mem_append_right _ q)
  induction r with
  | none=>exact .none
  | bool b=>exact .bool b
  | int i t=>exact .int i t
  | str s t hs=>exact .str s t hs
  | tup e hn hl _ ih=>exact .tup e (key e hn) hl ih
  | fl e hn hl _ ih=>exact .fl e (key e hn) hl ih
  | exc e hc hd hn=>exact .exc e hc hd (key e hn)
  | inst e hn hi=>exact .inst e (key e hn) hi
  | ref e=>exact .ref e
theorem aN.re {h:Heap} {α α':AL} (h1:∀ (i:Nat) (a:Addr),α.ix[i]?=some a->α'.ix[i]?=some a) (h2:∀ a,a ∈ α'.all->a ∈ α.all) {p:List PV} {v:List Value} (r:aN h α p v):aN h α' p v:=
  ⟨r.1,fun i x y e1 e2=>(r.2 i x y e1 e2).re h1 h2⟩
theorem aN.hide {h:Heap} {α:AL} {D:Addr} (hD:h.get? D=none) {p:List PV} {v:List Value} (r:aN h α p v):aN h ⟨α.ix,D::α.hid,α.fr⟩ p v:=
  ⟨r.1,fun i x y e1 e2=>(r.2 i x y e1 e2).hide hD⟩
theorem AL.not_hide {h:Heap} {α:AL} {D a:Addr} {o:Obj} (hD:h.get? D=none) (e:h.get? a=some o) (hn:a ∉ α.all):a ∉ (⟨α.ix,D::α.hid,α.fr⟩:AL).all:=fun q=>by
  rcases List.mem_append.mp q with q | q
  · exact hn (List.mem_append_left _ q)
  · rcases List.mem_cons.mp q with q | q
    · subst q; rw [hD] at e; contradiction
    · exact hn (List.mem_append_right _ q)
theorem VR.sameBut {h h':Heap} {α:AL} {D:Addr} (hD:D ∈ α.all) (k:∀ b,b ≠ D->h'.get? b=h.get? b) {p:PV} {v:Value} (r:VR h α p v):VR h' α p v:=by
  induction r with
  | none=>exact .none
  | bool b=>exact .bool b
  | int i t=>exact .int i t
  | str s t hs=>exact .str s t hs
  | tup e hn hl _ ih=>exact .tup ((k _ (by rintro rfl; exact hn hD)).trans e) hn hl ih
  | fl e hn hl _ ih=>exact .fl ((k _ (by rintro rfl; exact hn hD)).trans e) hn hl ih
  | exc e hc hd hn=>exact .exc ((k _ (by rintro rfl; exact hn hD)).trans e) hc hd hn
  | inst e hn hi=>exact .inst ((k _ (by rintro rfl; exact hn hD)).trans e) hn hi
  | ref e=>exact .ref e
theorem aN.sameBut {h h':Heap} {α:AL} {D:Addr} (hD:D ∈ α.all) (k:∀ b,b ≠ D->h'.get? b=h.get? b) {p:List PV} {v:List Value} (r:aN h α p v):aN h' α p v:=
  ⟨r.1,fun i x y e1 e2=>(r.2 i x y e1 e2).sameBut hD k⟩
noncomputable def afR (K:Kt) (A:Around) (it v:Value) (P:Shared->Prop) (s:Shared):Prop:=
  ∀ (elts:List Expr) (k:Nat) (pos:Pos) (Q:Unit->Shared->Prop) (E:Value->Shared->Prop),(∀ s',P s'->Q () s')->wpAny (model K.prog K.w) A (letOwnedTupleGo (.Tuple elts k pos) it v) Q E s
noncomputable def v6:List String:=["enumerate", "zip", "dict_itemiterator", "dict_reverseitemiterator", "odict_iterator", "itertools.zip_longest", "itertools.pairwise"]
theorem jB {K:Kt} {A:Around} {I:Addr} {o:Obj} {n:String} {v:Value} {s:Shared} {P:Shared->Prop} (e:s.heap.get? I=some o) (hc:o.cls=.type n) (hn:v6.contains n=false) (h:P s):afR K A (.ref I) v P s:=by
  intro elts k pos Q E hQ
  have hq:=hQ s h
  unfold letOwnedTupleGo
  cases v with
  | ref a =>
    refine wpAny_bind (wpAny_load e ?_)
    obtain ⟨c,d,dt,sl⟩:=o
    dsimp only at hc
    subst hc
    cases dt with
    | fields vs =>
      show wpAny _ A (if (v6.contains n && vs[0]? == some (rawInt a))=true then _ else _) Q E s
      rw [hn]
      exact wpAny_pure hq
    | _=>exact wpAny_pure hq
  | _=>exact wpAny_pure hq
structure fZ (K:Kt) (A:Around) (en:Bool) (own:List Addr) (it:Value) (xs:List PV) (wt:Option (Nat × MO)) (St:Nat->Heap->AL->Prop):Prop where
  live:∀ i h α,St i h α->∀ b ∈ own,∃ o,h.get? b=some o
  apart:∀ i h α,St i h α->∀ b ∈ own,b ∉ α.all
  frame:∀ i F α h α' h',St i h α->aB F α h α' h'->(∀ b ∈ own,b ∉ F)->St i h' α'
  but:∀ i D α h h',St i h α->D ∈ α.all->(∀ b,b ≠ D->h'.get? b=h.get? b)->St i h' α
  hide:∀ i D α h,St i h α->h.get? D=none->St i h ⟨α.ix,D::α.hid,α.fr⟩
  item:∀ (i:Nat) (s:Shared) (σ:ab) (α:AL) (p:PV),xs[i]?=some p->St i s.heap α->R K.hb s.heap σ α->cK wt σ->∀ (Q:Option Value->Shared->Prop) (E:Value->Shared->Prop),
    (∀ v s',VR s'.heap α p v->(en=false->St (i + 1) s'.heap α)->afR K A it v (fun ay=>VR ay.heap α p v/\St (i + 1) ay.heap α/\aB own α s'.heap α ay.heap/\R K.hb ay.heap σ α/\Sm s' ay) s'->aB own α s.heap α s'.heap->R K.hb s'.heap σ α->Sm s s'->Q (some v) s')->wpAny (model K.prog K.w) A (pyNext it) Q E s
  done:∀ (s:Shared) (σ:ab) (α:AL),St xs.length s.heap α->R K.hb s.heap σ α->cK wt σ->∀ (Q:Option Value->Shared->Prop) (E:Value->Shared->Prop),
    (∀ s',aB own α s.heap α s'.heap->R K.hb s'.heap σ α->Sm s s'->Q none s')->wpAny (model K.prog K.w) A (pyNext it) Q E s
  self:∀ (i:Nat) (s:Shared) (α:AL),St i s.heap α->∀ (Q:Value->Shared->Prop) (E:Value->Shared->Prop),Q it s->wpAny (model K.prog K.w) A (pyIter it) Q E s
theorem R.but {hb h h' σ α} {I:Addr} (r:R hb h σ α) (hI':I ∉ α.all) (hbI:hb.get? I=none) (k:∀ b o,b ≠ I->h.get? b=some o->h'.get? b=some o)
    (hs:∀ o,h.get? I=some o->¬ jn o) (hd:I ∈ hb.fr->∀ o,h.get? I=some o->dn o->∃ o',h'.get? I=some o'/\dn o'):R hb h' σ α/\aB [I] α h α h':=by
  have hI:I ∉ α.ix:=AL.not_ix hI'
  have hI2:I ∉ α.hid:=fun q=>hI' (List.mem_append_right _ q)
  have x:aB [I] α h α h':=⟨rfl,⟨[],by simp,fun _ hx=>by simp at hx⟩,fun b o hb e q=>k b o (fun z=>by subst z; exact hs o e q) e,fun b o hb hF e=>.inl (k b o (by simpa using hF) e),fun b o hF e=>⟨o,k b o (by simpa using hF) e⟩,rfl⟩
  refine ⟨⟨fun b o e=>k b o (fun q=>by rw [q,hbI] at e; contradiction) (r.base b o e),r.fresh,r.nodup,r.len,fun b hb=>⟨(r.hidden b hb).1,?_⟩,fun j m a e1 e2=>?_,r.hfr,r.fe,fun b hb=>⟨(r.frs b hb).1,?_⟩,r.frNot⟩,x⟩
  · obtain ⟨o,e⟩:=(r.hidden b hb).2
    exact ⟨o,k b o (fun q=>hI2 (q ▸ hb)) e⟩
  · obtain ⟨o',e'⟩:=r.live (List.mem_of_getElem? e2)
    exact (r.obj j m a e1 e2).ext x (by rw [e',k a o' (fun q=>hI (q ▸ List.mem_of_getElem? e2)) e'])
  · obtain ⟨_,o,e,d⟩:=r.frs b hb
    by_cases q:b=I
    · subst q; exact hd hb o e d
    · exact ⟨o,k b o q e,d⟩
theorem cm {h h':Heap} {fr:List Addr} {c:Addr} {o:Obj} {v:Array Value} (_e:h.get? c=some o) (_d:o.data=.fields v) (x:ff fr h' c o):h'.get? c=some o:=x.same (by rintro ⟨es,n,q⟩; rw [_d] at q; contradiction)
theorem be {o:Obj} {v:Array Value} {T:String} (d:o.data=.fields v) (hc:o.cls=.type T):¬ jn o:=by
  rintro (⟨xs,n,e⟩ | ⟨C,vs,e,_⟩ | ⟨C,e,_⟩)
  · rw [d] at e; contradiction
  · rw [hc] at e; contradiction
  · rw [hc] at e; contradiction
theorem bf {o:Obj} {v:Array Value} (d:o.data=.fields v):¬ dn o:=by
  rintro ⟨xs,n,e⟩; rw [d] at e; contradiction
section
variable {K:Kt} {A:Around} {en:Bool}
theorem fZ.list (hA:de A) (hh:A.handled=none) {I:Addr} {l:Addr} {xs:List PV} (hbI:K.hb.get? I=none) :
    fZ K A en [I] (.ref I) xs none (fun i h α=>h.IsListIter I l i/\I ∉ α.all/\VR h α (.fl xs) (.ref l)) where
  live:=fun i h α st b hb=>by simp at hb; subst hb; obtain ⟨⟨o,e,_⟩,_⟩:=st; exact ⟨o,e⟩
  apart:=fun i h α st b hb=>by simp at hb; subst hb; exact st.2.1
  frame:=fun i F α h α' h' st x hF=>by
    obtain ⟨⟨o,e,hc,hd⟩,hI,v⟩:=st
    exact ⟨⟨o,cm e hd (x.rest I o (AL.not_ix hI) (hF I (by simp)) e),hc,hd⟩,x.notAll hI e,v.ext x⟩
  but:=fun i D α h h' st hD k=>by
    obtain ⟨⟨o,e,hc,hd⟩,hI,v⟩:=st
    exact ⟨⟨o,(k I (fun q=>hI (q ▸ hD))).trans e,hc,hd⟩,hI,v.sameBut hD k⟩
  hide:=fun i D α h st hD=>by
    obtain ⟨⟨o,e,hc,hd⟩,hI,v⟩:=st
    exact ⟨⟨o,e,hc,hd⟩,AL.not_hide hD e hI,v.hide hD⟩
  item:=fun i s σ α p hp st r _ Q E hQ=>by
    obtain ⟨hit,hI,v⟩:=st
    obtain ⟨l',vs,n,hl,e1,hn,w⟩:=v.flE
    cases hl
    obtain ⟨u,hu,hv⟩:=w.get hp
    obtain ⟨o,e,hc,hd⟩:=id hit
    refine wpAny_pyNext_list_item hit (jG e1) (by simpa using hu) fun h' hit' hs'=>?_
    obtain ⟨r',x⟩:=r.but hI hbI (fun b o hb e=>(hs'.2 b hb).trans e) (fun o' e'=>by rw [e] at e'; obtain rfl:=Option.some.inj e'; exact be hd hc) fun _ o' e' d'=>by rw [e] at e'; obtain rfl:=Option.some.inj e'; exact absurd d' (bf hd)
    obtain ⟨o',e',hc',_⟩:=id hit'
    exact hQ u _ (hv.ext x) (fun _=>⟨hit',hI,v.ext x⟩) (jB (s:={ s with heap:=h' }) e' hc' (by decide) ⟨hv.ext x,⟨hit',hI,v.ext x⟩,.refl,r',.refl _⟩) x r' ⟨rfl,rfl⟩
  done:=fun s σ α st r _ Q E hQ=>by
    obtain ⟨hit,hI,v⟩:=st
    obtain ⟨l',vs,n,hl,e1,hn,w⟩:=v.flE
    cases hl
    obtain ⟨o,e,hc,hd⟩:=id hit
    refine wpAny_pyNext_list_end hh hit (jG e1) (by simp [w.1]) fun h' he'=>?_
    obtain ⟨r',x⟩:=r.but hI hbI (fun b o hb e=>he' b o hb e) (fun o' e'=>by rw [e] at e'; obtain rfl:=Option.some.inj e'; exact be hd hc) fun _ o' e' d'=>by rw [e] at e'; obtain rfl:=Option.some.inj e'; exact absurd d' (bf hd)
    exact hQ _ x r' ⟨rfl,rfl⟩
  self:=fun i s α st Q E hQ=>wpAny_pyIter_listiter st.1 hQ
theorem fZ.mlist (hA:de A) (hh:A.handled=none) {I:Addr} {l:Addr} {j:Nat} {xs:List PV} (hbI:K.hb.get? I=none) :
    fZ K A en [I] (.ref I) xs (some (j,.lst xs)) (fun i h α=>h.IsListIter I l i/\I ∉ α.all/\α.ix[j]?=some l) where
  live:=fun i h α st b hb=>by simp at hb; subst hb; obtain ⟨⟨o,e,_⟩,_⟩:=st; exact ⟨o,e⟩
  apart:=fun i h α st b hb=>by simp at hb; subst hb; exact st.2.1
  frame:=fun i F α h α' h' st x hF=>by
    obtain ⟨⟨o,e,hc,hd⟩,hI,v⟩:=st
    exact ⟨⟨o,cm e hd (x.rest I o (AL.not_ix hI) (hF I (by simp)) e),hc,hd⟩,x.notAll hI e,x.get v⟩
  but:=fun i D α h h' st hD k=>by
    obtain ⟨⟨o,e,hc,hd⟩,hI,v⟩:=st
    exact ⟨⟨o,(k I (fun q=>hI (q ▸ hD))).trans e,hc,hd⟩,hI,v⟩
  hide:=fun i D α h st hD=>by
    obtain ⟨⟨o,e,hc,hd⟩,hI,v⟩:=st
    exact ⟨⟨o,e,hc,hd⟩,AL.not_hide hD e hI,v⟩
  item:=fun i s σ α p hp st r wt Q E hQ=>by
    obtain ⟨hit,hI,v⟩:=st
    obtain ⟨vs,n,e1,w⟩:=r.obj j _ l wt v
    obtain ⟨u,hu,hv⟩:=w.get hp
    obtain ⟨o,e,hc,hd⟩:=id hit
    refine wpAny_pyNext_list_item hit (jG e1) (by simpa using hu) fun h' hit' hs'=>?_
    obtain ⟨r',x⟩:=r.but hI hbI (fun b o hb e=>(hs'.2 b hb).trans e) (fun o' e'=>by rw [e] at e'; obtain rfl:=Option.some.inj e'; exact be hd hc) fun _ o' e' d'=>by rw [e] at e'; obtain rfl:=Option.some.inj e'; exact absurd d' (bf hd)
    obtain ⟨o',e',hc',_⟩:=id hit'
    exact hQ u _ (hv.ext x) (fun _=>⟨hit',hI,v⟩) (jB (s:={ s with heap:=h' }) e' hc' (by decide) ⟨hv.ext x,⟨hit',hI,v⟩,.refl,r',.refl _⟩) x r' ⟨rfl,rfl⟩
  done:=fun s σ α st r wt Q E hQ=>by
    obtain ⟨hit,hI,v⟩:=st
    obtain ⟨vs,n,e1,w⟩:=r.obj j _ l wt v
    obtain ⟨o,e,hc,hd⟩:=id hit
    refine wpAny_pyNext_list_end hh hit (jG e1) (by simp [w.1]) fun h' he'=>?_
    obtain ⟨r',x⟩:=r.but hI hbI (fun b o hb e=>he' b o hb e) (fun o' e'=>by rw [e] at e'; obtain rfl:=Option.some.inj e'; exact be hd hc) fun _ o' e' d'=>by rw [e] at e'; obtain rfl:=Option.some.inj e'; exact absurd d' (bf hd)
    exact hQ _ x r' ⟨rfl,rfl⟩
  self:=fun i s α st Q E hQ=>wpAny_pyIter_listiter st.1 hQ
theorem fZ.signs {I:Addr} {x:Str} {t:Tok} {ty:String} (hbI:K.hb.get? I=none) (hx:PyData.strOk x=true) (hty:v6.contains ty=false)
    (it1:∀ (s:Shared) (i c:Nat) (Q:Option Value->Shared->Prop) (E:Value->Shared->Prop),s.heap.IsStrIter I ty x t i->x.cps[i]?=some c ->
      (∀ h',h'.IsStrIter I ty x t (i + 1)->Heap.SameBut I s.heap h'->Q (some (.str ⟨#[c]⟩ s.toks)) { s with heap:=h',toks:=s.toks + 1 })->wpAny (model K.prog K.w) A (pyNext (.ref I)) Q E s)
    (it2:∀ (s:Shared) (i:Nat) (Q:Option Value->Shared->Prop) (E:Value->Shared->Prop),s.heap.IsStrIter I ty x t i->x.cps[i]?=none->(∀ h',Heap.ExtBut I s.heap h'->Q none { s with heap:=h' })->wpAny (model K.prog K.w) A (pyNext (.ref I)) Q E s)
    (it3:∀ (s:Shared) (i:Nat) (Q:Value->Shared->Prop) (E:Value->Shared->Prop),s.heap.IsStrIter I ty x t i->Q (.ref I) s->wpAny (model K.prog K.w) A (pyIter (.ref I)) Q E s) :
    fZ K A en [I] (.ref I) (rj x) none (fun i h α=>h.IsStrIter I ty x t i/\I ∉ α.all) where
  live:=fun i h α st b hb=>by simp at hb; subst hb; obtain ⟨⟨o,e,_⟩,_⟩:=st; exact ⟨o,e⟩
  apart:=fun i h α st b hb=>by simp at hb; subst hb; exact st.2
  frame:=fun i F α h α' h' st x hF=>by
    obtain ⟨⟨o,e,hc,hd⟩,hI⟩:=st
    exact ⟨⟨o,cm e hd (x.rest I o (AL.not_ix hI) (hF I (by simp)) e),hc,hd⟩,x.notAll hI e⟩
  but:=fun i D α h h' st hD k=>by
    obtain ⟨⟨o,e,hc,hd⟩,hI⟩:=st
    exact ⟨⟨o,(k I (fun q=>hI (q ▸ hD))).trans e,hc,hd⟩,hI⟩
  hide:=fun i D α h st hD=>by
    obtain ⟨⟨o,e,hc,hd⟩,hI⟩:=st
    exact ⟨⟨o,e,hc,hd⟩,AL.not_hide hD e hI⟩
  item:=fun i s σ α p hp st r _ Q E hQ=>by
    obtain ⟨hit,hI⟩:=st
    obtain ⟨o,e,hc,hd⟩:=id hit
    simp only [rj,List.getElem?_map] at hp
    obtain ⟨c,hcq,rfl⟩:=Option.map_eq_some_iff.mp hp
    have hcx:x.cps[i]?=some c:=by rw [<- Array.getElem?_toList]; exact hcq
    refine it1 s i c Q E hit hcx fun h' hit' hs'=>?_
    obtain ⟨r',x'⟩:=r.but hI hbI (fun b o hb e=>(hs'.2 b hb).trans e) (fun o' e'=>by rw [e] at e'; obtain rfl:=Option.some.inj e'; exact be hd hc) fun _ o' e' d'=>by rw [e] at e'; obtain rfl:=Option.some.inj e'; exact absurd d' (bf hd)
    obtain ⟨o',e',hc',_⟩:=id hit'
    have hok:PyData.strOk ⟨#[c]⟩=true:=by
      unfold PyData.strOk at hx ⊢
      simp only [Array.all_eq_true'] at hx ⊢
      intro d hd'
      simp at hd'
      subst hd'
      exact hx _ (Array.mem_of_getElem? hcx)
    exact hQ _ _ (.str _ _ hok) (fun _=>⟨hit',hI⟩) (jB (s:={ s with heap:=h',toks:=s.toks + 1 }) e' hc' hty ⟨.str _ _ hok,⟨hit',hI⟩,.refl,r',.refl _⟩) x' r' ⟨rfl,rfl⟩
  done:=fun s σ α st r _ Q E hQ=>by
    obtain ⟨hit,hI⟩:=st
    obtain ⟨o,e,hc,hd⟩:=id hit
    refine it2 s _ Q E hit (by simp [rj]) fun h' he'=>?_
    obtain ⟨r',x'⟩:=r.but hI hbI (fun b o hb e=>he' b o hb e) (fun o' e'=>by rw [e] at e'; obtain rfl:=Option.some.inj e'; exact be hd hc) fun _ o' e' d'=>by rw [e] at e'; obtain rfl:=Option.some.inj e'; exact absurd d' (bf hd)
    exact hQ _ x' r' ⟨rfl,rfl⟩
  self:=fun i s α st Q E hQ=>it3 s i Q E st.1 hQ
theorem sR {s:Shared} {a:Addr} {am:List Value} {n:Nat} (e:s.heap.get? a=some { cls:=.type "tuple",data:=.seq am.toArray n }):s.heap.IsTuple a am.toArray:=⟨_,e,rfl,n,rfl⟩
theorem fZ.tuple (hA:de A) (hh:A.handled=none) {I:Addr} {l:Addr} {xs:List PV} (hbI:K.hb.get? I=none) :
    fZ K A en [I] (.ref I) xs none (fun i h α=>h.IsTupleIter I l i/\I ∉ α.all/\VR h α (.tup xs) (.ref l)) where
  live:=fun i h α st b hb=>by simp at hb; subst hb; obtain ⟨⟨o,e,_⟩,_⟩:=st; exact ⟨o,e⟩
  apart:=fun i h α st b hb=>by simp at hb; subst hb; exact st.2.1
  frame:=fun i F α h α' h' st x hF=>by
    obtain ⟨⟨o,e,hc,hd⟩,hI,v⟩:=st
    exact ⟨⟨o,cm e hd (x.rest I o (AL.not_ix hI) (hF I (by simp)) e),hc,hd⟩,x.notAll hI e,v.ext x⟩
  but:=fun i D α h h' st hD k=>by
    obtain ⟨⟨o,e,hc,hd⟩,hI,v⟩:=st
    exact ⟨⟨o,(k I (fun q=>hI (q ▸ hD))).trans e,hc,hd⟩,hI,v.sameBut hD k⟩
  hide:=fun i D α h st hD=>by
    obtain ⟨⟨o,e,hc,hd⟩,hI,v⟩:=st
    exact ⟨⟨o,e,hc,hd⟩,AL.not_hide hD e hI,v.hide hD⟩
  item:=fun i s σ α p hp st r _ Q E hQ=>by
    obtain ⟨hit,hI,v⟩:=st
    obtain ⟨l',vs,n,hl,e1,hn,w⟩:=v.tupE
    cases hl
    obtain ⟨u,hu,hv⟩:=w.get hp
    obtain ⟨o,e,hc,hd⟩:=id hit
    refine wpAny_pyNext_tuple_item hit (sR e1) (by simpa using hu) fun h' hit' hs'=>?_
    obtain ⟨r',x⟩:=r.but hI hbI (fun b o hb e=>(hs'.2 b hb).trans e) (fun o' e'=>by rw [e] at e'; obtain rfl:=Option.some.inj e'; exact be hd hc) fun _ o' e' d'=>by rw [e] at e'; obtain rfl:=Option.some.inj e'; exact absurd d' (bf hd)
    obtain ⟨o',e',hc',_⟩:=id hit'
    exact hQ u _ (hv.ext x) (fun _=>⟨hit',hI,v.ext x⟩) (jB (s:={ s with heap:=h' }) e' hc' (by decide) ⟨hv.ext x,⟨hit',hI,v.ext x⟩,.refl,r',.refl _⟩) x r' ⟨rfl,rfl⟩
  done:=fun s σ α st r _ Q E hQ=>by
    obtain ⟨hit,hI,v⟩:=st
    obtain ⟨l',vs,n,hl,e1,hn,w⟩:=v.tupE
    cases hl
    obtain ⟨o,e,hc,hd⟩:=id hit
    refine wpAny_pyNext_tuple_end hh hit (sR e1) (by simp [w.1]) fun h' he'=>?_
    obtain ⟨r',x⟩:=r.but hI hbI (fun b o hb e=>he' b o hb e) (fun o' e'=>by rw [e] at e'; obtain rfl:=Option.some.inj e'; exact be hd hc) fun _ o' e' d'=>by rw [e] at e'; obtain rfl:=Option.some.inj e'; exact absurd d' (bf hd)
    exact hQ _ x r' ⟨rfl,rfl⟩
  self:=fun i s α st Q E hQ=>wpAny_pyIter_tupleiter st.1 hQ
theorem fZ.range (hA:de A) (hh:A.handled=none) {I:Addr} {a c:Int} {n:Nat} (hbI:K.hb.get? I=none) :
    fZ K A en [I] (.ref I) (aq a c n) none (fun i h α=>IsRangeIter h I (a + (i:Nat) * c) ((n:Int) - (i:Nat)) c/\I ∉ α.all) where
  live:=fun i h α st b hb=>by simp at hb; subst hb; exact ⟨_,st.1⟩
  apart:=fun i h α st b hb=>by simp at hb; subst hb; exact st.2
  frame:=fun i F α h α' h' st x hF=>by
    obtain ⟨e,hI⟩:=st
    exact ⟨cm e rfl (x.rest I _ (AL.not_ix hI) (hF I (by simp)) e),x.notAll hI e⟩
  but:=fun i D α h h' st hD k=>by
    obtain ⟨e,hI⟩:=st
    exact ⟨(k I (fun q=>hI (q ▸ hD))).trans e,hI⟩
  hide:=fun i D α h st hD=>by
    obtain ⟨e,hI⟩:=st
    exact ⟨e,AL.not_hide hD e hI⟩
  item:=fun i s σ α p hp st r _ Q E hQ=>by
    obtain ⟨hit,hI⟩:=st
    have hi:i < n:=by have:=(List.getElem?_eq_some_iff.mp hp).1; simpa [aq] using this
    have hp':p=.int (a + (i:Int) * c):=by
      simp only [aq,List.getElem?_map,List.getElem?_range hi,Option.map_some,Option.some.injEq] at hp
      exact hp.symm
    subst hp'
    refine wpAny_pyNext_range_item hit (by omega) fun h' hit' hs'=>?_
    obtain ⟨r',x⟩:=r.but hI hbI (fun b o hb e=>(hs'.2 b hb).trans e) (fun o' e'=>by rw [show s.heap.get? I=_ from hit] at e'; obtain rfl:=Option.some.inj e'; exact be rfl rfl) fun _ o' e' d'=>by rw [show s.heap.get? I=_ from hit] at e'; obtain rfl:=Option.some.inj e'; exact absurd d' (bf rfl)
    have e1:a + ((i + 1:Nat):Int) * c=a + (i:Int) * c + c:=by push_cast; rw [Int.add_mul,Int.one_mul,Int.add_assoc]
    have e2:(n:Int) - ((i + 1:Nat):Int)=(n:Int) - (i:Int) - 1:=by push_cast; omega
    have st':IsRangeIter h' I (a + ((i + 1:Nat):Int) * c) ((n:Int) - ((i + 1:Nat):Int)) c:=by rw [e1,e2]; exact hit'
    exact hQ _ _ (.int _ _) (fun _=>⟨st',hI⟩) (jB (s:={ s with heap:=h',toks:=s.toks + 1 }) hit' rfl (by decide) ⟨.int _ _,⟨st',hI⟩,.refl,r',.refl _⟩) x r' ⟨rfl,rfl⟩
  done:=fun s σ α st r _ Q E hQ=>by
    obtain ⟨hit,hI⟩:=st
    refine wpAny_pyNext_range_end hh hit (by simp [aq]) fun h' he'=>?_
    obtain ⟨r',x⟩:=r.but hI hbI (fun b o hb e=>he' b o hb e) (fun o' e'=>by rw [show s.heap.get? I=_ from hit] at e'; obtain rfl:=Option.some.inj e'; exact be rfl rfl) fun _ o' e' d'=>by rw [show s.heap.get? I=_ from hit] at e'; obtain rfl:=Option.some.inj e'; exact absurd d' (bf rfl)
    exact hQ _ x r' ⟨rfl,rfl⟩
  self:=fun i s α st Q E hQ=>wpAny_pyIter_rangeiter st.1 hQ
end
end Mine
namespace Mine
open PySem PyProof.Rows
theorem OR.hide {B:Bs} {h:Heap} {α:AL} {D:Addr} {m:MO} {a:Addr} (hD:h.get? D=none) (r:OR B h α m a):OR B h ⟨α.ix,D::α.hid,α.fr⟩ m a:=
  r.map (fun _ _ v=>v.hide hD) rfl fun b o hb e _=>⟨e,AL.not_hide hD e hb⟩
theorem OR.re {B:Bs} {h:Heap} {α α':AL} {m:MO} {a:Addr} (h1:∀ (i:Nat) (a:Addr),α.ix[i]?=some a->α'.ix[i]?=some a) (h2:∀ a,a ∈ α'.all->a ∈ α.all) (r:OR B h α m a):OR B h α' m a:=
  r.map (fun _ _ v=>v.re h1 h2) rfl fun b o hb e _=>⟨e,fun q=>hb (h2 b q)⟩
theorem aj.hide {h:Heap} {α:AL} {D:Addr} {env:Env} {ρ:au} (hD:h.get? D=none) (E:aj env ρ h α):aj env ρ h ⟨α.ix,D::α.hid,α.fr⟩:=by
  obtain ⟨m,n,hm⟩:=E.ns
  obtain ⟨oL,_,_,eL,_⟩:=id n
  refine ⟨E.ok,AL.not_hide hD eL E.la,⟨m,n,fun i x v e1 e2=>let ⟨u,a,b⟩:=hm i x v e1 e2; ⟨u,a,b.hide hD⟩⟩,fun x c hc=>?_,E.cd,fun i x e1=>?_,E.inb⟩
  · obtain ⟨h1,h2,v,h3⟩:=E.ca x c hc
    obtain ⟨o,e,d⟩:=id h3
    exact ⟨AL.not_hide hD e h1,h2,v,h3⟩
  · obtain ⟨c,hc,hv⟩:=E.cv i x e1
    exact ⟨c,hc,fun v e2=>let ⟨u,a,b⟩:=hv v e2; ⟨u,a,b.hide hD⟩⟩
theorem R.hide {hb h h' σ α} {D:Addr} {o:Obj} (r:R hb h σ α) (hD:h.get? D=none) (k:∀ b o,h.get? b=some o->h'.get? b=some o) (e:h'.get? D=some o):R hb h' σ ⟨α.ix,D::α.hid,α.fr⟩:=by
  have r':=r.keeps k
  have hDi:D ∉ α.ix:=fun q=>by obtain ⟨o,e⟩:=r.live q; rw [hD] at e; cases e
  refine ⟨r'.base,r'.fresh,r'.nodup,r'.len,fun a ha=>?_,fun i m a e1 e2=>?_,fun a ha=>?_,r'.fe,r'.frs,r'.frNot⟩
  · rcases List.mem_cons.mp ha with q | q
    · subst q; exact ⟨hDi,_,e⟩
    · exact r'.hidden a q
  · have x:aB [] (⟨α.ix,D::α.hid,α.fr⟩:AL) h ⟨α.ix,D::α.hid,α.fr⟩ h':=.keeps k
    obtain ⟨o',e'⟩:=r.live (List.mem_of_getElem? e2)
    exact ((r.obj i m a e1 e2).hide hD).ext x (by rw [e',k a o' e'])
  · rcases List.mem_cons.mp ha with q | q
    · subst q
      cases hq:hb.get? a with
      | none=>rfl
      | some o=>rw [r.base _ _ hq] at hD; cases hD
    · exact r.hfr a q
section
variable {K:Kt} {A:Around} {s:Shared} {α:AL} {σ:ab} {en:Bool}
inductive br (K:Kt) (A:Around) (en:Bool) (c:ae (List PV × Option (Nat × MO))) (s:Shared) (α:AL) (it:Value) (s':Shared):Prop where
  | mk (xs:List PV) (wt:Option (Nat × MO)) (σ':ab) (α':AL) (own:List Addr) (St:Nat->Heap->AL->Prop) (h:c=.ok (xs,wt) σ') (x:aB [] α s.heap α' s'.heap) (r:R K.hb s'.heap σ' α') (m:Sm s s') (I:fZ K A en own it xs wt St) (st:St 0 s'.heap α') (ho:∀ b ∈ own,s.heap.get? b=none/\K.hb.get? b=none):br K A en c s α it s'
theorem br.lift {c:ae (List PV × Option (Nat × MO))} {s₁:Shared} {α₁:AL} {it:Value} {s':Shared} (x:aB [] α s.heap α₁ s₁.heap) (m:Sm s s₁) (p:br K A en c s₁ α₁ it s'):br K A en c s α it s':=by
  obtain ⟨xs,wt,σ',α',own,St,e,x',r,m',I,st,ho⟩:=p
  refine ⟨xs,wt,σ',α',own,St,e,x.trans x',r,m.trans m',I,st,fun b hb=>⟨?_,(ho b hb).2⟩⟩
  cases hq:s.heap.get? b with
  | none=>rfl
  | some o=>obtain ⟨o',e'⟩:=x.alive b o (by simp) hq; rw [(ho b hb).1] at e'; cases e'
noncomputable def fI (K:Kt) (A:Around) (en:Bool) (t:Sem Value) (c:ae (List PV × Option (Nat × MO))) (s:Shared) (α:AL):Prop:=
  c ≠ .stuck->K.Tk s->wpAny (model K.prog K.w) A t (fun x s₁=>wpAny (model K.prog K.w) A (pyIter x) (br K A en c s α) (aS K A c s α) s₁) (aS K A c s α) s
theorem ig (r:R K.hb s.heap σ α):K.hb.get? s.heap.objs.size=none:=by
  cases hq:K.hb.get? s.heap.objs.size with
  | none=>rfl
  | some o=>exact absurd (Heap.lt_size (r.base _ _ hq)) (Nat.lt_irrefl _)
theorem br.new {I:Addr} {o:Obj} {xs:List PV} {wt:Option (Nat × MO)} {St:Nat->Heap->AL->Prop} {tk:Nat} (hI:I=s.heap.objs.size) (r:R K.hb s.heap σ α) (it:fZ K A en [I] (.ref I) xs wt St)
    (st:∀ h',h'=s.heap.push o->(∀ b o',s.heap.get? b=some o'->h'.get? b=some o')->I ∉ α.all->St 0 h' α):br K A en (.ok (xs,wt) σ) s α (.ref I) { s with heap:=s.heap.push o,toks:=tk }:=by
  subst hI
  have k:∀ b o',s.heap.get? b=some o'->(s.heap.push o).get? b=some o':=fun b o' e=>Heap.get?_push_of_some _ e
  refine ⟨xs,wt,σ,α,_,St,rfl,.keeps k,r.keeps k,⟨rfl,rfl⟩,it,st _ rfl k (fun hm=>?_),fun b hb=>?_⟩
  · obtain ⟨o,e⟩:=r.liveAll hm; rw [ic] at e; cases e
  · simp at hb; subst hb; exact ⟨ic s,ig r⟩
theorem acF {a:PV} {x:Value} (hA:de A) (hh:A.handled=none) (r:R K.hb s.heap σ α) (va:VR s.heap α a x) {E:Value->Shared->Prop}
    (hc:mR a σ ≠ .stuck) :
    wpAny (model K.prog K.w) A (pyIter x) (br K A en (mR a σ) s α) E s:=by
  unfold mR at hc ⊢
  cases a with
  | fl xs =>
    obtain ⟨l,vs,n,rfl,e1,hn,v⟩:=va.flE
    refine wpAny_pyIter_list (jG e1) (br.new (tk:=s.toks) rfl r (.list hA hh (l:=l) (ig r)) fun h' hh k hI=>?_)
    exact ⟨⟨_,by rw [hh]; exact Heap.get?_push_size _ rfl,rfl,rfl⟩,hI,va.ext (.keeps (F:=[]) k)⟩
  | tup xs =>
    obtain ⟨l,vs,n,rfl,e1,hn,v⟩:=va.tupE
    refine wpAny_pyIter_tuple (sR e1) (br.new (tk:=s.toks) rfl r (.tuple hA hh (l:=l) (ig r)) fun h' hh k hI=>?_)
    exact ⟨⟨_,by rw [hh]; exact Heap.get?_push_size _ rfl,rfl,rfl⟩,hI,va.ext (.keeps (F:=[]) k)⟩
  | ref i =>
    obtain ⟨l,rfl,el⟩:=va.refE
    simp only [am,sD] at hc ⊢
    cases hs:σ[i]? with
    | none=>rw [hs] at hc; exact absurd rfl hc
    | some m =>
      cases m with
      | lst xs =>
        obtain ⟨vs,n,e1,v⟩:=r.obj i _ l hs el
        refine wpAny_pyIter_list (jG e1) (br.new (tk:=s.toks) rfl r (.mlist hA hh (l:=l) (j:=i) (ig r)) fun h' hh k hI=>?_)
        exact ⟨⟨_,by rw [hh]; exact Heap.get?_push_size _ rfl,rfl,rfl⟩,hI,el⟩
      | _=>rw [hs] at hc; exact absurd rfl hc
  | str z =>
    obtain ⟨t,rfl,hz⟩:=va.strE
    cases ha:z.cps.all (· < 128)
    · refine wpAny_pyIter_wide ha (br.new (tk:=s.toks) rfl r (.signs (t:=t) (ty := "str_iterator") (ig r) hz (by decide) (fun s i c Q E h1 h2 h3=>wpAny_pyNext_wide_item h1 h2 h3) (fun s i Q E h1 h2 h3=>wpAny_pyNext_wide_end hh h1 h2 h3) fun s i Q E h1 h2=>wpAny_pyIter_striter_wide h1 h2) fun h' hh k hI=>?_)
      exact ⟨⟨_,by rw [hh]; exact Heap.get?_push_size _ rfl,rfl,rfl⟩,hI⟩
    · refine wpAny_pyIter_ascii ha (br.new (tk:=s.toks) rfl r (.signs (t:=t) (ty := "str_ascii_iterator") (ig r) hz (by decide) (fun s i c Q E h1 h2 h3=>wpAny_pyNext_ascii_item h1 h2 h3) (fun s i Q E h1 h2 h3=>wpAny_pyNext_ascii_end hh h1 h2 h3) fun s i Q E h1 h2=>wpAny_pyIter_striter_ascii h1 h2) fun h' hh k hI=>?_)
      exact ⟨⟨_,by rw [hh]; exact Heap.get?_push_size _ rfl,rfl,rfl⟩,hI⟩
  | _=>exact absurd rfl hc
theorem ae7 {n:Int} (h0:0 <= n):Builtin.Range.rangeSize 0 n 1=n:=by
  unfold Builtin.Range.rangeSize
  simp; omega
theorem ad1 {n:Int} (h0:0 <= n) (h1:n <= (ao:Int)):Builtin.Range.small 0 n 1=true:=
  small_one (by decide) (by decide) (Int.le_trans (by decide) h0) (Int.lt_of_le_of_lt h1 (by decide))
noncomputable def dP (s:Shared) (a b c:Int) (t u v tk:Nat):Shared:={ s with heap:=s.heap.push { cls:=.type "range",data:=.fields #[.int a t,.int b u,.int c v] },toks:=tk }
theorem i9 {a b c:Int} {t u v tk:Nat} {x:Addr} {o:Obj} (e:s.heap.get? x=some o):(dP s a b c t u v tk).heap.get? x=some o:=Heap.get?_push_of_some _ e
inductive eM (K:Kt) (c:ae (List PV × Option (Nat × MO))) (s:Shared) (α:AL) (y:Value) (s':Shared):Prop
  | mk (s₁:Shared) (σ₁:ab) (α₁:AL) (a b d:Int) (t u v tk n:Nat) (hy:y=.ref s₁.heap.objs.size) (hs:s'=dP s₁ a b d t u v tk) (hc:c=.ok (aq a d n,none) σ₁) (x:aB [] α s.heap α₁ s₁.heap) (r:R K.hb s₁.heap σ₁ α₁) (m:Sm s s₁) (sm:Builtin.Range.small a b d=true) (hn:Builtin.Range.rangeSize a b d=n) (hl:n <= 2000000):eM K c s α y s'
theorem eM.lift {c:ae (List PV × Option (Nat × MO))} {dH:Shared} {ef:AL} {y:Value} {s':Shared} (x:aB [] ef dH.heap α s.heap) (m:Sm dH s) (p:eM K c s α y s'):eM K c dH ef y s':=by
  obtain ⟨s₁,σ₁,α₁,a,b,d,t,u,v,tk,n,hy,hs,hc,x',r,m',sm,hn,hl⟩:=p
  exact ⟨s₁,σ₁,α₁,a,b,d,t,u,v,tk,n,hy,hs,hc,x.trans x',r,m.trans m',sm,hn,hl⟩
theorem aeq {a b c:Int} {t u v tk n:Nat} {E:Value->Shared->Prop} (hA:de A) (hh:A.handled=none) (r:R K.hb s.heap σ α) (hs:Builtin.Range.small a b c=true) (hn:Builtin.Range.rangeSize a b c=n) :
    wpAny (model K.prog K.w) A (pyIter (.ref s.heap.objs.size)) (br K A en (.ok (aq a c n,none) σ) s α) E (dP s a b c t u v tk):=by
  have r':R K.hb (dP s a b c t u v tk).heap σ α:=r.keeps fun _ _=>i9
  refine wpAny_pyIter_range (s:=dP s a b c t u v tk) (IsRange.new _ _ _ _ _ _ _) hs (br.lift (s₁:=dP s a b c t u v tk) (.keeps fun _ _=>i9) ⟨rfl,rfl⟩ ?_)
  refine br.new (s:=dP s a b c t u v tk) (tk:=tk) rfl r' (.range hA hh (a:=a) (c:=c) (n:=n) (ig (s:=dP s a b c t u v tk) r')) fun h' hh k' hI=>⟨?_,hI⟩
  rw [hh,hn]
  unfold IsRangeIter
  simp only [Int.ofNat_zero,Int.zero_mul,Int.add_zero,Int.sub_zero]
  exact Heap.get?_push_size _ rfl
theorem acf {a:PV} {P:Prop} (h:f9 a σ ≠ .stuck) (k:∀ n:Nat,a=.int n->n <= ao->f9 a σ=.ok (aq 0 1 n,none) σ->P):P:=by
  cases a with
  | int i =>
    have e0:f9 (.int i) σ=if 0 <= i/\i <= ao then .ok (aq 0 1 i.toNat,none) σ else .stuck:=rfl
    by_cases hl:0 <= i/\i <= ao
    · obtain ⟨n,rfl⟩:=Int.eq_ofNat_of_zero_le hl.1
      exact k n rfl (Int.ofNat_le.mp hl.2) (e0.trans (if_pos hl))
    · exact absurd (e0.trans (if_neg hl)) h
  | _=>exact absurd rfl h
theorem eM.iter {c:ae (List PV × Option (Nat × MO))} {y:Value} {s':Shared} {E:Value->Shared->Prop} (hA:de A) (hh:A.handled=none) (p:eM K c s α y s'):wpAny (model K.prog K.w) A (pyIter y) (br K A en c s α) E s':=by
  obtain ⟨s₁,σ₁,α₁,a,b,d,t,u,v,tk,n,rfl,rfl,rfl,x,r,m,sm,hn,hl⟩:=p
  exact wpAny_mono (aeq hA hh r sm hn) (fun it ay hp=>hp.lift x m) fun _ _ e=>e
theorem ac0 {a:PV} {x:Value} (r:R K.hb s.heap σ α) (va:VR s.heap α a x) {E:Value->Shared->Prop} (hc:f9 a σ ≠ .stuck):wpAny (model K.prog K.w) A (call (.type "range") [x]) (eM K (f9 a σ) s α) E s:=by
  refine acf hc fun n ha hl e=>?_
  subst ha
  obtain ⟨t,rfl⟩:=va.intE
  rw [e]
  exact call_range_1 ⟨s,σ,α,0,n,1,_,_,_,s.toks + 1 + 1,n,rfl,rfl,rfl,.refl,r,.refl s,ad1 (Int.natCast_nonneg n) (Int.ofNat_le.mpr hl),ae7 (Int.natCast_nonneg n),Nat.le_trans hl (by decide)⟩
theorem aav {a b c:Int} (hc:c ≠ 0) (ha:a.natAbs <= ao) (hb:b.natAbs <= ao):0 <= Builtin.Range.rangeSize a b c/\Builtin.Range.rangeSize a b c <= 2000000:=by
  have key:∀ x d:Int,0 <= x->x < 2000000->0 < d->0 <= x / d + 1/\x / d + 1 <= 2000000:=fun x d h0 h1 hd =>
    ⟨Int.le_add_one (Int.ediv_nonneg h0 (Int.le_of_lt hd)),Int.lt_of_le_of_lt (Int.ediv_le_self _ h0) h1⟩
  unfold ao at ha hb
  unfold Builtin.Range.rangeSize
  by_cases h1:c > 0
  · rw [if_pos h1]
    by_cases h2:a < b
    · rw [if_pos h2]; exact key _ _ (by omega) (by omega) h1
    · rw [if_neg h2]; decide
  · rw [if_neg h1]
    by_cases h2:a > b
    · rw [if_pos h2]; exact key _ _ (by omega) (by omega) (by omega)
    · rw [if_neg h2]; decide
theorem ad0 {a b c:Int} (hc:c ≠ 0) (ha:a.natAbs <= ao) (hb:b.natAbs <= ao) (hcl:c.natAbs <= ao):Builtin.Range.small a b c=true:=by
  have fits:∀ {x:Int},x.natAbs <= 3000000->Builtin.Range.rangeFitsLong x=true:=fun {x} h=>by
    unfold Builtin.Range.rangeFitsLong
    rw [Bool.and_eq_true,decide_eq_true_eq,decide_eq_true_eq]; omega
  have hz:=aav hc ha hb
  unfold ao at ha hb hcl
  unfold Builtin.Range.small
  rw [fits (x:=a) (by omega),fits (x:=b) (by omega),fits (x:=c) (by omega),fits (x:=Builtin.Range.rangeSize a b c) (by omega)]
  have:(if c > 0 then Builtin.Range.rangeFitsLong (b + (c - 1)) else Builtin.Range.rangeFitsLong (b + (c + 1)))=true:=by
    split
    · exact fits (by omega)
    · exact fits (by omega)
  rw [this,Bool.or_true]; rfl
inductive Rg3 (σ:ab) (a b c:PV):Prop
  | mk (x y z:Int) (n:Nat) (ha:a=.int x) (hb:b=.int y) (hc:c=.int z) (hz:z ≠ 0) (hs:Builtin.Range.small x y z=true) (hn:Builtin.Range.rangeSize x y z=n) (hl:n <= 2000000) (hd:z.natAbs < 1073741824) (e:jq a b c σ=.ok (aq x z n,none) σ):Rg3 σ a b c
theorem ace {a b c:PV} (h:jq a b c σ ≠ .stuck):Rg3 σ a b c:=by
  cases a with
  | int x =>
    cases b with
    | int y =>
      cases c with
      | int z =>
        have e0:jq (.int x) (.int y) (.int z) σ=if z ≠ 0/\x.natAbs <= ao/\y.natAbs <= ao/\z.natAbs <= ao then .ok (aq x z (Builtin.Range.rangeSize x y z).toNat,none) σ else .stuck:=rfl
        by_cases hl:z ≠ 0/\x.natAbs <= ao/\y.natAbs <= ao/\z.natAbs <= ao
        · obtain ⟨h0,h1⟩:=aav hl.1 hl.2.1 hl.2.2.1
          obtain ⟨n,hn⟩:=Int.eq_ofNat_of_zero_le h0
          rw [hn] at h1
          refine ⟨x,y,z,n,rfl,rfl,rfl,hl.1,ad0 hl.1 hl.2.1 hl.2.2.1 hl.2.2.2,hn,Int.ofNat_le.mp h1,Nat.lt_of_le_of_lt hl.2.2.2 (by decide),(e0.trans (if_pos hl)).trans ?_⟩
          rw [hn]; rfl
        · exact absurd (e0.trans (if_neg hl)) h
      | _=>exact absurd rfl h
    | _=>exact absurd rfl h
  | _=>exact absurd rfl h
theorem aaE {vs:List PV} {P:Prop} (h:pe vs σ ≠ .stuck) (k:∀ a b c,vs=[a,b,c]->P):P:=by
  cases vs with
  | nil=>exact absurd rfl h
  | cons a l =>
    cases l with
    | nil=>exact absurd rfl h
    | cons b l =>
      cases l with
      | nil=>exact absurd rfl h
      | cons c l =>
        cases l with
        | nil=>exact k a b c rfl
        | cons d l=>exact absurd rfl h
theorem acZ {a b c:PV} {x y z:Value} (r:R K.hb s.heap σ α) (va:VR s.heap α a x) (vb:VR s.heap α b y) (vc:VR s.heap α c z) {E:Value->Shared->Prop} (hc:jq a b c σ ≠ .stuck):wpAny (model K.prog K.w) A (call (.type "range") [x,y,z]) (eM K (jq a b c σ) s α) E s:=by
  obtain ⟨i,j,k,n,rfl,rfl,rfl,hz,hs,hn,hl,hd,e⟩:=ace hc
  obtain ⟨t,rfl⟩:=va.intE
  obtain ⟨u,rfl⟩:=vb.intE
  obtain ⟨v,rfl⟩:=vc.intE
  rw [e]
  exact call_range_3 hz ⟨s,σ,α,i,j,k,t,u,v,s.toks,n,rfl,rfl,rfl,.refl,r,.refl s,hs,hn,hl⟩ (.inl (PyProof.noPylong_small hd))
theorem ad8 {a b c:Int} {t u v tk n:Nat} {fz:Bool} {E:Value->Shared->Prop} (hh:A.handled=none) (r:R K.hb s.heap σ α) (hs:Builtin.Range.small a b c=true) (hn:Builtin.Range.rangeSize a b c=n) (hl:n <= 2000000) (hc:bh fz (aq a c n) σ ≠ .stuck) :
    wpAny (model K.prog K.w) A (call (.type "list") [.ref s.heap.objs.size]) (aT K VR (bh fz (aq a c n) σ) s α) E (dP s a b c t u v tk):=by
  refine call_list_range (s:=dP s a b c t u v tk) hh (IsRange.new _ _ _ _ _ _ _) hs hn (Nat.le_trans hl (by decide)) fun h' tk' acc' c' k hg hi=>?_
  have vs:aN s.heap α (aq a c n) acc'.toList:=by
    refine ⟨by simp [aq,hi.1],fun i x v h1 h2=>?_⟩
    obtain ⟨t,rfl⟩:=hi.2 i v (by simpa using h2)
    have hi':i < n:=by have:=(List.getElem?_eq_some_iff.mp h1).1; simpa [aq] using this
    simp only [aq,List.getElem?_map,List.getElem?_range hi',Option.map_some,Option.some.injEq] at h1
    rw [<- h1]; exact .int _ _
  have k2:∀ b o,s.heap.get? b=some o->h'.get? b=some o:=fun b o e=>k b o (i9 e)
  have hD:s.heap.get? (dP s a b c t u v tk).heap.objs.size=none:=by
    cases q:s.heap.get? (dP s a b c t u v tk).heap.objs.size with
    | none=>rfl
    | some o=>exact absurd (Heap.lt_size (i9 (a:=a) (b:=b) (c:=c) (t:=t) (u:=u) (v:=v) (tk:=tk) q)) (Nat.lt_irrefl _)
  exact aT.list (tk:=tk') (tU hc) r vs k2 hD (by simpa using hg)
theorem eM.list {c:ae (List PV × Option (Nat × MO))} {y:Value} {s':Shared} {fz:Bool} {E:Value->Shared->Prop} (hh:A.handled=none) (p:eM K c s α y s') (hc:(c.bind fun p σ=>bh fz p.1 σ) ≠ .stuck):wpAny (model K.prog K.w) A (call (.type "list") [y]) (aT K VR (c.bind fun p σ=>bh fz p.1 σ) s α) E s':=by
  obtain ⟨s₁,σ₁,α₁,a,b,d,t,u,v,tk,n,rfl,rfl,rfl,x,r,m,sm,hn,hl⟩:=p
  exact wpAny_mono (ad8 hh r sm hn hl hc) (fun _ _ hp=>by
    obtain ⟨b,σ',α',e,x',r,v,m'⟩:=hp
    exact ⟨b,σ',α',e,x.trans x',r,v,m.trans m'⟩) fun _ _ e=>e
end
end Mine
namespace Mine
open PySem PyProof.Rows
section
variable {prog:Program} {w:World} {A:Around} {E:Value->Shared->Prop} {s:Shared}
theorem pB {it t:Addr} {i:Nat} {am:Array Value} {x:Value} {Q:Value->Shared->Prop} (hit:s.heap.IsTupleIter it t i) (ht:s.heap.IsTuple t am) (hx:am[i]?=some x)
    (hQ:∀ h',h'.IsTupleIter it t (i + 1)->Heap.SameBut it s.heap h'->Q x { s with heap:=h' }):wpAny (model prog w) A (Builtin.SmallTypes.nextOf (.ref it)) Q E s:=by
  obtain ⟨o,ho,hc,hd⟩:=id hit
  obtain ⟨ol,hol,_,nl,hdl⟩:=ht
  unfold Builtin.SmallTypes.nextOf
  refine wpAny_bind (wpAny_callSpecial?_slot (name:=Str.ofString "__next__") hit.typeIs F.slot_tuple_iterator_next
    (wpAny_call_entry F.slot_tuple_iterator_next hit.typeIs F.entry_tuple_iterator_next ?_ (F.args_tuple_iterator_next_1 _)))
  show wpAny _ _ (field (.ref it) 0 >>= _) _ _ s
  refine wpAny_bind (wpAny_field ho hd (x:=.ref t) rfl ?_)
  show wpAny _ _ (if (Value.ref t == Value.none)=true then _ else _) _ _ s
  rw [if_neg (show ¬ ((Value.ref t == Value.none)=true) from Bool.false_ne_true)]
  show wpAny _ _ (field (.ref it) 1 >>= _) _ _ s
  refine wpAny_bind (wpAny_field ho hd (x:=.int i 0) rfl ?_)
  show wpAny _ _ (seqItems? (.ref t) >>= _) _ _ s
  refine wpAny_bind (wpAny_seqItems hol hdl ?_)
  simp only [Int.toNat_natCast,hx]
  refine wpAny_bind (wpAny_setField ho hd (by simp) (wpAny_pure ⟨x,rfl,wpAny_pure (hQ _ ?_ (Heap.SameBut.update ..))⟩))
  exact ⟨_,Heap.get?_update_self _ ho (Obj.isFreed_of_fields (Obj.data_mapFields hd _)),(Obj.cls_mapFields ..).trans hc,by
    rw [Obj.data_mapFields hd]; simp [rawInt]⟩
theorem qf {it t:Addr} {i:Nat} {am:Array Value} {Q:Value->Shared->Prop} (hh:A.handled=none) (hit:s.heap.IsTupleIter it t i) (ht:s.heap.IsTuple t am) (hx:am[i]?=none)
    (hE:∀ h' e,Heap.ExtBut it s.heap h'->(∃ o,h'.get? e=some o/\o.cls=.type "StopIteration")->E (.ref e) { s with heap:=h' }):wpAny (model prog w) A (Builtin.SmallTypes.nextOf (.ref it)) Q E s:=by
  obtain ⟨o,ho,hc,hd⟩:=id hit
  obtain ⟨ol,hol,_,nl,hdl⟩:=ht
  unfold Builtin.SmallTypes.nextOf
  refine wpAny_bind (wpAny_callSpecial?_slot (name:=Str.ofString "__next__") hit.typeIs F.slot_tuple_iterator_next
    (wpAny_call_entry F.slot_tuple_iterator_next hit.typeIs F.entry_tuple_iterator_next ?_ (F.args_tuple_iterator_next_1 _)))
  show wpAny _ _ (field (.ref it) 0 >>= _) _ _ s
  refine wpAny_bind (wpAny_field ho hd (x:=.ref t) rfl ?_)
  show wpAny _ _ (if (Value.ref t == Value.none)=true then _ else _) _ _ s
  rw [if_neg (show ¬ ((Value.ref t == Value.none)=true) from Bool.false_ne_true)]
  show wpAny _ _ (field (.ref it) 1 >>= _) _ _ s
  refine wpAny_bind (wpAny_field ho hd (x:=.int i 0) rfl ?_)
  show wpAny _ _ (seqItems? (.ref t) >>= _) _ _ s
  refine wpAny_bind (wpAny_seqItems hol hdl ?_)
  simp only [Int.toNat_natCast,hx]
  refine wpAny_bind (wpAny_rule (wpAny_bind (wpAny_setField ho hd (by simp) ?_)))
  show wpAny _ _ (newExc (.type "StopIteration") [] >>= _) _ _ _
  refine wpAny_bind ?_
  simp only [newExc,newTuple]
  refine wpAny_bind (wpAny_newObj_type ?_ (by size_fits))
  refine wpAny_bind (m:=firstArgMember _ _) (wpAny_of_eq (a:=Value.none) (by first | rfl | (simp only [firstArgMember]; rfl)) ?_)
  refine wpAny_newObj_type ?_ (by size_fits)
  simp only [raiseNew]
  refine wpAny_bind (wpAny_handled ?_)
  first | rw [show A.in1.handled=none from hh] | rw [hh]
  refine wpAny_bind (wpAny_pure (wpAny_throw ?_))
  exact hE _ _ (((Heap.SameBut.update ..).extBut.push _).push _) ⟨_,Heap.get?_push_size _ rfl,rfl⟩
structure fc (h:Heap) (z TI TO i1 i2 t l:Addr) (k:Nat) (f0:Value):Prop where
  z:IsZip h z TI TO f0
  ti:IsPair h TI (.ref i1) (.ref i2)
  it:h.IsTupleIter i1 t k
  il:h.IsListIter i2 l k
structure pA (z TI TO i1 i2:Addr):Prop where
  a:TI ≠ z
  b:TO ≠ z
  c:i1 ≠ z
  d:i2 ≠ z
  e:TI ≠ TO
  f:TI ≠ i1
  g:TI ≠ i2
  h:TO ≠ i1
  i:TO ≠ i2
  j:i1 ≠ i2
theorem kP {h h':Heap} {I t:Addr} {k:Nat} (x:h.IsTupleIter I t k) (g:∀ o,h.get? I=some o->h'.get? I=some o):h'.IsTupleIter I t k:=by
  obtain ⟨o,e,c,d⟩:=x; exact ⟨o,g o e,c,d⟩
theorem kW {h h':Heap} {I t:Addr} {k:Nat} (x:h.IsListIter I t k) (g:∀ o,h.get? I=some o->h'.get? I=some o):h'.IsListIter I t k:=by
  obtain ⟨o,e,c,d⟩:=x; exact ⟨o,g o e,c,d⟩
theorem fc.keep {h h':Heap} {z TI TO i1 i2 t l:Addr} {k:Nat} {f0:Value} (Z:fc h z TI TO i1 i2 t l k f0) (g:∀ b,b=z\/b=TI\/b=i1\/b=i2->∀ o,h.get? b=some o->h'.get? b=some o):fc h' z TI TO i1 i2 t l k f0:=
  ⟨g z (.inl rfl) _ Z.z,g TI (.inr (.inl rfl)) _ Z.ti,kP Z.it (g i1 (.inr (.inr (.inl rfl)))),kW Z.il (g i2 (.inr (.inr (.inr rfl))))⟩
theorem uB {z TI TO i1 i2 t l:Addr} {k:Nat} {xs ys:Array Value} {x y a b:Value} {Q:Value->Shared->Prop} (D:pA z TI TO i1 i2) (Z:fc s.heap z TI TO i1 i2 t l k .none) (hTO:IsPair s.heap TO a b)
    (ht:∀ h':Heap,(∀ c o,c ≠ z->c ≠ TO->c ≠ i1->c ≠ i2->s.heap.get? c=some o->h'.get? c=some o)->h'.IsTuple t xs/\h'.IsList l ys) (hx:xs[k]?=some x) (hy:ys[k]?=some y)
    (hQ:∀ h',fc h' z TI TO i1 i2 t l (k + 1) (rawInt s.heap.objs.size)->IsPair h' TO x y->IsPair h' s.heap.objs.size x y ->
      (∀ c o,c ≠ z->c ≠ TO->c ≠ i1->c ≠ i2->s.heap.get? c=some o->h'.get? c=some o)->Q (.ref s.heap.objs.size) { s with heap:=h' }) :
    wpAny (model prog w) A (Builtin.«zip.__next__» ⟨[.ref z],[]⟩) (fun fin s'=>∃ v,fin=.done (.ret v)/\Q v s') E s:=by
  obtain ⟨hz,hTI,h1,h2⟩:=Z
  show wpAny _ _ (field (.ref z) 2 >>= _) _ _ _
  refine wpAny_bind (wpAny_field hz rfl (x:=.bool false) rfl ?_)
  show wpAny _ _ (field (.ref z) 3 >>= _) _ _ _
  refine wpAny_bind (wpAny_field hz rfl (x:=.ref TI) rfl ?_)
  refine wpAny_bind (wpAny_seqItems hTI rfl ?_)
  show wpAny _ _ (Builtin.SmallTypes.ownedTupleIsFree (.ref z) >>= _) _ _ _
  refine wpAny_bind ?_
  unfold Builtin.SmallTypes.ownedTupleIsFree
  refine wpAny_bind (wpAny_field hz rfl (x:=.none) rfl (wpAny_pure ?_))
  simp only [if_true]
  refine wpAny_bind (wpAny_rule ?_)
  refine wpAny_bind (wpAny_field hz rfl (x:=.ref TO) rfl ?_)
  refine wpAny_bind (wpAny_setField_rec hz (by simp) fun bj mD cY=>?_)
  replace mD:IsZip bj z TI TO .ellipsis:=mD
  refine wpAny_bind ?_
  simp only [List.zipIdx_cons,List.zipIdx_nil,List.forIn_cons,List.forIn_nil]
  refine wpAny_bind (wpAny_bind (wpAny_onRaise ?_))
  show wpAny _ _ (Builtin.SmallTypes.nextOf (.ref i1) >>= _) _ _ _
  have afq:∀ c o,c ≠ z->s.heap.get? c=some o->bj.get? c=some o:=fun c o c1 e=>cY.extBut _ _ c1 e
  refine wpAny_bind (pB (h1.extBut cY.extBut D.c) (ht bj fun c o c1 _ _ _ e=>afq c o c1 e).1 hx fun fj agr kg=>wpAny_pure ?_)
  have abj:IsPair fj TO a b:=kg.extBut _ _ D.h (cY.extBut _ _ D.b hTO)
  refine wpAny_bind (wpAny_seqItems abj rfl ?_)
  refine wpAny_bind (wpAny_updateSeq_pair abj fun wv wz kf=>?_)
  replace wz:IsPair wv TO x b:=wz
  refine wpAny_bind (wpAny_letGo (wpAny_pure ?_))
  refine wpAny_bind (wpAny_bind (wpAny_onRaise ?_))
  show wpAny _ _ (Builtin.SmallTypes.nextOf (.ref i2) >>= _) _ _ _
  have afp:∀ c o,c ≠ z->c ≠ TO->c ≠ i1->s.heap.get? c=some o->wv.get? c=some o:=fun c o c1 c2 c3 e=>kf.extBut _ _ c2 (kg.extBut _ _ c3 (afq c o c1 e))
  refine wpAny_bind (wpAny_nextOf_list_item (((h2.extBut cY.extBut D.d).extBut kg.extBut D.j.symm).extBut kf.extBut D.i.symm)
    (ht wv fun c o c1 c2 c3 _ e=>afp c o c1 c2 c3 e).2 hy fun agR agp rO=>wpAny_pure ?_)
  have abi:IsPair agR TO x b:=rO.extBut _ _ D.i wz
  refine wpAny_bind (wpAny_seqItems abi rfl ?_)
  refine wpAny_bind (wpAny_updateSeq_pair abi fun gJ rR rN=>?_)
  replace rR:IsPair gJ TO x y:=rR
  refine wpAny_bind (wpAny_letGo (wpAny_pure (wpAny_pure ?_)))
  refine wpAny_bind (wpAny_seqItems rR rfl ?_)
  refine wpAny_bind (wpAny_newTuple ?_)
  have hsz:gJ.objs.size=s.heap.objs.size:=by rw [rN.1,rO.1,kf.1,kg.1,cY.1]
  have adv:IsZip gJ z TI TO .ellipsis:=rN.extBut _ _ D.b.symm (rO.extBut _ _ D.d.symm (kf.extBut _ _ D.b.symm (kg.extBut _ _ D.c.symm mD)))
  have agl:∀ c o,c ≠ z->c ≠ TO->c ≠ i1->c ≠ i2->s.heap.get? c=some o->gJ.get? c=some o:=fun c o c1 c2 c3 c4 e =>
    rN.extBut _ _ c2 (rO.extBut _ _ c4 (afp c o c1 c2 c3 e))
  have agq:gJ.IsTupleIter i1 t (k + 1):=((agr.extBut kf.extBut D.h.symm).extBut rO.extBut D.j).extBut rN.extBut D.h.symm
  have ago:gJ.IsListIter i2 l (k + 1):=agp.extBut rN.extBut D.i.symm
  have hzlt:z < gJ.objs.size:=Heap.lt_size adv
  show wpAny _ _ (Builtin.SmallTypes.ownedTupleHandOut (.ref z) (.ref gJ.objs.size) >>= _) _ _ _
  refine wpAny_bind ?_
  unfold Builtin.SmallTypes.ownedTupleHandOut
  have agj:IsZip (gJ.push { cls:=.type "tuple",data:=.seq #[x,y] }) z TI TO .ellipsis:=Heap.get?_push_of_some _ adv
  refine wpAny_bind (wpAny_setField_rec agj (by simp) fun agP zE ady=>?_)
  replace zE:IsZip agP z TI TO (rawInt gJ.objs.size):=zE
  refine wpAny_setField_rec zE (by simp) fun wu ve adx=>?_
  replace ve:IsZip wu z TI TO (rawInt gJ.objs.size):=ve
  have up:∀ c o,c ≠ z->gJ.get? c=some o->wu.get? c=some o:=fun c o c1 e=>adx.extBut _ _ c1 (ady.extBut _ _ c1 (Heap.get?_push_of_some _ e))
  have adE:IsPair wu gJ.objs.size x y:=adx.extBut _ _ (Nat.ne_of_gt hzlt) (ady.extBut _ _ (Nat.ne_of_gt hzlt) (Heap.get?_push_size _ rfl))
  rw [hsz] at ve adE
  refine wpAny_pure ⟨_,rfl,?_⟩
  show Q (.ref gJ.objs.size) _
  rw [hsz]
  have kk:∀ c o,c ≠ z->c ≠ TO->c ≠ i1->c ≠ i2->s.heap.get? c=some o->wu.get? c=some o:=fun c o c1 c2 c3 c4 e=>up c o c1 (agl c o c1 c2 c3 c4 e)
  exact hQ wu ⟨ve,kk _ _ D.a D.e D.f D.g hTI,kP agq fun o e=>up _ o D.c e,kW ago fun o e=>up _ o D.d e⟩ (up _ _ D.b rR) adE kk
theorem vn {z TI TO i1 i2 t l:Addr} {k:Nat} {xs:Array Value} {Q:Fin->Shared->Prop} (hh:A.handled=none) (D:pA z TI TO i1 i2) (Z:fc s.heap z TI TO i1 i2 t l k .none)
    (ht:∀ h':Heap,(∀ c o,c ≠ z->c ≠ i1->s.heap.get? c=some o->h'.get? c=some o)->h'.IsTuple t xs) (hx:xs[k]?=none)
    (hE:∀ (h':Heap) (e:Addr),(∀ c o,c ≠ z->c ≠ i1->s.heap.get? c=some o->h'.get? c=some o)->(∃ o,h'.get? e=some o/\o.cls=.type "StopIteration")->E (.ref e) { s with heap:=h' }) :
    wpAny (model prog w) A (Builtin.«zip.__next__» ⟨[.ref z],[]⟩) Q E s:=by
  obtain ⟨hz,hTI,h1,h2⟩:=Z
  show wpAny _ _ (field (.ref z) 2 >>= _) _ _ _
  refine wpAny_bind (wpAny_field hz rfl (x:=.bool false) rfl ?_)
  show wpAny _ _ (field (.ref z) 3 >>= _) _ _ _
  refine wpAny_bind (wpAny_field hz rfl (x:=.ref TI) rfl ?_)
  refine wpAny_bind (wpAny_seqItems hTI rfl ?_)
  show wpAny _ _ (Builtin.SmallTypes.ownedTupleIsFree (.ref z) >>= _) _ _ _
  refine wpAny_bind ?_
  unfold Builtin.SmallTypes.ownedTupleIsFree
  refine wpAny_bind (wpAny_field hz rfl (x:=.none) rfl (wpAny_pure ?_))
  simp only [if_true]
  refine wpAny_bind (wpAny_rule ?_)
  refine wpAny_bind (wpAny_field hz rfl (x:=.ref TO) rfl ?_)
  refine wpAny_bind (wpAny_setField_rec hz (by simp) fun bj mD cY=>?_)
  replace mD:IsZip bj z TI TO .ellipsis:=mD
  refine wpAny_bind ?_
  simp only [List.zipIdx_cons,List.zipIdx_nil,List.forIn_cons,List.forIn_nil]
  refine wpAny_bind (wpAny_bind (wpAny_onRaise ?_))
  show wpAny _ _ (Builtin.SmallTypes.nextOf (.ref i1) >>= _) _ _ _
  refine wpAny_bind (qf hh (h1.extBut cY.extBut D.c) (ht bj fun c o c1 _ e=>cY.extBut _ _ c1 e) hx fun fj e kg he=>?_)
  obtain ⟨oe,hoe,hce⟩:=he
  have adw:IsZip fj z TI TO .ellipsis:=kg _ _ D.c.symm mD
  have hez:e ≠ z:=fun x=>by subst x; rw [adw] at hoe; cases hoe; simp at hce
  exact wpAny_setField_rec adw (by simp) fun wv _ kf=>hE wv e (fun c o c1 c3 x=>kf.extBut _ _ c1 (kg _ _ c3 (cY.extBut _ _ c1 x))) ⟨oe,kf.extBut _ _ hez hoe,hce⟩
theorem qU {z TI TO i1 i2 t l:Addr} {k:Nat} {xs ys:Array Value} {x y a b:Value} {Q:Option Value->Shared->Prop} (D:pA z TI TO i1 i2) (Z:fc s.heap z TI TO i1 i2 t l k .none) (hTO:IsPair s.heap TO a b)
    (ht:∀ h':Heap,(∀ c o,c ≠ z->c ≠ TO->c ≠ i1->c ≠ i2->s.heap.get? c=some o->h'.get? c=some o)->h'.IsTuple t xs/\h'.IsList l ys) (hx:xs[k]?=some x) (hy:ys[k]?=some y)
    (hQ:∀ h',fc h' z TI TO i1 i2 t l (k + 1) (rawInt s.heap.objs.size)->IsPair h' TO x y->IsPair h' s.heap.objs.size x y ->
      (∀ c o,c ≠ z->c ≠ TO->c ≠ i1->c ≠ i2->s.heap.get? c=some o->h'.get? c=some o)->Q (some (.ref s.heap.objs.size)) { s with heap:=h' }) :
    wpAny (model prog w) A (pyNext (.ref z)) Q E s:=by
  have hT:s.TypeIs (.ref z) "zip" := ⟨_,Z.z,rfl⟩
  unfold pyNext
  exact wpAny_bind (wpAny_attempt (wpAny_callSpecial?_slot (name:=Str.ofString "__next__") hT F.slot_zip_next
    (wpAny_call_entry F.slot_zip_next hT F.entry_zip_next
      (uB D Z hTO ht hx hy fun h' a1 a2 a3 a4=>wpAny_pure (hQ h' a1 a2 a3 a4)) (F.args_zip_next_1 _))))
theorem sz {z TI TO i1 i2 t l:Addr} {k:Nat} {xs:Array Value} {Q:Option Value->Shared->Prop} (hh:A.handled=none) (D:pA z TI TO i1 i2) (Z:fc s.heap z TI TO i1 i2 t l k .none)
    (ht:∀ h':Heap,(∀ c o,c ≠ z->c ≠ i1->s.heap.get? c=some o->h'.get? c=some o)->h'.IsTuple t xs) (hx:xs[k]?=none)
    (hQ:∀ h':Heap,(∀ c o,c ≠ z->c ≠ i1->s.heap.get? c=some o->h'.get? c=some o)->Q none { s with heap:=h' }):wpAny (model prog w) A (pyNext (.ref z)) Q E s:=by
  have hT:s.TypeIs (.ref z) "zip" := ⟨_,Z.z,rfl⟩
  unfold pyNext
  refine wpAny_bind (wpAny_attempt (wpAny_callSpecial?_slot (name:=Str.ofString "__next__") hT F.slot_zip_next
    (wpAny_call_entry F.slot_zip_next hT F.entry_zip_next (vn hh D Z ht hx fun h' e hk he=>?_) (F.args_zip_next_1 _))))
  obtain ⟨o,ho,hc⟩:=he
  refine wpAny_bind (wpAny_isInstance (T := "StopIteration") (b:=true) ⟨o,ho,hc⟩ isSubtype_stop ?_)
  exact wpAny_pure (hQ _ hk)
noncomputable abbrev uZ (h:Heap) (t:Addr):Heap:=h.push { cls:=.type "tuple_iterator",data:=.fields #[.ref t,.int 0 0] }
noncomputable abbrev uY (h:Heap) (t l:Addr):Heap:=(uZ h t).push { cls:=.type "list_iterator",data:=.fields #[.ref l,.int 0 0] }
noncomputable abbrev uX (h:Heap) (t l:Addr):Heap:=(uY h t l).push { cls:=.type "tuple",data:=.seq #[.ref h.objs.size,.ref (uZ h t).objs.size] }
noncomputable abbrev uW (h:Heap) (t l:Addr):Heap:=(uX h t l).push { cls:=.type "tuple",data:=.seq #[.none,.none] }
noncomputable abbrev oZ (h:Heap) (t l:Addr):Heap:=(uW h t l).push { cls:=.type "zip",data:=.fields #[.none,.bool false,.bool false,.ref (uY h t l).objs.size,.ref (uX h t l).objs.size] }
theorem uH (t l:Addr) (xs ys:Array Value) :
    Meets (Builtin.«zip.__new__» ⟨[.type "zip",.ref t,.ref l],[]⟩) (fun _ R s=>s.heap.IsTuple t xs/\s.heap.IsList l ys ∧
      R (.ok (.ret (.ref (uW s.heap t l).objs.size))) { s with heap:=oZ s.heap t l }):=
  .of_wp fun prog w A R s h=>by
    obtain ⟨hp,g,d,tk,os⟩:=s; obtain ⟨hl1,hl2,h⟩:=h
    have hsub:=sub_zip
    have hL1:Heap.IsTuple (Shared.heap ⟨hp,g,d,tk,os⟩) t xs:=hl1
    have hL2:Heap.IsList (Shared.heap ⟨hp.push { cls:=.type "tuple_iterator",data:=.fields #[.ref t,.int 0 0] },g,d,tk,os⟩) l ys:=Heap.IsList.push hl2 _
    wp_walk using wpAny_pyIter_tuple hL1,wpAny_pyIter_list hL2
    exact ⟨_,rfl,h⟩
theorem acY {t l:Addr} {xs ys:Array Value} {Q:Value->Shared->Prop} (hl1:s.heap.IsTuple t xs) (hl2:s.heap.IsList l ys)
    (h:∀ h',fc h' (s.heap.objs.size + 4) (s.heap.objs.size + 2) (s.heap.objs.size + 3) s.heap.objs.size (s.heap.objs.size + 1) t l 0 .none->IsPair h' (s.heap.objs.size + 3) .none .none ->
      (∀ c o,s.heap.get? c=some o->h'.get? c=some o)->Q (.ref (s.heap.objs.size + 4)) { s with heap:=h' }) :
    wpAny (model prog w) A (call (.type "zip") [.ref t,.ref l]) Q E s:=by
  refine callType_new F.called_zip (by decide) (F.typeCall_zip_2 _ _) (F.newCall_zip_2 _ _) (fun obj=>F.args_object_init_3 obj _ _) F.entry_zip_new
    (uH t l xs ys) ⟨hl1,hl2,?_⟩
  have z1:(uZ s.heap t).objs.size=s.heap.objs.size + 1:=Heap.size_push ..
  have z2:(uY s.heap t l).objs.size=s.heap.objs.size + 2:=by rw [Heap.size_push,z1]
  have z3:(uX s.heap t l).objs.size=s.heap.objs.size + 3:=by rw [Heap.size_push,z2]
  have z4:(uW s.heap t l).objs.size=s.heap.objs.size + 4:=by rw [Heap.size_push,z3]
  have g5:(oZ s.heap t l).get? (uW s.heap t l).objs.size=some _:=Heap.get?_push_size _ rfl
  have g4:(oZ s.heap t l).get? (uX s.heap t l).objs.size=some _:=Heap.get?_push_of_some _ (Heap.get?_push_size _ rfl)
  have g3:(oZ s.heap t l).get? (uY s.heap t l).objs.size=some _:=Heap.get?_push_of_some _ (Heap.get?_push_of_some _ (Heap.get?_push_size _ rfl))
  have g2:(oZ s.heap t l).get? (uZ s.heap t).objs.size=some _:=Heap.get?_push_of_some _ (Heap.get?_push_of_some _ (Heap.get?_push_of_some _ (Heap.get?_push_size _ rfl)))
  have g1:(oZ s.heap t l).get? s.heap.objs.size=some _:=Heap.get?_push_of_some _ (Heap.get?_push_of_some _ (Heap.get?_push_of_some _ (Heap.get?_push_of_some _ (Heap.get?_push_size _ rfl))))
  show _/\_
  rw [z2,z3,z4] at g5
  rw [z1,z2] at g3
  rw [z3] at g4
  rw [z1] at g2
  rw [z4]
  exact ⟨⟨_,g5,rfl⟩,h _ ⟨g5,g3,⟨_,g1,rfl,rfl⟩,⟨_,g2,rfl,rfl⟩⟩ g4 fun c o x =>
    Heap.get?_push_of_some _ (Heap.get?_push_of_some _ (Heap.get?_push_of_some _ (Heap.get?_push_of_some _ (Heap.get?_push_of_some _ x))))⟩
end
theorem vT {h:Heap} {a b:Addr} {o:Obj} {v xs:Array Value} {n:Nat} {c:Value} (e1:h.get? a=some { cls:=c,data:=.seq xs n }) (e2:h.get? b=some o) (hd:o.data=.fields v):a ≠ b:=fun q=>by
  rw [q,e2] at e1
  rw [Option.some.inj e1] at hd
  contradiction
theorem R.but2 {hb:Bs} {h h':Heap} {σ:ab} {α:AL} {own:List Addr} {TO:Addr} {j:Nat} {x y:Value} (r:R hb h σ α) (hj:σ[j]?=some .tp) (eT:α.ix[j]?=some TO) (e':IsPair h' TO x y) (hI:∀ b ∈ own,b ∉ α.all) (hbI:∀ b ∈ own,hb.get? b=none)
    (k:∀ b o,b ∉ own->b ≠ TO->h.get? b=some o->h'.get? b=some o) (hs:∀ b ∈ own,∀ o,h.get? b=some o->¬ jn o/\¬ dn o):R hb h' σ α/\aB own α h α h':=by
  have mT:TO ∈ α.ix:=List.mem_of_getElem? eT
  have al:∀ b o,b ∉ own->h.get? b=some o->∃ o',h'.get? b=some o':=fun b o hF e=>by
    by_cases q:b=TO
    · subst q; exact ⟨_,e'⟩
    · exact ⟨o,k b o hF q e⟩
  have z:aB own α h α h':=⟨rfl,⟨[],by simp,fun _ hx=>by simp at hx⟩,fun b o hb e q=>k b o (fun z=>(hs b z o e).1 q) (fun z=>hb (z ▸ mT)) e,fun b o hb hF e=>.inl (k b o hF (fun z=>hb (z ▸ mT)) e),al,rfl⟩
  refine ⟨⟨fun b o e=>k b o (fun q=>by rw [hbI b q] at e; contradiction) (fun q=>by rw [q,r.fresh _ mT] at e; contradiction) (r.base b o e),r.fresh,r.nodup,r.len,fun b hb=>⟨(r.hidden b hb).1,?_⟩,fun i m a e1 e2=>?_,r.hfr,r.fe,fun b hb=>⟨(r.frs b hb).1,?_⟩,r.frNot⟩,z⟩
  · obtain ⟨o,e⟩:=(r.hidden b hb).2
    exact al b o (fun q=>hI b q (List.mem_append_right _ hb)) e
  · by_cases q:a=TO
    · subst q
      obtain rfl:=(List.getElem?_inj (List.getElem?_eq_some_iff.mp e2).1 r.nodup).mp (e2.trans eT.symm)
      obtain rfl:=Option.some.inj (hj.symm.trans e1)
      exact ⟨x,y,e'⟩
    · obtain ⟨o',q'⟩:=r.live (List.mem_of_getElem? e2)
      exact (r.obj i m a e1 e2).ext z (by rw [q',k a o' (fun q=>AL.not_ix (hI a q) (List.mem_of_getElem? e2)) q q'])
  · obtain ⟨_,o,e,d⟩:=r.frs b hb
    exact ⟨o,k b o (fun q=>(hs b q o e).2 d) (fun q=>r.frNot b hb (q ▸ mT)) e,d⟩
theorem aab:∀ {xs ys:List PV} {i:Nat} {p:PV},(gx xs ys)[i]?=some p->∃ a b,xs[i]?=some a/\ys[i]?=some b/\p=.tup [a,b]:=by
  intro xs
  induction xs with
  | nil=>intro ys i p h; cases ys <;> contradiction
  | cons x xs ih =>
    intro ys i p h
    cases ys with
    | nil=>contradiction
    | cons y ys =>
      cases i with
      | zero=>obtain rfl:=Option.some.inj h; exact ⟨x,y,rfl,rfl,rfl⟩
      | succ i=>exact ih (i:=i) h
theorem yI:∀ {xs ys:List PV},xs.length=ys.length->(gx xs ys).length=xs.length:=by
  intro xs
  induction xs with
  | nil=>intro ys h; cases ys <;> rfl
  | cons x xs ih =>
    intro ys h
    cases ys with
    | nil=>contradiction
    | cons y ys=>exact congrArg Nat.succ (ih (Nat.succ.inj h))
section
variable {K:Kt} {A:Around} {s:Shared} {α:AL} {σ:ab}
structure agA (z TI TO i1 i2 t l:Addr) (j:Nat) (xs ys:List PV) (i:Nat) (h:Heap) (α:AL):Prop where
  Z:fc h z TI TO i1 i2 t l i .none
  eT:α.ix[j]?=some TO
  nT:TI ∉ α.all
  nz:z ∉ α.all
  n1:i1 ∉ α.all
  n2:i2 ∉ α.all
  vt:VR h α (.tup xs) (.ref t)
  vl:VR h α (.fl ys) (.ref l)
theorem fZ.zip (hh:A.handled=none) {z TI TO i1 i2 t l:Addr} {j:Nat} {xs ys:List PV} (D:pA z TI TO i1 i2) (hl:xs.length=ys.length) (hb:∀ b ∈ [z,i1,i2],K.hb.get? b=none) :
    fZ K A true [z,i1,i2] (.ref z) (gx xs ys) (some (j,.tp)) (agA z TI TO i1 i2 t l j xs ys):=by
  have three:∀ {P:Addr->Prop},P z->P i1->P i2->∀ b ∈ [z,i1,i2],P b:=fun {P} h1 h2 h3 b hb=>by
    rcases List.mem_cons.mp hb with rfl | hb
    · exact h1
    · rcases List.mem_cons.mp hb with rfl | hb
      · exact h2
      · rw [List.mem_singleton.mp hb]; exact h3
  have soft:∀ {h:Heap} {n:Nat} {f0:Value},fc h z TI TO i1 i2 t l n f0->∀ b ∈ [z,i1,i2],∀ o,h.get? b=some o->¬ jn o/\¬ dn o:=fun {h n f0} Z=>three
    (fun o q=>by rw [Z.z] at q; obtain rfl:=Option.some.inj q; exact ⟨be rfl rfl,bf rfl⟩)
    (fun o q=>by obtain ⟨o',e',hc',hd'⟩:=Z.it; rw [e'] at q; obtain rfl:=Option.some.inj q; exact ⟨be hd' hc',bf hd'⟩)
    (fun o q=>by obtain ⟨o',e',hc',hd'⟩:=Z.il; rw [e'] at q; obtain rfl:=Option.some.inj q; exact ⟨be hd' hc',bf hd'⟩)
  have apart:∀ {h:Heap} {n:Nat} {f0:Value} {a:Addr} {c:Value} {us:Array Value} {m:Nat},fc h z TI TO i1 i2 t l n f0->h.get? a=some { cls:=c,data:=.seq us m }->∀ b ∈ [z,i1,i2],a ≠ b:=fun {h n f0 a c us m} Z e=>three (vT e Z.z rfl)
    (by obtain ⟨o',e',hc',hd'⟩:=Z.it; exact vT e e' hd') (by obtain ⟨o',e',hc',hd'⟩:=Z.il; exact vT e e' hd')
  refine ⟨fun i h α st=>?_,fun i h α st=>three st.nz st.n1 st.n2,fun i F α h α' h' st x hF=>?_,fun i D α h h' st hD k=>?_,fun i D α h st hD=>?_,fun i s σ α p hp st r hw Q E hQ=>?_,fun s σ α st r hw Q E hQ=>?_,fun i s α st Q E hQ=>?_⟩
  · obtain ⟨o1,e1,_⟩:=st.Z.it
    obtain ⟨o2,e2,_⟩:=st.Z.il
    exact three ⟨_,st.Z.z⟩ ⟨o1,e1⟩ ⟨o2,e2⟩
  · obtain ⟨Z,eT,nT,nz,n1,n2,vt,vl⟩:=st
    obtain ⟨Zz,Zt,⟨o1,e1,c1,d1⟩,⟨o2,e2,c2,d2⟩⟩:=Z
    exact ⟨⟨cm Zz rfl (x.rest z _ (AL.not_ix nz) (hF z (by simp)) Zz),x.seqs TI _ (AL.not_ix nT) Zt (.inl ⟨_,_,rfl⟩),⟨o1,cm e1 d1 (x.rest i1 o1 (AL.not_ix n1) (hF i1 (by simp)) e1),c1,d1⟩,⟨o2,cm e2 d2 (x.rest i2 o2 (AL.not_ix n2) (hF i2 (by simp)) e2),c2,d2⟩⟩,
      x.get eT,x.notAll nT Zt,x.notAll nz Zz,x.notAll n1 e1,x.notAll n2 e2,vt.ext x,vl.ext x⟩
  · obtain ⟨Z,eT,nT,nz,n1,n2,vt,vl⟩:=st
    refine ⟨Z.keep fun b hb o e=>(k b fun q=>?_).trans e,eT,nT,nz,n1,n2,vt.sameBut hD k,vl.sameBut hD k⟩
    subst q
    rcases hb with rfl | rfl | rfl | rfl
    · exact nz hD
    · exact nT hD
    · exact n1 hD
    · exact n2 hD
  · obtain ⟨Z,eT,nT,nz,n1,n2,vt,vl⟩:=st
    obtain ⟨o1,e1,_⟩:=Z.it
    obtain ⟨o2,e2,_⟩:=Z.il
    exact ⟨Z,eT,AL.not_hide hD Z.ti nT,AL.not_hide hD Z.z nz,AL.not_hide hD e1 n1,AL.not_hide hD e2 n2,vt.hide hD,vl.hide hD⟩
  · obtain ⟨Z,eT,nT,nz,n1,n2,vt,vl⟩:=st
    have hw:σ[j]?=some .tp:=hw
    obtain ⟨q1,q2,h1,h2,rfl⟩:=aab hp
    obtain ⟨t',us,n,ht,e1,hn,w⟩:=vt.tupE
    cases ht
    obtain ⟨l',ws,m,hl',e2,hm,w'⟩:=vl.flE
    cases hl'
    obtain ⟨u,hu,hv⟩:=w.get h1
    obtain ⟨u',hu',hv'⟩:=w'.get h2
    obtain ⟨y1,y2,eO⟩:=r.obj j _ TO hw eT
    have mT:TO ∈ α.all:=List.mem_append_left _ (List.mem_of_getElem? eT)
    have a1:=apart Z e1
    have a2:=apart Z e2
    refine qU D Z eO (xs:=us.toArray) (ys:=ws.toArray) (fun h' k=>⟨sR (s:={ s with heap:=h' }) (k t _ (a1 z (by simp)) (fun q=>hn (q ▸ mT)) (a1 i1 (by simp)) (a1 i2 (by simp)) e1),jG (s:={ s with heap:=h' }) (k l _ (a2 z (by simp)) (fun q=>hm (q ▸ mT)) (a2 i1 (by simp)) (a2 i2 (by simp)) e2)⟩) (by simpa using hu) (by simpa using hu') fun h' Z' tp' hT k=>?_
    obtain ⟨r',x⟩:=r.but2 (h':=h') hw eT tp' (three nz n1 n2) hb (fun b o hb hO=>k b o (fun z=>hb (by simp [z])) hO (fun z=>hb (by simp [z])) (fun z=>hb (by simp [z]))) (soft Z)
    have fresh:s.heap.objs.size ∉ α.all:=fun z=>by
      obtain ⟨o,e⟩:=r.liveAll z
      exact absurd (Heap.lt_size e) (Nat.lt_irrefl _)
    have vp:VR h' α (.tup [q1,q2]) (.ref s.heap.objs.size):=VR.tupI (am:=[u,u']) hT fresh (.cons (hv.ext x) (.cons (hv'.ext x) .nil))
    refine hQ _ _ vp (fun z=>by contradiction) ?_ x r' ⟨rfl,rfl⟩
    intro elts kk pos Q' E' hQ'
    refine wpAny_letOwnedTupleGo_zip (s:={ s with heap:=h' }) Z'.z fun fj e2 sb=>?_
    obtain ⟨r2,x2⟩:=r'.but2 (h':=fj) hw eT ((sb.2 TO D.b).trans tp') (three nz n1 n2) hb (fun b o hb _ q=>(sb.2 b (fun z=>hb (by simp [z]))).trans q) (soft Z')
    exact hQ' _ ⟨vp.ext x2,⟨⟨e2,(sb.2 TI D.a).trans Z'.ti,kP Z'.it fun o e=>(sb.2 i1 D.c).trans e,kW Z'.il fun o e=>(sb.2 i2 D.d).trans e⟩,eT,nT,nz,n1,n2,(vt.ext x).ext x2,(vl.ext x).ext x2⟩,x2,r2,⟨rfl,rfl⟩⟩
  · obtain ⟨Z,eT,nT,nz,n1,n2,vt,vl⟩:=st
    have hw:σ[j]?=some .tp:=hw
    obtain ⟨t',us,n,ht,e1,hn,w⟩:=vt.tupE
    cases ht
    obtain ⟨y1,y2,eO⟩:=r.obj j _ TO hw eT
    have a1:=apart Z e1
    refine sz (xs:=us.toArray) hh D Z (fun h' k=>sR (s:={ s with heap:=h' }) (k t _ (a1 z (by simp)) (a1 i1 (by simp)) e1)) (by simp [yI hl,w.1]) fun h' k=>?_
    obtain ⟨r',x⟩:=r.but2 (h':=h') hw eT (k TO _ D.b D.h eO) (three nz n1 n2) hb (fun b o hb _=>k b o (fun z=>hb (by simp [z])) (fun z=>hb (by simp [z]))) (soft Z)
    exact hQ _ x r' ⟨rfl,rfl⟩
  · exact wpAny_pyIter_zip st.Z.z hQ
theorem AL.not_add {b D:Addr} (h:b ∉ α.all) (hD:b ≠ D):b ∉ (α.add D).all:=fun q=>by
  rcases List.mem_append.mp q with q | q
  · rcases List.mem_append.mp q with q | q
    · exact h (List.mem_append_left _ q)
    · exact hD (List.mem_singleton.mp q)
  · exact h (List.mem_append_right _ q)
theorem aeQ (n:Nat):pA (n + 4) (n + 2) (n + 3) n (n + 1):=
  have h:∀ a b:Nat,a ≠ b->(n + a:Nat) ≠ n + b:=fun a b h q=>h (Nat.add_left_cancel q)
  ⟨h 2 4 (by decide),h 3 4 (by decide),h 0 4 (by decide),h 1 4 (by decide),h 2 3 (by decide),h 2 0 (by decide),h 2 1 (by decide),h 3 0 (by decide),h 3 1 (by decide),h 0 1 (by decide)⟩
theorem afT {a b:PV} {P:Prop} (h:sA a b σ ≠ .stuck) (k:∀ xs ys,a=.tup xs->b=.fl ys->xs.length=ys.length->sA a b σ=.ok (gx xs ys,some (σ.length,.tp)) (σ++[.tp])->P):P:=by
  cases a with
  | tup xs =>
    cases b with
    | fl ys =>
      have e0:sA (.tup xs) (.fl ys) σ=if xs.length=ys.length/\ys.length <= ao then .ok (gx xs ys,some (σ.length,.tp)) (σ++[.tp]) else .stuck:=rfl
      by_cases hl:xs.length=ys.length/\ys.length <= ao
      · exact k xs ys rfl rfl hl.1 (e0.trans (if_pos hl))
      · exact absurd (e0.trans (if_neg hl)) h
    | _=>exact absurd rfl h
  | _=>exact absurd rfl h
theorem acE {a b:PV} {x y:Value} {E:Value->Shared->Prop} (hh:A.handled=none) (r:R K.hb s.heap σ α) (va:VR s.heap α a x) (vb:VR s.heap α b y) (hc:sA a b σ ≠ .stuck) :
    wpAny (model K.prog K.w) A (call (.type "zip") [x,y]) (fun y s₁=>wpAny (model K.prog K.w) A (pyIter y) (br K A true (sA a b σ) s α) E s₁) E s:=by
  refine afT hc fun xs ys ha hb hl e=>?_
  subst ha hb
  rw [e]
  obtain ⟨t,us,n,rfl,e1,hn,w⟩:=va.tupE
  obtain ⟨l,ws,m,rfl,e2,hm,w'⟩:=vb.flE
  refine acY (sR e1) (jG e2) fun h' Z tp k=>wpAny_pyIter_zip (s:={ s with heap:=h' }) Z.z ?_
  have out:∀ i,s.heap.get? (s.heap.objs.size + i)=none/\s.heap.objs.size + i ∉ α.all/\K.hb.get? (s.heap.objs.size + i)=none:=fun i=>by
    have q0:s.heap.get? (s.heap.objs.size + i)=none:=by
      cases q:s.heap.get? (s.heap.objs.size + i) with
      | none=>rfl
      | some o=>exact absurd (Heap.lt_size q) (Nat.not_lt.mpr (Nat.le_add_right _ _))
    refine ⟨q0,fun z=>?_,?_⟩
    · obtain ⟨o,e⟩:=r.liveAll z
      rw [q0] at e; contradiction
    · cases q:K.hb.get? (s.heap.objs.size + i) with
      | none=>rfl
      | some o=>rw [r.base _ _ q] at q0; contradiction
  have D:=aeQ s.heap.objs.size
  obtain ⟨r',x⟩:=r.add (D:=s.heap.objs.size + 3) (m:=.tp) k (out 3).1 ⟨_,_,tp⟩
  have own:∀ b ∈ [s.heap.objs.size + 4,s.heap.objs.size,s.heap.objs.size + 1],s.heap.get? b=none/\K.hb.get? b=none:=fun b hb=>by
    rcases List.mem_cons.mp hb with rfl | hb
    · exact ⟨(out 4).1,(out 4).2.2⟩
    · rcases List.mem_cons.mp hb with rfl | hb
      · exact ⟨(out 0).1,(out 0).2.2⟩
      · rw [List.mem_singleton.mp hb]; exact ⟨(out 1).1,(out 1).2.2⟩
  refine ⟨_,_,_,_,_,_,rfl,x,r',⟨rfl,rfl⟩,.zip (t:=t) (l:=l) hh D hl fun b hb=>(own b hb).2,⟨Z,?_,AL.not_add (out 2).2.1 D.e,AL.not_add (out 4).2.1 D.b.symm,AL.not_add (out 0).2.1 D.h.symm,AL.not_add (out 1).2.1 D.i.symm,va.ext x,vb.ext x⟩,own⟩
  show (α.ix++[s.heap.objs.size + 3])[σ.length]?=_
  rw [r.len,List.getElem?_append_right (Nat.le_refl _),Nat.sub_self]; rfl
end
end Mine
namespace Mine
open PySem PyProof.Rows
end Mine
namespace Mine
open PySem PyProof.Rows
structure aG (hb:Bs) (env:Env):Prop where
  l:hb.get? env.locals=none
  c:∀ x c,env.cells.lookup x=some c->hb.get? c=none
  f:∃ L r,env.frame=some L/\hb.fr=L::r
theorem OR.sameBut {B:Bs} {h h':Heap} {α:AL} {D:Addr} {m:MO} {a:Addr} (hD:D ∈ α.all) (hne:a ≠ D) (k:∀ b,b ≠ D->h'.get? b=h.get? b) (r:OR B h α m a):OR B h' α m a:=
  r.map (fun _ _ v=>v.sameBut hD k) (k a hne) fun b o hb e _=>⟨(k b (by rintro rfl; exact hb hD)).trans e,hb⟩
theorem aj.sameBut {h h':Heap} {α:AL} {D:Addr} {env:Env} {ρ:au} (hD:D ∈ α.all) (k:∀ b,b ≠ D->h'.get? b=h.get? b) (E:aj env ρ h α):aj env ρ h' α:=by
  obtain ⟨m,n,hm⟩:=E.ns
  have hL:env.locals ≠ D:=by intro q; exact E.la (q ▸ hD)
  refine ⟨E.ok,E.la,⟨m,?_,fun i x v e1 e2=>let ⟨u,a,b⟩:=hm i x v e1 e2; ⟨u,a,b.sameBut hD k⟩⟩,fun x c hc=>?_,E.cd,fun i x e1=>?_,E.inb⟩
  · obtain ⟨o,es,ep,e,r⟩:=n
    exact ⟨o,es,ep,(k _ hL).trans e,r⟩
  · obtain ⟨h1,h2,v,o,e,d⟩:=E.ca x c hc
    exact ⟨h1,h2,v,o,(k _ (by intro q; exact h1 (q ▸ hD))).trans e,d⟩
  · obtain ⟨c,hc,hv⟩:=E.cv i x e1
    refine ⟨c,hc,fun v e2=>?_⟩
    obtain ⟨u,⟨o,e,d⟩,b⟩:=hv v e2
    exact ⟨u,⟨o,(k _ (by intro q; exact (E.ca x c hc).1 (q ▸ hD))).trans e,d⟩,b.sameBut hD k⟩
theorem R.sameHid {hb h h' σ α} {D:Addr} (r:R hb h σ α) (hD:D ∈ α.hid) (hbD:hb.get? D=none) (k:∀ b,b ≠ D->h'.get? b=h.get? b) (al:∃ o,h'.get? D=some o) (nd:∀ o,h.get? D=some o->¬ dn o):R hb h' σ α:=by
  have hDi:=(r.hidden D hD).1
  have hDa:D ∈ α.all:=List.mem_append_right _ hD
  refine ⟨fun b o e=>(k b (by rintro rfl; rw [hbD] at e; contradiction)).trans (r.base b o e),r.fresh,r.nodup,r.len,fun b hb'=>⟨(r.hidden b hb').1,?_⟩,fun j m a e1 e2=>?_,r.hfr,r.fe,fun b hb'=>⟨(r.frs b hb').1,?_⟩,r.frNot⟩
  · by_cases q:b=D
    · subst q; exact al
    · rw [k b q]; exact (r.hidden b hb').2
  · exact (r.obj j m a e1 e2).sameBut hDa (by rintro rfl; exact hDi (List.mem_of_getElem? e2)) k
  · obtain ⟨_,o,e,d⟩:=r.frs b hb'
    exact ⟨o,(k b (by rintro rfl; exact nd o e d)).trans e,d⟩
theorem aB.sameBut {F α h α' h' h''} {D:Addr} (x:aB F α h α' h') (hD:h.get? D=none) (k:∀ b,b ≠ D->h''.get? b=h'.get? b):aB F α h α' h'':=by
  have ne:∀ b o,h.get? b=some o->b ≠ D:=fun b o e q=>by rw [q,hD] at e; contradiction
  refine ⟨x.hid,x.pre,fun b o hb e hs=>(k b (ne b o e)).trans (x.seqs b o hb e hs),fun b o hb hF e=>?_,fun b o hF e=>?_,x.fre⟩
  · rcases x.rest b o hb hF e with q | ⟨f,d,sl,q⟩
    · exact .inl ((k b (ne b o e)).trans q)
    · exact .inr ⟨f,d,sl,(k b (ne b o e)).trans q⟩
  · obtain ⟨o',e'⟩:=x.alive b o hF e
    exact ⟨o',(k b (ne b o e)).trans e'⟩
theorem aB.rehid {F α h α' h'} (x:aB F α h α' h') (hid:List Addr):aB F ⟨α.ix,hid,α.fr⟩ h ⟨α'.ix,hid,α'.fr⟩ h':=
  ⟨rfl,x.pre,x.seqs,x.rest,x.alive,x.fre⟩
section
variable {K:Kt} {A:Around} {s:Shared} {α:AL} {σ:ab} {env:Env} {ρ:au}
noncomputable def qP (names:List (Str × NameKind)):Prop:=∀ (i j:Nat) (x:Str) (k k':NameKind),names[i]?=some (x,k)->names[j]?=some (x,k')->i=j
theorem js {ρ:au} {i j:Nat} {v w:PV} (e:(ρ.set i (some v))[j]?=some (some w)):(j=i/\w=v)\/(j ≠ i/\ρ[j]?=some (some w)):=by
  by_cases q:j=i
  · subst q
    rw [List.getElem?_set_self'] at e
    cases hq:ρ[j]? with
    | none=>rw [hq] at e; contradiction
    | some o=>rw [hq] at e; simp at e; exact .inl ⟨rfl,e.symm⟩
  · rw [List.getElem?_set_ne (Ne.symm q)] at e
    exact .inr ⟨q,e⟩
theorem pF {i:Nat} {x:Str} {v:PV} {u:Value} {Q:Unit->Shared->Prop} {X:Value->Shared->Prop} (hU:qP env.scope.names) (r:R K.hb s.heap σ α) (E:aj env ρ s.heap α) (hL:K.hb.get? env.locals=none)
    (hn:env.scope.names[i]?=some (x,.local)) (vu:VR s.heap α v u)
    (hQ:∀ s',R K.hb s'.heap σ α->aj env (ρ.set i (some v)) s'.heap α->aB [env.locals] α s.heap α s'.heap->(∀ b,b ≠ env.locals->s'.heap.get? b=s.heap.get? b)->Sm s s'->Q () s') :
    wpAny (model K.prog K.w) A (storeName env x u) Q X s:=by
  obtain ⟨m,n,hm⟩:=E.ns
  refine wpAny_storeName_local (E.ok.ws i x _ hn) n (fun h' hn' hs'=>?_) (by rw [E.ok.kind]; rfl)
  obtain ⟨r',x'⟩:=r.but E.la hL (fun b o hb e=>(hs'.2 b hb).trans e) (fun o e=>by
    obtain ⟨o',es,ep,e',d,_⟩:=id n
    rw [e] at e'; obtain rfl:=Option.some.inj e'
    exact dn.notSolid ⟨_,_,d⟩) fun _ o e _=>by
    obtain ⟨o',es,ep,e',d,_⟩:=id hn'
    exact ⟨o',e',es,ep,d⟩
  refine hQ _ r' ⟨E.ok,E.la,⟨_,hn',fun j y w e1 e2=>?_⟩,fun y c hc=>?_,E.cd,fun j y e1=>?_,fun j w e=>?_⟩ x' (fun b hb=>hs'.2 b hb) ⟨rfl,rfl⟩
  · rcases js e2 with ⟨rfl,rfl⟩ | ⟨hne,e2⟩
    · rw [hn] at e1; cases e1
      exact ⟨u,by simp,vu.ext x'⟩
    · obtain ⟨u',h1,h2⟩:=hm j y w e1 e2
      have:y ≠ x:=by rintro rfl; exact hne (hU j i _ _ _ e1 hn)
      exact ⟨u',by simp [this,h1],h2.ext x'⟩
  · obtain ⟨h1,h2,w,h3⟩:=E.ca y c hc
    exact ⟨h1,h2,w,eV x' (AL.not_ix h1) (by simpa using h2) h3⟩
  · obtain ⟨c,hc,hv⟩:=E.cv j y e1
    refine ⟨c,hc,fun w e2=>?_⟩
    rcases js e2 with ⟨rfl,rfl⟩ | ⟨hne,e2⟩
    · rw [hn] at e1; cases e1
    · obtain ⟨u',h1,h2⟩:=hv w e2
      obtain ⟨q1,q2,_⟩:=E.ca y c hc
      exact ⟨u',eV x' (AL.not_ix q1) (by simpa using q2) h1,h2.ext x'⟩
  · rcases js e with ⟨rfl,rfl⟩ | ⟨hne,e2⟩
    · exact ⟨x,_,hn,.inl rfl⟩
    · exact E.inb j w e2
theorem y7 {i:Nat} {x:Str} {v:PV} {u:Value} {Q:Unit->Shared->Prop} {X:Value->Shared->Prop} (hU:qP env.scope.names) (r:R K.hb s.heap σ α) (E:aj env ρ s.heap α) (hN:aG K.hb env)
    (hn:env.scope.names[i]?=some (x,.cell)) (vu:VR s.heap α v u)
    (hQ:∀ c s',env.cells.lookup x=some c->R K.hb s'.heap σ α->aj env (ρ.set i (some v)) s'.heap α->aB [c] α s.heap α s'.heap->Sm s s'->Q () s') :
    wpAny (model K.prog K.w) A (storeName env x u) Q X s:=by
  obtain ⟨m,n,hm⟩:=E.ns
  obtain ⟨c,hc,hv⟩:=E.cv i x hn
  obtain ⟨q1,q2,v0,q3⟩:=E.ca x c hc
  refine wpAny_storeName_cell E.ok.kind (E.ok.ws i x _ hn) hc q3 fun h' hc' hs'=>?_
  obtain ⟨r',x'⟩:=r.but q1 (hN.c x c hc) (fun b o hb e=>(hs'.2 b hb).trans e) (fun o e=>by
    obtain ⟨o',e',d⟩:=q3
    rw [e] at e'; obtain rfl:=Option.some.inj e'
    rintro (⟨xs,n,q⟩ | ⟨C,vs,_,q⟩ | ⟨C,_,q⟩) <;> rw [d] at q <;> contradiction) fun _ o e dd=>by
    obtain ⟨o',e',d⟩:=q3
    rw [e] at e'; obtain rfl:=Option.some.inj e'
    obtain ⟨xs,n,q⟩:=dd
    rw [d] at q; contradiction
  have hns:h'.Ns env.locals m:=v9 x' (AL.not_ix E.la) (by simpa using (Ne.symm q2)) n
  refine hQ c _ hc r' ⟨E.ok,E.la,⟨m,hns,fun j y w e1 e2=>?_⟩,fun y c' hy=>?_,E.cd,fun j y e1=>?_,fun j w e=>?_⟩ x' ⟨rfl,rfl⟩
  · rcases js e2 with ⟨rfl,rfl⟩ | ⟨hne,e2⟩
    · rw [hn] at e1; cases e1
    · obtain ⟨u',h1,h2⟩:=hm j y w e1 e2
      exact ⟨u',h1,h2.ext x'⟩
  · obtain ⟨h1,h2,w,h3⟩:=E.ca y c' hy
    by_cases q:c'=c
    · subst q; exact ⟨h1,h2,_,hc'⟩
    · exact ⟨h1,h2,w,eV x' (AL.not_ix h1) (by simpa using q) h3⟩
  · obtain ⟨c',hy,hv'⟩:=E.cv j y e1
    refine ⟨c',hy,fun w e2=>?_⟩
    rcases js e2 with ⟨rfl,rfl⟩ | ⟨hne,e2⟩
    · rw [hn] at e1; cases e1
      rw [hc] at hy; obtain rfl:=Option.some.inj hy
      exact ⟨u,hc',vu.ext x'⟩
    · obtain ⟨u',h1,h2⟩:=hv' w e2
      have:c' ≠ c:=by
        rintro rfl
        have:=E.cd _ _ _ hy hc
        subst this
        exact hne (hU j i _ _ _ e1 hn)
      exact ⟨u',eV x' (AL.not_ix (E.ca y c' hy).1) (by simpa using this) h1,h2.ext x'⟩
  · rcases js e with ⟨rfl,rfl⟩ | ⟨hne,e2⟩
    · exact ⟨x,_,hn,.inr rfl⟩
    · exact E.inb j w e2
end
noncomputable def dM (cells:List (Str × Addr)):List (Str × NameKind)->List (Str × Addr)->List (Str × Addr)
  | [],acc=>acc
  | (n,k)::r,acc=>if k == .free then dM cells r ((n,(cells.lookup n).getD 0)::acc) else dM cells r acc
theorem iY {env:Env} (f:Str × NameKind->List (Str × Addr)->Sem (ForInStep (List (Str × Addr))))
    (hf:∀ n k cs,f (n,k) cs=if k == .free then (do let c <- cellOf env n; pure (.yield ((n,c)::cs))) else pure (.yield cs)) :
    ∀ (names:List (Str × NameKind)) (acc:List (Str × Addr)),(∀ n,(n,NameKind.free) ∈ names->(env.cells.lookup n).isSome)->(forIn names acc f)=pure (dM env.cells names acc)
  | [],acc,_=>by rw [List.forIn_nil]; rfl
  | (n,k)::r,acc,h=>by
    rw [List.forIn_cons,hf]
    unfold dM
    cases hk:k == .free with
    | true =>
      have hk':k=.free:=by simpa using hk
      subst hk'
      obtain ⟨c,hc⟩:=Option.isSome_iff_exists.mp (h n List.mem_cons_self)
      simp only [if_true]
      unfold cellOf
      rw [hc]
      simp only [Option.getD_some,pure_bind]
      exact iY f hf r _ fun n hn=>h n (List.mem_cons_of_mem _ hn)
    | false =>
      simp only [Bool.false_eq_true,if_false,pure_bind]
      exact iY f hf r _ fun n hn=>h n (List.mem_cons_of_mem _ hn)
theorem ng {scope:Scope} {env:Env} (h:∀ n,(n,NameKind.free) ∈ scope.names->(env.cells.lookup n).isSome):closureFor scope env=pure (dM env.cells scope.names []):=by
  unfold closureFor
  refine (congrArg (· >>= fun cs=>pure cs) (iY (env:=env) _ (fun n k cs=>?_) scope.names [] h)).trans (pure_bind _ _)
  cases hk:k == NameKind.free <;> simp [hk]
theorem qJ {cells:List (Str × Addr)}:∀ (names:List (Str × NameKind)) (acc:List (Str × Addr)),(∀ n,(n,NameKind.free) ∈ names->(cells.lookup n).isSome)->(∀ n c,(n,c) ∈ acc->cells.lookup n=some c) ->
    ∀ n c,(n,c) ∈ dM cells names acc->cells.lookup n=some c
  | [],_,_,h2,n,c,h=>h2 n c h
  | (n',k)::r,acc,h1,h2,n,c,h=>by
    unfold dM at h
    split at h
    · rename_i hk
      have hk':k=.free:=by simpa using hk
      subst hk'
      refine qJ r _ (fun n hn=>h1 n (List.mem_cons_of_mem _ hn)) (fun m d hm=>?_) n c h
      rcases List.mem_cons.mp hm with e | hm
      · cases e
        obtain ⟨c',hc'⟩:=Option.isSome_iff_exists.mp (h1 n' List.mem_cons_self)
        rw [hc']; rfl
      · exact h2 m d hm
    · exact qJ r _ (fun n hn=>h1 n (List.mem_cons_of_mem _ hn)) h2 n c h
theorem qL {cells:List (Str × Addr)}:∀ (names:List (Str × NameKind)) (acc:List (Str × Addr)) (n:Str) (c:Addr),(n,c) ∈ acc->(n,c) ∈ dM cells names acc
  | [],_,_,_,h=>h
  | (_,k)::r,acc,n,c,h=>by
    unfold dM
    split
    · exact qL r _ n c (List.mem_cons_of_mem _ h)
    · exact qL r _ n c h
theorem qK {cells:List (Str × Addr)}:∀ (names:List (Str × NameKind)) (acc:List (Str × Addr)) (n:Str),(n,NameKind.free) ∈ names->∃ c,(n,c) ∈ dM cells names acc
  | (n',k)::r,acc,n,h=>by
    unfold dM
    rcases List.mem_cons.mp h with e | h
    · cases e; exact ⟨_,qL r _ _ _ List.mem_cons_self⟩
    · split
      · exact qK r _ n h
      · exact qK r _ n h
theorem mQ {l:List (Str × Addr)} {n:Str} {c:Addr} (h:(n,c) ∈ l):∃ c',l.lookup n=some c':=by
  induction l with
  | nil=>simp at h
  | cons p r ih =>
    obtain ⟨k,v⟩:=p
    rw [List.lookup_cons]
    cases hb:n == k with
    | true=>exact ⟨v,rfl⟩
    | false =>
      rcases List.mem_cons.mp h with e | h
      · cases e; simp at hb
      · exact ih h
theorem d6 {cells:List (Str × Addr)} {names:List (Str × NameKind)} (h:∀ n,(n,NameKind.free) ∈ names->(cells.lookup n).isSome) {n:Str} {c:Addr} (e:(dM cells names []).lookup n=some c):cells.lookup n=some c:=
  qJ names [] h (fun _ _ h=>by simp at h) n c (mem_of_lookup e)
theorem abD {cells:List (Str × Addr)} {names:List (Str × NameKind)} (h:∀ n,(n,NameKind.free) ∈ names->(cells.lookup n).isSome) {n:Str} (hn:(n,NameKind.free) ∈ names):(dM cells names []).lookup n=cells.lookup n:=by
  obtain ⟨c,hc⟩:=qK (cells:=cells) names [] n hn
  obtain ⟨c',hc'⟩:=mQ hc
  rw [hc',d6 h hc']
end Mine
namespace Mine
open PySem PyProof.Rows
structure adb (names:List (Str × NameKind)):Prop where
  uniq:qP names
  nodbg:∀ (i:Nat) (x:Str) (k:NameKind),names[i]?=some (x,k)->(x == ("__debug__" : Str))=false
  kinds:∀ (i:Nat) (x:Str) (k:NameKind),names[i]?=some (x,k)->k=.local\/k=.cell\/k=.globalImplicit
theorem cM:∀ {names:List (Str × NameKind)},qP names->∀ {i:Nat} {x:Str} {k:NameKind},names[i]?=some (x,k)->names.lookup x=some k
  | [],_,i,x,k,h=>by simp at h
  | (y,k')::r,hU,i,x,k,h=>by
    rw [List.lookup_cons]
    cases i with
    | zero=>simp at h; obtain ⟨rfl,rfl⟩:=h; simp
    | succ i =>
      have h':r[i]?=some (x,k):=by simpa using h
      have hne:(x == y)=false:=by
        cases hb:x == y with
        | false=>rfl
        | true =>
          have:x=y:=by simpa using hb
          subst this
          exact absurd (hU 0 (i + 1) x k' k (by simp) h) (by omega)
      rw [hne]
      exact cM (fun i j x k k' h1 h2=>by have:=hU (i + 1) (j + 1) x k k' (by simpa using h1) (by simpa using h2); omega) h'
theorem fM:∀ {names:List (Str × NameKind)} {x:Str} {k:NameKind},names.lookup x=some k->∃ i,names.findIdx? (·.1 == x)=some i/\names[i]?=some (x,k)
  | [],_,_,h=>by simp at h
  | (y,k')::r,x,k,h=>by
    rw [List.lookup_cons] at h
    rw [List.findIdx?_cons]
    cases hb:x == y with
    | true =>
      rw [hb] at h; obtain rfl:=Option.some.inj h
      have:x=y:=by simpa using hb
      subst this
      exact ⟨0,by simp,by simp⟩
    | false =>
      rw [hb] at h
      obtain ⟨i,h1,h2⟩:=fM h
      have:(y == x)=false:=by
        cases hq:y == x with
        | false=>rfl
        | true =>
          have:y=x:=by simpa using hq
          subst this; simp at hb
      exact ⟨i + 1,by simp [this,h1],by simpa using h2⟩
theorem iU {scope:Scope} {env:Env} (hk:env.scope.kind=.function):(relabel scope env).names=a6 env.scope.names scope.names:=by
  unfold relabel a6 Env.kindOf
  simp [hk]
structure eP (N:List (Str × NameKind)) (scope:Scope) (t:Nat) (x:Str):Prop where
  kind:scope.kind=.function
  sc:adb (a6 N scope.names)
  nocell:∀ y ∈ scope.names,y.2 ≠ .cell
  tgt:(a6 N scope.names)[t]?=some (x,.local)
section
variable {N:List (Str × NameKind)} {scope:Scope} {t:Nat} {x:Str}
theorem eP.free (c:eP N scope t x) {n:Str} (h:(n,NameKind.free) ∈ scope.names):N.lookup n=some .cell:=by
  obtain ⟨i,hi⟩:=List.mem_iff_getElem?.mp h
  by_cases hq:N.lookup n=some .cell
  · exact hq
  · have:(a6 N scope.names)[i]?=some (n,.free):=by simp [a6,hi,hq]
    rcases c.sc.kinds i n _ this with q | q | q <;> contradiction
theorem eP.cell_ (c:eP N scope t x) {i:Nat} {y:Str} (h:(a6 N scope.names)[i]?=some (y,.cell)):(y,NameKind.free) ∈ scope.names/\N.lookup y=some .cell:=by
  simp only [a6,List.getElem?_map] at h
  cases hq:scope.names[i]? with
  | none=>rw [hq] at h; contradiction
  | some p =>
    obtain ⟨n,k⟩:=p
    rw [hq] at h
    simp only [Option.map_some,Option.some.injEq] at h
    split at h
    · rename_i hc
      (first | contradiction | (obtain rfl:=Option.some.inj h) | cases h)
      simp at hc
      exact ⟨hc.1 ▸ List.mem_of_getElem? hq,hc.2⟩
    · (first | contradiction | (obtain rfl:=Option.some.inj h) | cases h)
      exact absurd rfl (c.nocell _ (List.mem_of_getElem? hq))
theorem eP.names (c:eP N scope t x):∀ y ∈ scope.names,y.2=.local->scope.names.lookup y.1=some .local:=by
  rintro ⟨y,k⟩ hy rfl
  obtain ⟨i,hi⟩:=List.mem_iff_getElem?.mp hy
  refine cM (i:=i) (fun i j z k k' h1 h2=>?_) hi
  have e1:∃ q,(a6 N scope.names)[i]?=some (z,q):=by
    simp only [a6,List.getElem?_map,h1]; simp only [Option.map_some,Option.some.injEq]; split <;> exact ⟨_,rfl⟩
  have e2:∃ q,(a6 N scope.names)[j]?=some (z,q):=by
    simp only [a6,List.getElem?_map,h2]; simp only [Option.map_some,Option.some.injEq]; split <;> exact ⟨_,rfl⟩
  obtain ⟨_,e1⟩:=e1
  obtain ⟨_,e2⟩:=e2
  exact c.sc.uniq i j z _ _ e1 e2
end
section
variable {K:Kt} {A:Around} {s:Shared} {α:AL} {σ:ab} {env:Env} {ρ:au} {scope:Scope} {t:Nat} {x:Str}
theorem kJ {h:Heap} (c:eP env.scope.names scope t x) (E:aj env ρ h α):∀ n,(n,NameKind.free) ∈ scope.names->(env.cells.lookup n).isSome:=fun n hn=>by
  obtain ⟨i,_,hi⟩:=fM (c.free hn)
  obtain ⟨a,ha,_⟩:=E.cv i n hi
  rw [ha]; rfl
theorem acW {h:Heap} {C:Addr} {m:Str->Option Value} (c:eP env.scope.names scope t x) (E:aj env ρ h α) (hC:h.Ns C m) (hCa:C ∉ α.all) (hne:∀ y a,env.cells.lookup y=some a->a ≠ C) :
    aj (compEnvC scope (dM env.cells scope.names []) C env) (aY (dv env.scope.names (a6 env.scope.names scope.names)) ρ) h α:=by
  have hcl:=kJ c E
  have hnm:(compEnvC scope (dM env.cells scope.names []) C env).scope.names=a6 env.scope.names scope.names:=iU E.ok.kind
  refine ⟨⟨?_,E.ok.glob,E.ok.bins,?_,?_⟩,hCa,⟨m,hC,fun i y v e1 e2=>?_⟩,fun y a ha=>?_,fun y z a h1 h2=>?_,fun i y e1=>?_,fun i v e=>?_⟩
  · exact c.kind
  · intro i y k hi
    rw [hnm] at hi
    show (compEnvC scope (dM env.cells scope.names []) C env).scope.names.lookup y=some k
    rw [hnm]; exact cM c.sc.uniq hi
  · intro i y k hi
    rw [hnm] at hi
    exact c.sc.nodbg i y k hi
  · rw [hnm] at e1
    exfalso
    simp only [aY,dv,List.getElem?_map,e1] at e2
    simp at e2
  · have ha':=d6 hcl ha
    obtain ⟨h1,h2,h3⟩:=E.ca y a ha'
    exact ⟨h1,hne y a ha',h3⟩
  · exact E.cd y z a (d6 hcl h1) (d6 hcl h2)
  · rw [hnm] at e1
    obtain ⟨h1,h2⟩:=c.cell_ e1
    obtain ⟨j,hj,hj'⟩:=fM h2
    obtain ⟨a,ha,hv⟩:=E.cv j y hj'
    refine ⟨a,(abD hcl h1).trans ha,fun v e2=>hv v ?_⟩
    simp only [aY,dv,List.getElem?_map,e1] at e2
    simp [hj] at e2
    cases hq:ρ[j]? with
    | none=>rw [hq] at e2; contradiction
    | some o=>rw [hq] at e2; simp at e2; rw [e2]
  · rw [hnm]
    simp only [aY,dv,List.getElem?_map] at e
    cases hq:(a6 env.scope.names scope.names)[i]? with
    | none=>rw [hq] at e; contradiction
    | some p =>
      obtain ⟨y,k⟩:=p
      rw [hq] at e
      by_cases hk:k=.cell
      · exact ⟨y,k,rfl,.inr hk⟩
      · simp [hk] at e
end
end Mine
namespace Mine
open PySem PyProof.Rows
structure gr (K:Kt) (A:Around):Prop where
  ex:∃ l,A.frames=some l/\l.map (·.frame)=K.hb.fr.map some/\∀ e ∈ l,e.scope.kind ≠ .module
theorem rT {h base:Heap}:∀ {l:List Env} {fr:List Addr},l.map (·.frame)=fr.map some->(∀ e ∈ l,e.scope.kind ≠ .module)->(∀ a ∈ fr,base.get? a=none/\∃ o,h.get? a=some o/\dn o)->h.FunFrames base l/\l.filterMap (·.frame)=fr
  | [],[],_,_,_=>⟨trivial,rfl⟩
  | [],_::_,h,_,_=>by simp at h
  | _::_,[],h,_,_=>by simp at h
  | e::l,a::fr,h1,h2,h3=>by
    simp only [List.map_cons,List.cons.injEq] at h1
    obtain ⟨p,q⟩:=rT h1.2 (fun e he=>h2 e (List.mem_cons_of_mem _ he)) fun a ha=>h3 a (List.mem_cons_of_mem _ ha)
    obtain ⟨b1,o,b2,es,n,b3⟩:=h3 a List.mem_cons_self
    exact ⟨⟨h2 e List.mem_cons_self,⟨a,o,h1.1,b1,b2,fun vs z=>by rw [b3] at z; cases z⟩,p⟩,by rw [List.filterMap_cons,h1.1,q]⟩
section
variable {K:Kt} {A:Around} {env:Env} {s:Shared} {aQ:Heap} {σ:ab} {α:AL}
theorem xS {oP:Env} {outer:List Env} {L:Addr} {base:Heap} {Q:Value->Shared->Prop} {E:Value->Shared->Prop} (hfr:A.frames=some (oP::outer)) (hl:s.heap.FunFrames base (oP::outer)) (hf0:oP.frame=some L) (hf:env.frame=some L)
    (h:∀ h',Heap.SlotsOnly ((oP::outer).filterMap (·.frame)) s.heap h'->Q (.ref L) { s with heap:=h' }):wpAny (model K.prog K.w) A (frameOf env) Q E s:=by
  unfold PySem.frameOf
  refine wpAny_bind (wpAny_frameEnvs hfr ?_)
  have hdw:((oP::outer).dropWhile fun x=>x.frame != env.frame)=oP::outer:=by simp [List.dropWhile,hf0,hf]
  rw [hdw]
  unfold frameObject
  refine wpAny_bind (wpAny_bind (wpAny_readyFrames_fun hl fun bj cY=>wpAny_pure ?_))
  rw [hf0]
  exact wpAny_pure (h bj cY)
theorem uw {i:Nat} {a L:Addr} {oe:Obj} {vs:Array Value} {head:Value} {hadNext:Bool} {Q:Unit->Shared->Prop} {E:Value->Shared->Prop} (hA:gr K A) (hN:aG K.hb env) (hL:env.frame=some L) (r:R K.hb aQ σ α) (u:Up K.hb.fr aQ s.heap)
    (new:aQ.get? a=none) (he:s.heap.get? a=some oe) (hc:oe.cls=.ref i) (hd:oe.data=.fields vs) (hsz:1 < vs.size) (cx:∃ y,vs[2]?=some y/\(K.ph=false->y=.none))
    (hQ:∀ h',Up K.hb.fr aQ h'->hB K.ph aQ h' i a true->Q () { s with heap:=h' }) :
    wpAny (model K.prog K.w) A (do let x <- frameOf env; let pl <- entryPlaceOf L hadNext; let b <- EntryCells.newEntry head x .none (rawInt L) .none pl; setField (.ref a) 1 b) Q E s:=by
  obtain ⟨l,hl1,hl2,hl3⟩:=hA.ex
  have r':=r.up u
  obtain ⟨hl,hfm⟩:=rT hl2 hl3 r'.frs
  obtain ⟨L',rest,hf,hfr⟩:=hN.f
  rw [hL] at hf; obtain rfl:=Option.some.inj hf
  cases l with
  | nil=>rw [hfr] at hl2; simp at hl2
  | cons oP outer =>
    have hf0:oP.frame=some L:=by rw [hfr] at hl2; simp at hl2; exact hl2.1
    have haf:a ∉ K.hb.fr:=fun q=>by
      obtain ⟨_,o,e,es,n,d⟩:=r'.frs a q
      rw [he] at e; obtain rfl:=Option.some.inj e
      rw [hd] at d; contradiction
    refine wpAny_bind (xS hl1 hl hf0 hL fun bj cY=>?_)
    rw [hfm] at cY
    refine wpAny_bind (wpAny_entryPlaceOf fun pl hpl=>?_)
    unfold EntryCells.newEntry newFields
    refine wpAny_bind (wpAny_newObj_type ?_ (hpl.sizeOk5 _ _ _ _ _))
    have adC:bj.get? a=some oe:=(cY.2.1 a haf).trans he
    have adB:=Heap.get?_push_of_some (h:=bj) { cls:=.type "traceback",dict:=none,data:=.fields ([head,.ref L,.none,rawInt L,.none]++(if pl.isEmpty then List.replicate 6 Value.none else pl)).toArray } adC
    refine wpAny_setField adB hd hsz (hQ _ ?_ ?_)
    · intro b o hb
      have hba:a ≠ b:=fun q=>by rw [<- q,new] at hb; contradiction
      have keep:∀ o',bj.get? b=some o'->((bj.push { cls:=.type "traceback",dict:=none,data:=.fields ([head,.ref L,.none,rawInt L,.none]++(if pl.isEmpty then List.replicate 6 Value.none else pl)).toArray }).update a (Obj.mapFields (·.setIfInBounds 1 (Value.ref bj.objs.size)))).get? b=some o':=fun o' q=>by
        rw [Heap.get?_update_other _ _ hba]; exact Heap.get?_push_of_some _ q
      rcases u b o hb with q | ⟨m,sl,q⟩
      · by_cases hm:b ∈ K.hb.fr
        · obtain ⟨sl,z⟩:=cY.2.2 b o q
          exact .inr ⟨hm,sl,keep _ z⟩
        · exact .inl (keep _ ((cY.2.1 b hm).trans q))
      · obtain ⟨sl',z⟩:=cY.2.2 b _ q
        exact .inr ⟨m,sl',keep _ z⟩
    · have hTe:bj.objs.size ≠ a:=Nat.ne_of_gt (Heap.lt_size adC)
      have adD:=Obj.data_mapFields hd (·.setIfInBounds 1 (Value.ref bj.objs.size))
      have agm:=Heap.get?_update_self (Obj.mapFields (·.setIfInBounds 1 (Value.ref bj.objs.size))) adB (Obj.isFreed_of_fields adD)
      have agn:=(Heap.get?_update_other (bj.push { cls:=.type "traceback",dict:=none,data:=.fields ([head,.ref L,.none,rawInt L,.none]++(if pl.isEmpty then List.replicate 6 Value.none else pl)).toArray })
        (Obj.mapFields (·.setIfInBounds 1 (Value.ref bj.objs.size))) (Ne.symm hTe)).trans (Heap.get?_push_size bj rfl)
      refine ⟨new,_,_,.ref bj.objs.size,agm,(Obj.cls_mapFields _ _).trans hc,adD,by simp [hsz],.inr bj.objs.size _ _ rfl ?_ hTe agn rfl rfl ?_,?_⟩
      · cases q:aQ.get? bj.objs.size with
        | none=>rfl
        | some o =>
          have:∃ o',s.heap.get? bj.objs.size=some o':=by
            rcases u _ _ q with q | ⟨_,_,q⟩
            · exact ⟨_,q⟩
            · exact ⟨_,q⟩
          obtain ⟨o',z⟩:=this
          obtain ⟨sl,z'⟩:=cY.2.2 _ _ z
          exact absurd (Heap.lt_size z') (Nat.lt_irrefl _)
      · simp
      · obtain ⟨y,y1,y2⟩:=cx
        exact ⟨y,by rw [Array.getElem?_setIfInBounds_ne (by decide)]; exact y1,y2⟩
theorem acr {i:Nat} {a:Addr} {nt:Bool} {Q:Unit->Shared->Prop} {E:Value->Shared->Prop} (hA:gr K A) (hN:aG K.hb env) (r:R K.hb aQ σ α) (u:Up K.hb.fr aQ s.heap) (x:hB K.ph aQ s.heap i a nt)
    (hQ:∀ h',Up K.hb.fr aQ h'->hB K.ph aQ h' i a true->Q () { s with heap:=h' }):wpAny (model K.prog K.w) A (noteFrame (.ref a) env) Q E s:=by
  obtain ⟨new,oe,vs,xv,he,hc,hd,h1,ht,cx⟩:=x
  obtain ⟨L,rest,hf,hfr⟩:=id hN.f
  have hsz:=(Array.getElem?_eq_some_iff.mp h1).1
  unfold noteFrame
  simp only [hf]
  refine wpAny_bind (wpAny_field he hd h1 ?_)
  rcases ht with ⟨_,rfl⟩ | ⟨T,oT,ts,rfl,hT0,hTa,hT,hTc,hTd,hT3⟩
  · rw [if_neg (by decide)]
    exact uw hA hN hf r u new he hc hd hsz cx hQ
  · rw [if_pos (show (Value.ref T != Value.none)=true from by simp)]
    refine wpAny_bind (wpAny_field hT hTd (x:=ts[3]) (by simp [hT3]) ?_)
    by_cases hq:(ts[3] == rawInt L)=true
    · rw [if_pos hq]
      exact wpAny_pure (hQ _ u ⟨new,oe,vs,_,he,hc,hd,h1,.inr T oT ts rfl hT0 hTa hT hTc hTd hT3,cx⟩)
    · rw [if_neg hq]
      refine wpAny_bind (wpAny_setField hT hTd hT3 ?_)
      have other:∀ b,b ≠ T->(s.heap.update T (Obj.mapFields (·.setIfInBounds 3 Value.none))).get? b=s.heap.get? b:=fun b hb=>Heap.get?_update_other _ _ (Ne.symm hb)
      refine uw (s:={ s with heap:=s.heap.update T (Obj.mapFields (·.setIfInBounds 3 Value.none)) }) hA hN hf r (fun b o hb=>?_) new ((other a (Ne.symm hTa)).trans he) hc hd hsz cx hQ
      have hbT:b ≠ T:=fun q=>by rw [q,hT0] at hb; contradiction
      show (s.heap.update T _).get? b=_\/_
      rcases u b o hb with q | ⟨m,sl,q⟩
      · exact .inl ((other b hbT).trans q)
      · exact .inr ⟨m,sl,(other b hbT).trans q⟩
theorem zI {i:Nat} {a:Addr} {f:Option Addr} {Q:Unit->Shared->Prop} {E:Value->Shared->Prop} (r:R K.hb aQ σ α) (u:Up K.hb.fr aQ s.heap) (x:hB K.ph aQ s.heap i a true)
    (hQ:∀ h',Up K.hb.fr aQ h'->hB K.ph aQ h' i a true->Q () { s with heap:=h' }):wpAny (model K.prog K.w) A (setFlight (.ref a) f) Q E s:=by
  obtain ⟨new,oe,vs,xv,he,hc,hd,h1,ht,cx⟩:=x
  rcases ht with ⟨z,_⟩ | ⟨T,oT,ts,rfl,hT0,hTa,hT,hTc,hTd,hT3⟩
  · contradiction
  unfold setFlight
  refine wpAny_bind (wpAny_field he hd h1 ?_)
  rw [if_pos (show (Value.ref T != Value.none)=true from by simp)]
  have other:∀ (g:Obj->Obj) b,b ≠ T->(s.heap.update T g).get? b=s.heap.get? b:=fun g b hb=>Heap.get?_update_other _ _ (Ne.symm hb)
  refine wpAny_setField hT hTd hT3 (hQ _ (fun b o hb=>?_) ⟨new,oe,vs,_,(other _ a (Ne.symm hTa)).trans he,hc,hd,h1,.inr T _ _ rfl hT0 hTa (Heap.get?_update_self _ hT (Obj.isFreed_of_fields (Obj.data_mapFields hTd _))) ((Obj.cls_mapFields _ _).trans hTc) (Obj.data_mapFields hTd _) (by simpa using hT3),cx⟩)
  have hbT:b ≠ T:=fun q=>by rw [q,hT0] at hb; contradiction
  rcases u b o hb with q | ⟨m,sl,q⟩
  · exact .inl ((other _ b hbT).trans q)
  · exact .inr ⟨m,sl,(other _ b hbT).trans q⟩
theorem aa9 {i:Nat} {a:Addr} {nt:Bool} {Q:Unit->Shared->Prop} {E:Value->Shared->Prop} (hA:gr K A) (hN:aG K.hb env) (r:R K.hb aQ σ α) (u:Up K.hb.fr aQ s.heap) (x:hB K.ph aQ s.heap i a nt)
    (hQ:∀ h',Up K.hb.fr aQ h'->hB K.ph aQ h' i a true->Q () { s with heap:=h' }):wpAny (model K.prog K.w) A (leaving env (.ref a)) Q E s:=by
  unfold leaving
  refine wpAny_bind (acr hA hN r u x fun h' u' x'=>?_)
  exact zI (s:={ s with heap:=h' }) r u' x' fun h'' u'' x''=>hQ h'' u'' x''
end
end Mine
namespace Mine
open PySem PyProof.Rows
noncomputable def ej (tC:PV->ab->ae Bool) (eC:PV->ab->ae PV) (x:PV) (σ:ab):ae (Option PV):=
  (tC x σ).bind fun b σ=>if b then (eC x σ).bind fun v σ=>.ok (some v) σ else .ok none σ
theorem aN.snoc {h:Heap} {α:AL} {xs:List PV} {vs:List Value} {p:PV} {v:Value} (a:aN h α xs vs) (b:VR h α p v):aN h α (xs++[p]) (vs++[v]):=
  a.append (.cons b .nil)
section
variable {K:Kt} {A:Around} {s:Shared} {α:AL} {env:Env} {ρ:au} {scope:Scope} {t:Nat} {x:Str}
inductive qR (K:Kt) (s:Shared) (α:AL) (c:ae PV) (acc:Value) (C:Addr) (r:Result) (s':Shared):Prop
  | inl (e:r=.ok .next) (v:PV) (σ':ab) (α':AL) (m:Str->Option Value) (hc:c=.ok v σ') (x:aB [] α s.heap α' s'.heap) (rr:R K.hb s'.heap σ' α') (vr:VR s'.heap α' v acc) (sm:Sm s s') (ns:s'.heap.Ns C m) (h1:C ∉ α'.all) (h2:s.heap.get? C=none) (h3:K.hb.get? C=none) (h4:C ∉ K.hb.fr):qR K s α c acc C r s'
inductive yG (K:Kt) (s:Shared) (α:AL) (xs:List PV) (St:Nat->Heap->AL->Prop) (D:Addr) (cenv:Env) (t:Nat) (ρc:au) (go:List PV->List PV->ab->ae PV) (c:ae PV) (n:Nat) (s₁:Shared):Prop
  | mk (i:Nat) (σ₁:ab) (α₁:AL) (ys:List PV) (us:List Value) (ρ₁:au) (nn:Nat) (hn:n=xs.length - i) (hi:i <= xs.length) (hid:α₁.hid=D::α.hid) (x:aB [] α s.heap ⟨α₁.ix,α.hid,α₁.fr⟩ s₁.heap) (r:R K.hb s₁.heap σ₁ α₁) (st:St i s₁.heap α₁) (E:aj cenv ρ₁ s₁.heap α₁)
      (jH:∀ v,ρ₁.set t (some v)=ρc.set t (some v)) (hl:s₁.heap.get? D=some { cls:=.type "list",data:=.seq (List.toArray us) nn }) (vs:aN s₁.heap α₁ ys us) (m:Sm s s₁) (hgo:go ys (xs.drop i) σ₁=c) (hyl:ys.length <= i) (tk:K.Tk s₁):yG K s α xs St D cenv t ρc go c n s₁
theorem aev {h:Heap} {C b:Addr} (hb:b ≠ C):(PySem.W.hideAll h [C]).get? b=h.get? b:=by
  cases e:h.get? b with
  | some o=>exact PySem.W.hideAll_get _ e (by simpa using hb)
  | none =>
    cases e':(PySem.W.hideAll h [C]).get? b with
    | none=>rfl
    | some o=>rw [PySem.W.of_hideAll _ e'] at e; contradiction
theorem R.unhide {hb h σ α} {hid:List Addr} (r:R hb h σ α) (hs:∀ a ∈ hid,a ∈ α.hid):R hb h σ ⟨α.ix,hid,α.fr⟩:=
  ⟨r.base,r.fresh,r.nodup,r.len,fun a ha=>r.hidden a (hs a ha),fun j m a e1 e2=>(r.obj j m a e1 e2).re (α:=α) (α':=⟨α.ix,hid,α.fr⟩) (fun _ _ e=>e) (fun a ha=>by
    rcases List.mem_append.mp ha with q | q
    · exact List.mem_append_left _ q
    · exact List.mem_append_right _ (hs a q)),fun a ha=>r.hfr a (hs a ha),r.fe,r.frs,r.frNot⟩
noncomputable def d8 (n:Nat) (fz:Bool) (w:Option (Nat × MO)) (tC:PV->ab->ae Bool) (eC:PV->ab->ae PV) (ys xs:List PV) (σ:ab):ae PV:=
  d4 n (bG w (ej tC eC) xs σ) fun zs σ=>bh fz (ys++zs) σ
theorem abl {n fz w tC eC ys xs σ} (h:d8 n fz w tC eC ys xs σ ≠ .stuck):cK w σ:=by
  by_cases hw:cK w σ
  · exact hw
  · refine absurd ?_ h
    unfold d8
    cases xs with
    | nil=>rw [show bG w (ej tC eC) [] σ=.stuck from if_neg hw]; rfl
    | cons x xs=>rw [show bG w (ej tC eC) (x::xs) σ=.stuck from if_neg hw]; rfl
theorem aex {n fz w tC eC ys p xs σ} (hw:cK w σ):d8 n fz w tC eC ys (p::xs) σ=d4 n ((ej tC eC p σ).bind fun y σ=>(bG w (ej tC eC) xs σ).bind fun zs σ=>.ok (zM y zs) σ) fun zs σ=>bh fz (ys++zs) σ:=by
  unfold d8
  rw [show bG w (ej tC eC) (p::xs) σ=_ from if_pos hw]
theorem abm {n fz w tC eC ys p xs σ} (h:d8 n fz w tC eC ys (p::xs) σ ≠ .stuck):cK w σ/\tC p σ ≠ .stuck/\(∀ i σ',tC p σ ≠ .exc i σ') ∧
    (∀ σ',tC p σ=.ok false σ'->d8 n fz w tC eC ys (p::xs) σ=d8 n fz w tC eC ys xs σ') ∧
    (∀ σ',tC p σ=.ok true σ'->eC p σ' ≠ .stuck/\(∀ i d7,eC p σ' ≠ .exc i d7)/\∀ v d7,eC p σ'=.ok v d7->d8 n fz w tC eC ys (p::xs) σ=d8 n fz w tC eC (ys++[v]) xs d7):=by
  have hw:=abl h
  rw [aex hw] at h ⊢
  have cf:∀ {c},(tC p σ).bind (fun b σ=>if b then (eC p σ).bind fun v σ=>.ok (some v) σ else .ok none σ)=c->ej tC eC p σ=c:=fun q=>q
  have ct:∀ {σ'},tC p σ=.ok true σ'->ej tC eC p σ=(eC p σ').bind fun v σ=>.ok (some v) σ:=fun q=>cf (by rw [q]; rfl)
  refine ⟨hw,fun e=>?_,fun i σ' e=>?_,fun σ' e=>?_,fun σ' e=>⟨fun e'=>?_,fun i d7 e'=>?_,fun v d7 e'=>?_⟩⟩
  · rw [cf (c:=.stuck) (by rw [e]; rfl)] at h; exact h rfl
  · rw [cf (c:=.exc i σ') (by rw [e]; rfl)] at h; exact h rfl
  · rw [cf (c:=.ok none σ') (by rw [e]; rfl)]
    unfold d8
    show d4 n ((bG w (ej tC eC) xs σ').bind fun zs σ=>.ok zs σ) _=_
    cases bG w (ej tC eC) xs σ' <;> rfl
  · rw [ct e,e'] at h; exact h rfl
  · rw [ct e,e'] at h; exact h rfl
  · rw [ct e,e']
    unfold d8
    show d4 n ((bG w (ej tC eC) xs d7).bind fun zs σ=>.ok (v::zs) σ) _=_
    cases bG w (ej tC eC) xs d7 with
    | ok zs σ=>show bh _ _ _=bh _ _ _; rw [List.append_assoc]; rfl
    | exc i σ=>rfl
    | stuck=>rfl
theorem wB {n fz w tC eC ys xs σ} (hn:ys.length <= n) (h:d8 n fz w tC eC ys xs σ ≠ .stuck):ys.length <= ao:=by
  unfold d8 at h
  cases hq:bG w (ej tC eC) xs σ with
  | ok zs σ' =>
    rw [hq] at h
    simp only [d4,bh] at h
    split at h
    · rename_i hl; simp at hl; omega
    · exact absurd rfl h
  | exc i σ'=>rw [hq] at h; exact absurd rfl h
  | stuck=>rw [hq] at h; exact absurd rfl h
theorem abC {elt iter:Expr} {px:Pos} {ifs:List Expr} {pos:Pos} {it:Value} {own:List Addr} {xs:List PV} {w:Option (Nat × MO)} {St:Nat->Heap->AL->Prop} {D C:Addr}
    {tC:PV->ab->ae Bool} {eC:PV->ab->ae PV} {fz:Bool} {c:ae PV} {cenv:Env} {ρc:au}
    (I:fZ K A false own it xs w St) (hx:cenv.scope.names[t]?=some (x,.local)) (hU:qP cenv.scope.names) (hCl:cenv.locals=C)
    (hown:∀ b ∈ own,s.heap.get? b=none) (hD:s.heap.get? D=none) (hC:s.heap.get? C=none) (hbD:K.hb.get? D=none) (hbC:K.hb.get? C=none)
    (hDx:D ∉ α.hid) (apart:mO cenv own) (hc:c ≠ .stuck) (hF:gr K A) (hNc:aG K.hb cenv) (hCf:C ∉ K.hb.fr)
    (htest:∀ v s σ α,aj cenv (ρc.set t (some v)) s.heap α->R K.hb s.heap σ α ->
      Runs K dx A (forIn ifs true fun c r=>if r=true then do let ok <- isTrue c cenv (eval c cenv); pure (ForInStep.yield ok) else pure (ForInStep.yield r)) (tC v σ) s α)
    (helt:∀ v s σ α,aj cenv (ρc.set t (some v)) s.heap α->R K.hb s.heap σ α->Runs K VR A (eval elt cenv) (eC v σ) s α)
    {i:Nat} {σ₁:ab} {α₁:AL} {s₁:Shared} {ys:List PV} {us:List Value} {ρ₁:au} {n:Nat}
    (hi:i <= xs.length) (hid:α₁.hid=D::α.hid) (kN:aB [] α s.heap ⟨α₁.ix,α.hid,α₁.fr⟩ s₁.heap) (iT:R K.hb s₁.heap σ₁ α₁) (st:St i s₁.heap α₁) (f7:aj cenv ρ₁ s₁.heap α₁)
    (jH:∀ v,ρ₁.set t (some v)=ρc.set t (some v)) (hl:s₁.heap.get? D=some { cls:=.type "list",data:=.seq us.toArray n }) (vs:aN s₁.heap α₁ ys us) (ie:Sm s s₁)
    (hgo:d8 xs.length fz w tC eC ys (xs.drop i) σ₁=c) (hyl:ys.length <= i) (gy:K.Tk s₁) :
    codeAny (model K.prog K.w) A (.compLoop (.ListComp elt [⟨.Name x px,iter,ifs,0⟩] scope pos) 0 it (.ref D) cenv) (qR K s α c (.ref D) C) s₁:=by
  refine codeAny_compLoop_tests (yG K s α xs St D cenv t ρc (d8 xs.length fz w tC eC) c)
    (fun n s₁ inv=>?_) _ ⟨i,σ₁,α₁,ys,us,ρ₁,n,rfl,hi,hid,kN,iT,st,f7,jH,hl,vs,ie,hgo,hyl,gy⟩
  clear gy hyl hgo ie vs hl jH f7 st iT kN hid hi
  obtain ⟨i,σ₁,α₁,ys,us,ρ₁,nn,rfl,hi,hid,kN,iT,st,f7,jH,hl,vs,ie,hgo,hyl,gy⟩:=inv
  have hDh:D ∈ α₁.hid:=by rw [hid]; exact List.mem_cons_self
  have hDa:D ∈ α₁.all:=List.mem_append_right _ hDh
  by_cases hlt:i < xs.length
  ·
    have hdrop:xs.drop i=xs[i]::xs.drop (i + 1):=List.drop_eq_getElem_cons hlt
    rw [hdrop] at hgo
    obtain ⟨hw,ht1,ht2,ht3,ht4⟩:=abm (by rw [hgo]; exact hc)
    refine f8 gy (I.item i s₁ σ₁ α₁ xs[i] (by simp [hlt]) st iT hw _ _ fun v ay vr y5 _ xo bA fR j5=>?_)
    have y5:=y5 rfl
    have cO:aB [] α s.heap ⟨α₁.ix,α.hid,α₁.fr⟩ ay.heap:=aB.drop kN hown (by simp) (by simpa using xo.rehid α.hid)
    have iw:=f7.ext xo apart
    have rQ:=xo.seqs D _ (iT.hidden D hDh).1 hl .seq
    have u0:=vs.ext xo
    refine f8 j5 (wpAny_assign_Name (pF hU bA iw (by rw [hCl]; exact hbC) hx vr fun bS fQ iu xc sb jC iz=>?_))
    rw [jH] at iu
    rw [hCl] at xc sb
    have hCD:D ≠ C:=by rintro rfl; exact f7.la (by rw [hCl]; exact hDa)
    have sC:aB [] α s.heap ⟨α₁.ix,α.hid,α₁.fr⟩ bS.heap:=cO.sameBut hC sb
    have agk:bS.heap.get? D=_:=(sb D hCD).trans rQ
    have afV:=u0.ext xc
    have jc:=I.frame _ _ _ _ _ _ y5 xc (fun b hb q=>by simp at q; subst q; exact apart.1 (hCl ▸ hb))
    refine wpAny_mono (b4 (htest xs[i] bS σ₁ α₁ iu fQ ht1 iz)) (fun ok kR hp=>?_) fun e kR hx=>?_
    · obtain ⟨⟨b,uV,mi,hb,x4,vU,e4,zt⟩,afZ⟩:=hp
      have o7:=Kt.Tk.up iz afZ
      have e4':ok=b:=e4
      subst e4'
      have wx:mi.hid=D::α.hid:=x4.hid.trans hid
      have yK:aB [] α s.heap ⟨mi.ix,α.hid,mi.fr⟩ kR.heap:=sC.trans (x4.rehid α.hid)
      have oX:=iu.ext x4 .nil
      have adA:=x4.seqs D _ (fQ.hidden D hDh).1 agk .seq
      have adg:=afV.ext x4
      have rg:=I.frame _ _ _ _ _ _ jc x4 (by simp)
      cases ok with
      | false =>
        rw [if_neg (by simp)]
        refine ⟨xs.length - (i + 1),Nat.sub_succ_lt_self _ _ hlt,i + 1,uV,mi,ys,us,_,nn,rfl,hlt,wx,yK,vU,rg,oX,fun v=>by rw [List.set_set],adA,adg,((ie.trans fR).trans jC).trans zt,?_,by omega,o7⟩
        rw [<- ht3 _ hb]; exact hgo
      | true =>
        rw [if_pos rfl]
        obtain ⟨he1,he2,he3⟩:=ht4 _ hb
        refine wpAny_mono (b4 (helt xs[i] kR uV mi oX vU he1 o7)) (fun u sG hp=>?_) fun e sG hx=>?_
        · obtain ⟨⟨v5,uU,j3,hv5,x5,sJ,vr5,acw⟩,yX⟩:=hp
          have u5:=Kt.Tk.up o7 yX
          have abg:j3.hid=D::α.hid:=x5.hid.trans wx
          have abk:D ∈ j3.hid:=by rw [abg]; exact List.mem_cons_self
          have wA:D ∈ j3.all:=List.mem_append_right _ abk
          have vq:aB [] α s.heap ⟨j3.ix,α.hid,j3.fr⟩ sG.heap:=yK.trans (x5.rehid α.hid)
          have tE:=oX.ext x5 .nil
          have adz:=x5.seqs D _ (vU.hidden D (by rw [wx]; exact List.mem_cons_self)).1 adA .seq
          have afU:=adg.ext x5
          have u6:=I.frame _ _ _ _ _ _ rg x5 (by simp)
          refine wpAny_list_append_plain ⟨_,adz⟩ (fun agQ vf af2=>?_) ?_
          · obtain ⟨n6,vf⟩:=vf
            have kb:∀ b,b ≠ D->agQ.get? b=sG.heap.get? b:=fun b hb=>af2.2 b hb
            refine ⟨xs.length - (i + 1),Nat.sub_succ_lt_self _ _ hlt,i + 1,uU,j3,ys++[v5],us++[u],_,n6,rfl,hlt,abg,vq.sameBut hD kb,sJ.sameHid abk hbD kb ⟨_,vf⟩ (fun o e=>by rw [adz] at e; obtain rfl:=Option.some.inj e; rintro ⟨_,_,q⟩; contradiction),I.but _ _ _ _ _ u6 wA kb,tE.sameBut wA kb,fun v=>by rw [List.set_set],?_,(afU.snoc vr5).sameBut wA kb,(((ie.trans fR).trans jC).trans zt).trans (acw.trans ⟨rfl,rfl⟩),?_,by simp; (assumption),u5⟩
            · rw [vf]; simp
            · rw [<- he3 _ _ hv5]; exact hgo
          · have:=wB (n:=xs.length) (ys:=ys) (by (exact Nat.le_trans (by assumption) (by assumption))) (by rw [hgo]; exact hc)
            have h2:=vs.1
            simp
            rw [<- h2]
            exact b6 this
        · obtain ⟨⟨j,uU,e5,_⟩,_⟩:=hx
          exact absurd e5 (he2 _ _)
    · obtain ⟨⟨j,uU,e5,_⟩,_⟩:=hx
      exact absurd e5 (ht2 _ _)
  ·
    have hie:i=xs.length:=Nat.le_antisymm hi (Nat.not_lt.mp hlt)
    subst hie
    rw [List.drop_length] at hgo
    have hw:=abl (by rw [hgo]; exact hc)
    have hlim:=wB (n:=xs.length) (ys:=ys) (by (assumption)) (by rw [hgo]; exact hc)
    have hgo':bh fz ys σ₁=c:=by
      rw [<- hgo]
      unfold d8
      rw [show bG w (ej tC eC) [] σ₁=.ok [] σ₁ from if_pos hw]
      show _=bh fz (ys++[]) σ₁
      rw [List.append_nil]
    refine I.done s₁ σ₁ α₁ st iT hw _ _ fun ay xo bA fR=>?_
    have cO:aB [] α s.heap ⟨α₁.ix,α.hid,α₁.fr⟩ ay.heap:=aB.drop kN hown (by simp) (by simpa using xo.rehid α.hid)
    have iw:=f7.ext xo apart
    have hDi:=(bA.hidden D hDh).1
    have rQ:=xo.seqs D _ (iT.hidden D hDh).1 hl .seq
    have u0:=vs.ext xo
    obtain ⟨mC,nC,_⟩:=iw.ns
    rw [hCl] at nC
    have hCa:C ∉ α₁.all:=by rw [<- hCl]; exact f7.la
    have sub1:∀ a,a ∈ (⟨α₁.ix,α.hid,α₁.fr⟩:AL).all->a ∈ α₁.all:=fun a ha=>by
      rcases List.mem_append.mp ha with q | q
      · exact List.mem_append_left _ q
      · exact List.mem_append_right _ (by rw [hid]; exact List.mem_cons_of_mem _ q)
    unfold bh at hgo'
    rw [if_pos hlim] at hgo'
    cases fz with
    | true =>
      refine .inl rfl _ _ ⟨α₁.ix,α.hid,α₁.fr⟩ mC hgo'.symm cO (bA.unhide fun a ha=>by rw [hid]; exact List.mem_cons_of_mem _ ha) ?_ (ie.trans fR) nC (fun q=>hCa (sub1 _ q)) hC hbC hCf
      refine VR.flI rQ (fun q=>?_) (u0.re (α:=α₁) (α':=⟨α₁.ix,α.hid,α₁.fr⟩) (fun _ _ e=>e) sub1)
      rcases List.mem_append.mp q with q | q
      · exact hDi q
      · exact hDx q
    | false =>
      have get1:∀ (j:Nat) (a:Addr),α₁.ix[j]?=some a->(α₁.ix++[D])[j]?=some a:=fun j a e=>by
        rw [List.getElem?_append_left (List.getElem?_eq_some_iff.mp e).1]; exact e
      have sub2:∀ a,a ∈ (⟨α₁.ix++[D],α.hid,α₁.fr⟩:AL).all->a ∈ α₁.all:=fun a ha=>by
        rcases List.mem_append.mp ha with q | q
        · rcases List.mem_append.mp q with q | q
          · exact List.mem_append_left _ q
          · simp at q; subst q; exact hDa
        · exact List.mem_append_right _ (by rw [hid]; exact List.mem_cons_of_mem _ q)
      refine .inl rfl _ _ ⟨α₁.ix++[D],α.hid,α₁.fr⟩ mC hgo'.symm ?_ ⟨bA.base,?_,?_,?_,fun a ha=>⟨?_,(bA.hidden a (by rw [hid]; exact List.mem_cons_of_mem _ ha)).2⟩,fun j m a e1 e2=>?_,fun a ha=>bA.hfr a (by rw [hid]; exact List.mem_cons_of_mem _ ha),bA.fe,bA.frs,fun a ha q=>?_⟩ (.ref ?_) (ie.trans fR) nC (fun q=>hCa (sub2 _ q)) hC hbC hCf
      · obtain ⟨β,q1,q2⟩:=cO.pre
        refine ⟨rfl,⟨β++[D],by show α₁.ix++[D]=_; rw [show α₁.ix=α.ix++β from q1,List.append_assoc],fun a ha=>?_⟩,cO.seqs,cO.rest,cO.alive,cO.fre⟩
        rcases List.mem_append.mp ha with q | q
        · exact q2 a q
        · simp at q; subst q; exact ⟨hD,by simp⟩
      · intro a ha
        rcases List.mem_append.mp ha with q | q
        · exact bA.fresh a q
        · simp at q; subst q; exact hbD
      · show (α₁.ix++[D]).Nodup
        rw [List.nodup_append]
        exact ⟨bA.nodup,by simp,fun a ha b hb=>by simp at hb; subst hb; rintro rfl; exact hDi ha⟩
      · simp [bA.len]
      · intro q
        rcases List.mem_append.mp q with q | q
        · exact (bA.hidden a (by rw [hid]; exact List.mem_cons_of_mem _ ha)).1 q
        · simp at q; subst q; exact hDx ha
      · by_cases hj:j < σ₁.length
        · rw [List.getElem?_append_left hj] at e1
          have e2':(α₁.ix++[D])[j]?=some a:=e2
          rw [List.getElem?_append_left (by rw [<- bA.len]; exact hj)] at e2'
          exact (bA.obj j m a e1 e2').re get1 sub2
        · have e3:j=σ₁.length:=by
            have:=(List.getElem?_eq_some_iff.mp e1).1
            simp at this; omega
          subst e3
          have e2':(α₁.ix++[D])[σ₁.length]?=some a:=e2
          rw [List.getElem?_append_right (Nat.le_refl _)] at e1
          rw [List.getElem?_append_right (by rw [bA.len]; exact Nat.le_refl _)] at e2'
          simp [bA.len] at e1 e2'
          subst e1 e2'
          exact ⟨us,nn,rQ,u0.re get1 sub2⟩
      · rcases List.mem_append.mp q with q | q
        · exact bA.frNot a ha q
        · simp at q; subst q
          obtain ⟨_,o,e,es,n',d⟩:=bA.frs a ha
          rw [rQ] at e; obtain rfl:=Option.some.inj e; contradiction
      · rw [bA.len]; simp
end
end Mine
namespace Mine
open PySem PyProof.Rows
section
variable {K:Kt} {A:Around} {s:Shared} {α:AL} {env:Env} {ρ:au} {scope:Scope} {t:Nat} {x:Str}
noncomputable abbrev bn (scope:Scope) (C:Addr) (env:Env):Env:=compEnvC scope (dM env.cells scope.names []) C env
noncomputable abbrev ir (scope:Scope) (env:Env) (ρ:au):au:=aY (dv env.scope.names (a6 env.scope.names scope.names)) ρ
noncomputable def gp (fz:Bool) (tC:PV->ab->ae Bool) (eC:PV->ab->ae PV) (ci:ae (List PV × Option (Nat × MO))):ae PV:=
  ci.bind fun p σ=>d8 p.1.length fz p.2 tC eC [] p.1 σ
theorem sk {elt iter:Expr} {px:Pos} {ifs:List Expr} {pos:Pos} {ci:ae (List PV × Option (Nat × MO))}
    {tC:PV->ab->ae Bool} {eC:PV->ab->ae PV} {fz:Bool} {RR:Value->Addr->Result->Shared->Prop} {E:Value->Shared->Prop}
    (c:eP env.scope.names scope t x) (qQ:aj env ρ s.heap α) (hit:fI K A false (eval iter env) ci s α) (hc:gp fz tC eC ci ≠ .stuck) (tk:K.Tk s)
    (htest:∀ C v s σ α,aG K.hb (bn scope C env)->aj (bn scope C env) ((ir scope env ρ).set t (some v)) s.heap α->R K.hb s.heap σ α ->
      Runs K dx A (forIn ifs true fun c r=>if r=true then do let ok <- isTrue c (bn scope C env) (eval c (bn scope C env)); pure (ForInStep.yield ok) else pure (ForInStep.yield r)) (tC v σ) s α)
    (helt:∀ C v s σ α,aG K.hb (bn scope C env)->aj (bn scope C env) ((ir scope env ρ).set t (some v)) s.heap α->R K.hb s.heap σ α->Runs K VR A (eval elt (bn scope C env)) (eC v σ) s α)
    (hF:gr K A) (hN:aG K.hb env) (mt:∃ σ,R K.hb s.heap σ α)
    (hE:∀ e s',aS K A ci s α e s'->E e s') (hRR:∀ acc C r s',qR K s α (gp fz tC eC ci) acc C r s'->RR acc C r s') :
    wpAny (model K.prog K.w) A (eval iter env) (fun xv s₁=>wpAny (model K.prog K.w) A (pyIter xv) (fun it ay=>wpAny (model K.prog K.w) A (newList []) (fun acc bS =>
      wpAny (model K.prog K.w) A (newFunctionEnv scope env.globals (dM env.cells scope.names []) [] env.qual none .none (some env)) (fun cenv kR =>
        codeAny (model K.prog K.w) A (.compStart (.ListComp elt [⟨.Name x px,iter,ifs,0⟩] scope pos) 0 it acc { cenv with scope:=relabel scope env }) (RR acc cenv.locals) kR) E bS) E ay) E s₁) E s:=by
  have hci:ci ≠ .stuck:=by rintro rfl; exact hc rfl
  refine wpAny_mono (b4 (hit hci tk)) (fun xv s₁ bj=>wpAny_mono (b4 bj.1) (fun it ay fj=>?_) fun e s' h=>hE e s' h.1) fun e s' h=>hE e s' h.1
  have j5:K.Tk ay:=Kt.Tk.up tk (Nat.le_trans bj.2 fj.2)
  obtain ⟨xs,w,σ₂,aJ,own,St,hci2,cO,bA,fR,I,st,ho⟩:=fj.1
  have cell:∀ y ∈ scope.names,y.2 ≠ .cell:=c.nocell
  refine wpAny_newObj_type (wpAny_newFunctionEnv cell (by intro y hy; simp at hy) (fun bj ww rP=>?_) c.kind)
  dsimp only at ww rP ⊢
  generalize hH2:ay.heap.push { cls:=.type "list",dict:=none,data:=.seq ([]:List Value).toArray }=H2 at ww rP ⊢
  have hCs:H2.objs.size=ay.heap.objs.size + 1:=by rw [<- hH2,Heap.size_push]
  have hDC:ay.heap.objs.size ≠ H2.objs.size:=by rw [hCs]; exact Nat.ne_of_lt (Nat.lt_succ_self _)
  have old:∀ b o,ay.heap.get? b=some o->bj.get? b=some o:=fun b o e=>rP.extBut b o (by rw [hCs]; exact Nat.ne_of_lt (Nat.lt_succ_of_lt (Heap.lt_size e))) (Heap.get?_push_of_some _ (hH2 ▸ Heap.get?_push_of_some _ e))
  have hacc:bj.get? ay.heap.objs.size=some { cls:=.type "list",data:=.seq ([]:List Value).toArray }:=rP.extBut _ _ hDC (Heap.get?_push_of_some _ (hH2 ▸ Heap.get?_push_size _ rfl))
  have fresh:∀ a,ay.heap.objs.size <= a->ay.heap.get? a=none:=fun a ha=>by
    cases e:ay.heap.get? a with
    | none=>rfl
    | some o'=>exact absurd (Heap.lt_size e) (Nat.not_lt.mpr ha)
  have hD2:=fresh ay.heap.objs.size (Nat.le_refl _)
  have hC2:ay.heap.get? H2.objs.size=none:=fresh _ (by rw [hCs]; exact Nat.le_succ _)
  have back:∀ a,ay.heap.get? a=none->s.heap.get? a=none:=fun a ha=>by
    cases e:s.heap.get? a with
    | none=>rfl
    | some o=>obtain ⟨o',e'⟩:=cO.alive a o (by simp) e; rw [ha] at e'; contradiction
  have base:∀ a,ay.heap.get? a=none->K.hb.get? a=none:=fun a ha=>by
    cases e:K.hb.get? a with
    | none=>rfl
    | some o=>rw [bA.base a o e] at ha; contradiction
  have iw:=qQ.ext cO .nil
  have fQ:R K.hb bj σ₂ ⟨aJ.ix,ay.heap.objs.size::aJ.hid,aJ.fr⟩:=bA.hide hD2 old hacc
  have iu:aj env ρ bj ⟨aJ.ix,ay.heap.objs.size::aJ.hid,aJ.fr⟩:=(iw.hide hD2).ext (.keeps (F:=[]) old) .nil
  have cells:∀ y a,env.cells.lookup y=some a->∃ o,s.heap.get? a=some o:=fun y a ha=>by
    obtain ⟨_,_,v,o,e,_⟩:=qQ.ca y a ha; exact ⟨o,e⟩
  have hCa:H2.objs.size ∉ (⟨aJ.ix,ay.heap.objs.size::aJ.hid,aJ.fr⟩:AL).all:=fun q=>by
    rcases List.mem_append.mp q with q | q
    · obtain ⟨o,e⟩:=bA.live q; rw [hC2] at e; contradiction
    · rcases List.mem_cons.mp q with q | q
      · exact hDC q.symm
      · obtain ⟨o,e⟩:=(bA.hidden _ q).2; rw [hC2] at e; contradiction
  have hne:∀ y a,env.cells.lookup y=some a->a ≠ H2.objs.size:=fun y a ha q=>by
    obtain ⟨o,e⟩:=cells y a ha
    rw [q,back _ hC2] at e; contradiction
  have oX:=acW c iu ww hCa hne
  have hcl:=kJ c qQ
  have apart:mO (bn scope H2.objs.size env) own:=by
    refine ⟨fun q=>?_,fun y a ha q=>?_⟩
    · obtain ⟨o,e⟩:=I.live _ _ _ st _ q
      have e':ay.heap.get? H2.objs.size=some o:=e
      rw [hC2] at e'; contradiction
    · obtain ⟨o,e⟩:=cells y a (d6 hcl ha)
      rw [(ho a q).1] at e; contradiction
  have hN':aG K.hb (bn scope H2.objs.size env):=⟨base _ hC2,fun y a ha=>hN.c y a (d6 hcl ha),hN.f⟩
  have hCf:H2.objs.size ∉ K.hb.fr:=fun q=>by
    obtain ⟨_,o,e,_⟩:=bA.frs _ q
    rw [hC2] at e; contradiction
  have hnm:(bn scope H2.objs.size env).scope.names=a6 env.scope.names scope.names:=iU qQ.ok.kind
  have jc:St 0 bj ⟨aJ.ix,ay.heap.objs.size::aJ.hid,aJ.fr⟩:=I.frame _ [] _ _ _ _ (I.hide _ _ _ _ st hD2) (.keeps old) (by simp)
  have loop:∀ bS:Shared,bS={ ay with heap:=bj,toks:=ay.toks + ([]:List (Str × Value)).length } ->
      codeAny (model K.prog K.w) A (.compLoop (.ListComp elt [⟨.Name x px,iter,ifs,0⟩] scope pos) 0 it (.ref ay.heap.objs.size) (compEnvC scope (dM env.cells scope.names []) H2.objs.size env))
        (RR (.ref ay.heap.objs.size) H2.objs.size) bS:=by
    rintro bS rfl
    refine codeAny_mono (abC (s:=s) (α:=α) (D:=ay.heap.objs.size) (C:=H2.objs.size) (fz:=fz) (c:=gp fz tC eC ci) (cenv:=bn scope H2.objs.size env) (ρc:=ir scope env ρ) (t:=t) (tC:=tC) (eC:=eC)
      (i:=0) (σ₁:=σ₂) (α₁:=⟨aJ.ix,ay.heap.objs.size::aJ.hid,aJ.fr⟩) (ys:=[]) (us:=[]) (ρ₁:=ir scope env ρ) (n:=0) I (by rw [hnm]; exact c.tgt) (by rw [hnm]; exact c.sc.uniq) rfl (fun b hb=>(ho b hb).1) (back _ hD2) (back _ hC2) (base _ hD2) (base _ hC2) ?_ apart hc hF hN' hCf
      (fun v s σ α=>htest _ v s σ α hN') (fun v s σ α=>helt _ v s σ α hN') (Nat.zero_le _) (by show _::aJ.hid=_; rw [cO.hid]) ?_ fQ jc oX (fun v=>rfl) hacc .nil ⟨fR.gens,fR.os⟩ ?_ (Nat.le_refl _) (Kt.Tk.up j5 (Nat.le_add_right _ _))) (fun r s'=>hRR _ _ r s')
    · obtain ⟨σ,mt⟩:=mt
      intro q
      obtain ⟨o,e⟩:=(mt.hidden _ q).2
      rw [back _ hD2] at e; contradiction
    · have h3:aB [] α s.heap ⟨aJ.ix,α.hid,aJ.fr⟩ ay.heap:=by
        have:=cO.rehid α.hid
        exact this
      exact h3.trans (.keeps old)
    · rw [hci2]; rfl
  exact codeAny_compStart_list (loop _ rfl) (I.self 0 _ _ jc _ _ (loop _ rfl))
theorem sO {elt iter:Expr} {px:Pos} {ifs:List Expr} {pos:Pos} {ci:ae (List PV × Option (Nat × MO))} {σ:ab}
    {tC:PV->ab->ae Bool} {eC:PV->ab->ae PV} {fz:Bool}
    (c:eP env.scope.names scope t x) (qQ:aj env ρ s.heap α) (hit:fI K A false (eval iter env) ci s α)
    (htest:∀ C v s σ α,aG K.hb (bn scope C env)->aj (bn scope C env) ((ir scope env ρ).set t (some v)) s.heap α->R K.hb s.heap σ α ->
      Runs K dx A (forIn ifs true fun c r=>if r=true then do let ok <- isTrue c (bn scope C env) (eval c (bn scope C env)); pure (ForInStep.yield ok) else pure (ForInStep.yield r)) (tC v σ) s α)
    (helt:∀ C v s σ α,aG K.hb (bn scope C env)->aj (bn scope C env) ((ir scope env ρ).set t (some v)) s.heap α->R K.hb s.heap σ α->Runs K VR A (eval elt (bn scope C env)) (eC v σ) s α)
    (hF:gr K A) (hN:aG K.hb env) (mt:R K.hb s.heap σ α) (hs:∀ x,foldedSetIterable iter env x=pure x) :
    Runs K VR A (eval (.ListComp elt [⟨.Name x px,iter,ifs,0⟩] scope pos) env) (gp fz tC eC ci) s α:=by
  intro hc tk
  rw [eval_ListComp]
  refine wpAny_comprehension_free (use:=none) rfl hs (ng (kJ c qQ)) c.kind c.names (sk (fz:=fz) (RR:=fun acc C=>compPost (model K.prog K.w) A _ none _ acc C) c qQ hit hc tk htest helt hF hN ⟨_,mt⟩ (fun e s' hx=>?_) ?_)
  · obtain ⟨i,σ',e1,fx⟩:=hx
    exact ⟨i,σ',by rw [e1]; rfl,fx⟩
  · rintro acc C r s' ⟨rfl,v,σ',α',m,e,x',r',vr,sm,ns,ha,hC,hbC,hCf⟩
    · refine ⟨m,ns,fun h' hs'=>?_⟩
      obtain ⟨r'',x''⟩:=r'.but ha hbC (fun b o hb e=>(hs'.2 b hb).trans e) (fun o e=>by
        obtain ⟨o',es,ep,e',d,_⟩:=id ns
        rw [e] at e'; obtain rfl:=Option.some.inj e'
        exact dn.notSolid ⟨_,_,d⟩) fun q=>absurd q hCf
      exact ⟨v,σ',α',e,x'.sameBut hC (fun b hb=>hs'.2 b hb),r'',vr.ext x'',sm.trans ⟨rfl,rfl⟩⟩
end
end Mine
namespace Mine
open PySem PyProof.Rows
noncomputable def dA:Expr->Bool
  | .Set ..=>false
  | .Starred ..=>false
  | _=>true
theorem pH {op:CmpOp} {e:Expr} (h:dA e=true):behindInMarks op e=false:=by
  cases e <;> first | rfl | contradiction
theorem jA {e:Expr} {env:Env} (h:dA e=true) (x:Value):foldedSetIterable e env x=pure x:=by
  cases e <;> first | rfl | contradiction
theorem bD {e:Expr} {rest:List Expr} {env:Env} (h:dA e=true):starEach (e::rest) env=(false,eval e env)::starEach rest env:=by
  cases e <;> first | rfl | contradiction
open PySem.W in
structure eQ (K:Kt) (F:Frag) (b:Str) (c:Addr):Prop where
  mg:K.mg b=some (.ref c)
  inn:F.In K.hb.h
  keep:keepIn F (.ref c)=true
  makes:makesIn F c=true
  plain:plainOver F c=true
  hasd:(clsIn F c).any (·.hasDict)=true
  seta:findIn F (.ref c) "__setattr__" = some (some (.builtin "object.__setattr__"))
  free:∀ n ∈ cI,takerIn F c n=some none
  geta:findIn F (.ref c) "__getattribute__" = some (some (.builtin "object.__getattribute__"))
  getr:findIn F (.ref c) "__getattr__" = some none
  none:∀ n ∈ cI,findIn F (.ref c) n=some none
structure Ctx (K:Kt) (A:Around) (T:aV) (C:bc):Prop where
  hK:K.Ok
  hA:de A
  hd:C.hd=false->A.handled=none
  rp:T.repl=true->K.pos=true
  fr:gr K A
  cst:∀ x v,T.cst.lookup x=some v->∃ u,K.mg x=some u/\∀ h σ α,R K.hb h σ α->VR h α v u
  fn:∀ f x,T.fns[f]?=some x->∃ a o fd,K.mg x=some (.ref a)/\K.hb.get? a=some o/\o.data=.func fd/\∀ vs us s σ α,R K.hb s.heap σ α->aN s.heap α vs us->Runs K VR A (call (.ref a) us) (C.call f vs σ) s α
  bin:∀ x,x ∈ T.bins->K.mg x=none/\∃ v,iI x=some v/\K.mb x=some v
  brd:∀ b c,T.brd=some (b,c)->∃ F,eQ K F b c/\(∀ j,T.meths[j]?=some ("__init__" : Str)->∀ vs us s σ α,R K.hb s.heap σ α->aN s.heap α vs us->Runs K VR A (call (.ref c) us) (mx C c (T.fns.length + j) vs σ) s α)
    /\ ∀ j n,T.meths[j]?=some n->∃ a o fd,PySem.W.findIn F (.ref c) n=some (some (.ref a))/\PySem.W.typeIn F (.ref a)=some (.type "function")/\K.hb.get? a=some o/\o.data=.func fd/\∀ vs us s σ α,R K.hb s.heap σ α->aN s.heap α vs us->Runs K VR A (call (.ref a) us) (C.call (T.fns.length + j) vs σ) s α
noncomputable def j2 (K:Kt) (A:Around) (C:bc) (N:List (Str × NameKind)) (e:Expr) (x:X):Prop:=
  ∀ env ρ σ s α,env.scope.names=N->aG K.hb env->aj env ρ s.heap α->R K.hb s.heap σ α ->
    Runs K VR A (eval e env) (ev C x ρ σ) s α/\Runs K dx A (isTrue e env (eval e env)) (tst C x ρ σ) s α
noncomputable def SE (K:Kt) (A:Around) (C:bc) (f:List (Str × NameKind)->Expr->Option X):Prop:=
  ∀ N e x,f N e=some x->dA e=true/\j2 K A C N e x
section
variable {K:Kt} {A:Around} {β γ pC yc:Type} {Rel:Heap->AL->β->γ->Prop} {Rel':Heap->AL->pC->yc->Prop} {s:Shared} {α:AL} {σ:ab}
theorem Runs.operate {vs:List Value} {t:Sem Value} {Rel:Heap->AL->β->Value->Prop} {c:ae β} (H:Runs K Rel A t c s α):Runs K Rel A (operate vs t) c s α:=
  fun h tk=>wpAny_operating (H h tk)
theorem aez {t:Sem Value} {c:ae PV} {p:Pos} (H:Runs K VR A t c s α):Runs K dx A (do let v <- t; standAt p; holding [v] (truthy v)) (c.bind cP) s α:=
  Runs.bind H fun b σ' α' y s' _ x r v m=>Runs.standAt (Runs.holding (iy r v))
theorem dE.vr {h:Heap} {α:AL} {b:Bool} {y:Value} (v:dE h α b y):VR h α (.bool b) y:=by
  have:y=.bool b:=v
  subst this; exact .bool b
end
section
variable {K:Kt} {A:Around} {T:aV} {C:bc} {f:List (Str × NameKind)->Expr->Option X} {N:List (Str × NameKind)} {env:Env} {ρ:au} {σ:ab} {s:Shared} {α:AL}
theorem xW {c:Const} {v:PV} {k:Nat} {p:Pos} (h:yg c=some v) (r:R K.hb s.heap σ α):Runs K VR A (eval (.Constant c k p) env) (.ok v σ) s α:=by
  intro _ _
  cases c with
  | none=>obtain rfl:=Option.some.inj h; exact wpAny_Constant_none (aT.here (tk:=s.toks) r .none)
  | bool b=>obtain rfl:=Option.some.inj h; exact wpAny_Constant_bool (aT.here (tk:=s.toks) r (.bool b))
  | int i=>obtain rfl:=Option.some.inj h; exact wpAny_Constant_int (aT.here r (.int i _))
  | str x =>
    change aE _ _=_ at h
    exact aF h fun hx h=>by obtain rfl:=Option.some.inj h; exact wpAny_Constant_str (aT.here r (.str x _ hx))
  | _=>contradiction
theorem a9 {e:Expr} {y:X} (he:∀ env whole,isTrue e env whole=(do let v <- whole; standAt e.pos; holding [v] (truthy v))) (ht:∀ ρ σ,tst C y ρ σ=(ev C y ρ σ).bind cP)
    (H:∀ {env ρ σ s α},env.scope.names=N->aG K.hb env->aj env ρ s.heap α->R K.hb s.heap σ α->Runs K VR A (eval e env) (ev C y ρ σ) s α):j2 K A C N e y:=fun env ρ σ s α hN hn E r =>
  ⟨H hN hn E r,by rw [he,ht]; exact aez (H hN hn E r)⟩
theorem wn {N:List (Str × NameKind)} {x:Str} {i:Nat} {q:Str × NameKind} (hi:N.findIdx? (·.1 == x)=some i) (hq:N[i]?=some q):q.1=x:=by
  obtain ⟨h1,h2,_⟩:=List.findIdx?_eq_some_iff_getElem.mp hi
  obtain rfl:=Option.some.inj ((List.getElem?_eq_getElem h1).symm.trans hq)
  exact eq_of_beq h2
theorem vD {x:Str} {y:X} {p:Pos} (c:Ctx K A T C) (h:vE T N x=some y):j2 K A C N (.Name x p) y:=by
  unfold vE at h
  refine aP h fun i hi h=>aP h fun q hq h=>?_
  have hx:=wn hi hq
  obtain ⟨z,k⟩:=q
  dsimp only at hx
  subst hx
  cases k with
  | «local»=>obtain rfl:=Option.some.inj h; exact a9 (fun _ _=>rfl) (fun _ _=>rfl) fun hN _ E r=>rA r E (by rw [hN]; exact hq)
  | cell=>obtain rfl:=Option.some.inj h; exact a9 (fun _ _=>rfl) (fun _ _=>rfl) fun hN _ E r=>rA r E (by rw [hN]; exact hq)
  | globalImplicit =>
    change (T.cst.lookup z).map X.k=_ at h
    refine b8 h fun v hv=>?_
    obtain ⟨u,h1,h2⟩:=c.cst z v hv
    exact a9 (fun _ _=>rfl) (fun _ _=>rfl) fun {env ρ σ s α} hN _ E r _ _=>nP c.hK r E.ok (by rw [hN]; exact hq) h1 ⟨v,σ,α,rfl,.refl,r,h2 _ _ _ r,.refl s⟩
  | _=>contradiction
theorem et {g:Expr->Option X} {e:Expr} {es:List Expr} {xs:X} (h:dQ g (e::es)=some xs):∃ a b,g e=some a/\dQ g es=some b/\xs=.cons a b:=by
  change o2 _ _ _=_ at h
  exact ez (M:=fun xs=>∃ a b,g e=some a/\dQ g es=some b/\xs=.cons a b) h fun a b h1 h2=>⟨a,b,h1,h2,rfl⟩
theorem gm {es:List Expr} {xs:X} {pos:Pos} (S:SE K A C f) (h:dQ (f N) es=some xs) (hN:env.scope.names=N) (hn:aG K.hb env) :
    ∀ {σ s α},aj env ρ s.heap α->R K.hb s.heap σ α->Runs K aN A (spliced (backTo pos (starEach es env))) (evs C xs ρ σ) s α:=by
  induction es generalizing xs with
  | nil =>
    obtain rfl:=Option.some.inj h
    intro σ s α E r
    simp only [cu,dj]
    exact fun _ _=>wpAny_items_nil ⟨[],σ,α,rfl,.refl,r,.nil,.refl s⟩
  | cons e es ih =>
    obtain ⟨a,b,ha,hb,rfl⟩:=et h
    · skip
      intro σ s α E r
      obtain ⟨hp,H⟩:=S N e a ha
      have H:=(H env ρ σ s α hN hn E r).1
      simp only [cu,dj]
      intro hc tk
      refine wpAny_items_cons ?_ (bD hp)
      have h1:ev C a ρ σ ≠ .stuck:=by intro q; rw [q] at hc; exact hc rfl
      refine wpAny_mono (b4 (H h1 tk)) (fun v s₁ hp=>?_) fun e s₁ hx=>?_
      · obtain ⟨⟨pv,σ₁,α₁,e1,x1,r1,v1,m1⟩,tl1⟩:=hp
        rw [e1] at hc ⊢
        have h2:evs C b ρ σ₁ ≠ .stuck:=by intro q; simp [ae.bind,q] at hc
        refine wpAny_mono (ih hb (E.ext x1 .nil) r1 h2 (Kt.Tk.up tk tl1)) (fun vs ay hp=>?_) fun e ay hx=>?_
        · obtain ⟨pvs,σ₂,aJ,e2,x2,r2,v2,m2⟩:=hp
          refine ⟨pv::pvs,σ₂,aJ,by simp [ae.bind,e2],x1.trans x2,r2,.cons (v1.ext x2) v2,m1.trans m2⟩
        · obtain ⟨i,σ₂,e2,nt,fx⟩:=hx
          exact ⟨i,σ₂,by simp [ae.bind,e2],nt,fx.lift x1 m1⟩
      · obtain ⟨⟨i,σ₁,e1,nt,fx⟩,_⟩:=hx
        exact ⟨i,σ₁,by rw [e1]; rfl,nt,fx⟩
theorem abL {es:List Expr} {xs:X} {pos:Pos} (S:SE K A C f) (h:dQ (f N) es=some xs) (hN:env.scope.names=N) (hn:aG K.hb env) :
    ∀ {σ s α},aj env ρ s.heap α->R K.hb s.heap σ α->Runs K VR A (boolOp pos .And (evalEach es env)) (evAnd C xs ρ σ) s α/\Runs K dx A (allTrue .And es env) (tstAnd C xs ρ σ) s α:=by
  induction es generalizing xs with
  | nil =>
    obtain rfl:=Option.some.inj h
    intro σ s α E r
    refine ⟨fun hc=>absurd (by simp only [oR,oQ,gY]) hc,?_⟩
    simp only [qW,dY]
    exact fun _ _=>wpAny_allTrue_And_nil ⟨true,σ,α,rfl,.refl,r,rfl,.refl s⟩
  | cons e es ih =>
    obtain ⟨a,b,ha,hb,rfl⟩:=et h
    · skip
      intro σ s α E r
      obtain ⟨hp,H⟩:=S N e a ha
      have H:=H env ρ σ s α hN hn E r
      constructor
      · cases es with
        | nil =>
          obtain rfl:=Option.some.inj hb
          simp only [oR,oQ,gY]
          exact H.1
        | cons e2 es2 =>
          have hbc:∃ b1 b2,b=.cons b1 b2:=by
            obtain ⟨b1,b2,_,_,rfl⟩:=et hb
            exact ⟨_,_,rfl⟩
          obtain ⟨b1,b2,rfl⟩:=hbc
          simp only [oR,oQ,gY]
          refine Runs.bind H.1 fun v σ₁ α₁ y s₁ e1 x1 r1 v1 m1=>Runs.standAt ?_
          refine Runs.bind (Runs.holding (iy r1 v1)) fun t σ₂ aJ y2 ay e2 x2 r2 v2 m2=>?_
          have:y2=t:=v2
          subst this
          cases y2 with
          | false=>simp only [Bool.false_eq_true,if_false]; exact Runs.pure r2 (v1.ext x2)
          | true=>simp only [if_true]; exact (ih hb ((E.ext x1 .nil).ext x2 .nil) r2).1
      · simp only [qW,dY]
        refine Runs.bind H.2 fun t σ₁ α₁ y s₁ e1 x1 r1 v1 m1=>?_
        have:y=t:=v1
        subst this
        cases y with
        | false=>simp only [Bool.false_eq_true,if_false]; exact Runs.pure r1 rfl
        | true=>simp only [if_true]; exact (ih hb (E.ext x1 .nil) r1).2
theorem aco {es:List Expr} {xs:X} {pos:Pos} (S:SE K A C f) (h:dQ (f N) es=some xs) (hN:env.scope.names=N) (hn:aG K.hb env) :
    ∀ {σ s α},aj env ρ s.heap α->R K.hb s.heap σ α->Runs K VR A (boolOp pos .Or (evalEach es env)) (evOr C xs ρ σ) s α/\Runs K dx A (allTrue .Or es env) (tstOr C xs ρ σ) s α:=by
  induction es generalizing xs with
  | nil =>
    obtain rfl:=Option.some.inj h
    intro σ s α E r
    refine ⟨fun hc=>absurd (by simp only [qG,qE,kH]) hc,?_⟩
    simp only [tG,eS]
    exact fun _ _=>wpAny_allTrue_Or_nil ⟨false,σ,α,rfl,.refl,r,rfl,.refl s⟩
  | cons e es ih =>
    obtain ⟨a,b,ha,hb,rfl⟩:=et h
    · skip
      intro σ s α E r
      obtain ⟨hp,H⟩:=S N e a ha
      have H:=H env ρ σ s α hN hn E r
      constructor
      · cases es with
        | nil =>
          obtain rfl:=Option.some.inj hb
          simp only [qG,qE,kH]
          exact H.1
        | cons e2 es2 =>
          have hbc:∃ b1 b2,b=.cons b1 b2:=by
            obtain ⟨b1,b2,_,_,rfl⟩:=et hb
            exact ⟨_,_,rfl⟩
          obtain ⟨b1,b2,rfl⟩:=hbc
          simp only [qG,qE,kH]
          refine Runs.bind H.1 fun v σ₁ α₁ y s₁ e1 x1 r1 v1 m1=>Runs.standAt ?_
          refine Runs.bind (Runs.holding (iy r1 v1)) fun t σ₂ aJ y2 ay e2 x2 r2 v2 m2=>?_
          have:y2=t:=v2
          subst this
          cases y2 with
          | true=>simp only [if_true]; exact Runs.pure r2 (v1.ext x2)
          | false=>simp only [Bool.false_eq_true,if_false]; exact (ih hb ((E.ext x1 .nil).ext x2 .nil) r2).1
      · simp only [tG,eS]
        refine Runs.bind H.2 fun t σ₁ α₁ y s₁ e1 x1 r1 v1 m1=>?_
        have:y=t:=v1
        subst this
        cases y with
        | true=>simp only [if_true]; exact Runs.pure r1 rfl
        | false=>simp only [Bool.false_eq_true,if_false]; exact (ih hb (E.ext x1 .nil) r1).2
end
end Mine
set_option maxRecDepth 100000
namespace Mine
open PySem PySem.W PyProof.Rows
end Mine
namespace Mine
open PySem PyProof.Rows
section
variable {K:Kt} {A:Around} {β γ pC yc:Type} {Rel:Heap->AL->β->γ->Prop} {Rel':Heap->AL->pC->yc->Prop} {s:Shared} {α:AL} {σ:ab}
theorem ac4 {a:β} {f:β->ab->ae pC}:(ae.ok a σ).bind f=f a σ:=rfl
theorem aT.lift {c:ae β} {s₁:Shared} {α₁:AL} {y:γ} {s':Shared} (x:aB [] α s.heap α₁ s₁.heap) (m:Sm s s₁) (p:aT K Rel c s₁ α₁ y s'):aT K Rel c s α y s':=by
  obtain ⟨b,σ',α',e,x',r,v,m'⟩:=p
  exact ⟨b,σ',α',e,x.trans x',r,v,m.trans m'⟩
theorem aS.bind {c:ae β} {f:β->ab->ae pC} {y:Value} {s':Shared} (p:aS K A c s α y s'):aS K A (c.bind f) s α y s':=by
  obtain ⟨i,σ',e,fx⟩:=p
  exact ⟨i,σ',by rw [e]; rfl,fx⟩
theorem Runs.useL {t:Sem γ} {c:ae β} {f:β->ab->ae pC} {W:γ->Shared->Prop} {dH:Shared} {ef:AL} (yL:aB [] ef dH.heap α s.heap) (zu:Sm dH s) (H:Runs K Rel A t c s α) (hc:c.bind f ≠ .stuck) (tk:K.Tk s)
    (N:∀ b σ' α' y s',c=.ok b σ'->f b σ' ≠ .stuck->aB [] α s.heap α' s'.heap->R K.hb s'.heap σ' α'->Rel s'.heap α' b y->Sm s s'->K.Tk s'->W y s'):wpAny (model K.prog K.w) A t W (aS K A (c.bind f) dH ef) s:=by
  have h1:c ≠ .stuck:=by rintro rfl; exact hc rfl
  refine wpAny_mono (b4 (H h1 tk)) (fun y s' hp=>?_) fun e s' hx=>(hx.1.lift yL zu).bind
  obtain ⟨⟨b,σ',α',rfl,x,r,v,m⟩,tl⟩:=hp
  exact N b σ' α' y s' rfl hc x r v m (Kt.Tk.up tk tl)
theorem Runs.endL {t:Sem γ} {c:ae β} {dH:Shared} {ef:AL} (yL:aB [] ef dH.heap α s.heap) (zu:Sm dH s) (H:Runs K Rel A t c s α) (hc:c ≠ .stuck) (tk:K.Tk s):wpAny (model K.prog K.w) A t (aT K Rel c dH ef) (aS K A c dH ef) s:=
  wpAny_mono (H hc tk) (fun _ _ h=>h.lift yL zu) fun _ _ h=>h.lift yL zu
theorem Runs.use {t:Sem γ} {c:ae β} {f:β->ab->ae pC} {W:γ->Shared->Prop} (H:Runs K Rel A t c s α) (hc:c.bind f ≠ .stuck) (tk:K.Tk s)
    (N:∀ b σ' α' y s',c=.ok b σ'->f b σ' ≠ .stuck->aB [] α s.heap α' s'.heap->R K.hb s'.heap σ' α'->Rel s'.heap α' b y->Sm s s'->K.Tk s'->W y s'):wpAny (model K.prog K.w) A t W (aS K A (c.bind f) s α) s:=H.useL .refl (.refl s) hc tk N
theorem Runs.boolV {t:Sem Value} {c:ae Bool} (H:Runs K dE A t c s α):Runs K VR A t (c.bind fun b σ=>.ok (.bool b) σ) s α:=by
  intro hc tk
  have h1:c ≠ .stuck:=by rintro rfl; exact hc rfl
  refine wpAny_mono (H h1 tk) (fun y s' hp=>?_) fun e s' hx=>hx.bind
  obtain ⟨b,σ',α',rfl,x,r,v,m⟩:=hp
  exact ⟨_,_,_,rfl,x,r,v.vr,m⟩
end
section
variable {K:Kt} {A:Around} {T:aV} {C:bc} {f:List (Str × NameKind)->Expr->Option X} {N:List (Str × NameKind)} {env:Env} {ρ:au} {σ:ab} {s:Shared} {α:AL}
theorem sS {g:Str} (h:fB N g=true):∃ i:Nat,N[i]?=some (g,NameKind.globalImplicit):=by
  unfold fB at h
  obtain ⟨i,_,hi⟩:=fM (by simpa using h)
  exact ⟨i,hi⟩
theorem dN {g:Str} {bv:Value} {p:Pos} {Q X:Value->Shared->Prop} (c:Ctx K A T C) (hg:fB N g=true) (hbin:g ∈ T.bins) (hv:iI g=some bv) (hN:env.scope.names=N) (E:vk env) (r:R K.hb s.heap σ α) (h:Q bv s):wpAny (model K.prog K.w) A (eval (.Name g p) env) Q X s:=by
  obtain ⟨hm,v,hv1,hmb⟩:=c.bin _ hbin
  obtain ⟨j,hj⟩:=sS hg
  obtain rfl:=Option.some.inj (hv.symm.trans hv1)
  exact acv c.hK r E (hN ▸ hj) hm hmb h
theorem xd {g:Str} {args:List Expr} {p pos:Pos} {i:Nat} {xs:X} (c:Ctx K A T C) (S:SE K A C f) (hi:T.fns[i]?=some g) (hg:fB N g=true) (hne:args ≠ []) (h:dQ (f N) args=some xs)
    (hN:env.scope.names=N) (hn:aG K.hb env) (E:aj env ρ s.heap α) (r:R K.hb s.heap σ α) :
    Runs K VR A (eval (.Call (.Name g p) args [] pos) env) ((evs C xs ρ σ).bind fun vs σ=>C.call i vs σ) s α:=by
  intro hc tk
  obtain ⟨a,o,fd,hm,ho,hd,hcall⟩:=c.fn i g hi
  obtain ⟨j,hj⟩:=sS hg
  refine wpAny_Call_Name_kw (nP c.hK r E.ok (by rw [hN]; exact hj) hm ?_)
  cases args with
  | nil=>exact absurd rfl hne
  | cons e es =>
    have H:=gm (pos:=pos) S h hN hn E r
    obtain ⟨a',b',ha',hb',_⟩:=et h
    rw [bD (S N e a' ha').1] at H ⊢
    refine Calls.callWith_function (o:=o) (fd:=fd) (Calls.evalArgs_plain (Runs.use H hc tk fun vs σ' α' us s' e1 hc' x' r' v' m' tk'=>?_))
    refine ⟨⟨r'.base _ _ ho,hd⟩,?_⟩
    rw [e1]
    exact (hcall vs us s' σ' α' r' v').endL x' m' hc' tk'
theorem ac7 {fz:Bool} {g:Str} {b:B1} (h:su fz g=some b):iI g=some (mK b):=
  (show ∀ p ∈ zT fz,iI p.1=some (mK p.2) from (by repeat (first | refine List.forall_mem_cons.mpr ⟨rfl,?_⟩ | exact fun _ h=>nomatch h))) _ (fS h)
theorem ac6 {g:Str} {t:Ty} (h:vy g=some t):iI g=yO t:=
  (show ∀ p ∈ adh,iI p.1=yO p.2 from (by repeat (first | refine List.forall_mem_cons.mpr ⟨rfl,?_⟩ | exact fun _ h=>nomatch h))) _ (fS h)
noncomputable def abd (b:B1):Bool:=
  match mK b with
  | .none=>true
  | _=>false
theorem oV {fz:Bool} {g:Str} {b:B1} (h:su fz g=some b):mK b ≠ .none:=by
  have h:=(show ∀ p ∈ zT fz,abd p.2=false from (by repeat (first | refine List.forall_mem_cons.mpr ⟨rfl,?_⟩ | exact fun _ h=>nomatch h))) _ (fS h)
  intro e
  unfold abd at h
  rw [e] at h
  contradiction
theorem abH {hd:Bool} {b:B1} {a:PV} {σ:ab} (h:kK hd b a σ ≠ .stuck):(vg b=true->hd=false)/\kK hd b a σ=cC b a σ:=by
  unfold kK at h ⊢
  cases hd with
  | false=>exact ⟨fun _=>rfl,rfl⟩
  | true =>
    cases hb:vg b with
    | false=>exact ⟨fun q=>(by contradiction),rfl⟩
    | true=>rw [hb] at h; exact absurd rfl h
theorem ac8 {g:Str} {a:Expr} {p pos:Pos} {fz:Bool} {b:B1} {x:X} (c:Ctx K A T C) (S:SE K A C f) (hb:su fz g=some b) (hg:fB N g=true) (hbin:g ∈ T.bins) (h:f N a=some x)
    (hN:env.scope.names=N) (hn:aG K.hb env) (E:aj env ρ s.heap α) (r:R K.hb s.heap σ α) :
    Runs K VR A (eval (.Call (.Name g p) [a] [] pos) env) ((ev C x ρ σ).bind fun v σ=>kK C.hd b v σ) s α:=by
  intro hc tk
  obtain ⟨hp,H⟩:=S N a x h
  have H:=(H env ρ σ s α hN hn E r).1
  refine wpAny_Call_Name_kw (dN c hg hbin (ac7 hb) hN E.ok r ?_)
  rw [bD hp]
  have fin:wpAny (model K.prog K.w) A (eval a env) (fun y s'=>wpAny (model K.prog K.w) A (call (mK b) [y]) (aT K VR ((ev C x ρ σ).bind fun v σ=>kK C.hd b v σ) s α) (aS K A ((ev C x ρ σ).bind fun v σ=>kK C.hd b v σ) s α) s') (aS K A ((ev C x ρ σ).bind fun v σ=>kK C.hd b v σ) s α) s:=by
    refine Runs.use H hc tk fun v σ' α' y s' e1 hc' x' r' v' m' tk'=>?_
    rw [e1]
    obtain ⟨z1,z2⟩:=abH hc'
    show wpAny _ _ _ (aT K VR (kK C.hd b v σ') s α) (aS K A (kK C.hd b v σ') s α) _
    rw [z2] at hc' ⊢
    exact (abG (oV hb) c.hA (fun q=>c.hd (z1 q)) r' v').endL x' m' hc' tk'
  cases b with
  | lenset=>exact absurd rfl (oV hb)
  | dict=>exact absurd rfl (oV hb)
  | len=>exact PySem.callWith_builtin1 fin
  | sum=>exact PySem.callWith_builtin1 fin
  | min=>exact PySem.callWith_builtin1 fin
  | max=>exact PySem.callWith_builtin1 fin
  | all=>exact PySem.callWith_builtin1 fin
  | list _=>exact PySem.callWith_type1 fin
  | tuple=>exact PySem.callWith_type1 fin
  | int=>exact PySem.callWith_type1 fin
  | str=>exact PySem.callWith_type1 fin
theorem uK {t:Str} {ty:Ty} {a:Expr} {p p2 pos:Pos} {x:X} (c:Ctx K A T C) (S:SE K A C f) (hb:vy t=some ty) (hg:fB N "isinstance" = true) (hbin:("isinstance" : Str) ∈ T.bins)
    (hgt:fB N t=true) (hbt:t ∈ T.bins) (h:f N a=some x)
    (hN:env.scope.names=N) (hn:aG K.hb env) (E:aj env ρ s.heap α) (r:R K.hb s.heap σ α) :
    Runs K VR A (eval (.Call (.Name "isinstance" p) [a,.Name t p2] [] pos) env) ((ev C x ρ σ).bind fun v σ=>(ga v ty σ).bind fun b σ=>.ok (.bool b) σ) s α:=by
  intro hc tk
  obtain ⟨_,v2,hv2,_⟩:=c.bin _ hbt
  have hty:=(ac6 hb).symm.trans hv2
  obtain ⟨hp,H⟩:=S N a x h
  have H:=(H env ρ σ s α hN hn E r).1
  refine wpAny_Call_Name_kw (dN c hg hbin rfl hN E.ok r ?_)
  rw [bD hp]
  refine Calls.callWith_builtin rfl (Calls.evalArgs_plain (Calls.spliced_cons ?_))
  refine Runs.use H hc tk fun v σ' α' y s' e1 hc' x' r' v' m' tk'=>?_
  rw [e1]
  exact Calls.spliced_cons (dN c hgt hbt hv2 hN E.ok r' (Calls.spliced_nil ((wl hty r' v').boolV.endL x' m' hc' tk')))
theorem zS {o:Op} {l r':Expr} {op:Operator} {pos:Pos} {a b:X} (c:Ctx K A T C) (S:SE K A C f) (ho:aeY op=some o) (h1:f N l=some a) (h2:f N r'=some b)
    (hN:env.scope.names=N) (hn:aG K.hb env) (E:aj env ρ s.heap α) (r:R K.hb s.heap σ α) :
    Runs K VR A (eval (.BinOp l op r' pos) env) (ev C (.bin o a b) ρ σ) s α:=by
  have hop:op=aff o:=by cases op <;> cases ho <;> rfl
  subst hop
  rw [arm_eval_BinOp]
  refine Runs.bind ((S N l a h1).2 env ρ σ s α hN hn E r).1 fun va σ₁ α₁ y s₁ e1 x1 r1 v1 m1=>?_
  refine Runs.bind (Runs.holding ((S N r' b h2).2 env ρ σ₁ s₁ α₁ hN hn (E.ext x1 .nil) r1).1) fun vb σ₂ aJ y2 ay e2 x2 r2 v2 m2=>?_
  exact Runs.standAt (Runs.operate (x8 c.hA r2 (v1.ext x2) v2))
theorem zO {o:Cm} {l r':Expr} {op:CmpOp} {pos:Pos} {a b:X} (c:Ctx K A T C) (S:SE K A C f) (ho:sF op=some o) (h1:f N l=some a) (h2:f N r'=some b)
    (hN:env.scope.names=N) (hn:aG K.hb env) (E:aj env ρ s.heap α) (r:R K.hb s.heap σ α) :
    Runs K VR A (eval (.Compare l [op] [r'] pos) env) (ev C (.cmp a o b) ρ σ) s α/\Runs K dx A (isTrue (.Compare l [op] [r'] pos) env (eval (.Compare l [op] [r'] pos) env)) (tst C (.cmp a o b) ρ σ) s α:=by
  have hop:op=ft o:=by cases op <;> cases ho <;> rfl
  subst hop
  obtain ⟨hp2,H2⟩:=S N r' b h2
  have hmk:markedBehindIn (ft o) r' (eval r' env)=eval r' env:=by unfold markedBehindIn; rw [pH hp2]
  constructor
  · rw [arm_eval_Compare]
    refine Runs.bind ((S N l a h1).2 env ρ σ s α hN hn E r).1 fun va σ₁ α₁ y s₁ e1 x1 r1 v1 m1=>?_
    show Runs K VR A (do let rv <- holding [y] (markedBehindIn (ft o) r' (eval r' env)); standAt pos; operate [y,rv] (compareOp (ft o) y rv)) _ _ _
    rw [hmk]
    refine Runs.bind (Runs.holding (H2 env ρ σ₁ s₁ α₁ hN hn (E.ext x1 .nil) r1).1) fun vb σ₂ aJ y2 ay e2 x2 r2 v2 m2=>Runs.standAt (Runs.operate ?_)
    exact (d5 c.hK c.hA r2 (v1.ext x2) v2).boolV
  · rw [arm_isTrue_Compare]
    refine Runs.bind ((S N l a h1).2 env ρ σ s α hN hn E r).1 fun va σ₁ α₁ y s₁ e1 x1 r1 v1 m1=>?_
    show Runs K dx A (do let rv <- holding [y] (markedBehindIn (ft o) r' (eval r' env)); standAt pos; let c <- operate [y,rv] (compareOp (ft o) y rv); holding [c] (truthy c)) _ _ _
    rw [hmk]
    refine Runs.bind (Runs.holding (H2 env ρ σ₁ s₁ α₁ hN hn (E.ext x1 .nil) r1).1) fun vb σ₂ aJ y2 ay e2 x2 r2 v2 m2=>Runs.standAt ?_
    intro hc tk
    refine wpAny_bind (wpAny_operating (wpAny_mono (d5 c.hK c.hA r2 (v1.ext x2) v2 hc tk) (fun y s'' hp=>?_) fun e s'' hx=>hx))
    obtain ⟨bb,d7,hW,e3,x3,r3,v3,m3⟩:=hp
    have:y=.bool bb:=v3
    subst this
    exact wpAny_holding (wpAny_truthy_bool ⟨bb,d7,hW,e3,x3,r3,rfl,m3⟩)
theorem Runs.release {vs ks:List Value} {β γ:Type} {Rel:Heap->AL->β->γ->Prop} {t:Sem γ} {c:ae β}
    (H:Runs K Rel A t c s α):Runs K Rel A (do PySem.release vs ks; t) c s α:=
  fun h tk=>wpAny_bind (wpAny_release' (H h tk))
end
end Mine
namespace Mine
open PySem PyProof.Rows
section
variable {K:Kt} {A:Around} {T:aV} {C:bc} {f:List (Str × NameKind)->Expr->Option X} {N:List (Str × NameKind)} {env:Env} {ρ:au} {σ:ab} {s:Shared} {α:AL}
theorem xZ {o o2:Cm} {l r' r2':Expr} {op op2:CmpOp} {pos:Pos} {a b b2:X} (c:Ctx K A T C) (S:SE K A C f) (ho:sF op=some o) (ho2:sF op2=some o2) (h1:f N l=some a) (h2:f N r'=some b) (h3:f N r2'=some b2)
    (hN:env.scope.names=N) (hn:aG K.hb env) (E:aj env ρ s.heap α) (r:R K.hb s.heap σ α) :
    Runs K VR A (eval (.Compare l [op,op2] [r',r2'] pos) env) (ev C (.cmp2 a o b o2 b2) ρ σ) s α/\Runs K dx A (isTrue (.Compare l [op,op2] [r',r2'] pos) env (eval (.Compare l [op,op2] [r',r2'] pos) env)) (tst C (.cmp2 a o b o2 b2) ρ σ) s α:=by
  have hop:op=ft o:=by cases op <;> cases ho <;> rfl
  subst hop
  have hop2:op2=ft o2:=by cases op2 <;> cases ho2 <;> rfl
  subst hop2
  obtain ⟨hp2,H2⟩:=S N r' b h2
  obtain ⟨hp3,H3⟩:=S N r2' b2 h3
  have hmk:markedBehindIn (ft o2) r2' (eval r2' env)=eval r2' env:=by unfold markedBehindIn; rw [pH hp3]
  constructor
  · rw [arm_eval_Compare]
    refine Runs.bind ((S N l a h1).2 env ρ σ s α hN hn E r).1 fun va σ₁ α₁ y s₁ e1 x1 r1 v1 m1=>?_
    show Runs K VR A (do let rv <- holding [y] (eval r' env); standAt pos; let c <- holding [y,rv] (compareOp (ft o) y rv); release [y,rv] [c]; if <- holding [c,rv] (truthy c) then (do let rv' <- holding [rv] (markedBehindIn (ft o2) r2' (eval r2' env)); standAt pos; operate [rv,rv'] (compareOp (ft o2) rv rv')) else pure c) _ _ _
    rw [hmk]
    refine Runs.bind (Runs.holding (H2 env ρ σ₁ s₁ α₁ hN hn (E.ext x1 .nil) r1).1) fun vb σ₂ aJ y2 ay e2 x2 r2 v2 m2=>Runs.standAt ?_
    refine Runs.bind (Runs.holding (d5 c.hK c.hA r2 (v1.ext x2) v2)) fun bb σ₃ mj y3 bS e3 x3 r3 v3 m3=>Runs.release ?_
    have:y3=.bool bb:=v3
    subst this
    intro hc tk
    refine wpAny_bind (wpAny_holding (wpAny_truthy_bool ?_))
    cases bb with
    | false=>exact wpAny_pure ⟨_,_,_,rfl,.refl,r3,.bool _,.refl _⟩
    | true =>
      refine (Runs.bind (Runs.holding (H3 env ρ σ₃ bS mj hN hn (((E.ext x1 .nil).ext x2 .nil).ext x3 .nil) r3).1) fun vc uV mi y4 kR e4 x4 r4 v4 m4=>Runs.standAt (Runs.operate ?_)) hc tk
      exact (d5 c.hK c.hA r4 ((v2.ext x3).ext x4) v4).boolV
  · rw [arm_isTrue_Compare]
    refine Runs.bind ((S N l a h1).2 env ρ σ s α hN hn E r).1 fun va σ₁ α₁ y s₁ e1 x1 r1 v1 m1=>?_
    show Runs K dx A (do let rv <- holding [y] (eval r' env); standAt pos; let c <- holding [y,rv] (compareOp (ft o) y rv); release [y,rv] [c]; if <- holding [c,rv] (truthy c) then (do let rv' <- holding [rv] (markedBehindIn (ft o2) r2' (eval r2' env)); standAt pos; let c <- operate [rv,rv'] (compareOp (ft o2) rv rv'); holding [c] (truthy c)) else pure false) _ _ _
    rw [hmk]
    refine Runs.bind (Runs.holding (H2 env ρ σ₁ s₁ α₁ hN hn (E.ext x1 .nil) r1).1) fun vb σ₂ aJ y2 ay e2 x2 r2 v2 m2=>Runs.standAt ?_
    refine Runs.bind (Runs.holding (d5 c.hK c.hA r2 (v1.ext x2) v2)) fun bb σ₃ mj y3 bS e3 x3 r3 v3 m3=>Runs.release ?_
    have:y3=.bool bb:=v3
    subst this
    intro hc tk
    refine wpAny_bind (wpAny_holding (wpAny_truthy_bool ?_))
    cases bb with
    | false=>exact wpAny_pure ⟨_,_,_,rfl,.refl,r3,rfl,.refl _⟩
    | true =>
      refine (Runs.bind (Runs.holding (H3 env ρ σ₃ bS mj hN hn (((E.ext x1 .nil).ext x2 .nil).ext x3 .nil) r3).1) fun vc uV mi y4 kR e4 x4 r4 v4 m4=>Runs.standAt ?_) hc tk
      intro hc tk
      refine wpAny_bind (wpAny_operating (wpAny_mono (d5 c.hK c.hA r4 ((v2.ext x3).ext x4) v4 hc tk) (fun y s'' hp=>?_) fun e s'' hx=>hx))
      obtain ⟨bb,d7,hW,e3,x3,r3,v3,m3⟩:=hp
      have:y=.bool bb:=v3
      subst this
      exact wpAny_holding (wpAny_truthy_bool ⟨bb,d7,hW,e3,x3,r3,rfl,m3⟩)
theorem zn {e:Expr} {pos:Pos} {x:X} (S:SE K A C f) (h1:f N e=some x)
    (hN:env.scope.names=N) (hn:aG K.hb env) (E:aj env ρ s.heap α) (r:R K.hb s.heap σ α) :
    Runs K VR A (eval (.UnaryOp .Not e pos) env) (ev C (.not x) ρ σ) s α/\Runs K dx A (isTrue (.UnaryOp .Not e pos) env (eval (.UnaryOp .Not e pos) env)) (tst C (.not x) ρ σ) s α:=by
  have H:=(S N e x h1).2 env ρ σ s α hN hn E r
  constructor
  · rw [arm_eval_UnaryOp]
    refine Runs.bind H.1 fun v σ₁ α₁ y s₁ e1 x1 r1 v1 m1=>Runs.standAt (Runs.holding ?_)
    intro hc tk
    have h3:cP v σ₁ ≠ .stuck:=by intro q; rw [q] at hc; exact hc rfl
    refine not_value (wpAny_mono (iy r1 v1 h3 tk) (fun b s'' hp=>?_) fun e s'' hx=>hx.bind)
    obtain ⟨bb,d7,hW,e3,x3,r3,v3,m3⟩:=hp
    have:b=bb:=v3
    subst this
    exact ⟨.bool (!b),d7,hW,by simp [ae.bind,e3],x3,r3,.bool _,m3⟩
  · rw [arm_isTrue_UnaryOp]
    refine Runs.bind H.2 fun b σ₁ α₁ y s₁ e1 x1 r1 v1 m1=>?_
    have:y=b:=v1
    subst this
    exact Runs.pure r1 rfl
theorem zp {e:Expr} {pos:Pos} {x:X} (S:SE K A C f) (h1:f N e=some x)
    (hN:env.scope.names=N) (hn:aG K.hb env) (E:aj env ρ s.heap α) (r:R K.hb s.heap σ α) :
    Runs K VR A (eval (.UnaryOp .USub e pos) env) (ev C (.neg x) ρ σ) s α:=by
  rw [arm_eval_UnaryOp]
  exact Runs.bind ((S N e x h1).2 env ρ σ s α hN hn E r).1 fun v σ₁ α₁ y s₁ e1 x1 r1 v1 m1=>Runs.standAt (Runs.holding (aaN r1 v1))
theorem xQ {es:List Expr} {pos:Pos} {xs:X} {fz:Bool} (S:SE K A C f) (h:dQ (f N) es=some xs)
    (hN:env.scope.names=N) (hn:aG K.hb env) (E:aj env ρ s.heap α) (r:R K.hb s.heap σ α) :
    Runs K VR A (eval (.List es pos) env) (ev C (.lst fz xs) ρ σ) s α:=by
  rw [arm_eval_List]
  exact Runs.standAt (Runs.bind (gm S h hN hn E r) fun vs σ₁ α₁ us s₁ e1 x1 r1 v1 m1=>uG r1 v1)
theorem yP {es:List Expr} {k:Nat} {pos:Pos} {xs:X} (S:SE K A C f) (h:dQ (f N) es=some xs)
    (hN:env.scope.names=N) (hn:aG K.hb env) (E:aj env ρ s.heap α) (r:R K.hb s.heap σ α) :
    Runs K VR A (eval (.Tuple es k pos) env) (ev C (.tup xs) ρ σ) s α:=by
  rw [arm_eval_Tuple]
  exact Runs.standAt (Runs.bind (gm S h hN hn E r) fun vs σ₁ α₁ us s₁ e1 x1 r1 v1 m1=>sM r1 v1)
theorem y0 {o i:Expr} {pos:Pos} {x y:X} (c:Ctx K A T C) (S:SE K A C f) (hns:∀ l u st p,i ≠ .Slice l u st p) (h1:f N o=some x) (h2:f N i=some y)
    (hN:env.scope.names=N) (hn:aG K.hb env) (E:aj env ρ s.heap α) (r:R K.hb s.heap σ α) :
    Runs K VR A (eval (.Subscript o i pos) env) (ev C (.sub x y) ρ σ) s α:=by
  rw [arm_eval_Subscript]
  refine Runs.bind ((S N o x h1).2 env ρ σ s α hN hn E r).1 fun va σ₁ α₁ y1 s₁ e1 x1 r1 v1 m1=>?_
  refine Runs.bind (Runs.holding ((S N i y h2).2 env ρ σ₁ s₁ α₁ hN hn (E.ext x1 .nil) r1).1) fun vb σ₂ aJ y2 ay e2 x2 r2 v2 m2=>Runs.standAt ?_
  exact yZ c.hA (fun l u p=>hns l u none p) r2 (v1.ext x2) v2
theorem mJ {o:Expr} {m:Str} {whole:Sem Value} (h:ia o=true):attributeBase o m env whole=whole:=by
  cases o with
  | Call f a k p =>
    cases a with
    | nil=>contradiction
    | cons x r=>cases f <;> rfl
  | _=>rfl
theorem zV {r:Nat} {a:Addr} {v:PV} {u:Value} {xs:List PV} (xn:R K.hb s.heap σ α) (ea:α.ix[r]?=some a) (hs:σ[r]?=some (.lst xs)) (hl:xs.length < ao) (vu:VR s.heap α v u) {X:Value->Shared->Prop} :
    wpAny (model K.prog K.w) A (call (.builtin "list.append") [.ref a,u]) (aT K VR (.ok .none (σ.set r (.lst (xs++[v])))) s α) X s:=by
  obtain ⟨am,n,e1,w⟩:=xn.obj r _ a hs ea
  refine wpAny_list_append_plain ⟨n,e1⟩ (fun h' hl' sb=>?_) (by simp; rw [<- w.1]; exact b6 (Nat.le_of_lt hl))
  obtain ⟨n',e'⟩:=hl'
  obtain ⟨r',x'⟩:=xn.set (m:=.lst (xs++[v])) ea (fun b o hb e=>(sb.2 b hb).trans e) e' fun x'=>⟨am++[u],n',by rw [e']; simp,(w.snoc vu).ext x'⟩
  exact ⟨.none,_,α,rfl,x',r',.none,⟨rfl,rfl⟩⟩
end
end Mine
namespace Mine
open PySem PyProof.Rows
noncomputable def meT:Me->String
  | .get => "dict"
  | _ => "list"
noncomputable def zx:Me->String
  | .append => "list.append" | .extend => "list.extend"
  | .get => "dict.get"
noncomputable def meN:Me->Str
  | .append => "append" | .extend => "extend"
  | .get => "get"
theorem aaZ {x:Str} {m:Me} (h:wj x=some m):x=meN m:=
  (show ∀ p ∈ adr,p.1=meN p.2 from (by repeat (first | refine List.forall_mem_cons.mpr ⟨rfl,?_⟩ | exact fun _ h=>nomatch h))) _ (fS h)
section
variable {K:Kt} {A:Around} {s:Shared} {α:AL} {σ:ab}
theorem aeU {h:Heap} {a:Addr} {am:Array Value} {n:Nat} {g:Array Value->Array Value} (e:h.get? a=some { cls:=.type "list",data:=.seq am n }) :
    ∃ n',(h.update a (Obj.mapSeq g)).get? a=some { cls:=.type "list",data:=.seq (g am) n' }:=by
  exact ⟨_,Heap.get?_update_self (Obj.mapSeq g) e rfl⟩
theorem aeT {h:Heap} {a b:Addr} {g:Obj->Obj} (hb:b ≠ a):(h.update a g).get? b=h.get? b:=Heap.get?_update_ne h b a g hb
theorem sf {r:Nat} {a b:Addr} {xs ys:List PV} {vs:List Value} {m:Nat} {T:String} (hT:T = "tuple" \/ T = "list") (xn:R K.hb s.heap σ α) (ea:α.ix[r]?=some a) (hs:σ[r]?=some (.lst xs)) (hl:xs.length + ys.length <= ao)
    (e2:s.heap.get? b=some { cls:=.type T,data:=.seq vs.toArray m }) (w2:aN s.heap α ys vs) {X:Value->Shared->Prop} :
    wpAny (model K.prog K.w) A (call (.builtin "list.extend") [.ref a,.ref b]) (aT K VR (.ok .none (σ.set r (.lst (xs++ys)))) s α) X s:=by
  obtain ⟨am,n,e1,w⟩:=xn.obj r _ a hs ea
  have hlen:=w.1
  have hlen2:=w2.1
  have hln:=b6 hl
  have hll:=pj hl
  have door:¬(!am.toArray.isEmpty && Builtin.List.listTooLong (am.toArray.size + vs.toArray.size))=true:=by
    rw [List.size_toArray,List.size_toArray,<- hlen,<- hlen2]
    have:Builtin.List.listTooLong (xs.length + ys.length)=false:=by unfold Builtin.List.listTooLong; simpa using hln
    rw [this]; simp
  have fin:aT K VR (.ok .none (σ.set r (.lst (xs++ys)))) s α .none { s with heap:=s.heap.update a (Obj.mapSeq fun x=>x++vs.toArray) }:=by
    obtain ⟨n',e'⟩:=aeU (g:=fun x=>x++vs.toArray) e1
    have e3:am.toArray++vs.toArray=(am++vs).toArray:=by simp
    simp only [e3] at e'
    obtain ⟨r',x'⟩:=xn.set (m:=.lst (xs++ys)) ea (fun b o hb e=>(aeT hb).trans e) e' fun x'=>⟨_,n',e',(w.append w2).ext x'⟩
    exact ⟨.none,_,α,rfl,x',r',.none,⟨rfl,rfl⟩⟩
  rcases hT with rfl | rfl
  · exact call_meets F.slot_list_extend ⟨_,e1,rfl⟩ F.entry_list_extend (F.args_list_extend_2 _ _) (AutoSeq1.list_extend_list_tuple_0 a am.toArray n b vs.toArray m door (by rw [List.size_toArray]; omega) (by rw [List.size_toArray,List.size_toArray]; omega)) ⟨e1,e2,fin⟩
  · exact call_meets F.slot_list_extend ⟨_,e1,rfl⟩ F.entry_list_extend (F.args_list_extend_2 _ _) (AutoSeq1.list_extend_list_list_0 a am.toArray n b vs.toArray m door (by rw [List.size_toArray]; omega) (by rw [List.size_toArray,List.size_toArray]; omega)) ⟨e1,e2,fin⟩
theorem aaW {m:Me} {o v:PV} {x u:Value} (hK:K.Ok) (hA:de A) (r:R K.hb s.heap σ α) (va:VR s.heap α o x) (vv:VR s.heap α v u):Runs K VR A (call (.builtin (zx m)) [x,u]) (lr m o [v] σ) s α:=by
  intro hc tk
  cases m with
  | append =>
    change eZ o v σ ≠ .stuck at hc
    change wpAny _ _ _ (aT K VR (eZ o v σ) s α) (aS K A (eZ o v σ) s α) s
    unfold eZ at hc ⊢
    split at hc
    · obtain ⟨a,rfl,ea⟩:=va.refE
      split at hc
      · rename_i hs
        split at hc
        · rename_i hl; rw [if_pos hl]; exact zV r ea hs hl vv
        · exact absurd rfl hc
      · exact absurd rfl hc
    · exact absurd rfl hc
  | extend =>
    change eY o v σ ≠ .stuck at hc
    change wpAny _ _ _ (aT K VR (eY o v σ) s α) (aS K A (eY o v σ) s α) s
    unfold eY at hc ⊢
    split at hc
    · obtain ⟨a,rfl,ea⟩:=va.refE
      split at hc
      · rename_i hs
        split at hc
        · obtain ⟨b,vs,n,rfl,e1,_,w⟩:=vv.tupE
          split at hc
          · rename_i hl; rw [if_pos hl]; exact sf (.inl rfl) r ea hs hl e1 w
          · exact absurd rfl hc
        · obtain ⟨b,vs,n,rfl,e1,_,w⟩:=vv.flE
          split at hc
          · rename_i hl; rw [if_pos hl]; exact sf (.inr rfl) r ea hs hl e1 w
          · exact absurd rfl hc
        · exact absurd rfl hc
      · exact absurd rfl hc
    · exact absurd rfl hc
  | get =>
    change qk o v σ ≠ .stuck at hc
    change wpAny _ _ _ (aT K VR (qk o v σ) s α) (aS K A (qk o v σ) s α) s
    unfold qk at hc ⊢
    split at hc
    · obtain ⟨a,rfl,ea⟩:=va.refE
      split at hc
      · rename_i hs
        split at hc
        · obtain ⟨_,rfl,_⟩:=vv.strE; exact afB hK r hs ea
        · exact absurd rfl hc
      · rename_i hs
        split at hc
        · rename_i k hk; exact afC hK hA r hs ea hk vv
        · exact absurd rfl hc
      · exact absurd rfl hc
    · exact absurd rfl hc
theorem acy (m:Me):PlainAttrs (meT m)/\Slot (meT m) (meN m) (zx m)/\typeOf (.builtin (zx m))=pure (.type "method_descriptor"):=by
  cases m
  · exact ⟨F.plainAttrs_list,F.slot_list_append,F.type_list_append⟩
  · exact ⟨F.plainAttrs_list,F.slot_list_extend,F.type_list_extend⟩
  · exact ⟨F.plainAttrs_dict,F.slot_dict_get,F.type_dict_get⟩
theorem aei {m:Me} {o:PV} {x:Value} (r:R K.hb s.heap σ α) (va:VR s.heap α o x) (h:qh m o σ=true):s.TypeIs x (meT m)/\∀ a,x=.ref a->∃ ob,s.heap.get? a=some ob/\ob.dict=none:=by
  have lst:∀ xs,a7 σ o=some xs->s.TypeIs x "list" /\ ∀ a,x=.ref a->∃ ob,s.heap.get? a=some ob/\ob.dict=none:=fun xs e=>by
    obtain ⟨l,vs,n,rfl,e1,_⟩:=eK r va e
    exact ⟨⟨_,e1,rfl⟩,fun a ha=>by cases ha; exact ⟨_,e1,rfl⟩⟩
  have mutb:jg o σ=true->∃ xs,a7 σ o=some xs:=fun h=>by
    unfold jg at h
    split at h
    · split at h
      · rename_i xs hs; exact ⟨xs,by simp [a7,hs]⟩
      · contradiction
    · contradiction
  have txt:age o=true->s.TypeIs x "str" /\ ∀ a,x=.ref a->∃ ob,s.heap.get? a=some ob/\ob.dict=none:=fun h=>by
    cases o with
    | str z=>obtain ⟨_,rfl,_⟩:=va.strE; exact ⟨typeIs_str _ _ _,fun a ha=>by cases ha⟩
    | _=>contradiction
  cases m with
  | append=>obtain ⟨xs,e⟩:=mutb h; exact lst xs e
  | extend=>obtain ⟨xs,e⟩:=mutb h; exact lst xs e
  | get =>
    change rK o σ=true at h
    unfold rK at h
    split at h
    · obtain ⟨a,rfl,ea⟩:=va.refE
      split at h
      · rename_i hs
        obtain ⟨kvs,h1,_⟩:=pt r hs ea
        exact ⟨h1.typeIs,h1.mapOf.noDict⟩
      · rename_i hs
        obtain ⟨xs,h1,_⟩:=pw r hs ea
        exact ⟨h1.typeIs,dictOfH_noDict h1⟩
      · contradiction
    · contradiction
end
section
variable {K:Kt} {A:Around} {T:aV} {C:bc} {f:List (Str × NameKind)->Expr->Option X} {N:List (Str × NameKind)} {env:Env} {ρ:au} {σ:ab} {s:Shared} {α:AL}
theorem aa0 {m:Me} {mn:Str} {o a:Expr} {apos pos:Pos} {x y:X} (c:Ctx K A T C) (S:SE K A C f) (hm:wj mn=some m) (hline:(apos.endLine == pos.line)=true) (hn0:ia o=true) (h1:f N o=some x) (h2:f N a=some y)
    (hN:env.scope.names=N) (hn:aG K.hb env) (E:aj env ρ s.heap α) (r:R K.hb s.heap σ α) :
    Runs K VR A (eval (.Call (.Attribute o mn apos) [a] [] pos) env) (ev C (.me m x (.cons y .nil)) ρ σ) s α:=by
  rw [aaZ hm,adH]
  intro hc tk
  obtain ⟨hp,H2⟩:=S N a y h2
  refine Call_method1 (mJ hn0) (bD hp) hline ?_
  refine Runs.use ((S N o x h1).2 env ρ σ s α hN hn E r).1 hc tk fun va σ₁ α₁ y1 s₁ e1 hc1 x1 r1 v1 m1 tk1=>?_
  rw [e1]
  split at hc1
  · rename_i hok
    obtain ⟨q1,q2,q3⟩:=acy m
    obtain ⟨q4,q5⟩:=aei r1 v1 hok
    refine ⟨meT m,zx m,q1,q2,q3,q4,q5,?_⟩
    refine Calls.callWith_builtin (by cases m <;> rfl) (Calls.evalArgs_plain (Calls.spliced_cons ?_))
    have ee:∀ {σ:ab},((evs C (.cons y .nil) ρ σ).bind fun vs σ=>lr m va vs σ)=(ev C y ρ σ).bind fun v σ=>lr m va [v] σ:=fun {σ}=>by
      show ((ev C y ρ σ).bind fun v σ=>.ok [v] σ).bind _=_
      cases ev C y ρ σ <;> rfl
    rw [ac4,if_pos hok,ee]
    rw [ee] at hc1
    refine Runs.useL x1 m1 (f:=fun v σ=>lr m va [v] σ) (H2 env ρ σ₁ s₁ α₁ hN hn (E.ext x1 .nil) r1).1 hc1 tk1 fun pv σ₂ aJ u ay e2 hc2 x2 r2 v2 m2 tk2=>Calls.spliced_nil ?_
    show wpAny _ _ _ (aT K VR ((ev C y ρ σ₁).bind fun v σ=>lr m va [v] σ) _ _) (aS K A ((ev C y ρ σ₁).bind fun v σ=>lr m va [v] σ) _ _) _
    rw [e2]
    exact (aaW c.hK c.hA r2 (v1.ext x2) v2).endL (x1.trans x2) (m1.trans m2) hc2 tk2
  · exact absurd rfl hc1
end
end Mine
namespace Mine
open PySem PyProof.Rows
theorem aN.drop {h:Heap} {α:AL}:∀ {xs:List PV} {vs:List Value} (k:Nat),aN h α xs vs->aN h α (xs.drop k) (vs.drop k)
  | _,_,0,v=>v
  | [],vs,k + 1,v=>by
    have:vs=[]:=List.eq_nil_of_length_eq_zero v.1.symm
    subst this; exact .nil
  | x::xs,vs,k + 1,v=>by
    obtain ⟨u,us,rfl,v1,v2⟩:=v.inv_cons
    exact v2.drop k
theorem aN.take {h:Heap} {α:AL}:∀ {xs:List PV} {vs:List Value} (k:Nat),aN h α xs vs->aN h α (xs.take k) (vs.take k)
  | _,_,0,v=>.nil
  | [],vs,k + 1,v=>by
    have:vs=[]:=List.eq_nil_of_length_eq_zero v.1.symm
    subst this; exact .nil
  | x::xs,vs,k + 1,v=>by
    obtain ⟨u,us,rfl,v1,v2⟩:=v.inv_cons
    exact .cons v1 (v2.take k)
section
variable {K:Kt} {A:Around} {s:Shared} {α:AL} {σ:ab}
theorem yo {p:PV} {v:Value} {k:Option Int} (h:gD p=some k) (r:VR s.heap α p v):IsPart v k:=by
  cases p with
  | none=>obtain rfl:=Option.some.inj h; obtain rfl:=r.noneE; exact .none
  | int i=>obtain rfl:=Option.some.inj h; obtain ⟨_,rfl⟩:=r.intE; exact .int _ _
  | _=>contradiction
theorem aN.slice {h:Heap} {xs:List PV} {vs:List Value} (v:aN h α xs vs) (lo hi:Option Int):aN h α (bI xs lo hi) (bI vs lo hi):=by
  unfold bI
  rw [v.1]
  exact (v.drop _).take _
theorem zk {vs:List Value} {lo hi:Option Int}:slicePick vs.toArray lo hi none=(bI vs lo hi).toArray:=by
  rw [slicePick_plain]; simp [bI]
noncomputable def fu (s:Shared) (y z:Value):Shared:={ s with heap:=s.heap.push { cls:=.type "slice",data:=.fields #[y,z,.none] } }
section
variable {a v:PV} {lo hi:Option Int} {x y z:Value} {value:Expr} {l u:Option Expr} {p:Pos} {E:Value->Shared->Prop}
theorem qV {b:Addr} {o:Obj} (e:s.heap.get? b=some o):(fu s y z).heap.get? b=some o:=Heap.get?_push_of_some _ e
theorem vR {xs:List PV} (r:R K.hb s.heap σ α) (va:VR s.heap α a x) (pb:IsPart y lo) (pc:IsPart z hi) (e:a7 σ a=some xs) (hl:xs.length <= ao) :
    wpAny (model K.prog K.w) A (subscriptTail value (.Slice l u none p) x (.ref s.heap.objs.size)) (aT K VR (.ok (.fl (bI xs lo hi)) σ) (fu s y z) α) E (fu s y z):=by
  obtain ⟨ad,vs,n,rfl,e1,w⟩:=eK r va e
  have k:∀ b o,s.heap.get? b=some o->(fu s y z).heap.get? b=some o:=fun _ _=>qV
  have hL:(fu s y z).heap.IsList ad vs.toArray:=⟨_,k _ _ e1,rfl,n,rfl⟩
  refine tail_any hL.typeIs slot_list_getitem.lookup (wpAny_getItem_list_slice hL (Heap.IsSliceOf.new ..) pb pc .none (by simp) ?_ (by rw [List.size_toArray,<- w.1]; exact b6 hl)) rfl
  rw [zk]
  exact aT.fl (r.keeps k) ((w.ext (.keeps (F:=[]) k)).slice lo hi)
theorem aat (h:yl σ a lo hi=some v) (r:R K.hb s.heap σ α) (va:VR s.heap α a x) (pb:IsPart y lo) (pc:IsPart z hi) :
    wpAny (model K.prog K.w) A (subscriptTail value (.Slice l u none p) x (.ref s.heap.objs.size)) (aT K VR (.ok v σ) (fu s y z) α) E (fu s y z):=by
  have gen:((a7 σ a).bind fun xs=>if xs.length <= ao then some (PV.fl (bI xs lo hi)) else none)=some v->wpAny (model K.prog K.w) A (subscriptTail value (.Slice l u none p) x (.ref s.heap.objs.size)) (aT K VR (.ok v σ) (fu s y z) α) E (fu s y z):=fun h =>
    aP h fun xs e h=>zD h fun hl h=>Option.some.inj h ▸ vR r va pb pc e hl
  cases a with
  | _=>exact gen h
end
theorem vO {value:Expr} {l u:Option Expr} {p:Pos} {a b c:PV} {x y z:Value} (r:R K.hb s.heap σ α) (va:VR s.heap α a x) (vb:VR s.heap α b y) (vc:VR s.heap α c z) :
    Runs K VR A (subscriptTail value (.Slice l u none p) x (.ref s.heap.objs.size)) (dy a b c σ) (fu s y z) α:=by
  intro hc tk
  cases h:(gD b).bind fun lo=>(gD c).bind fun hi=>yl σ a lo hi with
  | none=>unfold dy at hc; rw [h] at hc; exact absurd rfl hc
  | some v =>
    unfold dy
    rw [h]
    exact aP h fun lo h1 h=>aP h fun hi h2 h=>aat h r va (yo h1 vb) (yo h2 vc)
theorem zw {a b:PV} {x y:Value} (hA:de A) (hh:A.handled=none) (r:R K.hb s.heap σ α) (va:VR s.heap α a x) (vb:VR s.heap α b y):Runs K VR A (call (.builtin "min") [x,y]) (rE a b σ) s α:=by
  intro hc tk
  cases a with
  | int i =>
    cases b with
    | int j =>
      obtain ⟨_,rfl⟩:=va.intE; obtain ⟨_,rfl⟩:=vb.intE
      refine min_two_ints hh fun h' tk k=>?_
      have:∀ {q:PV} {w:Value},q=.int (min i j)->VR h' α q w->aT K VR (rE (.int i) (.int j) σ) s α w { s with heap:=h',toks:=tk }:=fun {q w} e v=>⟨q,σ,α,by rw [e]; rfl,.keeps k,r.keeps k,v,⟨rfl,rfl⟩⟩
      split
      · rename_i h; exact this (by congr 1; omega) (.int j _)
      · rename_i h; exact this (by congr 1; omega) (.int i _)
    | _=>exact absurd rfl hc
  | _=>exact absurd rfl hc
end
section
variable {K:Kt} {A:Around} {T:aV} {C:bc} {f:List (Str × NameKind)->Expr->Option X} {N:List (Str × NameKind)} {env:Env} {ρ:au} {σ:ab} {s:Shared} {α:AL}
theorem ru {o:Option Expr} {x:X} (S:SE K A C f) (h:qZ (f N) o=some x) (hN:env.scope.names=N) (hn:aG K.hb env) (E:aj env ρ s.heap α) (r:R K.hb s.heap σ α) :
    Runs K VR A (valueOrNone (evalOpt o env)) (ev C x ρ σ) s α:=by
  cases o with
  | none=>obtain rfl:=Option.some.inj h; exact Runs.pure r .none
  | some e=>exact ((S N e x h).2 env ρ σ s α hN hn E r).1
theorem vQ {o:Expr} {lo hi:Option Expr} {p pos:Pos} {x y z:X} (S:SE K A C f) (h1:f N o=some x) (h2:qZ (f N) lo=some y) (h3:qZ (f N) hi=some z)
    (hN:env.scope.names=N) (hn:aG K.hb env) (E:aj env ρ s.heap α) (r:R K.hb s.heap σ α) :
    Runs K VR A (eval (.Subscript o (.Slice lo hi none p) pos) env) (ev C (.slice x y z) ρ σ) s α:=by
  rw [w5,arm_eval_Subscript]
  refine Runs.bind ((S N o x h1).2 env ρ σ s α hN hn E r).1 fun va σ₁ α₁ u1 s₁ e1 x1 r1 v1 m1=>?_
  rw [arm_eval_Slice]
  intro hc tk
  refine wpAny_bind (wpAny_holding (wpAny_bind ?_))
  refine Runs.use (ru S h2 hN hn (E.ext x1 .nil) r1) hc tk fun vb σ₂ aJ u2 ay e2 hc2 x2 r2 v2 m2 tk2=>?_
  refine wpAny_bind (wpAny_holding ?_)
  rw [e2]
  show wpAny _ _ _ _ (aS K A ((ev C z ρ σ₂).bind fun b σ=>dy va vb b σ) _ _) _
  refine Runs.useL x2 m2 (ru S h3 hN hn ((E.ext x1 .nil).ext x2 .nil) r2) hc2 tk2 fun vc σ₃ mj u3 bS e3 hc3 x3 r3 v3 m3 tk3=>?_
  refine wpAny_bind (wpAny_holding (wpAny_pure ?_))
  refine wpAny_newObj_type ?_ (by size_fits)
  refine wpAny_bind (wpAny_standAt ?_)
  show wpAny _ _ _ (aT K VR ((ev C z ρ σ₂).bind _) _ _) (aS K A ((ev C z ρ σ₂).bind _) _ _) _
  rw [e3]
  have mm:=m2.trans m3
  exact (vO (value:=o) (l:=lo) (u:=hi) (p:=p) r3 ((v1.ext x2).ext x3) (v2.ext x3) v3).endL ((x2.trans x3).trans (.keeps fun _ _=>qV)) ⟨mm.gens,mm.os⟩ hc3 tk3
theorem xN {a b:Expr} {p pos:Pos} {x y:X} (c:Ctx K A T C) (S:SE K A C f) (hg:fB N "min" = true) (hbin:("min" : Str) ∈ T.bins) (h1:f N a=some x) (h2:f N b=some y)
    (hN:env.scope.names=N) (hn:aG K.hb env) (E:aj env ρ s.heap α) (r:R K.hb s.heap σ α) :
    Runs K VR A (eval (.Call (.Name "min" p) [a,b] [] pos) env) (ev C (.min2 x y) ρ σ) s α:=by
  rw [aeF]
  cases hhd:C.hd with
  | true=>exact fun hc=>absurd rfl hc
  | false =>
  simp only [cond_false]
  intro hc tk
  obtain ⟨hp1,H1⟩:=S N a x h1
  obtain ⟨hp2,H2⟩:=S N b y h2
  refine wpAny_Call_Name_kw (dN c hg hbin rfl hN E.ok r ?_)
  rw [bD hp1,bD hp2]
  refine Calls.callWith_builtin rfl (Calls.evalArgs_plain (Calls.spliced_cons ?_))
  refine Runs.use (H1 env ρ σ s α hN hn E r).1 hc tk fun v1 σ₁ α₁ u1 s₁ e1 hc1 x1 r1 w1 m1 tk1=>?_
  rw [e1]
  refine Calls.spliced_cons ?_
  show wpAny _ _ _ _ (aS K A ((ev C y ρ σ₁).bind fun y σ=>rE v1 y σ) _ _) _
  refine Runs.useL x1 m1 (H2 env ρ σ₁ s₁ α₁ hN hn (E.ext x1 .nil) r1).1 hc1 tk1 fun v2 σ₂ aJ u2 ay e2 hc2 x2 r2 w2 m2 tk2=>Calls.spliced_nil ?_
  show wpAny _ _ _ (aT K VR ((ev C y ρ σ₁).bind _) _ _) (aS K A ((ev C y ρ σ₁).bind _) _ _) _
  rw [e2]
  exact (zw c.hA (c.hd hhd) r2 (w1.ext x2) w2).endL (x1.trans x2) (m1.trans m2) hc2 tk2
theorem uJ {a:Expr} {p p2 pos pos2:Pos} {x:X} (c:Ctx K A T C) (S:SE K A C f) (hg:fB N "len" = true) (hbin:("len" : Str) ∈ T.bins) (hg2:fB N "set" = true) (hbin2:("set" : Str) ∈ T.bins) (h:f N a=some x)
    (hN:env.scope.names=N) (hn:aG K.hb env) (E:aj env ρ s.heap α) (r:R K.hb s.heap σ α) :
    Runs K VR A (eval (.Call (.Name "len" p) [.Call (.Name "set" p2) [a] [] pos2] [] pos) env) (ev C (.b1 .lenset x) ρ σ) s α:=by
  rw [adI]
  intro hc tk
  obtain ⟨hp,H⟩:=S N a x h
  refine wpAny_Call_Name_kw (dN c hg hbin rfl hN E.ok r ?_)
  rw [bD (e:=.Call (.Name "set" p2) [a] [] pos2) rfl]
  refine PySem.callWith_builtin1 ?_
  refine wpAny_Call_Name_kw (dN c hg2 hbin2 rfl hN E.ok r ?_)
  rw [bD hp]
  refine PySem.callWith_type1 ?_
  refine Runs.use (H env ρ σ s α hN hn E r).1 hc tk fun v1 σ₁ α₁ u1 s₁ e1 hc1 x1 r1 w1 m1 tk1=>?_
  rw [e1]
  have q:cC .lenset v1 σ₁=match (a8 σ₁ v1).bind c8 with
      | some l=>if l.length <= 1000 then .ok (.int (bV l).length) σ₁ else .stuck
      | none=>.stuck:=by cases v1 <;> rfl
  obtain ⟨z1,z2⟩:=abH hc1
  have hhd:=z1 rfl
  show wpAny _ _ _ (fun v s₁=>wpAny _ _ _ (aT K VR (kK C.hd .lenset v1 σ₁) s α) (aS K A (kK C.hd .lenset v1 σ₁) s α) s₁) _ _
  rw [z2,q] at hc1 ⊢
  split at hc1
  · rename_i l hl
    split at hc1
    · rename_i hn2
      rw [if_pos hn2]
      refine zy c.hA (c.hd hhd) r1 w1 hl hn2 fun D h' tk k hlen=>hlen _ _ fun t tk'=>?_
      exact ⟨_,σ₁,α₁,rfl,x1.trans (.keeps k),r1.keeps k,.int _ _,⟨m1.gens,m1.os⟩⟩
    · exact absurd rfl hc1
  · exact absurd rfl hc1
end
end Mine
namespace Mine
open PySem PyProof.Rows
section
variable {K:Kt} {A:Around} {T:aV} {C:bc} {f:List (Str × NameKind)->Expr->Option X} {N:List (Str × NameKind)} {env:Env} {ρ:au} {σ:ab} {s:Shared} {α:AL}
theorem nN {es:List Expr} {xs:X} {pos:Pos} (S:SE K A C f) (h:dQ (f N) es=some xs):(backTo pos (starEach es env)).all (fun x=>!x.1)=true/\(backTo pos (starEach es env)).any (·.1)=false:=by
  have:∀ {es:List Expr} {xs:X},dQ (f N) es=some xs->∀ x ∈ starEach es env,x.1=false:=by
    intro es
    induction es with
    | nil=>intro xs h x hx; contradiction
    | cons e es ih =>
      intro xs h x hx
      obtain ⟨a,b,ha,hb,_⟩:=et h
      rw [bD (S N e a ha).1] at hx
      rcases List.mem_cons.mp hx with q | q
      · rw [q]
      · exact ih hb x q
  have key:∀ x ∈ backTo pos (starEach es env),x.1=false:=by
    intro x hx
    unfold backTo at hx
    first
      | (obtain ⟨y,hy,rfl⟩:=List.mem_map.mp hx; exact this h y hy)
      | (split at hx <;> first | (obtain ⟨y,hy,rfl⟩:=List.mem_map.mp hx; exact this h y hy) | exact this h x hx)
  exact ⟨List.all_eq_true.mpr fun x hx=>by rw [key x hx]; rfl,List.any_eq_false.mpr fun x hx=>by rw [key x hx]; simp⟩
theorem sx {F:Value} {es:List Expr} {pos:Pos} {Q:Args->Shared->Prop} {E:Value->Shared->Prop} (h:wpAny (model K.prog K.w) A (spliced (backTo pos (starEach es env))) (fun vs s₁=>Q ⟨vs,[]⟩ s₁) E s)
    (pl:(backTo pos (starEach es env)).any (·.1)=false):wpAny (model K.prog K.w) A (evalArgs F true (backTo pos (starEach es env)) []) Q E s:=by
  cases hq:backTo pos (starEach es env) with
  | nil =>
    rw [hq] at h
    unfold evalArgs
    show wpAny _ A (spliced [] >>= _) Q E s
    refine wpAny_bind (wpAny_mono h (fun vs s' h'=>?_) fun _ _ x=>x)
    refine wpAny_bind (wpAny_pure (wpAny_holding ?_))
    exact wpAny_bind (wpAny_pure (wpAny_bind (wpAny_pure (wpAny_pure h'))))
  | cons p r =>
    rw [hq] at h pl
    obtain ⟨b,t⟩:=p
    rw [List.any_cons,Bool.or_eq_false_iff] at pl
    obtain rfl:b=false:=pl.1
    exact Calls.evalArgs_plain h
theorem qM {g:Str} {bv:Value} {es:List Expr} {xs:X} {p pos:Pos} {β:Type} {F:List PV->ab->ae β} {W:Value->Shared->Prop} (c:Ctx K A T C) (S:SE K A C f) (hg:fB N g=true) (hbin:g ∈ T.bins) (hv:iI g=some bv) (ht:(∃ t,bv=.type t)\/∃ b,bv=.builtin b)
    (h:dQ (f N) es=some xs) (hN:env.scope.names=N) (hn:aG K.hb env) (E:aj env ρ s.heap α) (r:R K.hb s.heap σ α) (hc:(evs C xs ρ σ).bind F ≠ .stuck) (tk:K.Tk s)
    (k:∀ vs σ' α' us s',evs C xs ρ σ=.ok vs σ'->F vs σ' ≠ .stuck->aB [] α s.heap α' s'.heap->R K.hb s'.heap σ' α'->aN s'.heap α' vs us->Sm s s'->K.Tk s'->wpAny (model K.prog K.w) A (call bv us) W (aS K A ((evs C xs ρ σ).bind F) s α) s') :
    wpAny (model K.prog K.w) A (eval (.Call (.Name g p) es [] pos) env) W (aS K A ((evs C xs ρ σ).bind F) s α) s:=by
  obtain ⟨_,pl2⟩:=nN (env:=env) (pos:=pos) S h
  refine wpAny_Call_Name_kw (dN c hg hbin hv hN E.ok r ?_)
  have H:=gm (pos:=pos) S h hN hn E r
  have H':∀ {fv:Value},wpAny (model K.prog K.w) A (evalArgs fv true (backTo pos (starEach es env)) []) (fun a s₁=>wpAny (model K.prog K.w) A (call bv ([]++a.pos) a.kw) W (aS K A ((evs C xs ρ σ).bind F) s α) s₁) (aS K A ((evs C xs ρ σ).bind F) s α) s:=
    sx (Runs.use H hc tk fun vs σ' α' us s' e1 hc' x' r' v' m' tk'=>k vs σ' α' us s' e1 hc' x' r' v' m' tk') pl2
  rcases ht with ⟨t,rfl⟩ | ⟨b,rfl⟩
  · exact PySem.callWith_type pl2 H'
  · exact Calls.callWith_builtin pl2 H'
end
end Mine
namespace Mine
open PySem PyProof.Rows
section
variable {K:Kt} {A:Around} {T:aV} {C:bc} {f:List (Str × NameKind)->Expr->Option X} {N:List (Str × NameKind)} {env:Env} {ρ:au} {σ:ab} {s:Shared} {α:AL}
end
end Mine
namespace Mine
open PySem PyProof.Rows
section
variable {K:Kt} {A:Around} {T:aV} {C:bc} {f:List (Str × NameKind)->Expr->Option X} {N:List (Str × NameKind)} {env:Env} {ρ:au} {σ:ab} {s:Shared} {α:AL}
variable {en:Bool}
theorem aeu {x:X} (h:acH x=false):evIt C x ρ σ=(ev C x ρ σ).bind mR:=by
  cases x <;> first | (contradiction; done) | (rfl)
theorem aft {e:Expr} {x:X} (c:Ctx K A T C) (hhd:C.hd=false) (S:SE K A C f) (h:f N e=some x) (hi:acH x=false) (hN:env.scope.names=N) (hn:aG K.hb env) (E:aj env ρ s.heap α) (r:R K.hb s.heap σ α) :
    fI K A en (eval e env) (evIt C x ρ σ) s α:=by
  rw [aeu hi]
  intro hc tk
  refine Runs.use ((S N e x h).2 env ρ σ s α hN hn E r).1 hc tk fun v σ₁ α₁ y s₁ e1 hc1 x1 r1 v1 m1 tk1=>?_
  rw [e1]
  exact wpAny_mono (acF c.hA (c.hd hhd) r1 v1 hc1) (fun it ay hp=>hp.lift x1 m1) fun _ _ e=>e
noncomputable def g8 (K:Kt) (A:Around) (t:Sem Value) (c:ae (List PV × Option (Nat × MO))) (s:Shared) (α:AL):Prop:=c ≠ .stuck->K.Tk s->wpAny (model K.prog K.w) A t (eM K c s α) (aS K A c s α) s
theorem acG {a:Expr} {p pos:Pos} {x:X} (c:Ctx K A T C) (S:SE K A C f) (h:f N a=some x) (hg:fB N "range" = true) (hbin:("range" : Str) ∈ T.bins) (hN:env.scope.names=N) (hn:aG K.hb env) (E:aj env ρ s.heap α) (r:R K.hb s.heap σ α) :
    g8 K A (eval (.Call (.Name "range" p) [a] [] pos) env) (evIt C (.range1 x) ρ σ) s α:=by
  show g8 K A _ ((ev C x ρ σ).bind f9) s α
  intro hc tk
  obtain ⟨hp,H⟩:=S N a x h
  refine wpAny_Call_Name_kw (dN c hg hbin rfl hN E.ok r ?_)
  rw [bD hp]
  refine PySem.callWith_type1 (Runs.use (H env ρ σ s α hN hn E r).1 hc tk fun v σ₁ α₁ y s₁ e1 hc1 x1 r1 v1 m1 tk1=>?_)
  rw [e1]
  exact wpAny_mono (ac0 r1 v1 hc1) (fun it ay hp=>hp.lift x1 m1) fun _ _ e=>e
theorem eA {e:Expr} {q:Str × Pos} (h:jF e=some q):e=.Name q.1 q.2:=by
  cases e with
  | Name x p=>obtain rfl:=Option.some.inj h; rfl
  | _=>contradiction
theorem xe {e:Expr} {q:aaa} (h:zQ e=some q):e=.Call (.Name q.g q.p) [q.a] [] q.pos:=by
  cases e with
  | Call f as ks pos =>
    change aE _ _=_ at h
    refine aF h fun h0 h=>ez (M:=fun q:aaa=>Expr.Call f as ks pos=.Call (.Name q.g q.p) [q.a] [] q.pos) h fun n a h1 h2=>?_
    rw [eA h1,v8 h2,List.isEmpty_iff.mp h0]
  | _=>contradiction
theorem ac2 {e:Expr} {q:z9} (h:callN? e=some q):e=.Call (.Name q.g q.p) q.as [] q.pos:=by
  cases e with
  | Call f as ks pos =>
    change aE _ _=_ at h
    refine aF h fun h0 h=>b8 (M:=fun q:z9=>Expr.Call f as ks pos=.Call (.Name q.g q.p) q.as [] q.pos) h fun n h1=>?_
    rw [eA h1,List.isEmpty_iff.mp h0]
  | _=>contradiction
theorem yh {g:Str} {k:Nat} {e:Expr} {xs:X} {P:Prop} (h:vK T N (f N) g k e=some xs) (kk:∀ p as pos,e=.Call (.Name g p) as [] pos->fB N g=true->g ∈ T.bins->as.length=k->dQ (f N) as=some xs->P):P:=by
  refine aP h fun q hq h'=>aF h' fun hc h6=>?_
  obtain ⟨hc,h3⟩:=Bool.and_eq_true_iff.mp hc
  obtain ⟨h1,h2⟩:=Bool.and_eq_true_iff.mp hc
  obtain ⟨h4,h5⟩:=Bool.and_eq_true_iff.mp h2
  obtain rfl:=eq_of_beq h1
  exact kk q.p q.as q.pos (ac2 hq) h4 (by simpa using h5) (eq_of_beq h3) h6
theorem abb {e:Expr} {xs:X} (c:Ctx K A T C) (S:SE K A C f) (h:vK T N (f N) "range" 3 e=some xs) (hN:env.scope.names=N) (hn:aG K.hb env) (E:aj env ρ s.heap α) (r:R K.hb s.heap σ α) :
    g8 K A (eval e env) (evIt C (.range3 xs) ρ σ) s α/\dA e=true:=by
  refine yh h fun p as pos he hg hb hl h6=>?_
  subst he
  refine ⟨?_,rfl⟩
  show g8 K A _ ((evs C xs ρ σ).bind pe) s α
  intro hc tk
  refine qM c S hg hb rfl (.inl ⟨_,rfl⟩) h6 hN hn E r hc tk fun vs σ₁ α₁ us s₁ e1 hc1 x1 r1 v1 m1 tk1=>?_
  rw [e1]
  refine aaE hc1 fun a b d hv=>?_
  subst hv
  obtain ⟨x,us1,rfl,va,v1⟩:=v1.inv_cons
  obtain ⟨y,us2,rfl,vb,v1⟩:=v1.inv_cons
  obtain ⟨z,us3,rfl,vd,v1⟩:=v1.inv_cons
  obtain rfl:=List.eq_nil_of_length_eq_zero v1.1.symm
  exact wpAny_mono (acZ r1 va vb vd hc1) (fun it ay hp=>hp.lift x1 m1) fun _ _ e=>e
theorem aeS {vs:List PV} {P:Prop} (h:yJ vs σ ≠ .stuck) (k:∀ a b,vs=[a,b]->P):P:=by
  cases vs with
  | nil=>exact absurd rfl h
  | cons a l =>
    cases l with
    | nil=>exact absurd rfl h
    | cons b l =>
      cases l with
      | nil=>exact k a b rfl
      | cons c l=>exact absurd rfl h
theorem afs {e:Expr} {xs:X} (c:Ctx K A T C) (hhd:C.hd=false) (S:SE K A C f) (h:vK T N (f N) "zip" 2 e=some xs) (hN:env.scope.names=N) (hn:aG K.hb env) (E:aj env ρ s.heap α) (r:R K.hb s.heap σ α) :
    fI K A true (eval e env) (evIt C (.zip xs) ρ σ) s α/\dA e=true:=by
  refine yh h fun p as pos he hg hb hl h6=>?_
  subst he
  refine ⟨?_,rfl⟩
  show fI K A true _ ((evs C xs ρ σ).bind yJ) s α
  intro hc tk
  refine qM c S hg hb rfl (.inl ⟨_,rfl⟩) h6 hN hn E r hc tk fun vs σ₁ α₁ us s₁ e1 hc1 x1 r1 v1 m1 tk1=>?_
  rw [e1]
  refine aeS hc1 fun a b hv=>?_
  subst hv
  obtain ⟨x,us1,rfl,va,v1⟩:=v1.inv_cons
  obtain ⟨y,us2,rfl,vb,v1⟩:=v1.inv_cons
  obtain rfl:=List.eq_nil_of_length_eq_zero v1.1.symm
  exact wpAny_mono (acE (c.hd hhd) r1 va vb hc1) (fun it ay hp=>wpAny_mono hp (fun y bS hp=>hp.lift x1 m1) fun _ _ e=>e) fun _ _ e=>e
theorem yS {e:Expr} {x:X} {P:X->Prop} (h:sE T N (f N) e=some x) (k:∀ p a pos y,e=.Call (.Name "range" p) [a] [] pos->fB N "range" = true->("range" : Str) ∈ T.bins->f N a=some y->P (.range1 y)):P x:=by
  unfold sE at h
  refine aP h fun q hq h=>aF h fun hc h=>?_
  obtain ⟨h1,h2⟩:=Bool.and_eq_true_iff.mp hc
  obtain ⟨h4,h5⟩:=Bool.and_eq_true_iff.mp h2
  have he:=xe hq
  rw [eq_of_beq h1] at he h4 h5
  exact b8 h fun y hy=>k q.p q.a q.pos y he h4 (by simpa using h5) hy
theorem qY {e:Expr} {x:X} (c:Ctx K A T C) (S:SE K A C f) (h:vC T N (f N) e=some x) (hN:env.scope.names=N) (hn:aG K.hb env) (E:aj env ρ s.heap α) (r:R K.hb s.heap σ α) :
    g8 K A (eval e env) (evIt C x ρ σ) s α/\dA e=true:=by
  unfold vC at h
  refine fy h (fun y hy h=>?_) fun _ h=>b8 (M:=fun x=>g8 K A (eval e env) (evIt C x ρ σ) s α/\dA e=true) h fun xs hx=>abb c S hx hN hn E r
  obtain rfl:=Option.some.inj h
  replace h:=hy
  exact yS (P:=fun x=>g8 K A (eval e env) (evIt C x ρ σ) s α/\dA e=true) h fun p a pos y he hg hb h6=>by subst he; exact ⟨acG c S h6 hg hb hN hn E r,rfl⟩
theorem g8.it {e:Expr} {cc:ae (List PV × Option (Nat × MO))} (c:Ctx K A T C) (hhd:C.hd=false) (H:g8 K A (eval e env) cc s α):fI K A en (eval e env) cc s α:=fun hc tk =>
  wpAny_mono (H hc tk) (fun _ _ p=>p.iter c.hA (c.hd hhd)) fun _ _ e=>e
theorem jb {e:Expr} {x:X} (c:Ctx K A T C) (hhd:C.hd=false) (S:SE K A C f) (h:p7 T N (f N) e=some x) (hN:env.scope.names=N) (hn:aG K.hb env) (E:aj env ρ s.heap α) (r:R K.hb s.heap σ α) :
    fI K A en (eval e env) (evIt C x ρ σ) s α/\dA e=true:=by
  unfold p7 at h
  refine fy h (fun y hy h=>?_) fun _ h=>?_
  · obtain rfl:=Option.some.inj h
    obtain ⟨q1,q2⟩:=qY c S hy hN hn E r
    exact ⟨q1.it c hhd,q2⟩
  · unfold adj at h
    refine aP h fun y hq h=>aF h fun hi h=>?_
    obtain rfl:=Option.some.inj h
    exact ⟨aft c hhd S hq (by simpa using hi) hN hn E r,(S N e _ hq).1⟩
theorem xz {e:Expr} {x:X} (c:Ctx K A T C) (hhd:C.hd=false) (S:SE K A C f) (h:u4 T N (f N) e=some x) (hN:env.scope.names=N) (hn:aG K.hb env) (E:aj env ρ s.heap α) (r:R K.hb s.heap σ α) :
    ∃ en,fI K A en (eval e env) (evIt C x ρ σ) s α/\dA e=true:=by
  unfold u4 at h
  refine fy h (fun y hy h=>?_) fun _ h=>?_
  · obtain rfl:=Option.some.inj h
    exact b8 (M:=fun y=>∃ en,fI K A en (eval e env) (evIt C y ρ σ) s α/\dA e=true) hy fun xs hx=>⟨true,afs c hhd S hx hN hn E r⟩
  exact ⟨false,jb c hhd S h hN hn E r⟩
end
end Mine
namespace Mine
open PySem PyProof.Rows
section
variable {K:Kt} {A:Around} {T:aV} {C:bc} {f:List (Str × NameKind)->Expr->Option X} {N:List (Str × NameKind)} {env:Env} {ρ:au} {σ:ab} {s:Shared} {α:AL}
theorem xV {pos:Pos} {pk:Bool} (r:R K.hb s.heap σ α):Runs K VR A (eval (.Dict [] [] pos) env) (ev C (.dnew pk) ρ σ) s α:=by
  intro hc tk
  refine wpAny_Dict_empty ?_
  have k:∀ b o,s.heap.get? b=some o->(s.heap.push { cls:=.type "dict",data:=.dict #[] }).get? b=some o:=fun b o e=>Heap.get?_push_of_some _ e
  cases pk with
  | true =>
    obtain ⟨r',x⟩:=r.add (D:=s.heap.objs.size) (m:=.dp []) k (ic s) ⟨[],Heap.DictOfH.new _,rfl,(fun x hx=>nomatch hx),.nil⟩
    refine ⟨_,_,_,rfl,x,r',.ref ?_,⟨rfl,rfl⟩⟩
    rw [r.len]; simp [AL.add]
  | false =>
    obtain ⟨r',x⟩:=r.add (D:=s.heap.objs.size) (m:=.ds []) k (ic s) ⟨[],Heap.DictOf.new _,rfl,.nil⟩
    refine ⟨_,_,_,rfl,x,r',.ref ?_,⟨rfl,rfl⟩⟩
    rw [r.len]; simp [AL.add]
theorem xy {g:Str} {args:List Expr} {p pos:Pos} {x:X} (c:Ctx K A T C) (S:SE K A C f) (hg:fB N g=true) (h:yU T (f N) g args=some x):j2 K A C N (.Call (.Name g p) args [] pos) x:=by
  unfold yU at h
  refine aP h fun q hb h=>aF h fun hc h=>aP h fun j hj h=>b8 h fun xs hxs=>a9 (fun _ _=>rfl) (fun _ _=>rfl) fun {env ρ σ s α} hN hn E r hc' tk=>?_
  obtain ⟨b,cl⟩:=q
  rw [abu] at hc' ⊢
  obtain ⟨h1,h2⟩:=Bool.and_eq_true_iff.mp hc
  obtain rfl:=eq_of_beq h1
  have hj':T.meths[j]?=some ("__init__" : Str):=by
    obtain ⟨h1,h2,_⟩:=List.findIdx?_eq_some_iff_getElem.mp hj
    rw [List.getElem?_eq_getElem h1,eq_of_beq h2]
  obtain ⟨F,B,hcall,_⟩:=c.brd _ cl hb
  have hcall:=hcall j hj'
  obtain ⟨i,hi⟩:=sS hg
  refine wpAny_Call_Name_kw (nP c.hK r E.ok (by rw [hN]; exact hi) B.mg ?_)
  cases args with
  | nil=>contradiction
  | cons e es =>
    have H:=gm (pos:=pos) S hxs hN hn E r
    obtain ⟨a',b',ha',hb',_⟩:=et hxs
    refine PySem.W.callWith_K B.inn B.keep ?_ (bD (S N e a' ha').1) (nN S hb').2
    refine Runs.use H hc' tk fun vs σ' α' us s' e1 hc1 x' r' v' m' tk'=>⟨fun a o e=>r'.base a o (B.inn a o e),?_⟩
    show wpAny (model K.prog K.w) A (call (.ref cl) us) (aT K VR ((evs C xs ρ σ).bind fun vs σ=>mx C cl (T.fns.length + j) vs σ) s α) (aS K A ((evs C xs ρ σ).bind fun vs σ=>mx C cl (T.fns.length + j) vs σ) s α) s'
    rw [e1]
    exact wpAny_mono (hcall vs us s' σ' α' r' v' hc1 tk') (fun y s'' hp=>hp.lift x' m') fun e s'' hx=>hx.lift x' m'
end
end Mine
namespace Mine
open PySem PyProof.Rows
section
variable {K:Kt} {A:Around} {T:aV} {C:bc} {f:List (Str × NameKind)->Expr->Option X} {N:List (Str × NameKind)} {env:Env} {ρ:au} {σ:ab} {s:Shared} {α:AL}
open PySem.W
theorem R.frag {F:Frag} {h:Heap} (x:F.In K.hb.h) (r:R K.hb h σ α):F.In h:=fun a o e=>r.base a o (x a o e)
theorem yv {c i:Nat} {x:Value} (v:VR s.heap α (.inst c i) x):∃ a D,x=.ref a/\s.heap.get? a=some (instObj c D)/\a ∉ α.all/\α.ix[i]?=some D:=by
  cases v with | inst e hn hi=>exact ⟨_,_,rfl,e,hn,hi⟩
theorem aa4 {o:Obj} {es:Array DictEntry} {ep:Nat} {n:Str} (hd:o.data=.dict es ep) (hk:StrKeys es):lookIn n o=some (nsFind es n):=by
  unfold lookIn
  rw [hd]
  dsimp only
  unfold nsFind findBy
  have h0:(es.toList.any fun x=>x.refKey)=false:=by
    rw [List.any_eq_false]
    intro e he
    obtain ⟨m,t,h⟩:=hk e (by simpa using he)
    simp [DictEntry.refKey,h]
  rw [h0,<- Array.find?_toList]
  cases es.toList.find? (fun e=>e.key.isStr n) <;> rfl
theorem yw {c i:Nat} {x:Value} {fs:List (Str × PV)} (r:R K.hb s.heap σ α) (vx:VR s.heap α (.inst c i) x) (hs:σ[i]?=some (.ns fs)) :
    ∃ a D oD,x=.ref a/\InstAt s.heap a (instObj c D) c (some oD)/\∀ n,∃ q,lookIn n oD=some q/\(∀ v,ac n fs=some v->∃ u,q=some u/\VR s.heap α v u)/\(ac n fs=none->q=none):=by
  obtain ⟨a,D,rfl,ea,ha,hi⟩:=yv vx
  obtain ⟨m,ns1,o1,o2⟩:=r.obj i _ D hs hi
  obtain ⟨oD,esD,epD,eD,dD,kD,_,fD⟩:=ns1
  refine ⟨a,D,oD,rfl,⟨ea,rfl,rfl,eD⟩,fun n=>⟨m n,?_,o1 n,o2 n⟩⟩
  rw [aa4 dD kD,fD]
theorem abh {v:PV} {u:Value} (h:VR s.heap α v u):handedIn u=true:=by cases h <;> rfl
theorem x9 {F:Frag} {b n:Str} {c:Nat} {o:PV} {x:Value} (B:eQ K F b c) (hn:n ∈ cI) (r:R K.hb s.heap σ α) (vx:VR s.heap α o x):Runs K VR A (getAttr x n true) (sv c o n σ) s α:=by
  intro hc tk
  unfold sv at hc ⊢
  cases o with
  | inst c' i =>
    dsimp only at hc ⊢
    by_cases q:c'=c
    · subst q
      rw [if_pos rfl] at hc ⊢
      cases hs:σ[i]? with
      | none=>rw [hs] at hc; exact absurd rfl hc
      | some mo =>
        rw [hs] at hc
        cases mo with
        | ns fs =>
          dsimp only at hc ⊢
          cases hv:ac n fs with
          | none=>rw [hv] at hc; exact absurd rfl hc
          | some v =>
            obtain ⟨a,D,oD,rfl,I,H⟩:=yw r vx hs
            obtain ⟨q,h1,h2,_⟩:=H n
            obtain ⟨u,rfl,vu⟩:=h2 v hv
            exact get_value (r.frag B.inn) I B.geta (findObj_own B.hasd (B.none n hn) rfl h1) (abh vu) (.here r vu)
        | _=>exact absurd rfl hc
    · rw [if_neg q] at hc; exact absurd rfl hc
  | _=>exact absurd rfl hc
theorem ya {o:Expr} {n:Str} {pos:Pos} {x:X} {b:Str} {cl:Nat} (c:Ctx K A T C) (S:SE K A C f) (hb:T.brd=some (b,cl)) (hn0:ia o=true) (hm:n ∈ cI) (h1:f N o=some x)
    (hN:env.scope.names=N) (hn:aG K.hb env) (E:aj env ρ s.heap α) (r:R K.hb s.heap σ α):Runs K VR A (eval (.Attribute o n pos) env) (ev C (.attr cl x n) ρ σ) s α:=by
  obtain ⟨F,B,_⟩:=c.brd b cl hb
  rw [yC,arm_eval_Attribute,mJ hn0]
  refine Runs.bind ((S N o x h1).2 env ρ σ s α hN hn E r).1 fun va σ₁ α₁ u1 s₁ e1 x1 r1 v1 m1=>Runs.standAt ?_
  intro hc tk
  exact wpAny_bind (wpAny_holding (wpAny_mono (x9 B hm r1 v1 hc tk) (fun u s' hp=>wpAny_bind (wpAny_letTemporaryGo (wpAny_pure hp))) fun _ _ e=>e))
theorem abF {prog:Program} {w:World} {o:Expr} {name:Str} {apos pos:Pos} {args:List Expr} {Q:Value->Shared->Prop} {E:Value->Shared->Prop}
    (hbase:attributeBase o name env (eval o env)=eval o env)
    (hfew:methodCallForm (args.length + ([]:List Keyword).length) (backTo pos (starEach args env)) (backToKw pos (keywordEach [] env))=true) (hline:(apos.endLine == pos.line)=true)
    (h:wpAny (model prog w) A (eval o env) (fun ov s₁=>∀ pl,wpAny (model prog w) A (getMethod ov name pl) (fun q ay=>wpAny (model prog w) A (callWith pos q.1 q.2 (backTo pos (starEach args env)) []) Q E ay) E s₁) E s) :
    wpAny (model prog w) A (eval (.Call (.Attribute o name apos) args [] pos) env) Q E s:=by
  rw [arm_eval_Call,hbase]
  refine wpAny_bind (wpAny_mono h (fun ov s₁ bj=>wpAny_bind (wpAny_standAt ?_)) fun _ _ e=>e)
  have hpos:methodCallPos true o env apos pos=pure pos:=by unfold methodCallPos; simp [hline]
  unfold methodCall
  rw [hfew]
  refine wpAny_bind (wpAny_holding ?_)
  exact wpAny_mono (bj _) (fun q ay fj=>wpAny_bind (wpAny_of_eq hpos fj)) fun _ _ e=>e
theorem xO {o:Expr} {es:List Expr} {mn:Str} {apos pos:Pos} {x xs:X} {b:Str} {cl j:Nat} (c:Ctx K A T C) (S:SE K A C f) (hb:T.brd=some (b,cl)) (hj:T.meths[j]?=some mn) (hn0:ia o=true) (hline:(apos.endLine == pos.line)=true) (hlen:es.length < 20)
    (h1:f N o=some x) (h2:dQ (f N) es=some xs) (hN:env.scope.names=N) (hn:aG K.hb env) (E:aj env ρ s.heap α) (r:R K.hb s.heap σ α) :
    Runs K VR A (eval (.Call (.Attribute o mn apos) es [] pos) env) (ev C (.meth cl (T.fns.length + j) mn x xs) ρ σ) s α:=by
  obtain ⟨F,B,_,HM⟩:=c.brd b cl hb
  obtain ⟨ma,mo,fd,q1,q2,q3,q4,hcall⟩:=HM j mn hj
  rw [yB]
  intro hc tk
  obtain ⟨pl1,pl2⟩:=nN (env:=env) (pos:=pos) S h2
  refine abF (mJ hn0) (by unfold methodCallForm; rw [pl1]; simp [backToKw,show keywordEach [] env=[] from rfl]; omega) hline ?_
  refine Runs.use ((S N o x h1).2 env ρ σ s α hN hn E r).1 hc tk fun va σ₁ α₁ y1 s₁ e1 hc1 x1 r1 v1 m1 tk1 pl=>?_
  rw [e1]
  change ka C cl (T.fns.length + j) mn va _ σ₁ ≠ _ at hc1
  show wpAny _ _ _ (fun q ay=>wpAny _ _ _ (aT K VR (ka C cl (T.fns.length + j) mn va _ σ₁) s α) (aS K A (ka C cl (T.fns.length + j) mn va _ σ₁) s α) ay) (aS K A (ka C cl (T.fns.length + j) mn va _ σ₁) s α) _
  unfold ka at hc1 ⊢
  cases va with
  | inst c' i =>
    dsimp only at hc1 ⊢
    by_cases q:c'=cl
    · subst q
      rw [if_pos rfl] at hc1 ⊢
      cases hs:σ₁[i]? with
      | none=>rw [hs] at hc1; exact absurd rfl hc1
      | some mo' =>
        rw [hs] at hc1
        cases mo' with
        | ns fs =>
          dsimp only at hc1 ⊢
          cases hv:ac mn fs with
          | some v=>rw [hv] at hc1; exact absurd rfl hc1
          | none =>
            rw [hv] at hc1
            dsimp only at hc1 ⊢
            obtain ⟨a,D,oD,rfl,I,H⟩:=yw r1 v1 hs
            obtain ⟨q,g1,_,g2⟩:=H mn
            obtain rfl:=g2 hv
            refine method_fn (r1.frag B.inn) I B.geta B.getr q1 q2 (by show (lookIn mn oD).map (·.isSome)=_; rw [g1]; rfl) ?_
            have He:=gm (pos:=pos) S h2 hN hn (E.ext x1 .nil) r1
            refine Calls.callWith_function (o:=mo) (fd:=fd) (sx ?_ pl2)
            refine Runs.useL x1 m1 He hc1 tk1 fun vs σ₂ aJ us ay e2 hc2 x2 r2 v2 m2 tk2=>⟨⟨r2.base _ _ q3,q4⟩,?_⟩
            rw [e2]
            exact (hcall (.inst c' i::vs) _ ay σ₂ aJ r2 (.cons (v1.ext x2) v2)).endL (x1.trans x2) (m1.trans m2) hc2 tk2
        | _=>exact absurd rfl hc1
    · rw [if_neg q] at hc1; exact absurd rfl hc1
  | _=>exact absurd rfl hc1
end
end Mine
namespace Mine
open PySem PyProof.Rows
theorem jp:∀ {names:List (Str × NameKind)},mr names=true->adb names
  | [],_=>⟨fun i j x k k' h=>by simp at h,fun i x k h=>by simp at h,fun i x k h=>by simp at h⟩
  | (y,k0)::r,h=>by
    simp only [mr,Bool.and_eq_true,Bool.not_eq_true',Bool.or_eq_true,beq_iff_eq] at h
    obtain ⟨⟨⟨h1,h2⟩,h3⟩,h4⟩:=h
    have ih:=jp h4
    have no:∀ (i:Nat) (k:NameKind),r[i]? ≠ some (y,k):=fun i k e=>by
      have hm:=List.mem_of_getElem? e
      rw [List.any_eq_false] at h1
      exact h1 _ hm (by simp)
    refine ⟨fun i j x k k' e1 e2=>?_,fun i x k e=>?_,fun i x k e=>?_⟩
    · cases i with
      | zero =>
        cases j with
        | zero=>rfl
        | succ j =>
          simp at e1 e2
          obtain ⟨rfl,rfl⟩:=e1
          exact absurd e2 (no j k')
      | succ i =>
        cases j with
        | zero =>
          simp at e1 e2
          obtain ⟨rfl,rfl⟩:=e2
          exact absurd e1 (no i k)
        | succ j =>
          simp at e1 e2
          rw [ih.uniq i j x k k' e1 e2]
    · cases i with
      | zero=>simp at e; obtain ⟨rfl,rfl⟩:=e; exact h2
      | succ i=>simp at e; exact ih.nodbg i x k e
    · cases i with
      | zero =>
        simp at e; obtain ⟨rfl,rfl⟩:=e
        rcases h3 with (h3 | h3) | h3
        · exact .inl h3
        · exact .inr (.inl h3)
        · exact .inr (.inr h3)
      | succ i=>simp at e; exact ih.kinds i x k e
section
variable {K:Kt} {A:Around} {T:aV} {C:bc} {f:List (Str × NameKind)->Expr->Option X} {N:List (Str × NameKind)} {env:Env} {ρ:au} {σ:ab} {s:Shared} {α:AL}
theorem sn {fz:Bool} {t:Nat} {cap:List (Option Nat)} {elt cond it:X} (hhd:C.hd=false):ev C (.comp fz t cap elt cond it) ρ σ =
    gp fz (fun v σ=>tst C cond ((aY cap ρ).set t (some v)) σ) (fun v σ=>ev C elt ((aY cap ρ).set t (some v)) σ) (evIt C it ρ σ):=by
  rw [jt,hhd]
  unfold gp d8
  rw [cond_false]
  congr 1
structure oY (T:aV) (N:List (Str × NameKind)) (f:List (Str × NameKind)->Expr->Option X) (elt:Expr) (x:Str) (iter:Expr) (ifs:List Expr) (scope:Scope) (fz:Bool) (t:Nat) (e c i:X):Prop where
  kind:scope.kind=.function
  sc:mr (a6 N scope.names)=true
  cells:∀ p ∈ scope.names,p.2 ≠ .cell
  tgt:(a6 N scope.names)[t]?=some (x,NameKind.local)
  it:p7 T N (f N) iter=some i
  elt:f (a6 N scope.names) elt=some e
  cond:abY (f (a6 N scope.names)) ifs=some c
theorem tI {elt iter:Expr} {x:Str} {pos:Pos} {ifs:List Expr} {scope:Scope} {y:X} {P:X->Prop} (h:rb T N f elt x iter ifs scope pos=some y)
    (k:∀ t e c i,oY T N f elt x iter ifs scope (!(T.muts.contains (pos.line,pos.col))) t e c i->P (.comp (!(T.muts.contains (pos.line,pos.col))) t (dv N (a6 N scope.names)) e c i)):P y:=by
  unfold rb at h
  refine aF h fun hk h=>aP h fun t _ h=>aF h fun ht h=>kU h fun i e c h1 h2 h3=>k t e c i ?_
  obtain ⟨hk,hk3⟩:=Bool.and_eq_true_iff.mp hk
  obtain ⟨hk1,hk2⟩:=Bool.and_eq_true_iff.mp hk
  exact ⟨eq_of_beq hk1,hk2,fun p hp=>bne_iff_ne.mp (List.all_eq_true.mp hk3 p hp),eq_of_beq ht,h1,h2,h3⟩
theorem oY.ok {elt iter:Expr} {x:Str} {ifs:List Expr} {scope:Scope} {fz:Bool} {t:Nat} {e c i:X} (q:oY T N f elt x iter ifs scope fz t e c i) (hN:env.scope.names=N):eP env.scope.names scope t x:=by
  subst hN; exact ⟨q.kind,jp q.sc,q.cells,q.tgt⟩
theorem jk {scope:Scope} {C':Addr} (hN:env.scope.names=N) (E:aj env ρ s.heap α):(bn scope C' env).scope.names=a6 N scope.names:=by rw [<- hN]; exact iU E.ok.kind
theorem mH {scope:Scope} (hN:env.scope.names=N):ir scope env ρ=aY (dv N (a6 N scope.names)) ρ:=by rw [<- hN]
theorem sj {ifs:List Expr} {cond:X} {M:List (Str × NameKind)} {cenv:Env} (S:SE K A C f) (h:abY (f M) ifs=some cond) (hM:cenv.scope.names=M) (n':aG K.hb cenv) (E':aj cenv ρ s.heap α) (r':R K.hb s.heap σ α) :
    Runs K dx A (forIn ifs true fun c r=>if r=true then do let ok <- isTrue c cenv (eval c cenv); pure (ForInStep.yield ok) else pure (ForInStep.yield r)) (tst C cond ρ σ) s α:=by
  cases ifs with
  | nil =>
    obtain rfl:=Option.some.inj h
    exact fun _ _=>wpAny_tests_nil ⟨true,σ,α,rfl,.refl,r',rfl,.refl _⟩
  | cons c1 cs =>
    change aE _ _=_ at h
    refine aF h fun h0 h=>?_
    rw [List.isEmpty_iff.mp h0]
    exact fun hc tk=>wpAny_tests_one (((S _ c1 cond h).2 _ _ σ s α hM n' E' r').2 hc tk)
theorem pT {elt iter:Expr} {x:Str} {px pos:Pos} {ifs:List Expr} {scope:Scope} {fz:Bool} {t:Nat} {e cc i:X} (c:Ctx K A T C) (S:SE K A C f) (q:oY T N f elt x iter ifs scope fz t e cc i)
    (hN:env.scope.names=N) (hn:aG K.hb env) (E:aj env ρ s.heap α) (r:R K.hb s.heap σ α) :
    Runs K VR A (eval (.ListComp elt [⟨.Name x px,iter,ifs,0⟩] scope pos) env) (ev C (.comp fz t (dv N (a6 N scope.names)) e cc i) ρ σ) s α:=by
  cases hhd:C.hd with
  | true=>rw [jt,hhd]; exact fun hc=>absurd rfl hc
  | false =>
  rw [sn hhd]
  obtain ⟨hit',hpl⟩:=jb c hhd S q.it hN hn E r
  refine sO (q.ok hN) E hit' (fun C' v s' σ' α' n' E' r'=>?_) (fun C' v s' σ' α' n' E' r'=>?_) c.fr hn r (jA hpl)
  · rw [mH hN] at E'
    exact sj S q.cond (jk hN E) n' E' r'
  · rw [mH hN] at E'
    exact ((S _ elt e q.elt).2 _ _ σ' s' α' (jk hN E) n' E' r').1
theorem xB {l:Expr} {os:List CmpOp} {rs:List Expr} {pos:Pos} {x:X} (c:Ctx K A T C) (S:SE K A C f) (h:yW (f N) l os rs=some x):j2 K A C N (.Compare l os rs pos) x:=by
  unfold yW at h
  cases os with
  | nil=>contradiction
  | cons o os =>
    cases rs with
    | nil=>contradiction
    | cons r1 rs =>
      cases os with
      | nil =>
        change aE _ _=_ at h
        refine aF h fun h0 h=>?_
        rw [List.isEmpty_iff.mp h0]
        exact kU h fun o' a b h1 h2 h3 env ρ σ s α hN hn E r=>zO c S h1 h2 h3 hN hn E r
      | cons o2 os =>
        cases rs with
        | nil=>contradiction
        | cons r2 rs =>
          change aE _ _=_ at h
          refine aF h fun h0 h=>aP h fun o' h1 h=>?_
          obtain ⟨h0,h0'⟩:=Bool.and_eq_true_iff.mp h0
          rw [List.isEmpty_iff.mp h0,List.isEmpty_iff.mp h0']
          exact agM h fun a b o2' b2 h2 h3 h4 h5 env ρ σ s α hN hn E r=>xZ c S h1 h4 h2 h3 h5 hN hn E r
theorem uI {a:Expr} {p pos:Pos} {x:X} {fz:Bool} (c:Ctx K A T C) (S:SE K A C f) (hg:fB N "list" = true) (hbin:("list" : Str) ∈ T.bins) (h:vC T N (f N) a=some x)
    (hN:env.scope.names=N) (hn:aG K.hb env) (E:aj env ρ s.heap α) (r:R K.hb s.heap σ α):Runs K VR A (eval (.Call (.Name "list" p) [a] [] pos) env) (ev C (.listIt fz x) ρ σ) s α:=by
  rw [uv]
  cases hhd:C.hd with
  | true=>exact fun hc=>absurd rfl hc
  | false =>
  intro hc tk
  obtain ⟨H,hp⟩:=qY c S h hN hn E r
  change ((evIt C x ρ σ).bind fun p σ=>bh fz p.1 σ) ≠ _ at hc
  show wpAny _ _ _ (aT K VR ((evIt C x ρ σ).bind fun p σ=>bh fz p.1 σ) s α) (aS K A ((evIt C x ρ σ).bind fun p σ=>bh fz p.1 σ) s α) s
  refine wpAny_Call_Name_kw (dN c hg hbin rfl hN E.ok r ?_)
  rw [bD hp]
  exact PySem.callWith_type1 (wpAny_mono (H (fun q=>hc (by rw [q]; rfl)) tk) (fun _ _ q=>q.list (c.hd hhd) hc) fun _ _ q=>q.bind)
theorem xw {g:Str} {a:Expr} {p pos:Pos} {x:X} (c:Ctx K A T C) (S:SE K A C f) (hg:fB N g=true) (hb':g ∈ T.bins) (h:yT T N (f N) pos g a=some x):j2 K A C N (.Call (.Name g p) [a] [] pos) x:=by
  unfold yT at h
  refine fy h (fun y hls h'=>?_) fun _ h=>?_
  rotate_left
  · refine fy h (fun it hit h=>aF hit fun hl hit=>?_) fun _ h=>ez h fun b1 x1 hb1 hx1=>a9 (fun _ _=>rfl) (fun _ _=>rfl) fun hN hn E r=>ac8 c S hb1 hg hb' hx1 hN hn E r
    obtain rfl:=Option.some.inj h
    obtain rfl:=eq_of_beq hl
    exact a9 (fun _ _=>rfl) (fun _ _=>rfl) fun hN hn E r=>uI c S hg hb' hit hN hn E r
  unfold aa7 at hls
  clear h
  refine aP hls fun q hq hls1=>aF hls1 fun hcond hls2=>?_
  clear hls1 hls
  have hq:=xe hq
  obtain ⟨g2,p2,a2,pos2⟩:=q
  obtain rfl:=Option.some.inj hls2
  simp only [Bool.and_eq_true,beq_iff_eq,isB] at hcond
  obtain ⟨⟨h1,h2⟩,hg2,hb2⟩:=hcond
  subst h1 h2 hq
  exact b8 h' fun z hz=>a9 (fun _ _=>rfl) (fun _ _=>rfl) fun hN hn E r=>uJ c S hg hb' hg2 (by simpa using hb2) hz hN hn E r
theorem aej {vs:List PV} {P:Prop} (h:pi vs σ ≠ .stuck) (k:∀ i j:Int,vs=[.int i,.int j]->pi vs σ=.ok (.int (max i j)) σ->P):P:=by
  cases vs with
  | nil=>exact absurd rfl h
  | cons a l =>
    cases l with
    | nil=>exact absurd rfl h
    | cons b l =>
      cases l with
      | cons d l=>exact absurd rfl h
      | nil =>
        cases a with
        | int i =>
          cases b with
          | int j=>exact k i j rfl rfl
          | _=>exact absurd rfl h
        | _=>exact absurd rfl h
theorem xP {es:List Expr} {p pos:Pos} {xs:X} (c:Ctx K A T C) (S:SE K A C f) (hg:fB N "max" = true) (hbin:("max" : Str) ∈ T.bins) (h:dQ (f N) es=some xs)
    (hN:env.scope.names=N) (hn:aG K.hb env) (E:aj env ρ s.heap α) (r:R K.hb s.heap σ α):Runs K VR A (eval (.Call (.Name "max" p) es [] pos) env) (ev C (.max2 xs) ρ σ) s α:=by
  rw [aeG]
  cases hhd:C.hd with
  | true=>exact fun hc=>absurd rfl hc
  | false =>
  intro hc tk
  refine qM (F:=pi) c S hg hbin rfl (.inr ⟨_,rfl⟩) h hN hn E r hc tk fun vs σ₁ α₁ us s₁ e1 hc1 x1 r1 v1 m1 tk1=>?_
  refine aej hc1 fun i j hv e=>?_
  subst hv
  obtain ⟨x,us1,rfl,va,v1⟩:=v1.inv_cons
  obtain ⟨y,us2,rfl,vb,v1⟩:=v1.inv_cons
  obtain rfl:=List.eq_nil_of_length_eq_zero v1.1.symm
  obtain ⟨_,rfl⟩:=va.intE
  obtain ⟨_,rfl⟩:=vb.intE
  refine max_two_ints (c.hd hhd) fun h' tk k=>?_
  have fin:∀ {q:PV} {w:Value},q=.int (max i j)->VR h' α₁ q w->aT K VR ((evs C xs ρ σ).bind pi) s α w { s₁ with heap:=h',toks:=tk }:=fun {q w} eq v=>by
    rw [e1]
    exact ⟨q,σ₁,α₁,eq ▸ e,x1.trans (.keeps k),r1.keeps k,v,⟨m1.gens,m1.os⟩⟩
  split
  · rename_i h; exact fin (by congr 1; omega) (.int _ _)
  · rename_i h; exact fin (by congr 1; omega) (.int _ _)
theorem xu {g:Str} {a b:Expr} {p pos:Pos} {x:X} (c:Ctx K A T C) (S:SE K A C f) (hg:fB N g=true) (hb':g ∈ T.bins) (h:yR T N (f N) g a b=some x):j2 K A C N (.Call (.Name g p) [a,b] [] pos) x:=by
  unfold yR at h
  refine w9 h (fun hcond h=>?_) fun h=>w9 h (fun hcond h=>b8 h fun xs hx=>by
    obtain rfl:=eq_of_beq hcond
    exact a9 (fun _ _=>rfl) (fun _ _=>rfl) fun hN hn E r=>xP c S hg hb' hx hN hn E r) fun h=>aF h fun hcond h=>?_
  · obtain rfl:=eq_of_beq hcond
    refine aP h fun q hq h=>?_
    rw [eA hq]
    refine aF h fun hcond h=>?_
    obtain ⟨hgt,hbt⟩:=Bool.and_eq_true_iff.mp hcond
    exact ez h fun x1 ty hx1 hty=>a9 (fun _ _=>rfl) (fun _ _=>rfl) fun hN hn E r=>uK c S hty hg hb' hgt (by simpa using hbt) hx1 hN hn E r
  · obtain rfl:=eq_of_beq hcond
    exact ez h fun x1 y1 hx1 hy1=>a9 (fun _ _=>rfl) (fun _ _=>rfl) fun hN hn E r=>xN c S hg hb' hx1 hy1 hN hn E r
theorem vI {g:Str} {args:List Expr} {p pos:Pos} {x:X} (c:Ctx K A T C) (S:SE K A C f) (h:vJ T N (f N) pos g args=some x):j2 K A C N (.Call (.Name g p) args [] pos) x:=by
  unfold vJ at h
  refine aF h fun hg h=>fy h (fun i hi h=>aF h fun hne h=>b8 h fun xs hq=>a9 (fun _ _=>rfl) (fun _ _=>rfl) fun hN hn E r=>?_) fun _ h=>fy h (fun y hy h=>by obtain rfl:=Option.some.inj h; exact xy c S hg hy) fun _ h=>aF h fun hb h=>?_
  · have hi':T.fns[i]?=some g:=by
      obtain ⟨h1,h2,_⟩:=List.findIdx?_eq_some_iff_getElem.mp hi
      rw [List.getElem?_eq_getElem h1,eq_of_beq h2]
    exact xd c S hi' hg (fun q=>by subst q; contradiction) hq hN hn E r
  · have hb':g ∈ T.bins:=by simpa using hb
    cases args with
    | nil=>contradiction
    | cons a r =>
      cases r with
      | nil=>exact xw c S hg hb' h
      | cons b r =>
        change aE _ _=_ at h
        refine aF h fun h0 h=>?_
        rw [List.isEmpty_iff.mp h0]
        exact xu c S hg hb' h
theorem vF {o:Expr} {m:Str} {args:List Expr} {apos pos:Pos} {x:X} (c:Ctx K A T C) (S:SE K A C f) (hl:(apos.endLine == pos.line)=true) (h:vG T (f N) o m args=some x):j2 K A C N (.Call (.Attribute o m apos) args [] pos) x:=by
  unfold vG at h
  refine aF h fun hnc h=>?_
  · refine w9 h (fun hm h=>aP h fun q hb h=>aP h fun j hj h=>aF h fun hlen h=>ez h fun ox xs h1 h2=>a9 (fun _ _=>rfl) (fun _ _=>rfl) fun hN hn E r=>?_) fun h=>?_
    · have hj':T.meths[j]?=some m:=by
        obtain ⟨g1,g2,_⟩:=List.findIdx?_eq_some_iff_getElem.mp hj
        rw [List.getElem?_eq_getElem g1,eq_of_beq g2]
      exact xO (b:=q.1) c S hb hj' hnc hl (of_decide_eq_true hlen) h1 h2 hN hn E r
    cases args with
    | nil=>contradiction
    | cons a r =>
      cases r with
      | nil=>exact kU h fun mm ox ax h0 h1 h2=>a9 (fun _ _=>rfl) (fun _ _=>rfl) fun hN hn E r=>aa0 c S h0 hl hnc h1 h2 hN hn E r
      | cons b r =>
        contradiction
theorem zU {e:Expr} {q:Option Expr × Option Expr × Option Expr × Pos} (h:yD e=some q):e=.Slice q.1 q.2.1 q.2.2.1 q.2.2.2:=by
  cases e with
  | Slice lo hi st p=>obtain rfl:=Option.some.inj h; rfl
  | _=>contradiction
theorem vz {o i:Expr} {pos:Pos} {x:X} (c:Ctx K A T C) (S:SE K A C f) (h:vA (f N) o i=some x):j2 K A C N (.Subscript o i pos) x:=by
  unfold vA at h
  refine fy h (fun q hi h=>?_) fun hi h=>ez h fun a b h1 h2=>a9 (fun _ _=>rfl) (fun _ _=>rfl) fun hN hn E r=>y0 c S (fun l u st p q=>by subst q; contradiction) h1 h2 hN hn E r
  have hi:=zU hi
  obtain ⟨lo,hi,st,p⟩:=q
  subst hi
  cases st with
  | none=>exact kU h fun ox lx hx h1 h2 h3=>a9 (fun _ _=>rfl) (fun _ _=>rfl) fun hN hn E r=>vQ S h1 h2 h3 hN hn E r
  | some st=>contradiction
theorem ra {elt:Expr} {gens:List Comprehension} {scope:Scope} {pos:Pos} {x:X} (h:lg T N f elt gens scope pos=some x):∃ z p iter ifs,gens=[⟨.Name z p,iter,ifs,0⟩]/\rb T N f elt z iter ifs scope pos=some x:=by
  unfold lg at h
  refine aP h fun g hg h=>aF h fun ha h=>aP h fun q hq h=>?_
  obtain ⟨tg,iter,ifs,asy⟩:=g
  obtain rfl:=eA hq
  obtain rfl:=eq_of_beq ha
  exact ⟨q.1,q.2,iter,ifs,v8 hg,h⟩
theorem uD {elt:Expr} {gens:List Comprehension} {scope:Scope} {pos:Pos} {x:X} (c:Ctx K A T C) (S:SE K A C f) (h:lg T N f elt gens scope pos=some x):j2 K A C N (.ListComp elt gens scope pos) x:=by
  obtain ⟨z,p,iter,ifs,rfl,h⟩:=ra h
  exact tI h fun t e cc i q=>a9 (fun _ _=>rfl) (fun _ _=>rfl) fun hN hn E r=>pT c S q hN hn E r
theorem vB (c:Ctx K A T C) (S:SE K A C f):SE K A C (aad T f):=by
  intro N e x h
  cases e with
  | Constant cc _ _=>exact ⟨rfl,b8 h fun v hq=>a9 (fun _ _=>rfl) (fun _ _=>rfl) fun _ _ _ r=>xW hq r⟩
  | Name z p=>exact ⟨rfl,vD c h⟩
  | BoolOp o es pos =>
    cases o with
    | And=>exact ⟨rfl,b8 h fun v hq env ρ σ s α hN hn E r=>abL S hq hN hn E r⟩
    | Or=>exact ⟨rfl,b8 h fun v hq env ρ σ s α hN hn E r=>aco S hq hN hn E r⟩
  | UnaryOp o a pos =>
    cases o with
    | Not=>exact ⟨rfl,b8 h fun v hq env ρ σ s α hN hn E r=>zn S hq hN hn E r⟩
    | USub=>exact ⟨rfl,b8 h fun v hq=>a9 (fun _ _=>rfl) (fun _ _=>rfl) fun hN hn E r=>zp S hq hN hn E r⟩
    | _=>contradiction
  | BinOp l o r' pos=>exact ⟨rfl,kU h fun _ _ _ ho ha hb=>a9 (fun _ _=>rfl) (fun _ _=>rfl) fun hN hn E r=>zS c S ho ha hb hN hn E r⟩
  | Compare l os rs pos=>exact ⟨rfl,xB c S h⟩
  | List es pos=>exact ⟨rfl,b8 h fun v hq=>a9 (fun _ _=>rfl) (fun _ _=>rfl) fun hN hn E r=>xQ S hq hN hn E r⟩
  | Tuple es k pos=>exact ⟨rfl,b8 h fun v hq=>a9 (fun _ _=>rfl) (fun _ _=>rfl) fun hN hn E r=>yP S hq hN hn E r⟩
  | Call fn args kws pos =>
    refine ⟨rfl,?_⟩
    change aE _ _=_ at h
    refine aF h fun hk h=>?_
    rw [List.isEmpty_iff.mp hk]
    cases fn with
    | Name g p=>exact vI c S h
    | Attribute o m apos =>
      change aE _ _=_ at h
      exact aF h fun hl h=>vF c S hl h
    | _=>contradiction
  | Attribute o n pos =>
    refine ⟨rfl,aP h fun q hb h=>aF h fun hc h=>b8 h fun ox h1=>?_⟩
    obtain ⟨hc1,hc2⟩:=Bool.and_eq_true_iff.mp hc
    exact a9 (fun _ _=>rfl) (fun _ _=>rfl) fun hN hn E r=>ya (b:=q.1) c S hb hc1 (List.contains_iff_mem.mp hc2) h1 hN hn E r
  | Subscript o i pos=>exact ⟨rfl,vz c S h⟩
  | Dict ks vs pos =>
    change aE _ _=_ at h
    refine ⟨rfl,aF h fun hc h=>?_⟩
    obtain ⟨h1,h2⟩:=Bool.and_eq_true_iff.mp hc
    rw [List.isEmpty_iff.mp h1,List.isEmpty_iff.mp h2]
    obtain rfl:=Option.some.inj h
    exact a9 (fun _ _=>rfl) (fun _ _=>rfl) fun _ _ _ r=>xV r
  | ListComp elt gens scope pos=>exact ⟨rfl,uD c S h⟩
  | _=>contradiction
theorem tH (c:Ctx K A T C):∀ n,SE K A C (yf T n)
  | 0=>fun N e x h=>by contradiction
  | n + 1=>vB c (tH c n)
end
end Mine
namespace Mine
open PySem PyProof.Rows
section
variable {K:Kt} {A:Around} {s:Shared} {α:AL} {σ:ab}
end
noncomputable def eE (env:Env):List Addr:=env.locals::env.cells.map (·.2)
theorem bX {env:Env} {ρ:au} {h:Heap} {α:AL} (E:aj env ρ h α) (hd:∀ p ∈ env.cells,env.cells.lookup p.1=some p.2):∀ b ∈ eE env,∃ o,h.get? b=some o:=by
  intro b hb
  rcases List.mem_cons.mp hb with q | q
  · subst q
    obtain ⟨m,⟨o,_,_,e,_⟩,_⟩:=E.ns
    exact ⟨o,e⟩
  · obtain ⟨p,hp,rfl⟩:=List.mem_map.mp q
    obtain ⟨_,_,v,o,e,_⟩:=E.ca p.1 p.2 (hd p hp)
    exact ⟨o,e⟩
structure cF (hb:Bs) (env:Env):Prop where
  sc:adb env.scope.names
  new:aG hb env
  cl:∀ p ∈ env.cells,env.cells.lookup p.1=some p.2
  inter:interactive env=false
noncomputable def afS (c:bz) (h:Heap) (α:AL) (fl:Flow) (ρ:au) (σ:ab):Prop:=
  match c with
  | .next ρ' σ'=>fl=.next/\ρ'=ρ/\σ'=σ
  | .brk ρ' σ'=>fl=.brk/\ρ'=ρ/\σ'=σ
  | .cont ρ' σ'=>fl=.cont/\ρ'=ρ/\σ'=σ
  | .ret v ρ' σ'=>(∃ u,fl=.ret u/\VR h α v u)/\ρ'=ρ/\σ'=σ
  | _=>False
inductive ek (K:Kt) (env:Env) (c:bz) (s:Shared) (α:AL) (fl:Flow) (s':Shared):Prop where
  | mk (ρ':au) (σ':ab) (α':AL) (x:aB (eE env) α s.heap α' s'.heap) (r:R K.hb s'.heap σ' α') (er:aj env ρ' s'.heap α') (m:Sm s s') (fo:afS c s'.heap α' fl ρ' σ'):ek K env c s α fl s'
inductive eN (K:Kt) (_A:Around) (env:Env) (c:bz) (s:Shared) (α:AL) (e:Value) (s':Shared):Prop where
  | mk (i:Nat) (ρ:au) (σ':ab) (s₁:Shared) (α₁:AL) (nt:Bool) (h:c=.exc i ρ σ') (x:aB (eE env) α s.heap α₁ s₁.heap) (er:aj env ρ s₁.heap α₁) (m:Sm s s₁) (fx:FX K s₁ α₁ i σ' nt e s'):eN K _A env c s α e s'
noncomputable def dw (K:Kt) (env:Env) (A:Around) (t:Sem Flow) (c:bz) (s:Shared) (α:AL):Prop:=
  c ≠ .stuck->K.Tk s->wpAny (model K.prog K.w) A t (ek K env c s α) (eN K A env c s α) s
section
variable {K:Kt} {A:Around} {T:aV} {C:bc} {N:List (Str × NameKind)} {env:Env} {ρ:au} {σ:ab} {s:Shared} {α:AL}
theorem ek.lift {c:bz} {s₁:Shared} {α₁:AL} {fl:Flow} {s':Shared} (x:aB (eE env) α s.heap α₁ s₁.heap) (m:Sm s s₁) (p:ek K env c s₁ α₁ fl s'):ek K env c s α fl s':=by
  obtain ⟨ρ',σ',α',x',r,E,m',fo⟩:=p
  exact ⟨ρ',σ',α',x.trans x',r,E,m.trans m',fo⟩
theorem eN.lift {c:bz} {s₁:Shared} {α₁:AL} {e:Value} {s':Shared} (x:aB (eE env) α s.heap α₁ s₁.heap) (m:Sm s s₁) (p:eN K A env c s₁ α₁ e s'):eN K A env c s α e s':=by
  obtain ⟨i,ρ,σ',ay,aJ,nt,h,x',E,m',fx⟩:=p
  exact ⟨i,ρ,σ',ay,aJ,nt,h,x.trans x',E,m.trans m',fx⟩
theorem aS.toS {β:Type} {c:ae β} {f:β->ab->bz} {e:Value} {s':Shared} (E:aj env ρ s.heap α) (p:aS K A c s α e s'):eN K A env (c.toS ρ f) s α e s':=by
  obtain ⟨i,σ',h,nt,fx⟩:=p
  exact ⟨i,ρ,σ',s,α,nt,by rw [h]; rfl,.refl,E,.refl s,fx⟩
theorem dq (F:cF K.hb env) (E:aj env ρ s.heap α) {α':AL} {h':Heap} (x:aB [] α s.heap α' h'):aB (eE env) α s.heap α' h':=
  x.mono (by simp) (bX E F.cl)
theorem Runs.useS {β γ:Type} {Rel:Heap->AL->β->γ->Prop} {t:Sem γ} {c:ae β} {f:β->ab->bz} {W:γ->Shared->Prop} (E:aj env ρ s.heap α) (H:Runs K Rel A t c s α) (hc:c.toS ρ f ≠ .stuck) (tk:K.Tk s)
    (N:∀ b σ' α' y s',c=.ok b σ'->f b σ' ≠ .stuck->aB [] α s.heap α' s'.heap->R K.hb s'.heap σ' α'->Rel s'.heap α' b y->Sm s s'->K.Tk s'->W y s'):wpAny (model K.prog K.w) A t W (eN K A env (c.toS ρ f) s α) s:=by
  have h1:c ≠ .stuck:=by rintro rfl; exact hc rfl
  refine wpAny_mono (b4 (H h1 tk)) (fun y s' hp=>?_) fun e s' hx=>hx.1.toS E
  obtain ⟨⟨b,σ',α',rfl,x,r,v,m⟩,tl⟩:=hp
  exact N b σ' α' y s' rfl hc x r v m (Kt.Tk.up tk tl)
theorem iK {i:Nat} {x:Str} {k:NameKind} {v:PV} {u:Value} {Q:Unit->Shared->Prop} {X:Value->Shared->Prop} (F:cF K.hb env) (r:R K.hb s.heap σ α) (E:aj env ρ s.heap α)
    (hn:env.scope.names[i]?=some (x,k)) (hk:k=.local\/k=.cell) (vu:VR s.heap α v u)
    (hQ:∀ s',R K.hb s'.heap σ α->aj env (ρ.set i (some v)) s'.heap α->aB (eE env) α s.heap α s'.heap->Sm s s'->Q () s') :
    wpAny (model K.prog K.w) A (storeName env x u) Q X s:=by
  rcases hk with rfl | rfl
  · refine pF F.sc.uniq r E F.new.l hn vu fun s' r' E' x' _ m'=>hQ s' r' E' (x'.mono (by simp [eE]) (bX E F.cl)) m'
  · refine y7 F.sc.uniq r E F.new hn vu fun c s' hc r' E' x' m'=>hQ s' r' E' (x'.mono ?_ (bX E F.cl)) m'
    intro b hb
    simp at hb; subst hb
    exact List.mem_cons_of_mem _ (List.mem_map.mpr ⟨_,mem_of_lookup hc,rfl⟩)
theorem iA {e:Expr} {t:Option Expr} {line:Nat} (h:gF e=false):swapsWith e t line env=pure false:=by
  cases e <;> first | rfl | contradiction
theorem abI {x:Str} {p pos:Pos} {e:Expr} {i:Nat} {k:NameKind} {y:X} (F:cF K.hb env) (hcp:gF e=false) (hn:env.scope.names[i]?=some (x,k)) (hk:k=.local\/k=.cell)
    (H:Runs K VR A (eval e env) (ev C y ρ σ) s α) (E:aj env ρ s.heap α) {n:Nat} :
    dw K env A (exec (.Assign [.Name x p] e pos) env) (ex C n (.asg i y) ρ σ) s α:=by
  change dw K env A _ ((ev C y ρ σ).toS ρ fun v σ=>.next (ρ.set i (some v)) σ) s α
  intro hc tk
  refine wpAny_Assign_Name (Runs.useS E H hc tk fun v σ₁ α₁ u s₁ e1 hc1 x1 r1 v1 m1 tk1=>?_) (iA hcp)
  refine iK F r1 (E.ext x1 .nil) hn hk v1 fun ay r2 E2 x2 m2=>?_
  rw [e1]
  exact ⟨_,_,_,(dq F E x1).trans x2,r2,E2,m1.trans m2,rfl,rfl,rfl⟩
theorem zK {e:Expr} {pos:Pos} {y:X} (F:cF K.hb env) (hcp:gF e=false)
    (H:Runs K VR A (eval e env) (ev C y ρ σ) s α) (E:aj env ρ s.heap α) {n:Nat} :
    dw K env A (exec (.Expr e pos) env) (ex C n (.expr y) ρ σ) s α:=by
  change dw K env A _ ((ev C y ρ σ).toS ρ fun _ σ=>.next ρ σ) s α
  intro hc tk
  refine wpAny_Expr_any (Runs.useS E H hc tk fun v σ₁ α₁ u s₁ e1 hc1 x1 r1 v1 m1 tk1=>?_) F.inter (iA hcp)
  rw [e1]
  exact ⟨ρ,σ₁,α₁,dq F E x1,r1,E.ext x1 .nil,m1,rfl,rfl,rfl⟩
theorem aaA {e:Expr} {pos:Pos} {y:X} (F:cF K.hb env)
    (H:Runs K VR A (eval e env) (ev C y ρ σ) s α) (E:aj env ρ s.heap α) {n:Nat} :
    dw K env A (exec (.Return (some e) pos) env) (ex C n (.ret y) ρ σ) s α:=by
  change dw K env A _ ((ev C y ρ σ).toS ρ fun v σ=>.ret v ρ σ) s α
  intro hc tk
  refine wpAny_Return_some (Runs.useS E H hc tk fun v σ₁ α₁ u s₁ e1 hc1 x1 r1 v1 m1 tk1=>?_)
  rw [e1]
  exact ⟨ρ,σ₁,α₁,dq F E x1,r1,E.ext x1 .nil,m1,⟨u,rfl,v1⟩,rfl,rfl⟩
theorem xE {q:Nat} {l:Addr} {es:List ((Str × Int) × PV)} {p v:PV} {k:Str × Int} {x u:Value} {Q:Unit->Shared->Prop} {X:Value->Shared->Prop} (hA:de A) (r:R K.hb s.heap σ α) (hs:σ[q]?=some (.dp es)) (el:α.ix[q]?=some l)
    (hk:fh p=some k) (vp:VR s.heap α p x) (vv:VR s.heap α v u) (hl:es.length < ao)
    (hQ:∀ s',R K.hb s'.heap (σ.set q (.dp (bL k v es))) α->aB [] α s.heap α s'.heap->Sm s s'->Q () s'):wpAny (model K.prog K.w) A (setItem (.ref l) x u) Q X s:=by
  obtain ⟨xs,h1,h2,h3,h4⟩:=pw r hs el
  obtain ⟨b,rfl,hb,hbn⟩:=rI (K:=K) hk vp
  have hlen:xs.length <= sizeLine:=by
    have e:=congrArg List.length h2
    simp only [List.length_map,kvsOf] at e
    rw [e]
    exact b6 (Nat.le_of_lt hl)
  refine wpAny_setItem_heap (hsz:=hlen) (ro hA) hb h1 fun h' hd' sb=>?_
  obtain ⟨o',es',ep',e',_⟩:=id hd'
  have hkv:=xh mB (k:=k) h2 h4 vv
  obtain ⟨r',x'⟩:=r.set (m:=.dp (bL k v es)) el (fun b o hb e=>(sb.2 b hb).trans e) e' fun x'=>⟨storedH xs (kX k) b u,hd',by
      have:=hkv.1
      rw [<- kvsOf_storedH,kvsOf,List.map_map] at this
      exact this,fun y hy=>by
      rcases mem_storedH hy with ⟨z,hz,_,e2⟩ | ⟨_,e2⟩
      · rw [e2]; exact h3 z hz
      · rw [e2]; exact hbn,by
      have:=hkv.2
      rw [<- kvsOf_storedH,kvsOf,List.map_map] at this
      exact this.ext x'⟩
  exact hQ _ r' x' ⟨rfl,rfl⟩
theorem xD {q:Nat} {l:Addr} {es:List (Str × PV)} {v:PV} {k:Str} {t:Tok} {u:Value} {Q:Unit->Shared->Prop} {X:Value->Shared->Prop} (r:R K.hb s.heap σ α) (hs:σ[q]?=some (.ds es)) (el:α.ix[q]?=some l)
    (vv:VR s.heap α v u) (hl:es.length < ao)
    (hQ:∀ s',R K.hb s'.heap (σ.set q (.ds (bL k v es))) α->aB [] α s.heap α s'.heap->Sm s s'->Q () s'):wpAny (model K.prog K.w) A (setItem (.ref l) (.str k t) u) Q X s:=by
  obtain ⟨kvs,h1,h2,h4⟩:=pt r hs el
  have hlen:kvs.length <= sizeLine:=by
    have e:=congrArg List.length h2
    simp only [List.length_map] at e
    rw [e]
    exact b6 (Nat.le_of_lt hl)
  refine wpAny_setItem_pairs (hsz:=hlen) nE h1 fun h' hd' sb=>?_
  obtain ⟨o',es',ep',e',_⟩:=id hd'
  have hkv:=xh (g:=id) (fun _ _ h=>h) (k:=k) h2 h4 vv
  obtain ⟨r',x'⟩:=r.set (m:=.ds (bL k v es)) el (fun b o hb e=>(sb.2 b hb).trans e) e' fun x'=>⟨stored kvs k u,hd',hkv.1,hkv.2.ext x'⟩
  exact hQ _ r' x' ⟨rfl,rfl⟩
theorem vN {q:Nat} {l:Addr} {m m':MO} {i v:PV} {x u:Value} {Q:Unit->Shared->Prop} {X:Value->Shared->Prop} (hA:de A) (r:R K.hb s.heap σ α) (hs:σ[q]?=some m) (el:α.ix[q]?=some l)
    (h:li m i v=some m') (vi:VR s.heap α i x) (vv:VR s.heap α v u)
    (hQ:∀ s',R K.hb s'.heap (σ.set q m') α->aB [] α s.heap α s'.heap->Sm s s'->Q () s'):wpAny (model K.prog K.w) A (setItem (.ref l) x u) Q X s:=by
  cases m with
  | ds es =>
    cases i with
    | str k =>
      refine zD h fun hl h=>?_
      obtain rfl:=Option.some.inj h
      obtain ⟨_,rfl,_⟩:=vi.strE
      exact xD r hs el vv hl hQ
    | _=>contradiction
  | dp es =>
    refine aP h fun k hk h=>zD h fun hl h=>?_
    obtain rfl:=Option.some.inj h
    exact xE hA r hs el hk vi vv hl hQ
  | _=>contradiction
theorem y9 {o i v:PV} {P:Prop} (h:bN o i v ρ σ ≠ .stuck) (k:∀ q m m',o=.ref q->σ[q]?=some m->li m i v=some m'->bN o i v ρ σ=.next ρ (σ.set q m')->P):P:=by
  cases o with
  | ref q =>
    cases hm:(σ[q]?).bind fun m=>li m i v with
    | none=>exact absurd (by unfold bN; dsimp only; rw [hm]) h
    | some m'=>exact aP hm fun m h1 h2=>k q m m' rfl h1 h2 (by unfold bN; dsimp only; rw [hm])
  | _=>exact absurd rfl h
theorem xg {o i v:Expr} {p pos:Pos} {x y z:X} (hA:de A) (F:cF K.hb env) (hcp:gF v=false) {n:Nat}
    (H1:∀ {σ s α},aj env ρ s.heap α->R K.hb s.heap σ α->Runs K VR A (eval v env) (ev C z ρ σ) s α)
    (H2:∀ {σ s α},aj env ρ s.heap α->R K.hb s.heap σ α->Runs K VR A (eval o env) (ev C x ρ σ) s α)
    (H3:∀ {σ s α},aj env ρ s.heap α->R K.hb s.heap σ α->Runs K VR A (eval i env) (ev C y ρ σ) s α) (E:aj env ρ s.heap α) (r:R K.hb s.heap σ α) :
    dw K env A (exec (.Assign [.Subscript o i p] v pos) env) (ex C n (.asgSub x y z) ρ σ) s α:=by
  change dw K env A _ ((ev C z ρ σ).toS ρ fun v σ=>(ev C x ρ σ).toS ρ fun o σ=>(ev C y ρ σ).toS ρ fun i σ=>bN o i v ρ σ) s α
  intro hc tk
  refine wpAny_Assign_Subscript (Runs.useS E (H1 E r) hc tk fun vv σ₁ α₁ u s₁ e1 hc1 x1 r1 v1 m1 tk1=>?_) (iA hcp)
  rw [e1]
  have E1:=E.ext x1 .nil
  refine wpAny_mono (Runs.useS (env:=env) (s:=s₁) (α:=α₁) E1 (H2 E1 r1) hc1 tk1 fun vo σ₂ aJ uo ay e2 hc2 x2 r2 v2 m2 tk2=>?_) (fun _ _ q=>q) (fun _ _ q=>eN.lift (dq F E x1) m1 q)
  have E2:=E1.ext x2 .nil
  refine wpAny_mono (Runs.useS (env:=env) (s:=ay) (α:=aJ) E2 (H3 E2 r2) hc2 tk2 fun vi σ₃ mj ui bS e3 hc3 x3 r3 v3 m3 tk3=>?_) (fun _ _ q=>q) (fun _ _ q=>by
    show eN K A env ((ev C x ρ σ₁).toS ρ _) s α _ _
    rw [e2]; exact eN.lift (dq F E (x1.trans x2)) (m1.trans m2) q)
  show wpAny (model K.prog K.w) A (setItem uo ui u) _ _ bS
  refine y9 hc3 fun q m m' ho hs hm he=>?_
  subst ho
  obtain ⟨l,rfl,el⟩:=v2.refE
  refine vN hA r3 hs (x3.get el) hm v3 ((v1.ext x2).ext x3) fun s' r' x' m'=>?_
  show ek K env ((ev C x ρ σ₁).toS ρ _) _ _ _ _
  rw [e2]
  show ek K env ((ev C y ρ σ₂).toS ρ _) _ _ _ _
  rw [e3]
  show ek K env (bN (.ref q) vi vv ρ σ₃) _ _ _ _
  rw [he]
  exact ⟨ρ,_,mj,dq F E (((x1.trans x2).trans x3).trans x'),r',(E2.ext x3 .nil).ext x' .nil,((m1.trans m2).trans m3).trans m',rfl,rfl,rfl⟩
end
end Mine
namespace Mine
open PySem PyProof.Rows
theorem aba {q:Prop} {_:Decidable q} {a b:bz} (h:(if q then a else .stuck)=b) (hb:b ≠ .stuck):q/\a=b:=by
  by_cases hq:q
  · rw [if_pos hq] at h; exact ⟨hq,h⟩
  · rw [if_neg hq] at h; exact absurd h.symm hb
section
variable {K:Kt} {A:Around} {T:aV} {C:bc} {N:List (Str × NameKind)} {env:Env} {ρ:au} {σ:ab} {s:Shared} {α:AL}
theorem abt {own:List Addr} {h:Heap} (E:aj env ρ h α) (F:cF K.hb env) (ho:∀ b ∈ own,h.get? b=none):mO env own/\∀ b ∈ own,b ∉ eE env:=by
  have al:=bX E F.cl
  refine ⟨⟨fun q=>?_,fun x c hc q=>?_⟩,fun b hb q=>?_⟩
  · obtain ⟨o,e⟩:=al env.locals List.mem_cons_self
    rw [ho _ q] at e; contradiction
  · obtain ⟨_,_,v,o,e,_⟩:=E.ca x c hc
    rw [ho _ q] at e; contradiction
  · obtain ⟨o,e⟩:=al b q
    rw [ho _ hb] at e; contradiction
noncomputable def zY (K:Kt) (A:Around) (en:Bool) (env:Env) (target:Expr) (bind:PV->au->Option au):Prop:=
  ((en=false/\∀ it v,letOwnedTupleGo target it v=pure ())\/∃ elts k pos,target=.Tuple elts k pos)/\∀ (s:Shared) (σ:ab) (α:AL) (ρ ρ':au) (p:PV) (u:Value),bind p ρ=some ρ'->aj env ρ s.heap α->R K.hb s.heap σ α->VR s.heap α p u ->
    ∀ (Q:Unit->Shared->Prop) (X:Value->Shared->Prop),(∀ s',R K.hb s'.heap σ α->aj env ρ' s'.heap α->aB (eE env) α s.heap α s'.heap->Sm s s'->Q () s')->wpAny (model K.prog K.w) A (assign target env u) Q X s
theorem ab0 {i:Nat} {x:Str} {k:NameKind} {p:Pos} (F:cF K.hb env) (hn:env.scope.names[i]?=some (x,k)) (hk:k=.local\/k=.cell):zY K A false env (.Name x p) (bq i):=
  ⟨.inl ⟨rfl,fun _ _=>rfl⟩,fun s σ α ρ ρ' pv u hb E r v Q X hQ=>by
    obtain rfl:=Option.some.inj hb
    exact wpAny_assign_Name (iK F r E hn hk v hQ)⟩
inductive abS (K:Kt) (env:Env) (s:Shared) (xs:List PV) (Ex:AL->Heap->Prop) (St:Nat->Heap->AL->Prop) (go:List PV->au->ab->bz) (c:bz) (k:Nat) (s₁:Shared):Prop
  | mk (i:Nat) (σ₁:ab) (α₁:AL) (ρ₁:au) (hk:k=xs.length - i) (hi:i <= xs.length) (x:Ex α₁ s₁.heap) (r:R K.hb s₁.heap σ₁ α₁) (st:St i s₁.heap α₁) (E:aj env ρ₁ s₁.heap α₁) (m:Sm s s₁) (hgo:go (xs.drop i) ρ₁ σ₁=c) (tk:K.Tk s₁):abS K env s xs Ex St go c k s₁
theorem ua {target it:Expr} {body:List Stmt} {pos:Pos} {bind:PV->au->Option au} {ix:X} {b:S} {n:Nat} {c:bz} {en:Bool} (F:cF K.hb env) (tg:zY K A en env target bind) (hpl:dA it=true)
    (hit:fI K A en (eval it env) (evIt C ix ρ σ) s α) (hb:∀ {ρ σ s α},aj env ρ s.heap α->R K.hb s.heap σ α->dw K env A (execs body env) (ex C n b ρ σ) s α) (E:aj env ρ s.heap α)
    (hcc:c=(evIt C ix ρ σ).toS ρ fun p σ=>aZ p.2 bind (fun ρ σ=>ex C n b ρ σ) p.1 ρ σ) :
    dw K env A (exec (.For target it body [] pos) env) c s α:=by
  subst hcc
  intro hc tk
  have hci:evIt C ix ρ σ ≠ .stuck:=by intro q; rw [q] at hc; exact hc rfl
  refine wpAny_For (wpAny_mono (b4 (hit hci tk)) (fun xv s₁ bj=>wpAny_mono (b4 bj.1) (fun mR ay fj=>?_) fun _ _ q=>q.1.toS E) fun _ _ q=>q.1.toS E) (jA hpl)
  have j5:K.Tk ay:=Kt.Tk.up tk (Nat.le_trans bj.2 fj.2)
  obtain ⟨xs,w,σ₂,aJ,own,St,hci2,cO,bA,fR,I,st,ho⟩:=fj.1
  obtain ⟨ap,apF⟩:=abt E F fun b hb=>(ho b hb).1
  rw [hci2] at hc ⊢
  generalize hcq:(ae.ok (xs,w) σ₂).toS ρ (fun p σ=>aZ p.2 bind (fun ρ σ=>ex C n b ρ σ) p.1 ρ σ)=c at hc ⊢
  have hgo:aZ w bind (fun ρ σ=>ex C n b ρ σ) xs ρ σ₂=c:=hcq
  have iw:=E.ext cO .nil
  have al2:∀ b ∈ own++eE env,∃ o,ay.heap.get? b=some o:=fun b hb=>by
    rcases List.mem_append.mp hb with q | q
    · exact I.live _ _ _ st b q
    · exact bX iw F.cl b q
  refine codeAny_forLoop_any (abS K env s xs (aB (own++eE env) aJ ay.heap) St (aZ w bind fun ρ σ=>ex C n b ρ σ) c) (fun k s₁ inv=>?_) _ ⟨0,σ₂,aJ,ρ,rfl,Nat.zero_le _,.refl,bA,st,iw,fR,by simpa using hgo,j5⟩
  obtain ⟨i,σ₁,α₁,ρ₁,rfl,hi,kN,iT,y6,f7,ie,bB,gy⟩:=inv
  have al1:∀ b ∈ own++eE env,∃ o,s₁.heap.get? b=some o:=fun b hb=>by
    rcases List.mem_append.mp hb with q | q
    · exact I.live _ _ _ y6 b q
    · exact bX f7 F.cl b q
  by_cases hlt:i < xs.length
  · have hdrop:xs.drop i=xs[i]::xs.drop (i + 1):=List.drop_eq_getElem_cons hlt
    rw [hdrop] at bB
    obtain ⟨hw,bB⟩:=aba bB hc
    cases hbi:bind xs[i] ρ₁ with
    | none=>rw [hbi] at bB; exact absurd bB.symm hc
    | some ρ1 =>
    rw [hbi] at bB
    change nQ _ (ex C n b ρ1 σ₁)=c at bB
    have hf1:ex C n b ρ1 σ₁ ≠ .stuck:=by intro q; rw [q] at bB; exact hc bB.symm
    refine f8 gy (I.item i s₁ σ₁ α₁ xs[i] (by simp [hlt]) y6 iT hw _ _ fun v bS vr jc ow xo fQ jC iz=>?_)
    have go:∀ {Q:Unit->Shared->Prop} {E:Value->Shared->Prop},(∀ s',VR s'.heap α₁ xs[i] v->St (i + 1) s'.heap α₁->aB own α₁ s₁.heap α₁ s'.heap->R K.hb s'.heap σ₁ α₁->Sm s₁ s'->K.Tk s'->Q () s')->wpAny (model K.prog K.w) A (letOwnedTupleGo target mR v) Q E bS:=fun h=>by
      rcases tg.1 with ⟨he,hgo⟩ | ⟨elts,k,pos,rfl⟩
      · exact wpAny_of_eq (hgo mR v) (h bS vr (jc he) xo fQ jC iz)
      · exact f8 iz (ow elts k pos _ _ fun s' ⟨a,b,c,d,e⟩ tk'=>h s' a b (xo.trans c) d (jC.trans e) tk')
    refine go fun bS vr jc xo fQ jC iz=>?_
    have iu:=f7.ext xo ap
    refine f8 iz (tg.2 bS σ₁ α₁ ρ₁ ρ1 xs[i] v hbi iu fQ vr _ _ fun kR vU oX x4 zt o7=>?_)
    have rg:=I.frame _ _ _ _ _ _ jc x4 apF
    have al3:∀ b ∈ own++eE env,∃ o,bS.heap.get? b=some o:=fun b hb=>by
      rcases List.mem_append.mp hb with q | q
      · exact I.live _ _ _ jc b q
      · exact bX iu F.cl b q
    have al4:∀ b ∈ own++eE env,∃ o,kR.heap.get? b=some o:=fun b hb=>by
      rcases List.mem_append.mp hb with q | q
      · exact I.live _ _ _ rg b q
      · exact bX oX F.cl b q
    have yK:aB (own++eE env) aJ ay.heap α₁ kR.heap:=(kN.trans (xo.mono (fun b hb=>List.mem_append_left _ hb) al1)).trans (x4.mono (fun b hb=>List.mem_append_right _ hb) al3)
    refine wpAny_mono (b4 (hb oX vU hf1 o7)) (fun fl sG hp=>?_) fun e sG hx=>?_
    · obtain ⟨⟨ag0,uU,j3,x5,sJ,tE,acw,fo⟩,yX⟩:=hp
      have u5:=Kt.Tk.up o7 yX
      have u6:=I.frame _ _ _ _ _ _ rg x5 apF
      have vq:=yK.trans (x5.mono (fun b hb=>List.mem_append_right _ hb) al4)
      have mm:=((ie.trans jC).trans zt).trans acw
      have out:aB (eE env) α s.heap j3 sG.heap:=aB.drop cO (fun b hb=>(ho b hb).1) (bX E F.cl) vq
      cases hq:ex C n b ρ1 σ₁ with
      | next ρ' σ' =>
        rw [hq] at fo bB
        obtain ⟨rfl,rfl,rfl⟩:=fo
        exact ⟨xs.length - (i + 1),Nat.sub_succ_lt_self _ _ hlt,i + 1,_,_,_,rfl,hlt,vq,sJ,u6,tE,mm,bB,u5⟩
      | cont ρ' σ' =>
        rw [hq] at fo bB
        obtain ⟨rfl,rfl,rfl⟩:=fo
        exact ⟨xs.length - (i + 1),Nat.sub_succ_lt_self _ _ hlt,i + 1,_,_,_,rfl,hlt,vq,sJ,u6,tE,mm,bB,u5⟩
      | brk ρ' σ' =>
        rw [hq] at fo bB
        obtain ⟨rfl,rfl,rfl⟩:=fo
        subst bB
        exact ⟨_,_,_,out,sJ,tE,mm,rfl,rfl,rfl⟩
      | ret v ρ' σ' =>
        rw [hq] at fo bB
        obtain ⟨⟨u,rfl,vu⟩,rfl,rfl⟩:=fo
        subst bB
        exact ⟨_,_,_,out,sJ,tE,mm,⟨u,rfl,vu⟩,rfl,rfl⟩
      | exc i ρ' σ'=>rw [hq] at bB; exact absurd bB.symm hc
      | stuck=>exact absurd hq hf1
    · obtain ⟨⟨j,ρ',σ',_,_,_,e5,_⟩,_⟩:=hx
      rw [e5] at bB; exact absurd bB.symm hc
  · have hie:i=xs.length:=Nat.le_antisymm hi (Nat.not_lt.mp hlt)
    subst hie
    rw [List.drop_length] at bB
    obtain ⟨hw,hgo'⟩:=aba bB hc
    refine I.done s₁ σ₁ α₁ y6 iT hw _ _ fun bS xo fQ jC=>wpAny_execs_nil ?_
    show ek K env c s α .next bS
    rw [<- hgo']
    exact ⟨_,_,_,aB.drop cO (fun b hb=>(ho b hb).1) (bX E F.cl) (kN.trans (xo.mono (fun b hb=>List.mem_append_left _ hb) al1)),fQ,f7.ext xo ap,ie.trans jC,rfl,rfl,rfl⟩
end
end Mine
namespace Mine
open PySem PyProof.Rows
section
variable {K:Kt} {A:Around} {T:aV} {C:bc} {N:List (Str × NameKind)} {env:Env} {ρ:au} {σ:ab} {s:Shared} {α:AL}
theorem xr {test:Expr} {body:List Stmt} {pos:Pos} {tx:X} {b:S} {n:Nat} (F:cF K.hb env)
    (ht:∀ {ρ σ s α},aj env ρ s.heap α->R K.hb s.heap σ α->Runs K dx A (isTrue test env (eval test env)) (tst C tx ρ σ) s α) (hb:∀ {ρ σ s α},aj env ρ s.heap α->R K.hb s.heap σ α->dw K env A (execs body env) (ex C n b ρ σ) s α)
    (E:aj env ρ s.heap α) (r:R K.hb s.heap σ α) :
    dw K env A (exec (.While test body [] pos) env) (cJ (fun ρ σ=>tst C tx ρ σ) (fun ρ σ=>ex C n b ρ σ) n ρ σ) s α:=by
  intro hc tk
  generalize hcq:cJ (fun ρ σ=>tst C tx ρ σ) (fun ρ σ=>ex C n b ρ σ) n ρ σ=c at hc ⊢
  refine wpAny_While (codeAny_whileLoop (fun k s₁=>∃ σ₁ α₁ ρ₁,aB (eE env) α s.heap α₁ s₁.heap/\R K.hb s₁.heap σ₁ α₁/\aj env ρ₁ s₁.heap α₁/\Sm s s₁/\cJ (fun ρ σ=>tst C tx ρ σ) (fun ρ σ=>ex C n b ρ σ) k ρ₁ σ₁=c/\K.Tk s₁)
    (fun k s₁ inv=>?_) n ⟨σ,α,ρ,.refl,r,E,.refl s,hcq,tk⟩)
  obtain ⟨σ₁,α₁,ρ₁,kN,iT,f7,ie,hgo,gy⟩:=inv
  cases k with
  | zero=>exact absurd (by rw [<- hgo]; rfl) hc
  | succ k =>
    simp only [cJ] at hgo
    have h1:tst C tx ρ₁ σ₁ ≠ .stuck:=by intro q; rw [q] at hgo; exact hc hgo.symm
    refine wpAny_mono (b4 (ht f7 iT h1 gy)) (fun y ay hp=>?_) fun e ay hx=>?_
    · obtain ⟨⟨t,σ₂,aJ,e2,x2,bA,v2,fR⟩,af1⟩:=hp
      have j5:=Kt.Tk.up gy af1
      have:y=t:=v2
      subst this
      rw [e2] at hgo
      have iw:=f7.ext x2 .nil
      have cO:=kN.trans (dq F f7 x2)
      cases y with
      | false =>
        simp only [Bool.false_eq_true,if_false]
        refine wpAny_execs_nil ?_
        show ek K env c s α .next ay
        rw [<- hgo]
        exact ⟨_,_,_,cO,bA,iw,ie.trans fR,rfl,rfl,rfl⟩
      | true =>
        simp only [if_true]
        dsimp only at hgo
        have h2:ex C n b ρ₁ σ₂ ≠ .stuck:=by intro q; rw [q] at hgo; exact hc hgo.symm
        refine wpAny_mono (b4 (hb iw bA h2 j5)) (fun fl bS hp=>?_) fun e bS hx=>?_
        · obtain ⟨⟨ag1,σ₃,mj,x3,fQ,iu,jC,fo⟩,af0⟩:=hp
          have iz:=Kt.Tk.up j5 af0
          have sC:=cO.trans x3
          have mm:=(ie.trans fR).trans jC
          cases hq:ex C n b ρ₁ σ₂ with
          | next ρ' σ' =>
            rw [hq] at fo hgo
            obtain ⟨rfl,rfl,rfl⟩:=fo
            exact ⟨k,by omega,_,_,_,sC,fQ,iu,mm,hgo,iz⟩
          | cont ρ' σ' =>
            rw [hq] at fo hgo
            obtain ⟨rfl,rfl,rfl⟩:=fo
            exact ⟨k,by omega,_,_,_,sC,fQ,iu,mm,hgo,iz⟩
          | brk ρ' σ' =>
            rw [hq] at fo hgo
            obtain ⟨rfl,rfl,rfl⟩:=fo
            show ek K env c s α .next bS
            rw [<- hgo]
            exact ⟨_,_,_,sC,fQ,iu,mm,rfl,rfl,rfl⟩
          | ret v ρ' σ' =>
            rw [hq] at fo hgo
            obtain ⟨⟨u,rfl,vu⟩,rfl,rfl⟩:=fo
            show ek K env c s α (.ret u) bS
            rw [<- hgo]
            exact ⟨_,_,_,sC,fQ,iu,mm,⟨u,rfl,vu⟩,rfl,rfl⟩
          | exc i ρ' σ'=>rw [hq] at hgo; exact absurd hgo.symm hc
          | stuck=>exact absurd hq h2
        · obtain ⟨⟨j,ρ',σ',_,_,_,e5,_⟩,_⟩:=hx
          rw [e5] at hgo; exact absurd hgo.symm hc
    · obtain ⟨⟨j,σ',e5,_⟩,_⟩:=hx
      rw [e5] at hgo; exact absurd hgo.symm hc
end
end Mine
namespace Mine
open PySem PyProof.Rows
end Mine
namespace Mine
open PySem PyProof.Rows
end Mine
namespace Mine
open PySem PyProof.Rows
theorem aar {N:List (Str × NameKind)} {x:Str} {i:Nat} (h:iL N x=some i):∃ k,N[i]?=some (x,k)/\(k=NameKind.local\/k=.cell):=by
  unfold iL at h
  refine aP h fun j hj h1=>aP h1 fun q hq h2=>aF h2 fun hk h3=>?_
  clear h h1 h2
  have hx:=wn hj hq
  obtain ⟨z,k⟩:=q
  dsimp only at hx
  subst hx
  obtain rfl:=Option.some.inj h3
  refine ⟨k,hq,?_⟩
  cases k with
  | «local»=>exact .inl rfl
  | cell=>exact .inr rfl
  | _=>contradiction
theorem pa {N:List (Str × NameKind)} {env:Env} {x:Str} {i:Nat} (hN:env.scope.names=N) (h:iL N x=some i):∃ k,env.scope.names[i]?=some (x,k)/\(k=NameKind.local\/k=.cell):=by
  subst hN; exact aar h
theorem xj {κ:Type} [DecidableEq κ] {k k':κ} {v:PV}:∀ {es:List (κ × PV)},ac k' (bL k v es)=if k'=k then some v else ac k' es:=by
  intro es
  have cons:∀ (e:κ × PV) (es:List (κ × PV)),ac k' (e::es)=if e.1=k' then some e.2 else ac k' es:=fun e es=>by
    unfold ac
    rw [List.find?_cons]
    by_cases q:e.1=k'
    · rw [decide_eq_true q,if_pos q]; rfl
    · rw [decide_eq_false q,if_neg q]
  unfold bL
  by_cases h:(es.any fun e=>decide (e.1=k))=true
  · rw [if_pos h]
    induction es with
    | nil=>contradiction
    | cons e es ih =>
      rw [List.map_cons,cons,cons]
      by_cases q:e.1=k
      · rw [if_pos q]
        by_cases q2:k'=k
        · rw [if_pos (q.trans q2.symm),if_pos q2]
        · rw [if_neg (fun z=>q2 (z.symm.trans q)),if_neg q2,if_neg (fun z=>q2 (z.symm.trans q))]
          by_cases h2:(es.any fun e=>decide (e.1=k))=true
          · rw [ih h2,if_neg q2]
          · congr 1
            rw [List.map_congr_left (g:=id) fun e he=>?_,List.map_id]
            rw [if_neg]; rfl
            intro z; exact h2 (List.any_eq_true.mpr ⟨e,he,decide_eq_true z⟩)
      · rw [if_neg q]
        rw [List.any_cons,decide_eq_false q,Bool.false_or] at h
        rw [ih h]
        by_cases q2:k'=k
        · rw [if_pos q2,if_neg (fun z=>q (z.trans q2)),if_pos q2]
        · rw [if_neg q2,if_neg q2]
  · rw [if_neg h]
    induction es with
    | nil =>
      show ac k' [(k,v)]=_
      rw [cons]
      by_cases q:k'=k
      · rw [if_pos q.symm,if_pos q]
      · rw [if_neg (fun z=>q z.symm),if_neg q]
    | cons e es ih =>
      rw [List.any_cons,Bool.or_eq_true,not_or] at h
      have h1:e.1 ≠ k:=fun z=>h.1 (decide_eq_true z)
      rw [List.cons_append,cons,cons,ih h.2]
      by_cases q2:k'=k
      · rw [if_pos q2,if_neg (fun z=>h1 (z.trans q2)),if_pos q2]
      · rw [if_neg q2,if_neg q2]
section
variable {K:Kt} {A:Around} {T:aV} {C:bc} {f:List (Str × NameKind)->Expr->Option X} {N:List (Str × NameKind)} {env:Env} {ρ:au} {σ:ab} {s:Shared} {α:AL}
open PySem.W
theorem uF {F:Frag} {b n:Str} {c i:Nat} {x u:Value} {v:PV} {fs:List (Str × PV)} {Q:Unit->Shared->Prop} {E:Value->Shared->Prop} (B:eQ K F b c) (hn:n ∈ cI) (r:R K.hb s.heap σ α) (vx:VR s.heap α (.inst c i) x) (vv:VR s.heap α v u)
    (hs:σ[i]?=some (.ns fs)) (hl:fs.length < 100) (hQ:∀ s',R K.hb s'.heap (σ.set i (.ns (bL n v fs))) α->aB [] α s.heap α s'.heap->Sm s s'->Q () s'):wpAny (model K.prog K.w) A (setAttr x n u) Q E s:=by
  obtain ⟨a,D,rfl,ea,ha,hi⟩:=yv vx
  obtain ⟨m,ns1,o1,o2⟩:=r.obj i _ D hs hi
  obtain ⟨oD,esD,epD,eD,dD,_⟩:=id ns1
  have X:F.In s.heap:=r.frag B.inn
  have I:InstAt s.heap a (instObj c D) c (some oD):=⟨ea,rfl,rfl,eD⟩
  obtain ⟨cd,hc,hd'⟩:=any_some B.hasd
  refine set_plain X I B.seta (osa_open (s:={ s with toks:=s.toks + 1 }) X I B.plain (B.free n hn) fun bb=>?_)
  refine wpAny_bind (wpAny_pure (wpAny_bind (wpAny_bind (wpAny_loadPart ea (wpAny_bind (Looks.here (s:={ s with toks:=s.toks + 1 }) (looks_clsIn X hc) ?_))))))
  rw [hd']
  refine wpAny_pure (a:=some D) (wpAny_bind (wpAny_pure (wpAny_bind (wpAny_nsSet1 (s:={ s with toks:=s.toks + 1 }) ns1 fun h' hn' hsb=>?_))))
  have hw:Within m (fs.map (·.1)):=fun y hy=>by
    cases hg:ac y fs with
    | none=>exact absurd (o2 y hg) hy
    | some w =>
      obtain ⟨e,he,_⟩:=Option.map_eq_some_iff.mp hg
      exact List.mem_map.mpr ⟨e,List.mem_of_find?_eq_some he,by simpa using List.find?_some he⟩
  obtain ⟨oD',esD',epD',hoD,hdD,hcD⟩:=hn'.count (Within.cons n u hw)
  refine wpAny_bind (wpAny_lookBehind hoD (by rw [hdD]; exact pastItsLine_dict (Nat.le_trans hcD (by rw [List.length_cons,List.length_map,sizeLine_eq]; omega))) ?_)
  refine wpAny_pure ?_
  have key:∀ x':aB [] α s.heap α h',OR K.hb h' α (.ns (bL n v fs)) D:=fun x'=>by
    refine ⟨_,hn',fun n' v' e=>?_,fun n' e=>?_⟩
    · rw [xj] at e
      by_cases q:n'=n
      · rw [if_pos q] at e ⊢; obtain rfl:=Option.some.inj e; exact ⟨u,rfl,vv.ext x'⟩
      · rw [if_neg q] at e ⊢
        obtain ⟨w,w1,w2⟩:=o1 n' v' e
        exact ⟨w,w1,w2.ext x'⟩
    · rw [xj] at e
      by_cases q:n'=n
      · rw [if_pos q] at e; contradiction
      · rw [if_neg q] at e ⊢; exact o2 n' e
  obtain ⟨r',x'⟩:=r.set (m:=.ns (bL n v fs)) hi (fun b o hb e=>(hsb.2 b hb).trans e) hoD key
  exact hQ _ r' x' ⟨rfl,rfl⟩
theorem uS {o v:Expr} {n b:Str} {p pos:Pos} {x z:X} {c k:Nat} {Fg:Frag} (B:eQ K Fg b c) (hn:n ∈ cI) (F:cF K.hb env) (hcp:gF v=false)
    (H1:∀ {σ s α},aj env ρ s.heap α->R K.hb s.heap σ α->Runs K VR A (eval v env) (ev C z ρ σ) s α)
    (H2:∀ {σ s α},aj env ρ s.heap α->R K.hb s.heap σ α->Runs K VR A (eval o env) (ev C x ρ σ) s α) (E:aj env ρ s.heap α) (r:R K.hb s.heap σ α) :
    dw K env A (exec (.Assign [.Attribute o n p] v pos) env) (ex C k (.asgAttr c x n z) ρ σ) s α:=by
  change dw K env A _ ((ev C z ρ σ).toS ρ fun v σ=>(ev C x ρ σ).toS ρ fun o σ=>ew c o n v ρ σ) s α
  intro hc tk
  refine plainObj_wpAny_Assign_Attribute (Runs.useS E (H1 E r) hc tk fun vv σ₁ α₁ u s₁ e1 hc1 x1 r1 v1 m1 tk1=>?_) (iA hcp)
  rw [e1] at hc ⊢
  have E1:=E.ext x1 .nil
  refine wpAny_mono (Runs.useS (env:=env) (s:=s₁) (α:=α₁) E1 (H2 E1 r1) hc1 tk1 fun vo σ₂ aJ uo ay e2 hc2 x2 r2 v2 m2 tk2=>?_) (fun _ _ q=>q) (fun _ _ q=>eN.lift (dq F E x1) m1 q)
  have E2:=E1.ext x2 .nil
  show wpAny (model K.prog K.w) A (setAttr uo n u) _ _ ay
  simp only [ae.toS,e2] at hc ⊢
  cases vo with
  | inst c' i =>
    unfold ew at hc2 ⊢
    dsimp only at hc2 ⊢
    by_cases hcc:c'=c
    · subst hcc
      rw [if_pos rfl] at hc2 ⊢
      cases hs:σ₂[i]? with
      | none=>rw [hs] at hc2; exact absurd rfl hc2
      | some mo =>
        rw [hs] at hc2
        cases mo with
        | ns fs =>
          dsimp only at hc2 ⊢
          by_cases hl:fs.length < 100
          · rw [if_pos hl]
            exact uF B hn r2 v2 (v1.ext x2) hs hl fun s' r' x' m'=>⟨ρ,_,aJ,dq F E ((x1.trans x2).trans x'),r',E2.ext x' .nil,(m1.trans m2).trans m',rfl,rfl,rfl⟩
          · rw [if_neg hl] at hc2; exact absurd rfl hc2
        | _=>exact absurd rfl hc2
    · rw [if_neg hcc] at hc2; exact absurd rfl hc2
  | _=>exact absurd rfl hc2
end
section
variable {K:Kt} {A:Around} {T:aV} {C:bc} {f:List (Str × NameKind)->Expr->Option X} {N:List (Str × NameKind)} {env:Env} {σ:ab} {α:AL}
theorem xf (F:cF K.hb env) (hN:env.scope.names=N) {ts:List Expr}:∀ {is:List Nat} {xs:List PV} {us:List Value} {ρ ρ':au} {s:Shared} {Q:Unit->Shared->Prop} {X:Value->Shared->Prop},jo N ts=some is->lk is xs ρ=some ρ'->aN s.heap α xs us->aj env ρ s.heap α->R K.hb s.heap σ α ->
    (∀ s',R K.hb s'.heap σ α->aj env ρ' s'.heap α->aB (eE env) α s.heap α s'.heap->Sm s s'->Q () s')->wpAny (model K.prog K.w) A (assignInOrder ((assignEach ts env).map (·.2)) us) Q X s:=by
  induction ts with
  | nil =>
    intro is xs us ρ ρ' s Q X h1 h2 v E r hQ
    obtain rfl:=Option.some.inj h1
    cases xs with
    | nil=>obtain rfl:=Option.some.inj h2; exact assignInOrder_nil (hQ s r E .refl (.refl s))
    | cons _ _=>contradiction
  | cons t ts ih =>
    intro is xs us ρ ρ' s Q X h1 h2 v E r hQ
    change o2 _ _ _=_ at h1
    refine ez (M:=fun is=>lk is xs ρ=some ρ'->wpAny (model K.prog K.w) A (assignInOrder ((assignEach (t::ts) env).map (·.2)) us) Q X s) h1 (fun i l hi hl h2=>?_) h2
    refine aP hi fun q hq hi=>?_
    obtain rfl:=eA hq
    cases xs with
    | nil=>contradiction
    | cons p ps =>
      obtain ⟨u,us',rfl,v1,v2⟩:=v.inv_cons
      obtain ⟨k,hk1,hk2⟩:=pa hN hi
      refine assignInOrder_cons (wpAny_assign_Name (iK F r E hk1 hk2 v1 fun s₁ r1 E1 x1 m1=>?_))
      exact ih hl h2 (v2.ext x1) E1 r1 fun s' r' E' x' m'=>hQ s' r' E' (x1.trans x') (m1.trans m')
theorem xI {ts:List Expr}:∀ {is:List Nat},jo N ts=some is->(assignEach ts env).length=is.length/\(assignEach ts env).findIdx? (·.1)=none:=by
  induction ts with
  | nil=>intro is h; obtain rfl:=Option.some.inj h; exact ⟨rfl,rfl⟩
  | cons t ts ih =>
    intro is h
    change o2 _ _ _=_ at h
    refine ez (M:=fun is=>(assignEach (t::ts) env).length=List.length is/\(assignEach (t::ts) env).findIdx? (·.1)=none) h fun i l hi hl=>?_
    refine aP hi fun q hq hi=>?_
    obtain rfl:=eA hq
    obtain ⟨h1,h2⟩:=ih hl
    refine ⟨congrArg Nat.succ h1,?_⟩
    show ((false,assign (.Name q.1 q.2) env)::assignEach ts env).findIdx? (·.1)=none
    rw [List.findIdx?_cons,h2]; rfl
theorem rk:∀ {is:List Nat} {xs:List PV} {ρ ρ':au},lk is xs ρ=some ρ'->is.length=xs.length
  | [],[],_,_,_=>rfl
  | i::is,x::xs,_,_,h=>congrArg Nat.succ (rk (is:=is) (xs:=xs) h)
  | [],_::_,_,_,h=>nomatch h
  | _::_,[],_,_,h=>nomatch h
theorem aai {ts:List Expr} {kk:Nat} {pp:Pos} {is:List Nat} {en:Bool} (hh:A.handled=none) (F:cF K.hb env) (hN:env.scope.names=N) (h1:jo N ts=some is):zY K A en env (.Tuple ts kk pp) (mI is):=
  ⟨.inr ⟨_,_,_,rfl⟩,fun s σ α ρ ρ' pv u hb E r v Q X hQ=>by
    cases pv with
    | tup xs =>
      obtain ⟨t,us,k,rfl,ht,hnt,vs⟩:=v.tupE
      have eb:mI is (.tup xs) ρ=if xs.length <= 100 then lk is xs ρ else none:=rfl
      rw [eb] at hb
      by_cases hl:xs.length <= 100
      · rw [if_pos hl] at hb
        obtain ⟨g1,g2⟩:=xI (env:=env) h1
        refine wpAny_assign_Tuple hh ⟨_,ht,rfl,k,rfl⟩ (by rw [g1,rk hb,vs.1]; rfl) g2 fun h' hx=>?_
        have kp:∀ b o,s.heap.get? b=some o->h'.get? b=some o:=fun b o e=>hx b o (Nat.ne_of_lt (Heap.lt_size e)) e
        have x2:aB [] α s.heap α h':=.keeps kp
        exact xf (s:={ s with heap:=h' }) F hN h1 hb (vs.ext x2) (E.ext x2 .nil) (r.keeps kp) fun s' r' E' x' m'=>hQ s' r' E' ((dq F E x2).trans x') ⟨m'.gens,m'.os⟩
      · rw [if_neg hl] at hb; contradiction
    | _=>contradiction⟩
end
end Mine
namespace Mine
open PySem PyProof.Rows
section
variable {K:Kt} {A:Around} {T:aV} {C:bc} {f:List (Str × NameKind)->Expr->Option X} {N:List (Str × NameKind)} {env:Env} {ρ:au} {σ:ab} {s:Shared} {α:AL}
theorem uR {elt iter:Expr} {x z:Str} {px pz pos spos:Pos} {ifs:List Expr} {scope:Scope} {fz:Bool} {t:Nat} {elt' cond it:X} {i n:Nat} {k:NameKind} (c:Ctx K A T C) (S:SE K A C f) (F:cF K.hb env) (h:oY T N f elt x iter ifs scope fz t elt' cond it)
    (hn:env.scope.names[i]?=some (z,k)) (hk:k=.local\/k=.cell)
    (hN:env.scope.names=N) (E:aj env ρ s.heap α) (r:R K.hb s.heap σ α) (hsw:swapsWith (.ListComp elt [⟨.Name x px,iter,ifs,0⟩] scope pos) (some (.Name z pz)) spos.line env=pure true) :
    dw K env A (exec (.Assign [.Name z pz] (.ListComp elt [⟨.Name x px,iter,ifs,0⟩] scope pos) spos) env) (ex C n (.asg i (.comp fz t (dv N (a6 N scope.names)) elt' cond it)) ρ σ) s α:=by
  have e0:ex C n (.asg i (.comp fz t (dv N (a6 N scope.names)) elt' cond it)) ρ σ=(ev C (.comp fz t (dv N (a6 N scope.names)) elt' cond it) ρ σ).toS ρ fun v σ=>.next (ρ.set i (some v)) σ:=rfl
  rw [e0]
  intro hc tk
  cases hhd:C.hd with
  | true=>rw [jt,hhd] at hc; exact absurd rfl hc
  | false =>
  rw [sn hhd] at hc ⊢
  have co:=h.ok hN
  obtain ⟨hit',hpl⟩:=jb (en:=false) c hhd S h.it hN F.new E r
  rw [exec_Assign_Name_used _ _ _ _ hsw]
  refine wpAny_bind (wpAny_standAt (wpAny_bind ?_))
  show wpAny _ A (do let _ <- comprehension (.ListComp elt [⟨.Name x px,iter,ifs,0⟩] scope pos) scope env _ (newList []) false (eval iter env) (some (assign (.Name z pz) env))) _ _ s
  generalize hcq:gp fz (fun v σ=>tst C cond ((aY (dv N (a6 N scope.names)) ρ).set t (some v)) σ) (fun v σ=>ev C elt' ((aY (dv N (a6 N scope.names)) ρ).set t (some v)) σ) (evIt C it ρ σ)=cc at hc ⊢
  have hcc:cc ≠ .stuck:=by intro q; rw [q] at hc; exact hc rfl
  refine wpAny_bind (wpAny_mono (wpAny_comprehension_free (use:=some (assign (.Name z pz) env)) (Q:=fun _ s'=>ek K env (cc.toS ρ fun v σ=>.next (ρ.set i (some v)) σ) s α .next s')
    rfl (jA hpl) (ng (kJ co E)) co.kind co.names
    (sk (fz:=fz) (t:=t) (ρ:=ρ) (tC:=fun v σ=>tst C cond ((aY (dv N (a6 N scope.names)) ρ).set t (some v)) σ) (eC:=fun v σ=>ev C elt' ((aY (dv N (a6 N scope.names)) ρ).set t (some v)) σ) (RR:=fun acc C'=>compPost (model K.prog K.w) A _ (some (assign (.Name z pz) env)) _ acc C')
      co E hit' (by rw [hcq]; exact hcc) tk (fun C' v s' σ' α' n' E' r'=>?_) (fun C' v s' σ' α' n' E' r'=>?_) c.fr F.new ⟨_,r⟩ (fun e s' hx=>?_) ?_)) (fun _ s' hq=>wpAny_pure (wpAny_pure hq)) fun _ _ e=>e)
  · rw [mH hN] at E'
    exact sj S h.cond (jk hN E) n' E' r'
  · rw [mH hN] at E'
    exact ((S _ elt elt' h.elt).2 _ _ σ' s' α' (jk hN E) n' E' r').1
  · obtain ⟨i',σ',e1,nt,fx⟩:=hx
    refine ⟨i',ρ,σ',s,α,nt,?_,.refl,E,.refl s,fx⟩
    rw [<- hcq]
    show (gp _ _ _ _).toS ρ _=_
    rw [e1]; rfl
  · rw [hcq]
    rintro acc C' rr s' ⟨rfl,v,σ',α',m,e,x',r',vr,sm,ns,ha,hC,hbC,hCfr⟩
    subst e
    have E':=E.ext x' .nil
    show wpAny _ A (assign (.Name z pz) env acc) _ _ _
    refine wpAny_assign_Name (iK F r' E' hn hk vr fun ay bA iw cO fR=>?_)
    have hCf:C' ∉ eE env:=fun q=>by
      obtain ⟨o,eo⟩:=bX E F.cl C' q
      rw [hC] at eo; contradiction
    have adp:ay.heap.Ns C' m:=v9 cO (AL.not_ix ha) hCf ns
    refine ⟨m,adp,fun h' hs'=>?_⟩
    obtain ⟨r'',x''⟩:=bA.but ha hbC (fun b o hb e=>(hs'.2 b hb).trans e) (fun o e=>by
      obtain ⟨o',es,ep,e',d,_⟩:=id adp
      rw [e] at e'; obtain rfl:=Option.some.inj e'
      exact dn.notSolid ⟨_,_,d⟩) fun q=>absurd q hCfr
    have ap:mO env [C']:=⟨fun q=>by simp at q; exact hCf (q ▸ List.mem_cons_self),fun y c' hc' q=>by
      simp at q; subst q
      exact hCf (List.mem_cons_of_mem _ (List.mem_map.mpr ⟨_,mem_of_lookup hc',rfl⟩))⟩
    exact ⟨_,_,_,((dq F E x').trans cO).sameBut hC (fun b hb=>hs'.2 b hb),r'',iw.ext x'' ap,(sm.trans fR).trans ⟨rfl,rfl⟩,rfl,rfl,rfl⟩
end
theorem abJ {e:Expr} {q:Expr × List Comprehension × Scope × Pos} (h:abK e=some q):e=.ListComp q.1 q.2.1 q.2.2.1 q.2.2.2:=by
  cases e with
  | ListComp=>obtain rfl:=Option.some.inj h; rfl
  | _=>contradiction
section
variable {K:Kt} {A:Around} {T:aV} {C:bc} {N:List (Str × NameKind)} {env:Env} {n:Nat}
noncomputable def BS (K:Kt) (A:Around) (C:bc) (n:Nat) (env:Env) (t:Sem Flow) (b:S):Prop:=
  ∀ ρ σ s α,aj env ρ s.heap α->R K.hb s.heap σ α->dw K env A t (ex C n b ρ σ) s α
noncomputable def SS (K:Kt) (A:Around) (C:bc) (n:Nat) (env:Env) (g:Stmt->Option S):Prop:=
  ∀ st b,g st=some b->BS K A C n env (exec st env) b
theorem eU {g:Stmt->Option S} (H:SS K A C n env g) {sts:List Stmt}:∀ {b:S},kQ g sts=some b->BS K A C n env (execs sts env) b:=by
  induction sts with
  | nil =>
    intro b h ρ σ s α E r
    obtain rfl:=Option.some.inj h
    exact fun _ _=>wpAny_execs_nil ⟨ρ,σ,α,.refl,r,E,.refl s,rfl,rfl,rfl⟩
  | cons st sts ih =>
    intro b h
    change o2 _ _ _=_ at h
    refine ez h fun a b' ha hb ρ σ s α E r hc tk=>?_
    have e0:ex C n (.cons a b') ρ σ=(match ex C n a ρ σ with
      | .next ρ σ=>ex C n b' ρ σ
      | o=>o):=rfl
    rw [e0] at hc ⊢
    refine wpAny_execs_cons ?_
    have h1:ex C n a ρ σ ≠ .stuck:=by intro q; rw [q] at hc; exact hc rfl
    refine wpAny_mono (b4 (H st a ha _ _ _ _ E r h1 tk)) (fun fl s₁ hp=>?_) fun e s₁ hx=>?_
    · obtain ⟨⟨ρ₁,σ₁,α₁,x1,r1,E1,m1,fo⟩,tl1⟩:=hp
      cases hq:ex C n a ρ σ with
      | next ρ' σ' =>
        rw [hq] at fo hc
        obtain ⟨rfl,rfl,rfl⟩:=fo
        exact wpAny_mono (ih hb _ _ _ _ E1 r1 hc (Kt.Tk.up tk tl1)) (fun _ _ q=>q.lift x1 m1) fun _ _ q=>q.lift x1 m1
      | cont ρ' σ'=>rw [hq] at fo; have fo':=fo; obtain ⟨rfl,_⟩:=fo'; exact ⟨ρ₁,σ₁,α₁,x1,r1,E1,m1,fo⟩
      | brk ρ' σ'=>rw [hq] at fo; have fo':=fo; obtain ⟨rfl,_⟩:=fo'; exact ⟨ρ₁,σ₁,α₁,x1,r1,E1,m1,fo⟩
      | ret v ρ' σ'=>rw [hq] at fo; have fo':=fo; obtain ⟨⟨u,rfl,_⟩,_⟩:=fo'; exact ⟨ρ₁,σ₁,α₁,x1,r1,E1,m1,fo⟩
      | exc i ρ' σ'=>rw [hq] at fo; exact fo.elim
      | stuck=>exact absurd hq h1
    · obtain ⟨⟨i,ρ',σ',ay,aJ,nt,e1,q1,q2,q3,q4⟩,_⟩:=hx
      exact ⟨i,ρ',σ',ay,aJ,nt,by rw [e1],q1,q2,q3,q4⟩
section
variable {f:List (Str × NameKind)->Expr->Option X} {g:Stmt->Option S}
theorem SE.val (Sf:SE K A C f) (F:cF K.hb env) (hN:env.scope.names=N) {e:Expr} {x:X} (h:f N e=some x) {ρ σ s α} (E:aj env ρ s.heap α) (r:R K.hb s.heap σ α):Runs K VR A (eval e env) (ev C x ρ σ) s α:=
  ((Sf N _ _ h).2 env ρ σ s α hN F.new E r).1
theorem SE.tst (Sf:SE K A C f) (F:cF K.hb env) (hN:env.scope.names=N) {e:Expr} {x:X} (h:f N e=some x) {ρ σ s α} (E:aj env ρ s.heap α) (r:R K.hb s.heap σ α):Runs K dx A (isTrue e env (eval e env)) (tst C x ρ σ) s α:=
  ((Sf N _ _ h).2 env ρ σ s α hN F.new E r).2
theorem uQ {z:Str} {pz spos:Pos} {v:Expr} {b:S} (c:Ctx K A T C) (Sf:SE K A C f) (F:cF K.hb env) (hN:env.scope.names=N) (h:adk T N f (f N) (.Name z pz) v=some b):BS K A C n env (exec (.Assign [.Name z pz] v spos) env) b:=by
  change iV _ _ _=_ at h
  refine fy h (fun q hac h=>?_) fun _ h=>aF h fun hcp h=>ez h fun i y hi hy=>?_
  · rw [abJ hac]
    refine ez h fun i y hi hy=>?_
    obtain ⟨x,px,iter,ifs,hg,hy⟩:=ra hy
    rw [hg]
    obtain ⟨k,hk1,hk2⟩:=pa hN hi
    refine tI (P:=fun y=>BS K A C n env _ (.asg i y)) hy fun t e cc it qq ρ σ s α E r=>?_
    cases hq:(env.blockKind == .function && env.kindOf z == some .local && pz.line == q.2.2.2.line && !(q.2.2.1.names.any fun (n,k)=>n == z && (k == .local || k == .cell))) with
    | true=>exact uR c Sf F qq hk1 hk2 hN E r (congrArg pure hq)
    | false =>
      intro hc tk
      refine wpAny_Assign_Name (Runs.useS E (pT c Sf qq hN F.new E r) hc tk fun v σ₁ α₁ u s₁ e1 hc1 x1 r1 v1 m1 tk1=>?_) (congrArg pure hq)
      refine iK F r1 (E.ext x1 .nil) hk1 hk2 v1 fun ay r2 E2 x2 m2=>?_
      show ek K env (ae.toS _ _ _) _ _ _ _
      rw [e1]
      exact ⟨_,_,_,(dq F E x1).trans x2,r2,E2,m1.trans m2,rfl,rfl,rfl⟩
  · obtain ⟨k,hk1,hk2⟩:=pa hN hi
    exact fun _ _ _ _ E r=>abI F (by simpa using hcp) hk1 hk2 (Sf.val F hN hy E r) E
theorem yV {t:Expr} {b0 o0:List Stmt} {pos:Pos} {t':X} {b' o':S} (Sf:SE K A C f) (F:cF K.hb env) (hN:env.scope.names=N) (h1:f N t=some t') (h2:BS K A C n env (execs b0 env) b') (h3:BS K A C n env (execs o0 env) o') :
    BS K A C n env (exec (.If t b0 o0 pos) env) (.ife t' b' o'):=fun ρ σ s α E r hc tk=>by
  have e0:ex C n (.ife t' b' o') ρ σ=(tst C t' ρ σ).toS ρ fun t σ=>if t then ex C n b' ρ σ else ex C n o' ρ σ:=rfl
  rw [e0] at hc ⊢
  refine wpAny_If (Runs.useS E (Sf.tst F hN h1 E r) hc tk fun t σ₁ α₁ y s₁ e1 hc1 x1 r1 v1 m1 tk1=>?_)
  have:y=t:=v1
  subst this
  rw [e1]
  have E1:=E.ext x1 .nil
  cases y with
  | true=>exact wpAny_mono (h2 _ _ _ _ E1 r1 hc1 tk1) (fun _ _ q=>q.lift (dq F E x1) m1) fun _ _ q=>q.lift (dq F E x1) m1
  | false=>exact wpAny_mono (h3 _ _ _ _ E1 r1 hc1 tk1) (fun _ _ q=>q.lift (dq F E x1) m1) fun _ _ q=>q.lift (dq F E x1) m1
theorem xA {x:Str} {px pos:Pos} {it:Expr} {b0:List Stmt} {i':Nat} {it':X} {b':S} (c:Ctx K A T C) (Sf:SE K A C f) (F:cF K.hb env) (hN:env.scope.names=N) (h1:iL N x=some i') (h2:p7 T N (f N) it=some it') (h3:BS K A C n env (execs b0 env) b') :
    BS K A C n env (exec (.For (.Name x px) it b0 [] pos) env) (.for1 i' it' b'):=fun ρ σ s α E r=>by
  obtain ⟨k,hk1,hk2⟩:=pa hN h1
  have e0:ex C n (.for1 i' it' b') ρ σ=bif C.hd then .stuck else (evIt C it' ρ σ).toS ρ fun p σ=>aZ p.2 (bq i') (fun ρ σ=>ex C n b' ρ σ) p.1 ρ σ:=rfl
  rw [e0]
  cases hhd:C.hd with
  | true=>exact fun hc=>absurd rfl hc
  | false =>
  obtain ⟨q1,q2⟩:=jb c hhd Sf h2 hN F.new E r
  exact ua F (ab0 F hk1 hk2) q2 q1 (h3 _ _ _ _) E rfl
theorem vH {ts:List Expr} {kk:Nat} {pp pos:Pos} {it:Expr} {b0:List Stmt} {is:List Nat} {it':X} {b':S} (c:Ctx K A T C) (Sf:SE K A C f) (F:cF K.hb env) (hN:env.scope.names=N) (h1:jo N ts=some is) (h2:u4 T N (f N) it=some it') (h3:BS K A C n env (execs b0 env) b') :
    BS K A C n env (exec (.For (.Tuple ts kk pp) it b0 [] pos) env) (.forT is it' b'):=fun ρ σ s α E r=>by
  have e0:ex C n (.forT is it' b') ρ σ=bif C.hd then .stuck else (evIt C it' ρ σ).toS ρ fun p σ=>aZ p.2 (mI is) (fun ρ σ=>ex C n b' ρ σ) p.1 ρ σ:=rfl
  rw [e0]
  cases hhd:C.hd with
  | true=>exact fun hc=>absurd rfl hc
  | false =>
  obtain ⟨en,q1,q2⟩:=xz c hhd Sf h2 hN F.new E r
  exact ua F (aai (c.hd hhd) F hN h1) q2 q1 (h3 _ _ _ _) E rfl
end
theorem uC {f:List (Str × NameKind)->Expr->Option X} {g:Stmt->Option S} (c:Ctx K A T C) (Sf:SE K A C f) (F:cF K.hb env) (hN:env.scope.names=N) (H:SS K A C n env g)
    : SS K A C n env (ye T N f (f N) g):=by
  intro st b h
  cases st with
  | Assign ts v spos =>
    change Option.bind _ _=_ at h
    refine aP h fun t h0 h=>?_
    rw [v8 h0]
    cases t with
    | Name z pz=>exact uQ c Sf F hN h
    | Subscript o i pp =>
      change aE _ _=_ at h
      exact aF h fun hcp h=>kU h fun o' i' v' h1 h2 h3 _ _ _ _ E r=>xg c.hA F (by simpa using hcp) (Sf.val F hN h3) (Sf.val F hN h1) (Sf.val F hN h2) E r
    | Attribute o nm pp =>
      change Option.bind _ _=_ at h
      refine aP h fun q hb h=>aF h fun hc h=>ez h fun o' v' h1 h3=>?_
      obtain ⟨b,cl⟩:=q
      obtain ⟨hc1,hc2⟩:=Bool.and_eq_true_iff.mp hc
      obtain ⟨Fg,B,_⟩:=c.brd b cl hb
      exact fun _ _ _ _ E r=>uS B (List.contains_iff_mem.mp hc2) F (by simpa using hc1) (Sf.val F hN h3) (Sf.val F hN h1) E r
    | _=>contradiction
  | Expr e pos =>
    change aE _ _=_ at h
    exact aF h fun hcp h=>b8 h fun y hq _ _ _ _ E r=>zK F (by simpa using hcp) (Sf.val F hN hq E r) E
  | Return v pos =>
    cases v with
    | some e=>exact b8 h fun y hq _ _ _ _ E r=>aaA F (Sf.val F hN hq E r) E
    | none=>obtain rfl:=Option.some.inj h; exact fun ρ σ s α E r _ _=>wpAny_Return_none ⟨ρ,σ,α,.refl,r,E,.refl s,⟨.none,rfl,.none⟩,rfl,rfl⟩
  | If t b0 o0 pos=>exact kU h fun t' b' o' h1 h2 h3=>yV Sf F hN h1 (eU H h2) (eU H h3)
  | For t it b0 o pos =>
    change aE _ _=_ at h
    refine aF h fun ho h=>fy h (fun q hq h=>kU h fun i' it' b' h1 h2 h3=>?_) fun _ h=>aP h fun ts ht h=>kU h fun is it' b' h1 h2 h3=>?_
    · rw [List.isEmpty_iff.mp ho,eA hq]
      exact xA c Sf F hN h1 h2 (eU H h3)
    · rw [List.isEmpty_iff.mp ho]
      cases t with
      | Tuple ts' kk pp =>
        obtain rfl:=Option.some.inj ht
        exact vH c Sf F hN h1 h2 (eU H h3)
      | _=>contradiction
  | While t b0 o pos =>
    change aE _ _=_ at h
    refine aF h fun ho h=>ez h fun t' b' h1 h3=>?_
    rw [List.isEmpty_iff.mp ho]
    intro ρ σ s α E r
    have e0:ex C n (.whl t' b') ρ σ=bif C.hd then .stuck else cJ (fun ρ σ=>tst C t' ρ σ) (fun ρ σ=>ex C n b' ρ σ) n ρ σ:=rfl
    rw [e0]
    cases hhd:C.hd with
    | true=>exact fun hc=>absurd rfl hc
    | false=>exact xr F (fun E' r'=>Sf.tst F hN h1 E' r') (eU H h3 _ _ _ _) E r
  | Break pos=>obtain rfl:=Option.some.inj h; exact fun ρ σ s α E r _ _=>wpAny_Break ⟨ρ,σ,α,.refl,r,E,.refl s,rfl,rfl,rfl⟩
  | Raise e1 e2 pos=>obtain rfl:=Option.some.inj h; exact fun ρ σ s α E r hc=>absurd rfl hc
  | _=>contradiction
theorem aae {f:List (Str × NameKind)->Expr->Option X} (hN:env.scope.names=N) (c:Ctx K A T C) (Sf:SE K A C f) (F:cF K.hb env) (m:Nat):SS K A C n env (trS T N f m):=by
  induction m with
  | zero=>exact fun st b h=>nomatch h
  | succ m ih=>exact uC c Sf F hN ih
end
end Mine
namespace Mine
open PySem PyProof.Rows
structure eR (d:Nat) (A:Around):Prop where
  depth:A.depth + 2 * d + 200 < recursionLimit
  units:A.units + 20 * d + 200 < cLine
theorem eR.ok {d:Nat} {A:Around} (h:eR d A):de A:=⟨by have:=h.depth; omega,by have:=h.units; omega⟩
theorem eR.deeper {d:Nat} {A:Around} {env:Env} (h:eR (d + 1) A):eR d (A.deeper env):=by
  refine ⟨?_,?_⟩
  · have:=h.depth
    show A.depth + 1 + 2 * d + 200 < recursionLimit
    omega
  · have:=h.units
    show A.units + 3 + 20 * d + 200 < cLine
    omega
theorem VR.refr {h:Heap} {α:AL} {p:PV} {v:Value} {fr:List Addr} (r:VR h α p v):VR h ⟨α.ix,α.hid,fr⟩ p v:=VR.re (α:=α) (α':=⟨α.ix,α.hid,fr⟩) (fun _ _ e=>e) (fun _ h=>h) r
noncomputable def Kt.wf (K:Kt) (fr:List Addr):Kt:={ K with hb:=⟨K.hb.h,fr,K.hb.prog,K.hb.w⟩ }
theorem gr.push {K:Kt} {A:Around} {fr:List Addr} {env:Env} {L:Addr} (h:gr (K.wf fr) A) (hf:env.frame=some L) (hk:env.scope.kind=.function):gr (K.wf (L::fr)) (A.deeper env):=by
  obtain ⟨l,h1,h2,h3⟩:=h.ex
  refine ⟨env::l,?_,?_,fun e he=>?_⟩
  · show A.frames.map (env::·)=_
    rw [h1]; rfl
  · show (env::l).map (·.frame)=(L::fr).map some
    rw [List.map_cons,List.map_cons,hf,h2]; rfl
  · rcases List.mem_cons.mp he with q | q
    · rw [q,hk]; decide
    · exact h3 e q
theorem OR.wf {K:Kt} {fr fr':List Addr} {h:Heap} {α:AL} {m:MO} {a:Addr} (o:OR (K.wf fr).hb h α m a):OR (K.wf fr').hb h α m a:=by
  cases m <;> exact o
theorem R.pushFr {K:Kt} {fr:List Addr} {h:Heap} {σ:ab} {α:AL} {L:Addr} {o:Obj} (r:R (K.wf fr).hb h σ α) (hL:K.hb.get? L=none) (e:h.get? L=some o) (d:dn o) (hLi:L ∉ α.ix):R (K.wf (L::fr)).hb h σ ⟨α.ix,α.hid,L::fr⟩:=
  ⟨r.base,r.fresh,r.nodup,r.len,r.hidden,fun j m a e1 e2=>((r.obj j m a e1 e2).wf (fr':=L::fr)).re (α:=α) (α':=⟨α.ix,α.hid,L::fr⟩) (fun _ _ e=>e) (fun _ h=>h),r.hfr,rfl,fun a ha=>by
    rcases List.mem_cons.mp ha with q | q
    · subst q; exact ⟨hL,o,e,d⟩
    · exact r.frs a q,fun a ha=>by
    rcases List.mem_cons.mp ha with q | q
    · subst q; exact hLi
    · exact r.frNot a q⟩
theorem R.popFr {K:Kt} {fr:List Addr} {h:Heap} {σ:ab} {α:AL} {L:Addr} (r:R (K.wf (L::fr)).hb h σ α):R (K.wf fr).hb h σ ⟨α.ix,α.hid,fr⟩:=
  ⟨r.base,r.fresh,r.nodup,r.len,r.hidden,fun j m a e1 e2=>((r.obj j m a e1 e2).wf (fr':=fr)).re (α:=α) (α':=⟨α.ix,α.hid,fr⟩) (fun _ _ e=>e) (fun _ h=>h),r.hfr,rfl,fun a ha=>r.frs a (List.mem_cons_of_mem _ ha),fun a ha=>r.frNot a (List.mem_cons_of_mem _ ha)⟩
theorem aB.ofCall {own:List Addr} {α aJ:AL} {h bj fj:Heap} {L:Addr} {fr:List Addr} (hfr:α.fr=fr) (k:∀ b o,h.get? b=some o->bj.get? b=some o) (hown:∀ b ∈ own,h.get? b=none) (hL:h.get? L=none)
    (y:aB own ⟨α.ix,α.hid,L::fr⟩ bj aJ fj):aB [] α h ⟨aJ.ix,aJ.hid,fr⟩ fj:=by
  have no:∀ b o,h.get? b=some o->b ∉ own:=fun b o e q=>by rw [hown b q] at e; contradiction
  obtain ⟨β,q1,q2⟩:=y.pre
  refine ⟨y.hid,⟨β,q1,fun x hx=>⟨?_,by simp⟩⟩,fun b o hb e hs=>y.seqs b o hb (k b o e) hs,fun b o hb _ e=>?_,fun b o _ e=>y.alive b o (no b o e) (k b o e),hfr.symm⟩
  · cases e:h.get? x with
    | none=>rfl
    | some o=>have:=k x o e; rw [(q2 x hx).1] at this; contradiction
  · rcases y.rest b o hb (no b o e) (k b o e) with q | ⟨f,d,sl,q⟩
    · exact .inl q
    · refine .inr ⟨?_,d,sl,q⟩
      rcases List.mem_cons.mp f with z | z
      · rw [z,hL] at e; contradiction
      · rw [hfr]; exact z
theorem FX.leave {K:Kt} {fr:List Addr} {s dH s₁ ay:Shared} {α ef:AL} {i:Nat} {σ:ab} {nt:Bool} {e:Value} {env:Env} {A:Around} {L:Addr} {ρ:au} {Q:Unit->Shared->Prop} {E:Value->Shared->Prop} (hA:gr (K.wf (L::fr)) A) (hF:cF (K.wf (L::fr)).hb env)
    (hfr:α.fr=fr) (k:∀ b o,s.heap.get? b=some o->s₁.heap.get? b=some o) (hown:∀ b ∈ eE env,s.heap.get? b=none) (hl:env.locals=L) (mt:∃ σ,R (K.wf fr).hb s.heap σ α) (m:Sm s dH)
    (y:aB (eE env) ⟨α.ix,α.hid,L::fr⟩ s₁.heap ef dH.heap) (En:aj env ρ dH.heap ef) (f:FX (K.wf (L::fr)) dH ef i σ nt e ay)
    (hQ:∀ s',FX (K.wf fr) s α i σ true e s'->Q () s'):wpAny (model K.prog K.w) A (leaving env e) Q E ay:=by
  obtain ⟨a,aQ,α',rfl,x',r',u,ea,m'⟩:=f
  subst hl
  have hL:s.heap.get? env.locals=none:=hown _ List.mem_cons_self
  have hLf:env.locals ∉ fr:=fun q=>by
    obtain ⟨σ',r0⟩:=mt
    obtain ⟨_,o,e,_⟩:=r0.frs _ q
    rw [hL] at e; contradiction
  have hla:=(En.ext x' .nil).la
  have keep:∀ b,b ≠ env.locals->(PySem.W.hideAll aQ [env.locals]).get? b=aQ.get? b:=fun b hb=>aev hb
  have none0:∀ b,aQ.get? b=none->(PySem.W.hideAll aQ [env.locals]).get? b=none:=fun b hb=>by
    cases q:(PySem.W.hideAll aQ [env.locals]).get? b with
    | none=>rfl
    | some o=>rw [PySem.W.of_hideAll _ q] at hb; contradiction
  have r1:=r'.popFr
  obtain ⟨r2,_⟩:=r1.but (h':=PySem.W.hideAll aQ [env.locals]) (I:=env.locals) hla hF.new.l (fun b o hb e=>(keep b hb).trans e) (fun o e=>by
    obtain ⟨_,o',e',d⟩:=r'.frs env.locals List.mem_cons_self
    rw [e] at e'; obtain rfl:=Option.some.inj e'; exact d.notSolid) fun q=>absurd q hLf
  have x1:aB [] α s.heap ⟨α'.ix,α'.hid,fr⟩ aQ:=aB.ofCall hfr k hown hL (y.trans (x'.mono (by simp) (bX En hF.cl)))
  have x2:=x1.sameBut hL keep
  refine aa9 (K:=K.wf (env.locals::fr)) hA hF.new r' u ea fun h'' u'' ea''=>hQ _ ⟨a,_,_,rfl,x2,r2,fun b o hb=>?_,?_,⟨(m.trans m').gens,(m.trans m').os⟩⟩
  · have hbL:b ≠ env.locals:=fun q=>by rw [q,PySem.W.hideAll_none _ (by simp)] at hb; contradiction
    rcases u'' b o (PySem.W.of_hideAll _ hb) with q | ⟨f,sl,q⟩
    · exact .inl q
    · rcases List.mem_cons.mp f with z | z
      · exact absurd z hbL
      · exact .inr ⟨z,sl,q⟩
  · obtain ⟨new,oe,vs,xv,he,hc,hd,h1,ht,cx⟩:=ea''
    refine ⟨none0 a new,oe,vs,xv,he,hc,hd,h1,?_,cx⟩
    rcases ht with ⟨q,q'⟩ | ⟨T,oT,ts,q,hT0,z1,z2,z3,z4,z5⟩
    · exact .inl q q'
    · exact .inr T oT ts q (none0 T hT0) z1 z2 z3 z4 z5
theorem fO:∀ {names:List (Str × NameKind)} {n:Nat} {acc:List (Str × Addr)} {x:Str},(x,NameKind.cell) ∈ names->∃ c,(x,c) ∈ cellsFrom n names acc
  | (y,k)::r,n,acc,x,h=>by
    have keep:∀ {r:List (Str × NameKind)} {n:Nat} {acc:List (Str × Addr)} {p:Str × Addr},p ∈ acc->p ∈ cellsFrom n r acc:=by
      intro r
      induction r with
      | nil=>intro n acc p hp; exact hp
      | cons q r ih =>
        intro n acc p hp
        obtain ⟨y,k⟩:=q
        unfold cellsFrom
        split
        · exact ih (List.mem_cons_of_mem _ hp)
        · exact ih hp
    unfold cellsFrom
    rcases List.mem_cons.mp h with e | h
    · cases e
      rw [if_pos (by rfl)]
      exact ⟨n,keep List.mem_cons_self⟩
    · split
      · exact fO h
      · exact fO h
theorem g6:∀ {names:List (Str × NameKind)} {n:Nat} {acc:List (Str × Addr)},qP names->(acc.map (·.1)).Nodup->(∀ p ∈ acc,∀ k,(p.1,k) ∉ names)->((cellsFrom n names acc).map (·.1)).Nodup
  | [],_,_,_,h,_=>h
  | (y,k)::r,n,acc,hU,h,hd=>by
    have hU':qP r:=fun i j x k k' h1 h2=>by have:=hU (i + 1) (j + 1) x k k' (by simpa using h1) (by simpa using h2); omega
    have hy:∀ k',(y,k') ∉ r:=fun k' hm=>by
      obtain ⟨i,hi⟩:=List.mem_iff_getElem?.mp hm
      have:=hU 0 (i + 1) y k k' (by simp) (by simpa using hi)
      omega
    unfold cellsFrom
    split
    · refine g6 hU' ?_ fun p hp k' hm=>?_
      · simp only [List.map_cons,List.nodup_cons]
        refine ⟨fun q=>?_,h⟩
        obtain ⟨p,hp,rfl⟩:=List.mem_map.mp q
        exact hd p hp k List.mem_cons_self
      · rcases List.mem_cons.mp hp with e | hp
        · subst e; exact hy k' hm
        · exact hd p hp k' (List.mem_cons_of_mem _ hm)
    · exact g6 hU' h fun p hp k' hm=>hd p hp k' (List.mem_cons_of_mem _ hm)
theorem nS:∀ {l:List (Str × Addr)},(l.map (·.1)).Nodup->∀ p ∈ l,l.lookup p.1=some p.2
  | [],_,p,hp=>by simp at hp
  | (k,v)::r,h,p,hp=>by
    simp only [List.map_cons,List.nodup_cons] at h
    rw [List.lookup_cons]
    rcases List.mem_cons.mp hp with e | hp
    · subst e; simp
    · have:(p.1 == k)=false:=by
        cases hb:p.1 == k with
        | false=>rfl
        | true =>
          have:p.1=k:=by simpa using hb
          exact absurd (List.mem_map.mpr ⟨p,hp,this⟩) h.1
      rw [this]
      exact nS h.2 p hp
theorem pU {kd:Str->Option NameKind}:∀ {ps:List Str} {vals:List Value} {m:Str->Option Value} {y:Str},y ∉ ps->bindL kd (ps.zip vals) m y=m y
  | [],vals,m,y,h=>by simp [bindL]
  | p::ps,[],m,y,h=>by simp [bindL]
  | p::ps,v::vals,m,y,h=>by
    simp only [List.mem_cons,not_or] at h
    simp only [List.zip_cons_cons,bindL]
    rw [pU h.2]
    split
    · simp [h.1]
    · rfl
theorem pV {kd:Str->Option NameKind}:∀ {ps:List Str} {vals:List Value} {m:Str->Option Value} {y:Str},y ∉ ps->bindC kd (ps.zip vals) m y=m y
  | [],vals,m,y,h=>by simp [bindC]
  | p::ps,[],m,y,h=>by simp [bindC]
  | p::ps,v::vals,m,y,h=>by
    simp only [List.mem_cons,not_or] at h
    simp only [List.zip_cons_cons,bindC]
    rw [pV h.2]
    split
    · rfl
    · simp [h.1]
theorem uz {kd:Str->Option NameKind}:∀ {ps:List Str} {vals:List Value} {m:Str->Option Value} {i:Nat} {y:Str} {v:Value},ps.Nodup->ps[i]?=some y->vals[i]?=some v->kd y=some .local->bindL kd (ps.zip vals) m y=some v
  | [],vals,m,i,y,v,_,h,_,_=>by simp at h
  | p::ps,[],m,i,y,v,_,_,h,_=>by simp at h
  | p::ps,w::vals,m,i,y,v,hn,h1,h2,hk=>by
    rw [List.nodup_cons] at hn
    simp only [List.zip_cons_cons,bindL]
    cases i with
    | zero =>
      simp at h1 h2
      subst h1 h2
      rw [pU hn.1,if_pos hk]; simp
    | succ i=>exact uz hn.2 (by simpa using h1) (by simpa using h2) hk
theorem uA {kd:Str->Option NameKind}:∀ {ps:List Str} {vals:List Value} {m:Str->Option Value} {i:Nat} {y:Str} {v:Value},ps.Nodup->ps[i]?=some y->vals[i]?=some v->kd y=some .cell->bindC kd (ps.zip vals) m y=some v
  | [],vals,m,i,y,v,_,h,_,_=>by simp at h
  | p::ps,[],m,i,y,v,_,_,h,_=>by simp at h
  | p::ps,w::vals,m,i,y,v,hn,h1,h2,hk=>by
    rw [List.nodup_cons] at hn
    simp only [List.zip_cons_cons,bindC]
    cases i with
    | zero =>
      simp at h1 h2
      subst h1 h2
      rw [pV hn.1,if_neg (by rw [hk]; decide)]; simp
    | succ i=>exact uA hn.2 (by simpa using h1) (by simpa using h2) hk
structure dG (K:Kt) (T:aV) (fn:Fn) (a:Addr) (o:Obj) (fd:FuncData) (body:List Stmt) (ps:List Str) (n1 n2:Nat):Prop where
  ho:K.hb.get? a=some o
  hd:o.data=.func fd
  code:K.hb.h.CodeRec fd.code fd.qualname
  hbody:fd.body=.stmts body
  glob:fd.globals=mainGlobals
  bins:fd.builtins=builtinsNs
  clo:fd.closure=[]
  kind:fd.scope.kind=.function
  co:fd.scope.isCoroutine=false
  gen:fd.scope.isGenerator=false
  sc:mr fd.scope.names=true
  tr:kQ (trS T fd.scope.names (yf T n1) n2) body=some fn.body
  params:fn.params=ps.length
  slots:fn.slots=fd.scope.names.length
  pk:∀ (i:Nat) (p:Str),ps[i]?=some p->∃ k,fd.scope.names[i]?=some (p,k)/\(k=NameKind.local\/k=.cell)
  bind:∀ vals:List Value,vals.length=ps.length->bindArgs fd ⟨vals,[]⟩=pure (ps.zip vals)
theorem dG.nodup {K T fn a o fd body ps n1 n2} (f:dG K T fn a o fd body ps n1 n2):ps.Nodup:=by
  rw [List.Nodup,List.pairwise_iff_getElem]
  intro i j hi hj hij e
  obtain ⟨k,h1,_⟩:=f.pk i ps[i] (by simp [hi])
  obtain ⟨k',h2,_⟩:=f.pk j ps[j] (by simp [hj])
  rw [e] at h1
  have:=(jp f.sc).uniq i j _ _ _ h1 h2
  omega
section
variable {K:Kt} {A:Around} {T:aV} {C:bc} {s:Shared} {α:AL} {σ:ab}
theorem ac1 {fr:List Addr} {fn:Fn} {a:Addr} {o:Obj} {fd:FuncData} {body:List Stmt} {ps:List Str} {n1 n2:Nat} (f:dG K T fn a o fd body ps n1 n2) {vs:List PV} {us:List Value} {s₁:Shared}
    (hl:vs.length=ps.length) (r:R (K.wf fr).hb s.heap σ α) (v:aN s.heap α vs us)
    (I:InCallC s (callEnvC fd s.heap.objs.size a).locals (bindL (callEnvC fd s.heap.objs.size a).kindOf (ps.zip us) fun _=>none) (callEnvC fd s.heap.objs.size a).cells (bindC (callEnvC fd s.heap.objs.size a).kindOf (ps.zip us) fun _=>none) s₁) :
    aj (callEnvC fd s.heap.objs.size a) (vs.map some++List.replicate (fn.slots - fn.params) none) s₁.heap ⟨α.ix,α.hid,s.heap.objs.size::fr⟩/\cF (K.wf (s.heap.objs.size::fr)).hb (callEnvC fd s.heap.objs.size a)/\R (K.wf (s.heap.objs.size::fr)).hb s₁.heap σ ⟨α.ix,α.hid,s.heap.objs.size::fr⟩/\Sm s s₁/\(∀ b o,s.heap.get? b=some o->s₁.heap.get? b=some o)/\∀ b ∈ eE (callEnvC fd s.heap.objs.size a),s.heap.get? b=none:=by
  have sc:=jp f.sc
  have keep:=I.toInCall.keep
  have hnm:(callEnvC fd s.heap.objs.size a).scope=fd.scope:=rfl
  have hcells:(callEnvC fd s.heap.objs.size a).cells=cellsFrom (s.heap.objs.size + 1) fd.scope.names []:=rfl
  have hloc:(callEnvC fd s.heap.objs.size a).locals=s.heap.objs.size:=rfl
  have fresh:∀ b,s.heap.objs.size <= b->s.heap.get? b=none:=fun b hb=>by
    cases e:s.heap.get? b with
    | none=>rfl
    | some o'=>exact absurd (Heap.lt_size e) (Nat.not_lt.mpr hb)
  have notAll:∀ b,s.heap.get? b=none->b ∉ α.all:=fun b hb q=>by obtain ⟨o,e⟩:=r.liveAll q; rw [hb] at e; contradiction
  have base:∀ b,s.heap.get? b=none->K.hb.get? b=none:=fun b hb=>by
    cases e:K.hb.get? b with
    | none=>rfl
    | some o=>rw [r.base b o e] at hb; contradiction
  have cfresh:∀ n c,(n,c) ∈ (callEnvC fd s.heap.objs.size a).cells->s.heap.get? c=none:=fun n c h=>fresh c (Nat.le_of_lt (I.above n c h))
  have kd:∀ (i:Nat) (y:Str) (k:NameKind),fd.scope.names[i]?=some (y,k)->(callEnvC fd s.heap.objs.size a).kindOf y=some k:=fun i y k h=>cM sc.uniq h
  have hnd:=g6 (n:=s.heap.objs.size + 1) (acc:=[]) sc.uniq (by simp) (by simp)
  have cl:∀ p ∈ (callEnvC fd s.heap.objs.size a).cells,(callEnvC fd s.heap.objs.size a).cells.lookup p.1=some p.2:=nS hnd
  have xk:aB [] α s.heap α s₁.heap:=.keeps keep
  have hrho:∀ (i:Nat) (w:PV),(vs.map some++List.replicate (fn.slots - fn.params) (none:Option PV))[i]?=some (some w)->vs[i]?=some w:=fun i w e=>by
    by_cases hi:i < vs.length
    · rw [List.getElem?_append_left (by simpa using hi)] at e
      simpa using e
    · rw [List.getElem?_append_right (by simpa using hi)] at e
      rw [List.getElem?_replicate] at e
      split at e <;> cases e
  have arg:∀ (i:Nat) (w:PV),vs[i]?=some w->∃ p k u,ps[i]?=some p/\fd.scope.names[i]?=some (p,k)/\(k=.local\/k=.cell)/\us[i]?=some u/\VR s.heap α w u:=fun i w e=>by
    have hi:i < vs.length:=(List.getElem?_eq_some_iff.mp e).1
    have hp:i < ps.length:=by omega
    obtain ⟨k,h1,h2⟩:=f.pk i ps[i] (by simp [hp])
    have hu:i < us.length:=by rw [<- v.1]; exact hi
    exact ⟨ps[i],k,us[i],by simp [hp],h1,h2,by simp [hu],v.2 i w us[i] e (by simp [hu])⟩
  refine ⟨⟨⟨f.kind,f.glob,f.bins,kd,sc.nodbg⟩,notAll _ (fresh _ (Nat.le_refl _)),⟨_,I.toInCall.ns,fun i y w e1 e2=>?_⟩,fun y c hc=>?_,fun y z c h1 h2=>?_,fun i y e1=>?_,fun i w e=>?_⟩,
    ⟨sc,⟨base _ (fresh _ (Nat.le_refl _)),fun y c hc=>base _ (cfresh y c (mem_of_lookup hc)),⟨_,_,rfl,rfl⟩⟩,cl,?_⟩,?_,?_,keep,fun b hb=>?_⟩
  · obtain ⟨p,k,u,q1,q2,q3,q4,q5⟩:=arg i w (hrho i w e2)
    rw [hnm] at e1
    rw [q2] at e1
    cases e1
    exact ⟨u,uz f.nodup q1 q4 (kd i _ _ q2),(q5.ext xk).refr⟩
  · have hm:=mem_of_lookup hc
    exact ⟨notAll _ (cfresh y c hm),Nat.ne_of_gt (I.above y c hm),_,I.cell y c hc⟩
  · exact name_of_addr I.apart (mem_of_lookup h1) (mem_of_lookup h2)
  · rw [hnm] at e1
    obtain ⟨c,hc⟩:=fO (n:=s.heap.objs.size + 1) (acc:=[]) (List.mem_of_getElem? e1)
    have hc':=cl (y,c) hc
    refine ⟨c,hc',fun w e2=>?_⟩
    obtain ⟨p,k,u,q1,q2,q3,q4,q5⟩:=arg i w (hrho i w e2)
    rw [q2] at e1
    cases e1
    refine ⟨u,?_,(q5.ext xk).refr⟩
    have:=I.cell _ c hc'
    rw [uA f.nodup q1 q4 (kd i _ _ q2)] at this
    exact this
  · obtain ⟨p,k,u,q1,q2,q3,q4,q5⟩:=arg i w (hrho i w e)
    exact ⟨p,k,q2,q3⟩
  · show (fd.scope.kind == .module && _)=false
    rw [f.kind]; rfl
  · obtain ⟨o',es,ep,e',d,_⟩:=I.toInCall.ns
    exact (r.keeps keep).pushFr (base _ (fresh _ (Nat.le_refl _))) e' ⟨es,ep,d⟩ (AL.not_ix (notAll _ (fresh _ (Nat.le_refl _))))
  · obtain ⟨h',tk,rfl⟩:=I.toInCall.same
    exact ⟨rfl,rfl⟩
  · rcases List.mem_cons.mp hb with q | q
    · rw [q]; exact fresh _ (Nat.le_refl _)
    · obtain ⟨p,hp,rfl⟩:=List.mem_map.mp q
      exact cfresh p.1 p.2 hp
noncomputable def xq (K:Kt):Prop:=∃ a o fd n r,K.mg "law" = some (.ref a)/\K.hb.get? a=some o/\o.data=.func fd/\fd.scope.names=(n,NameKind.local)::r
inductive adc (K:Kt) (T:aV) (P:j0) (f:Nat) (L:Addr->Prop):Prop
  | mk (fn:Fn) (a:Addr) (o:Obj) (fd:FuncData) (body:List Stmt) (ps:List Str) (n1 n2:Nat) (hf:P.fns[f]?=some fn) (hl:L a) (F:dG K T fn a o fd body ps n1 n2):adc K T P f L
structure PrgOk (K:Kt) (T:aV) (P:j0):Prop where
  hK:K.Ok
  rp:T.repl=true->K.pos=true
  l0:T.repl=true->xq K
  cst:∀ x v,T.cst.lookup x=some v->∃ u,K.mg x=some u/\∀ fr h σ α,R (K.wf fr).hb h σ α->VR h α v u
  bin:∀ x,x ∈ T.bins->K.mg x=none/\∃ v,iI x=some v/\K.mb x=some v
  fns:∀ (f:Nat) (x:Str),T.fns[f]?=some x->adc K T P f fun a=>K.mg x=some (.ref a)
  brd:∀ b c,T.brd=some (b,c)->∃ F:PySem.W.Frag,eQ K F b c/\∀ (j:Nat) (n:Str),T.meths[j]?=some n->adc K T P (T.fns.length + j) fun a=>PySem.W.findIn F (.ref c) n=some (some (.ref a))/\PySem.W.typeIn F (.ref a)=some (.type "function")
structure j1 (K:Kt) (A:Around) (m:Nat):Prop where
  hd:m=0->A.handled=none
theorem j1.ctx {K:Kt} {A:Around} {m d N:Nat} {P:j0} (h:j1 K A m):(i7 P N m d).hd=false->A.handled=none:=fun q=>h.hd (by simpa [bc.hd,i7] using q)
theorem xC {M:Model} {Γ:PySem.Ctx} {γ:Type} {x:Str} {f:Value->Sem γ} {Q:γ->Pos->Shared->Prop} {E:Value->Pos->Shared->Prop} {p:Pos} {s:Shared} (h:Sem.wp M Γ (mkText x >>= f) Q E p s):Sem.wp M Γ (mkText x >>= f) (fun a p s=>Q a p s/\1 <= s.toks) E p s:=by
  have h2:Sem.wp M Γ (f (.str x s.toks)) Q E p { s with toks:=s.toks + 1 }:=h
  have h3:Sem.wp M Γ (f (.str x s.toks)) (fun a p s=>Q a p s/\1 <= s.toks) E p { s with toks:=s.toks + 1 }:=
    Sem.wp_mono M Γ _ (fun _ _ _ h=>h) (fun _ _ _ h=>h.1) _ _ (o5 (n:=1) (f (.str x s.toks)) (Nat.le_add_left 1 s.toks) h2)
  exact h3
theorem vM {M:Model} {Γ:PySem.Ctx} {env:Env} {x:Str} {v:Value} {Q:Unit->Pos->Shared->Prop} {E:Value->Pos->Shared->Prop} {p:Pos} {s:Shared} (hk:env.scope.kind=.function) (hl:env.kindOf x=some .local)
   (h:Sem.wp M Γ (storeName env x v) Q E p s):Sem.wp M Γ (storeName env x v) (fun a p s=>Q a p s/\1 <= s.toks) (fun e p s=>E e p s) p s:=by
  have e:storeName env x v=nsSet env.locals x v:=by
    unfold storeName
    rw [hl,hk]; rfl
  rw [e] at h ⊢
  unfold nsSet at h ⊢
  rw [Sem.wp_bind'] at h ⊢
  refine Sem.wp_mono M Γ _ (fun a p s h=>?_) (fun _ _ _ h=>h) _ _ h
  exact xC h
theorem zo {scope:Scope} {g:Addr} {clo:List (Str × Addr)} {x:Str} {v:Value} {rest:List (Str × Value)} {qual:Str} {func:Option Addr} {code:Value} {b:Addr} {Q:Env->Shared->Prop} {E:Value->Shared->Prop} (hk:scope.kind=.function) (hl:scope.names.lookup x=some .local)
    (h:wpAny (model K.prog K.w) A (newFunctionEnv scope g clo ((x,v)::rest) qual func code none b) (fun e s'=>0 < s'.toks->Q e s') E s):wpAny (model K.prog K.w) A (newFunctionEnv scope g clo ((x,v)::rest) qual func code none b) Q E s:=by
  intro Γ p hΓ
  have h':=h Γ p hΓ
  unfold newFunctionEnv at h' ⊢
  rw [Sem.wp_bind'] at h' ⊢
  refine Sem.wp_mono _ _ _ (fun a p s h=>?_) (fun _ _ _ h=>h) _ _ h'
  rw [Sem.wp_bind'] at h ⊢
  refine Sem.wp_mono _ _ _ (fun a p s h=>?_) (fun _ _ _ h=>h) _ _ h
  dsimp only at h ⊢
  rw [List.forIn_cons] at h ⊢
  rw [Sem.wp_bind',Sem.wp_bind'] at h ⊢
  rw [Sem.wp_bind'] at h ⊢
  refine Sem.wp_mono _ _ _ (fun a p s h=>?_) (fun _ _ _ h=>h) _ _ (vM hk hl h)
  obtain ⟨h,ht⟩:=h
  refine Sem.wp_mono _ _ _ (fun a p s h=>?_) (fun _ _ _ h=>h.1) _ _ (o5 (n:=1) _ ht h)
  obtain ⟨h,ht⟩:=h
  exact Sem.wp_mono _ _ _ (fun a p s h=>h.1 h.2) (fun _ _ _ h=>h.1) _ _ (o5 (n:=1) _ ht h)
theorem tD {R:Result->Shared->Prop} {a:Addr} {o:Obj} {fd:FuncData} {body:List Stmt} {vals:List Value} {binds:List (Str × Value)} (tk:K.Tk s\/∃ x v rest,binds=(x,v)::rest/\fd.scope.names.lookup x=some .local)
    (hroom:A.depth < recursionLimit) (ho:s.heap.get? a=some o) (hdata:o.data=.func fd) (hlim:s.heap.NoLimit) (hcd:s.heap.CodeRec fd.code fd.qualname)
    (hbody:fd.body=.stmts body) (hbind:bindArgs fd ⟨vals,[]⟩=pure binds) (hclo:fd.closure=[])
    (hkind:∀ x ∈ binds,fd.scope.names.lookup x.1=some .local\/(fd.scope.names.lookup x.1=some .cell/\((cellsFrom (s.heap.objs.size + 1) fd.scope.names []).lookup x.1).isSome=true))
    (h:∀ s₁,InCallC s (callEnvC fd s.heap.objs.size a).locals (bindL (callEnvC fd s.heap.objs.size a).kindOf binds fun _=>none) (callEnvC fd s.heap.objs.size a).cells (bindC (callEnvC fd s.heap.objs.size a).kindOf binds fun _=>none) s₁->K.Tk s₁ ->
      wpAny (model K.prog K.w) (A.deeper (callEnvC fd s.heap.objs.size a)) (execs body (callEnvC fd s.heap.objs.size a)) (fun f s'=>R (.ok (.ret (match f with | .ret v=>v | _=>.none))) s')
        (fun e s'=>wpAny (model K.prog K.w) (A.deeper (callEnvC fd s.heap.objs.size a)) (leaving (callEnvC fd s.heap.objs.size a) e) (fun _ s''=>R (.error e) s'') (fun e' s''=>R (.error e') s'') s') s₁)
    (hco:fd.scope.isCoroutine=false) (hgen:fd.scope.isGenerator=false) (hk:fd.scope.kind=.function):codeAny (model K.prog K.w) A (.call (.ref a) ⟨vals,[]⟩) R s:=by
  refine codeAny_call_function hroom ho hdata hco hgen hbody hcd ?_
  rw [hbind,hclo]
  refine wpAny_pure ?_
  rcases tk with tk | ⟨y,v,rest,rfl,hl⟩
  · refine f8 tk (wpAny_newFunctionEnv_cells hk hkind fun env he s' x tk'=>?_)
    subst he
    exact ⟨hlim.keeps x.toInCall.keep,codeAny_func (h s' x tk')⟩
  · refine zo hk hl (wpAny_newFunctionEnv_cells hk hkind fun env he s' x tk'=>?_)
    subst he
    exact ⟨hlim.keeps x.toInCall.keep,codeAny_func (h s' x fun _=>tk')⟩
theorem uy {P:j0} (p:PrgOk K T P) {N d:Nat} {hd:Nat} {fr:List Addr} (hroom:A.depth < recursionLimit) (hA:∀ env,eR d (A.deeper env)) (hh:j1 K A hd) (hF:gr (K.wf fr) A)
    (eJ:∀ {K:Kt} (p:PrgOk K T P) (m:Nat) (A:Around) (fr:List Addr),eR d A->j1 K A m->gr (K.wf fr) A->Ctx (K.wf fr) A T (i7 P N m d))
    {f:Nat} {fn:Fn} {a:Addr} {o:Obj} {fd:FuncData} {body:List Stmt} {ps:List Str} {n1 n2:Nat} (hf:P.fns[f]?=some fn) (F:dG K T fn a o fd body ps n1 n2)
    {vs:List PV} {us:List Value} {s:Shared} {σ:ab} {α:AL} (r:R (K.wf fr).hb s.heap σ α) (v:aN s.heap α vs us) (hc:cZ P N hd (d + 1) f vs σ ≠ .stuck)
    (tk:K.Tk s\/∃ x q,ps=x::q/\us ≠ []/\fd.scope.names.lookup x=some .local) {Rr:Result->Shared->Prop} (hok:∀ v s',aT (K.wf fr) VR (cZ P N hd (d + 1) f vs σ) s α v s'->Rr (.ok (.ret v)) s') (herr:∀ e s',aS (K.wf fr) A (cZ P N hd (d + 1) f vs σ) s α e s'->Rr (.error e) s') :
    codeAny (model K.prog K.w) A (.call (.ref a) ⟨us,[]⟩) Rr s:=by
  simp only [cZ,hf] at hc hok herr
  split at hc
  · rename_i hl
    rw [if_pos hl] at hok herr
    rw [F.params] at hl
    have sc:=jp F.sc
    refine tD (tk.imp id fun ⟨x,q,e1,e2,e3⟩=>by
      cases us with
      | nil=>exact absurd rfl e2
      | cons u us=>exact ⟨x,u,q.zip us,by rw [e1]; rfl,e3⟩) hroom (r.base _ _ F.ho) F.hd (p.hK.nolimit.keeps r.base) (F.code.keeps r.base) F.hbody (F.bind us (by rw [<- v.1]; exact hl)) F.clo (fun q hq=>?_) (fun s₁ I gy=>?_) F.co F.gen F.kind
    · obtain ⟨i,hi⟩:=List.mem_iff_getElem?.mp hq
      obtain ⟨h1,h2⟩:=List.getElem?_zip_eq_some.mp hi
      obtain ⟨k,h3,h4⟩:=F.pk i q.1 h1
      rcases h4 with rfl | rfl
      · exact .inl (cM sc.uniq h3)
      · refine .inr ⟨cM sc.uniq h3,?_⟩
        obtain ⟨c,hc'⟩:=fO (n:=s.heap.objs.size + 1) (acc:=[]) (List.mem_of_getElem? h3)
        obtain ⟨c',hc''⟩:=mQ hc'
        rw [hc'']; rfl
    · obtain ⟨E,Fr,r1,m1,kp,own⟩:=ac1 F hl r v I
      have hA':eR d (A.deeper (callEnvC fd s.heap.objs.size a)):=hA _
      have hF':gr (K.wf (s.heap.objs.size::fr)) (A.deeper (callEnvC fd s.heap.objs.size a)):=hF.push rfl F.kind
      have ctx:=eJ p hd _ (s.heap.objs.size::fr) hA' ⟨hh.hd⟩ hF'
      have body_ok:=eU (n:=N) (aae (T:=T) (f:=yf T n1) rfl ctx (tH ctx n1) Fr n2) F.tr _ _ _ _ E r1
      have e0:(⟨fun m=>cZ P N m d,hd⟩:bc)=i7 P N hd d:=rfl
      rw [e0] at hc hok herr
      generalize hcq:ex (i7 P N hd d) N fn.body (vs.map some++List.replicate (fn.slots - fn.params) none) σ=cc at hc body_ok hok herr
      have hcc:cc ≠ .stuck:=by rintro rfl; exact hc rfl
      have hfr:α.fr=fr:=r.fe
      have hLn:s.heap.get? s.heap.objs.size=none:=own _ List.mem_cons_self
      refine wpAny_mono (body_ok hcc gy) (fun fl ay hp=>?_) fun e ay hx=>?_
      · obtain ⟨ρ₂,σ₂,aJ,x2,r2,E2,m2,fo⟩:=hp
        have xx:aB [] α s.heap ⟨aJ.ix,aJ.hid,fr⟩ ay.heap:=aB.ofCall hfr kp own hLn x2
        cases cc with
        | next ρ' σ' =>
          obtain ⟨rfl,rfl,rfl⟩:=fo
          exact hok _ _ ⟨.none,_,_,rfl,xx,r2.popFr,.none,m1.trans m2⟩
        | ret w ρ' σ' =>
          obtain ⟨⟨u,rfl,vu⟩,rfl,rfl⟩:=fo
          exact hok _ _ ⟨w,_,_,rfl,xx,r2.popFr,vu.refr,m1.trans m2⟩
        | brk ρ' σ'=>exact absurd rfl hc
        | cont ρ' σ'=>exact absurd rfl hc
        | exc i ρ' σ'=>exact fo.elim
        | stuck=>exact absurd rfl hcc
      · obtain ⟨i,ρ',σ',dH,ef,nt,e1,y,En,m0,fx⟩:=hx
        subst e1
        exact FX.leave hF' Fr hfr kp own rfl ⟨_,r⟩ (m1.trans m0) y En fx fun s' f=>herr _ _ ⟨i,σ',rfl,_,f⟩
  · exact absurd rfl hc
theorem abE {P:j0} (p:PrgOk K T P) {N d:Nat} {hd:Nat} {fr:List Addr} (hA:eR (d + 1) A) (hh:j1 K A hd) (hF:gr (K.wf fr) A)
    (eJ:∀ {K:Kt} (p:PrgOk K T P) (m:Nat) (A:Around) (fr:List Addr),eR d A->j1 K A m->gr (K.wf fr) A->Ctx (K.wf fr) A T (i7 P N m d))
    {f:Nat} {fn:Fn} {a:Addr} {o:Obj} {fd:FuncData} {body:List Stmt} {ps:List Str} {n1 n2:Nat} (hf:P.fns[f]?=some fn) (F:dG K T fn a o fd body ps n1 n2)
    {vs:List PV} {us:List Value} {s:Shared} {σ:ab} {α:AL} (r:R (K.wf fr).hb s.heap σ α) (v:aN s.heap α vs us) (hc:cZ P N hd (d + 1) f vs σ ≠ .stuck)
    (tk:K.Tk s\/∃ x q,ps=x::q/\us ≠ []/\fd.scope.names.lookup x=some .local) :
    wpAny (model K.prog K.w) A (call (.ref a) us) (aT (K.wf fr) VR (cZ P N hd (d + 1) f vs σ) s α) (aS (K.wf fr) A (cZ P N hd (d + 1) f vs σ) s α) s:=
  wpAny_call (uy p (by have:=hA.depth; omega) (fun _=>hA.deeper) hh hF eJ hf F r v hc tk (fun _ _ h=>h) fun _ _ h=>h)
open PySem.W in
theorem ab1 {c:Addr} {us:List Value} {d:Nat} (h:eR (d + 1) A):(A.under (.builtin "type.__call__" ⟨.ref c::us,[]⟩)).depth < recursionLimit/\∀ env,eR d ((A.under (.builtin "type.__call__" ⟨.ref c::us,[]⟩)).deeper env):=by
  have w:(Code.builtin "type.__call__" ⟨.ref c::us,[]⟩).weight <= 1:=Nat.le_of_ble_eq_true (by kernel_rfl)
  have u:(Code.builtin "type.__call__" ⟨.ref c::us,[]⟩).cUnits <= 4:=Nat.le_of_ble_eq_true rfl
  have h1:=h.depth
  have h2:=h.units
  refine ⟨?_,fun env=>⟨?_,?_⟩⟩
  · show A.depth + (Code.builtin "type.__call__" ⟨.ref c::us,[]⟩).weight < recursionLimit; omega
  · show A.depth + (Code.builtin "type.__call__" ⟨.ref c::us,[]⟩).weight + 1 + 2 * d + 200 < recursionLimit; omega
  · show A.units + (Code.builtin "type.__call__" ⟨.ref c::us,[]⟩).cUnits + 3 + 20 * d + 200 < cLine; omega
theorem eQ.wf {F:PySem.W.Frag} {b:Str} {c:Addr} {fr:List Addr} (B:eQ K F b c):eQ (K.wf fr) F b c:=⟨B.mg,B.inn,B.keep,B.makes,B.plain,B.hasd,B.seta,B.free
    ,B.geta,B.getr,B.none
    ⟩
open PySem.W in
theorem acs {P:j0} (p:PrgOk K T P) {N d:Nat} {hd:Nat} {fr:List Addr} (hA:eR (d + 1) A) (hh:j1 K A hd) (hF:gr (K.wf fr) A)
    (eJ:∀ {K:Kt} (p:PrgOk K T P) (m:Nat) (A:Around) (fr:List Addr),eR d A->j1 K A m->gr (K.wf fr) A->Ctx (K.wf fr) A T (i7 P N m d))
    {f:Nat} {fn:Fn} {a:Addr} {o:Obj} {fd:FuncData} {body:List Stmt} {ps:List Str} {n1 n2:Nat} (hf:P.fns[f]?=some fn) (F:dG K T fn a o fd body ps n1 n2)
    {Fg:Frag} {b:Str} {c:Addr} (B:eQ K Fg b c) (hi:findIn Fg (.ref c) "__init__" = some (some (.ref a))) (hty:typeIn Fg (.ref a)=some (.type "function"))
    {vs:List PV} {us:List Value} {s:Shared} {σ:ab} {α:AL} (r:R (K.wf fr).hb s.heap σ α) (v:aN s.heap α vs us) :
    Runs (K.wf fr) VR A (call (.ref c) us) (mx (i7 P N hd (d + 1)) c f vs σ) s α:=by
  intro hc tk
  have X:Fg.In s.heap:=fun x o e=>r.base x o (B.inn x o e)
  obtain ⟨h,g,dr,t,os⟩:=s
  refine wpAny_call (make_core (makes_of X B.makes) (looks_findIn X hi) (fun self=>bind_fn X self hty) (.inl rfl) ?_)
  have k:∀ b o,h.get? b=some o->((h.push emptyDict).push (instObj c h.objs.size)).get? b=some o:=fun b o e=>Heap.get?_push_of_some _ (Heap.get?_push_of_some _ e)
  have hn:∀ b,h.objs.size <= b->h.get? b=none:=fun b hb=>by
    cases e:h.get? b with
    | none=>rfl
    | some o=>exact absurd (Heap.lt_size e) (Nat.not_lt.mpr hb)
  have hD:((h.push emptyDict).push (instObj c h.objs.size)).get? h.objs.size=some emptyDict:=Heap.get?_push_of_some _ (Heap.get?_push_size _ rfl)
  have hx:((h.push emptyDict).push (instObj c h.objs.size)).get? (h.objs.size + 1)=some (instObj c h.objs.size):=by
    have:=Heap.get?_push_size (h.push emptyDict) (o:=instObj c h.objs.size) rfl
    rwa [Heap.size_push] at this
  have nsD:((h.push emptyDict).push (instObj c h.objs.size)).Ns1 h.objs.size fun _=>none:=
    Heap.Ns1.of_empty ⟨_,#[],_,hD,rfl,fun e he=>absurd he (by simp),fun _=>rfl⟩
  obtain ⟨r',x'⟩:=r.add (D:=h.objs.size) (m:=.ns []) k (hn _ (Nat.le_refl _)) ⟨_,nsD,fun n v e=>(nomatch e),fun _ _=>rfl⟩
  have hix:(α.add h.objs.size).ix[σ.length]?=some h.objs.size:=by rw [r.len]; simp [AL.add]
  have hxn:h.objs.size + 1 ∉ (α.add h.objs.size).all:=fun q=>by
    obtain ⟨o,e⟩:=r'.liveAll q
    rcases List.mem_append.mp q with q | q
    · rcases List.mem_append.mp q with q | q
      · obtain ⟨o,e⟩:=r.liveAll (List.mem_append_left _ q)
        rw [hn _ (Nat.le_succ _)] at e; contradiction
      · exact absurd (List.mem_singleton.mp q) (Nat.succ_ne_self _)
    · obtain ⟨o,e⟩:=r.liveAll (List.mem_append_right _ q)
      rw [hn _ (Nat.le_succ _)] at e; contradiction
  have vx:VR ((h.push emptyDict).push (instObj c h.objs.size)) (α.add h.objs.size) (.inst c σ.length) (.ref (h.objs.size + 1)):=.inst hx hxn hix
  obtain ⟨g1,g2⟩:=ab1 (c:=c) (us:=us) hA
  unfold mx at hc ⊢
  have hcc:cZ P N hd (d + 1) f (.inst c σ.length::vs) (σ++[.ns []]) ≠ .stuck:=fun q=>hc (by
    show (cZ P N hd (d + 1) f (.inst c σ.length::vs) (σ++[.ns []])).bind _=_
    rw [q]; rfl)
  refine uy p (s:=⟨(h.push emptyDict).push (instObj c h.objs.size),g,dr,t,os⟩) g1 g2 ⟨hh.hd⟩ ⟨hF.ex⟩ eJ hf F (vs:=.inst c σ.length::vs) r' (.cons vx (v.ext x')) hcc (.inl tk) (fun w s' hp=>?_) fun e s' hp=>?_
  · obtain ⟨bb,σ',α',e,x2,r2,v2,m2⟩:=hp
    change (cZ P N hd (d + 1) f (.inst c σ.length::vs) (σ++[.ns []])).bind _ ≠ _ at hc
    rw [e] at hc
    cases bb with
    | none =>
      obtain rfl:=v2.noneE
      refine ⟨rfl,?_⟩
      show aT (K.wf fr) VR ((cZ P N hd (d + 1) f (.inst c σ.length::vs) (σ++[.ns []])).bind _) _ _ _ _
      rw [e]
      exact ⟨_,σ',α',rfl,x'.trans x2,r2,vx.ext x2,⟨m2.gens,m2.os⟩⟩
    | _=>exact absurd rfl hc
  · have hp2:aS (K.wf fr) (A.under (.builtin "type.__call__" ⟨.ref c::us,[]⟩)) (cZ P N hd (d + 1) f (.inst c σ.length::vs) (σ++[.ns []])) ⟨h,g,dr,t,os⟩ α e s':=hp.lift (s₁:=⟨(h.push emptyDict).push (instObj c h.objs.size),g,dr,t,os⟩) x' ⟨rfl,rfl⟩
    obtain ⟨i,σ',e1,fx⟩:=hp2
    show aS (K.wf fr) A ((cZ P N hd (d + 1) f (.inst c σ.length::vs) (σ++[.ns []])).bind _) _ _ _ _
    rw [e1]
    exact ⟨i,σ',rfl,fx⟩
theorem aaQ {P:j0} {N d m:Nat} {fr:List Addr} (p:PrgOk K T P) (hA:eR d A) (hh:j1 K A m) (hF:gr (K.wf fr) A)
    (hcall:∀ {f fn a o fd body ps n1 n2},P.fns[f]?=some fn->dG K T fn a o fd body ps n1 n2->∀ vs us s σ α,R (K.wf fr).hb s.heap σ α->aN s.heap α vs us->Runs (K.wf fr) VR A (call (.ref a) us) (cZ P N m d f vs σ) s α)
    (hnew:∀ {f fn a o fd body ps n1 n2},P.fns[f]?=some fn->dG K T fn a o fd body ps n1 n2->∀ {Fg b c},eQ K Fg b c->PySem.W.findIn Fg (.ref c) "__init__" = some (some (.ref a))->PySem.W.typeIn Fg (.ref a)=some (.type "function") ->
      ∀ vs us s σ α,R (K.wf fr).hb s.heap σ α->aN s.heap α vs us->Runs (K.wf fr) VR A (call (.ref c) us) (mx (i7 P N m d) c f vs σ) s α)
    : Ctx (K.wf fr) A T (i7 P N m d):=by
  refine ⟨⟨p.hK.g,p.hK.b,p.hK.nolimit,p.hK.mods⟩,hA.ok,
    hh.ctx,p.rp,hF,
    fun x v h=>?_,fun f x hx=>?_,p.bin
    ,fun b c hb=>?_
    ⟩
  · obtain ⟨u,h1,h2⟩:=p.cst x v h
    exact ⟨u,h1,fun h σ α r=>h2 fr h σ α r⟩
  · obtain ⟨fn,a,o,fd,body,ps,n1,n2,hf,hmg,F⟩:=p.fns f x hx
    exact ⟨a,o,fd,hmg,F.ho,F.hd,hcall hf F⟩
  · obtain ⟨Fg,B,H⟩:=p.brd b c hb
    refine ⟨Fg,B.wf,fun j hj=>?_
      ,fun j n hj=>?_
      ⟩
    · obtain ⟨fn,a,o,fd,body,ps,n1,n2,hf,⟨q1,q2⟩,F⟩:=H j _ hj
      exact hnew hf F B q1 q2
    · obtain ⟨fn,a,o,fd,body,ps,n1,n2,hf,⟨q1,q2⟩,F⟩:=H j n hj
      exact ⟨a,o,fd,q1,q2,F.ho,F.hd,hcall hf F⟩
theorem eJ {P:j0} {N:Nat} (d:Nat):∀ {K:Kt} (p:PrgOk K T P) (m:Nat) (A:Around) (fr:List Addr),eR d A->j1 K A m->gr (K.wf fr) A->Ctx (K.wf fr) A T (i7 P N m d):=by
  induction d with
  | zero =>
    exact fun p m A fr hA hh hF=>aaQ p hA hh hF (fun _ _ _ _ _ _ _ _ _ hc=>absurd rfl hc)
      (fun _ _ _ _ _ _ _ _ _ _ _ _ _ _ _ hc=>absurd rfl hc)
  | succ d ih =>
    exact fun p m A fr hA hh hF=>aaQ p hA hh hF (fun hf F vs us s σ α r v hc tk=>abE p hA hh hF ih hf F r v hc (.inl tk))
      (fun hf F _ _ _ B q1 q2 vs us s σ α r v=>acs p hA hh hF ih hf F B q1 q2 r v)
end
end Mine
namespace Mine
open PySem PySem.W PyProof.Rows
theorem mA:∀ {ps:List Str} {vals:List Value} {i:Nat} {p:Str} {v:Value},ps.Nodup->ps[i]?=some p->vals[i]?=some v->(ps.zip vals).lookup p=some v
  | [],_,_,_,_,_,h,_=>by simp at h
  | _::_,[],_,_,_,_,_,h=>by simp at h
  | q::ps,w::vals,i,p,v,hn,h1,h2=>by
    rw [List.nodup_cons] at hn
    rw [List.zip_cons_cons,List.lookup_cons]
    cases i with
    | zero=>simp at h1 h2; subst h1 h2; simp
    | succ i =>
      have h1':ps[i]?=some p:=by simpa using h1
      have:(p == q)=false:=by
        cases hb:p == q with
        | false=>rfl
        | true =>
          have:p=q:=by simpa using hb
          subst this; exact absurd (List.mem_of_getElem? h1') hn.1
      rw [this]
      exact mA hn.2 h1' (by simpa using h2)
theorem uL {ps:List Str} {vals:List Value} (hn:ps.Nodup) (hl:vals.length=ps.length):(ps.filterMap fun n=>((ps.zip vals).lookup n).map (n,·))=ps.zip vals:=by
  have key:∀ (qs:List Str) (ws:List Value),qs.length=ws.length->(∀ (i:Nat) q w,qs[i]?=some q->ws[i]?=some w->(ps.zip vals).lookup q=some w)->(qs.filterMap fun n=>((ps.zip vals).lookup n).map (n,·))=qs.zip ws:=by
    intro qs
    induction qs with
    | nil=>intro ws _ _; simp
    | cons q qs ih =>
      intro ws hl h
      cases ws with
      | nil=>contradiction
      | cons w ws =>
        have h0:=h 0 q w (by simp) (by simp)
        simp only [List.filterMap_cons,h0,Option.map_some,List.zip_cons_cons]
        rw [ih ws (by simpa using hl) fun i q w h1 h2=>h (i + 1) q w (by simpa using h1) (by simpa using h2)]
  exact key ps vals hl.symm fun i q w h1 h2=>mA hn h1 h2
theorem ac5 {fd:FuncData} {ps:List Str} (hp:fd.params.posonlyargs=[]) (ha:fd.params.args.map (·.arg)=ps) (hk:fd.params.kwonlyargs=[]) (hv:fd.params.vararg=none) (hw:fd.params.kwarg=none) (hdf:fd.defaults=.none)
    (hn:ps.Nodup) {vals:List Value} (hl:vals.length=ps.length):bindArgs fd ⟨vals,[]⟩=pure (ps.zip vals):=by
  obtain ⟨nm,q,⟨po,ar,va,ko,kd,kw,df⟩,body,sc,g,cl,dfs,kwd,doc,pm,an,code,ct,bl⟩:=fd
  dsimp only at hp ha hk hv hw hdf
  subst hp hk hv hw hdf
  refine (if_neg ?_).trans ((if_neg ?_).trans ?_)
  · show ¬ (decide (vals.length > (ar.map (·.arg)).length) && true)=true
    rw [ha,hl,decide_eq_false (Nat.lt_irrefl _)]; exact nofun
  · show ¬ (!(((ar.map (·.arg)).take ((ar.map (·.arg)).length - (List.drop (0 - (ar.map (·.arg)).length) ([]:List Value)).length)).filter fun n=>(((ar.map (·.arg)).zip vals).lookup n).isNone).isEmpty)=true
    rw [ha,List.drop_nil,List.length_nil,Nat.sub_zero,List.take_length,List.filter_eq_nil_iff.mpr]
    · exact nofun
    intro a ha'
    obtain ⟨i,hi,rfl⟩:=List.mem_iff_getElem.mp ha'
    rw [mA hn (i:=i) (v:=vals[i]) (List.getElem?_eq_getElem hi) (List.getElem?_eq_getElem _)]
    exact nofun
  · have hz:∀ (l:List Str),l.zip ([]:List Value)=[]:=fun l=>List.zip_nil_right
    dsimp only
    rw [show (none.getD #[]:Array Value).toList=[] from rfl,List.drop_nil,hz]
    show (pure:_->Sem _) ((List.map (fun x:Arg=>x.arg) ar++[]).filterMap fun n=>(((List.map (fun x:Arg=>x.arg) ar).zip vals).lookup n).map (n,·))=_
    rw [ha,List.append_nil,uL hn hl]
noncomputable def zj:Value->Option Addr
  | .ref a=>some a
  | _=>none
noncomputable def adu:Value->Option Int
  | .int i _=>some i
  | _=>none
noncomputable def adl:Value->Option Str
  | .str s _=>some s
  | _=>none
noncomputable def abr:Data->Option FuncData
  | .func fd=>some fd
  | _=>none
noncomputable def adm:Data->Option (Array Value × Nat)
  | .seq xs n=>some (xs,n)
  | _=>none
noncomputable def yk:FuncBody->Option (List Stmt)
  | .stmts b=>some b
  | _=>none
theorem vX {v:Value} {a:Addr} (h:zj v=some a):v=.ref a:=by
  cases v with
  | ref b=>rw [Option.some.inj h]
  | _=>contradiction
theorem acI {v:Value} {i:Int} (h:adu v=some i):∃ t,v=.int i t:=by
  cases v with
  | int j t=>exact ⟨t,by rw [Option.some.inj h]⟩
  | _=>contradiction
theorem ab4 {v:Value} {s:Str} (h:adl v=some s):∃ t,v=.str s t:=by
  cases v with
  | str j t=>exact ⟨t,by rw [Option.some.inj h]⟩
  | _=>contradiction
theorem abq {d:Data} {fd:FuncData} (h:abr d=some fd):d=.func fd:=by
  cases d with
  | func f=>rw [Option.some.inj h]
  | _=>contradiction
theorem ab9 {d:Data} {q:Array Value × Nat} (h:adm d=some q):d=.seq q.1 q.2:=by
  cases d with
  | seq f n=>rw [<- Option.some.inj h]
  | _=>contradiction
theorem za {d:FuncBody} {b:List Stmt} (h:yk d=some b):d=.stmts b:=by
  cases d with
  | stmts f=>rw [Option.some.inj h]
  | _=>contradiction
noncomputable def ae6 (q:Str × Str × NameKind):Bool:=q.1 == q.2.1 && ze q.2.2
noncomputable def adn (ps:List Str) (names:List (Str × NameKind)):Bool:=decide (ps.length <= names.length) && (ps.zip names).all ae6
noncomputable def isNone:Value->Bool
  | .none=>true
  | _=>false
noncomputable def acP (K:Frag) (fd:FuncData):Bool:=
  codeIn K fd.code fd.qualname && fd.globals == mainGlobals && fd.builtins == builtinsNs && fd.closure.isEmpty && fd.scope.kind == .function && !fd.scope.isCoroutine && !fd.scope.isGenerator && mr fd.scope.names &&
    fd.params.posonlyargs.isEmpty && fd.params.kwonlyargs.isEmpty && fd.params.vararg.isNone && fd.params.kwarg.isNone && isNone fd.defaults && adn (fd.params.args.map (·.arg)) fd.scope.names
noncomputable def sN (T:aV) (n1 n2:Nat) (K:Frag) (q:Option (Option Value)):Option Fn:=
  q.bind fun q=>q.bind fun v=>(zj v).bind fun a=>(K.lookup a).bind fun o=>(abr o.data).bind fun fd=>(yk fd.body).bind fun body =>
    aE (acP K fd) ((kQ (trS T fd.scope.names (yf T n1) n2) body).map fun b=>⟨fd.params.args.length,fd.scope.names.length,b⟩)
theorem aeR {α β:Type} {xs:List α} {ys:List β} {i:Nat} {x:α} (hl:xs.length <= ys.length) (h:xs[i]?=some x):∃ y,ys[i]?=some y/\(x,y) ∈ xs.zip ys:=by
  have hi:=(List.getElem?_eq_some_iff.mp h).1
  have hj:i < ys.length:=Nat.lt_of_lt_of_le hi hl
  exact ⟨ys[i],List.getElem?_eq_getElem hj,List.mem_of_getElem? (List.getElem?_zip_eq_some.mpr ⟨h,List.getElem?_eq_getElem hj⟩)⟩
theorem ab7 {k:NameKind} (h:ze k=true):k=.local\/k=.cell:=by
  cases k with
  | «local»=>exact .inl rfl
  | cell=>exact .inr rfl
  | _=>contradiction
theorem qe {ps:List Str} {names:List (Str × NameKind)} (h:adn ps names=true) (i:Nat) (p:Str) (h2:ps[i]?=some p):∃ k,names[i]?=some (p,k)/\(k=NameKind.local\/k=.cell):=by
  obtain ⟨h0,h1⟩:=Bool.and_eq_true_iff.mp h
  obtain ⟨y,h3,h4⟩:=aeR (of_decide_eq_true h0) h2
  obtain ⟨h5,h6⟩:=Bool.and_eq_true_iff.mp (List.all_eq_true.mp h1 _ h4)
  obtain rfl:p=y.1:=eq_of_beq h5
  exact ⟨y.2,h3,ab7 h6⟩
inductive abT (K:Kt) (T:aV) (n1 n2:Nat) (q:Option (Option Value)) (fn:Fn):Prop
  | mk (a:Addr) (o:Obj) (fd:FuncData) (body:List Stmt) (ps:List Str) (h:q=some (some (.ref a))) (F:dG K T fn a o fd body ps n1 n2):abT K T n1 n2 q fn
theorem acO {K:Kt} {K':Frag} {T:aV} {n1 n2:Nat} {a:Addr} {o:Obj} {fd:FuncData} {body:List Stmt} {b:S} (X:K'.In K.hb.h) (h2:K'.lookup a=some o) (h3:o.data=.func fd) (hb:fd.body=.stmts body) (hok:acP K' fd=true)
    (ht:kQ (trS T fd.scope.names (yf T n1) n2) body=some b):dG K T ⟨fd.params.args.length,fd.scope.names.length,b⟩ a o fd body (fd.params.args.map (·.arg)) n1 n2:=by
  unfold acP at hok
  obtain ⟨hok,q14⟩:=Bool.and_eq_true_iff.mp hok
  obtain ⟨hok,q13⟩:=Bool.and_eq_true_iff.mp hok
  obtain ⟨hok,q12⟩:=Bool.and_eq_true_iff.mp hok
  obtain ⟨hok,q11⟩:=Bool.and_eq_true_iff.mp hok
  obtain ⟨hok,q10⟩:=Bool.and_eq_true_iff.mp hok
  obtain ⟨hok,q9⟩:=Bool.and_eq_true_iff.mp hok
  obtain ⟨hok,q8⟩:=Bool.and_eq_true_iff.mp hok
  obtain ⟨hok,q7⟩:=Bool.and_eq_true_iff.mp hok
  obtain ⟨hok,q6⟩:=Bool.and_eq_true_iff.mp hok
  obtain ⟨hok,q5⟩:=Bool.and_eq_true_iff.mp hok
  obtain ⟨hok,q4⟩:=Bool.and_eq_true_iff.mp hok
  obtain ⟨hok,q3⟩:=Bool.and_eq_true_iff.mp hok
  obtain ⟨q1,q2⟩:=Bool.and_eq_true_iff.mp hok
  have hdf:fd.defaults=.none:=by
    cases hd:fd.defaults with
    | none=>rfl
    | _=>rw [hd] at q13; contradiction
  refine ⟨X _ _ h2,h3,codeRec_of X q1,hb,eq_of_beq q2,eq_of_beq q3,List.isEmpty_iff.mp q4,eq_of_beq q5,by simpa using q6,by simpa using q7,q8,ht,(List.length_map _).symm,rfl,qe q14,fun vals hl=>?_⟩
  refine ac5 (List.isEmpty_iff.mp q9) rfl (List.isEmpty_iff.mp q10) (Option.isNone_iff_eq_none.mp q11) (Option.isNone_iff_eq_none.mp q12) hdf ?_ hl
  rw [List.Nodup,List.pairwise_iff_getElem]
  intro i j hi hj hij e
  obtain ⟨k,h1,_⟩:=qe q14 i (fd.params.args.map (·.arg))[i] (List.getElem?_eq_getElem hi)
  obtain ⟨k',h2,_⟩:=qe q14 j (fd.params.args.map (·.arg))[j] (List.getElem?_eq_getElem hj)
  rw [e] at h1
  exact absurd ((jp q8).uniq i j _ _ _ h1 h2) (Nat.ne_of_lt hij)
theorem rD {K:Kt} {K':Frag} {T:aV} {n1 n2:Nat} {q:Option (Option Value)} {fn:Fn} (X:K'.In K.hb.h) (h:sN T n1 n2 K' q=some fn):abT K T n1 n2 q fn:=by
  unfold sN at h
  refine aP h fun q1 h0 h=>aP h fun v h1 h=>aP h fun a h2 h=>aP h fun o h3 h=>aP h fun fd h4 h=>aP h fun body h5 h=>aF h fun hok h=>b8 h fun b ht=>?_
  refine ⟨a,o,fd,body,_,?_,acO X h3 (abq h4) (za h5) hok ht⟩
  rw [h0,h1,vX h2]
noncomputable def fL (T:aV) (n1 n2:Nat) (K:Frag):List (Option (Option Value))->Option (List Fn)
  | []=>some []
  | x::r=>o2 (sN T n1 n2 K x) (fL T n1 n2 K r) List.cons
theorem wh {T:aV} {n1 n2:Nat} {K:Frag} {xs:List (Option (Option Value))}:∀ {fs:List Fn},fL T n1 n2 K xs=some fs->∀ (i:Nat) (x:Option (Option Value)),xs[i]?=some x->∃ fn,fs[i]?=some fn/\sN T n1 n2 K x=some fn:=by
  induction xs with
  | nil=>intro fs _ i x h; exact nomatch h
  | cons y r ih =>
    intro fs h i x h2
    change o2 _ _ _=_ at h
    refine ez (M:=fun fs=>∃ fn,fs[i]?=some fn/\sN T n1 n2 K x=some fn) h fun f fs' h3 h4=>?_
    cases i with
    | zero=>exact ⟨f,rfl,Option.some.inj h2 ▸ h3⟩
    | succ i=>exact ih h4 i x h2
noncomputable def okS (q:Value × PV):Bool:=match q.2 with
  | .str s=>adl q.1 == some s && PyData.strOk s
  | _=>false
theorem aaL {h:Heap} {α:AL} {v:Value} {x:PV} (e:okS (v,x)=true):VR h α x v:=by
  cases x with
  | str s =>
    obtain ⟨h1,h2⟩:=Bool.and_eq_true_iff.mp e
    obtain ⟨t,rfl⟩:=ab4 (eq_of_beq h1)
    exact .str _ _ h2
  | _=>contradiction
noncomputable def adi (o:Obj) (xs:List PV):Bool:=o.cls == .type "tuple" && o.dict.isNone && o.slots.isEmpty && (adm o.data).any fun q=>q.1.toList.length == xs.length && (q.1.toList.zip xs).all okS
theorem abV {hb:Bs} {h:Heap} {σ:ab} {α:AL} {a:Addr} {o:Obj} {xs:List PV} (e:adi o xs=true) (ho:hb.get? a=some o) (r:R hb h σ α):VR h α (.tup xs) (.ref a):=by
  obtain ⟨e,e4⟩:=Bool.and_eq_true_iff.mp e
  obtain ⟨e,e3⟩:=Bool.and_eq_true_iff.mp e
  obtain ⟨e1,e2⟩:=Bool.and_eq_true_iff.mp e
  obtain ⟨q,e5,e6⟩:=(Option.any_eq_true _ _).mp e4
  obtain ⟨e7,e8⟩:=Bool.and_eq_true_iff.mp e6
  obtain ⟨c,d,dt,sl⟩:=o
  obtain rfl:=eq_of_beq e1
  obtain rfl:=Option.isNone_iff_eq_none.mp e2
  obtain rfl:=Array.isEmpty_iff.mp e3
  obtain rfl:=ab9 e5
  have hl:=eq_of_beq e7
  refine VR.tupI (am:=q.1.toList) (n:=q.2) (r.base _ _ ho) (fun q=>?_) ⟨hl.symm,fun i x v h1 h2=>?_⟩
  · rcases List.mem_append.mp q with q | q
    · rw [r.fresh a q] at ho; contradiction
    · rw [r.hfr a q] at ho; contradiction
  · exact aaL (List.all_eq_true.mp e8 _ (List.mem_of_getElem? (List.getElem?_zip_eq_some.mpr ⟨h2,h1⟩)))
noncomputable def cOk (K:Frag) (v:PV) (u:Value):Bool:=match v with
  | .int i=>adu u == some i
  | .str s=>okS (u,.str s)
  | .tup xs=>((zj u).bind fun a=>K.lookup a).any fun o=>adi o xs
  | _=>false
theorem afN {K:Frag} {hb:Bs} (X:K.In hb.h) {v:PV} {u:Value} (e:cOk K v u=true) {fr:List Addr} {h:Heap} {σ:ab} {α:AL} (r:R ⟨hb.h,fr,hb.prog,hb.w⟩ h σ α):VR h α v u:=by
  cases v with
  | int i=>obtain ⟨t,rfl⟩:=acI (eq_of_beq e); exact .int _ _
  | str s=>exact aaL e
  | tup xs =>
    obtain ⟨o,h1,h2⟩:=(Option.any_eq_true _ _).mp e
    refine aP h1 fun a h3 h4=>?_
    rw [vX h3]
    exact abV (hb:=⟨_,fr,_,_⟩) h2 (X _ _ h4) r
  | _=>contradiction
noncomputable def si (K:Frag) (l:List (Str × PV)):Bool:=l.all fun p=>((nsIn K mainGlobals p.1).bind id).any (cOk K p.2)
theorem acV {K:Frag} {hb:Bs} (X:K.In hb.h) {l:List (Str × PV)} (h:si K l=true) (x:Str) (v:PV) (hx:l.lookup x=some v):∃ u,nsIn K mainGlobals x=some (some u)/\∀ fr h σ α,R ⟨hb.h,fr,hb.prog,hb.w⟩ h σ α->VR h α v u:=by
  obtain ⟨u,h1,h2⟩:=(Option.any_eq_true _ _).mp (List.all_eq_true.mp h _ (fS hx))
  exact aP h1 fun q h3 h4=>⟨u,h3.trans (congrArg some h4),fun _ _ _ _ r=>afN X h2 r⟩
noncomputable def afh (K:Frag) (x:Str):Bool:=(nsIn K mainGlobals x).any Option.isNone
noncomputable def oU (K:Frag) (l:List Str):Bool:=(K.lookup sysModules).isSome && l.all fun x=>afh K x && (iI x).isSome && !(x == ("__name__" : Str))
theorem aeL {x:Str} {v:Value} (h:iI x=some v):bootBuiltins x=some v:=
  (show ∀ p ∈ adJ,bootBuiltins p.1=some p.2 from (by repeat (first | refine List.forall_mem_cons.mpr ⟨(by dsimp only; boot_by_name),?_⟩ | exact fun _ h=>nomatch h))) _ (fS h)
noncomputable def wZ (h:Heap) (F:Frag) (T:aV):Bool:=
  !T.repl &&
  true
noncomputable def zR (K:Frag) (T:aV):Bool:=
  match T.brd with
  | none=>true
  | some (b,c)=>nsIn K mainGlobals b == some (some (.ref c)) && keepIn K (.ref c) && makesIn K c && plainOver K c && (clsIn K c).any (·.hasDict) && findIn K (.ref c) "__setattr__" == some (some (.builtin "object.__setattr__")) &&
      cI.all (fun n=>takerIn K c n == some none) &&
      findIn K (.ref c) "__getattribute__" == some (some (.builtin "object.__getattribute__")) && findIn K (.ref c) "__getattr__" == some none && cI.all (fun n=>findIn K (.ref c) n == some none) &&
      T.meths.all fun n=>(findIn K (.ref c) n).join.bind (typeIn K) == some (.type "function")
noncomputable def gK (T:aV) (K:Frag):List (Option (Option Value)):=T.fns.map (nsIn K mainGlobals ·)++T.meths.map (fun n=>T.brd.bind fun q=>findIn K (.ref q.2) n)
noncomputable def rd (h:Heap) (F:Frag) (T:aV):Bool:=wZ h F T && zR F T
theorem aag {h:Heap} {F:Frag} {T:aV} (e:rd h F T=true):wZ h F T=true:=(Bool.and_eq_true_iff.mp e).1
theorem adQ {T:aV} {F:Frag} {f:Nat} {x:Str} (h:T.fns[f]?=some x):(gK T F)[f]?=some (nsIn F mainGlobals x):=by
  unfold gK
  rw [List.getElem?_append_left (by rw [List.length_map]; exact (List.getElem?_eq_some_iff.mp h).1),List.getElem?_map,h]; rfl
theorem adP {T:aV} {F:Frag} {j:Nat} {n:Str} (h:T.meths[j]?=some n):(gK T F)[T.fns.length + j]?=some (T.brd.bind fun q=>findIn F (.ref q.2) n):=by
  unfold gK
  rw [List.getElem?_append_right (by rw [List.length_map]; exact Nat.le_add_right _ _),List.length_map,Nat.add_sub_cancel_left,List.getElem?_map,h]; rfl
theorem afO {K:Kt} {F:Frag} {T:aV} {b:Str} {c:Nat} (X:F.In K.hb.h) (hg:K.hb.h.Ns mainGlobals K.mg) (e:zR F T=true) (hb:T.brd=some (b,c)):eQ K F b c/\∀ n ∈ T.meths,(findIn F (.ref c) n).join.bind (typeIn F)=some (.type "function"):=by
  unfold zR at e
  rw [hb] at e
  simp only [Bool.and_eq_true,beq_iff_eq] at e
  obtain ⟨⟨⟨⟨⟨⟨⟨⟨⟨⟨e1,e2⟩,e3⟩,e4⟩,e5⟩,e6⟩,e7⟩,g1⟩,g2⟩,g3⟩,e8⟩:=e
  exact ⟨⟨mg_of X hg e1,X,e2,e3,e4,e5,e6,fun n hn=>eq_of_beq (List.all_eq_true.mp e7 n hn),g1,g2,fun n hn=>eq_of_beq (List.all_eq_true.mp g3 n hn)⟩,fun n hn=>eq_of_beq (List.all_eq_true.mp e8 n hn)⟩
theorem prgOk {K:Kt} {K':Frag} {T:aV} {n1 n2:Nat} {P:j0} {p:Program} {loose:List Str} (Tp:TopRead p loose K.mg K.mb K.hb.h) (X:K'.In K.hb.h) {aQ:Heap} (afr:∀ b o,aQ.get? b=some o->K.hb.h.get? b=some o) (hz:rd aQ K' T=true) (h1:si K' T.cst=true) (h2:oU K' T.bins=true) (h3:fL T n1 n2 K' (gK T K')=some P.fns) (hrp:T.repl=true->K.pos=true):PrgOk K T P:=by
  unfold oU at h2
  obtain ⟨h2m,h2⟩:=Bool.and_eq_true_iff.mp h2
  obtain ⟨om,hom⟩:=Option.isSome_iff_exists.mp h2m
  have h0:=aag hz
  have hK:K.Ok:=⟨Tp.g,Tp.b,Tp.nolimit,om,X _ _ hom⟩
  have hl0:T.repl=true->xq K:=fun q=>by
    unfold wZ at h0
    have:=(Bool.and_eq_true_iff.mp h0).1
    rw [q] at this
    contradiction
  refine ⟨hK,hrp,hl0,fun x v hx=>?_,fun x hx=>?_,
    fun f x hx=>?_
    ,fun b c hb=>?_
    ⟩
  · obtain ⟨u,q1,q2⟩:=acV X h1 x v hx
    exact ⟨u,mg_of X Tp.g q1,q2⟩
  · have:=List.all_eq_true.mp h2 x hx
    simp only [Bool.and_eq_true,Bool.not_eq_true',beq_eq_false_iff_ne] at this
    obtain ⟨⟨q1,q2⟩,q3⟩:=this
    obtain ⟨v,hv⟩:=Option.isSome_iff_exists.mp q2
    refine ⟨?_,v,hv,(Tp.builtins x q3).trans (aeL hv)⟩
    obtain ⟨q,h3,h4⟩:=(Option.any_eq_true _ _).mp q1
    exact mg_none_of X Tp.g (h3.trans (congrArg some (Option.isNone_iff_eq_none.mp h4)))
  · obtain ⟨fn,q1,q2⟩:=wh h3 f _ (adQ hx)
    obtain ⟨a,o,fd,body,ps,hq,F⟩:=rD X q2
    exact ⟨fn,a,o,fd,body,ps,n1,n2,q1,mg_of X Tp.g hq,F⟩
  · obtain ⟨B,hty⟩:=afO X Tp.g (Bool.and_eq_true_iff.mp hz).2 hb
    refine ⟨K',B,fun j n hj=>?_⟩
    obtain ⟨fn,q1,q2⟩:=wh h3 _ _ (adP hj)
    obtain ⟨a,o,fd,body,ps,hq,F⟩:=rD X q2
    have hq:findIn K' (.ref c) n=some (some (.ref a)):=by rw [hb] at hq; exact hq
    have:=hty n (List.mem_of_getElem? hj)
    rw [hq] at this
    exact ⟨fn,a,o,fd,body,ps,n1,n2,q1,⟨hq,this⟩,F⟩
end Mine
namespace Mine
open PySem PySem.W PyProof.Rows
theorem tF {P:Params} {h:Heap}:∀ {l:List Int} {vs:List Value},WellAll P h vs (ofPys (l.map .int))->aN h ⟨[],[],[]⟩ (l.map .int) vs
  | [],vs,W=>by
    simp only [List.map_nil,ofPys] at W
    cases W
    exact .nil
  | i::l,vs,W=>by
    simp only [List.map_cons,ofPys,ofPy] at W
    cases W with
    | cons a b =>
      cases a
      exact .cons (.int i _) (tF b)
theorem aax {P:Params} {h:Heap} {a:Addr} {l:List Int} (W:Well P h (.ref a) (ofPy (.list (l.map .int)))):VR h ⟨[],[],[]⟩ (.fl (l.map .int)) (.ref a):=by
  simp only [ofPy] at W
  cases W with
  | list e w=>exact VR.flI e (by simp [AL.all]) (tF w)
theorem acX {d:Nat} (h:d <= 100):eR d callerA:=by
  have h1:callerA.depth + 2 * 100 + 200 < recursionLimit:=by decide
  have h2:callerA.units + 20 * 100 + 200 < cLine:=by decide
  exact ⟨by omega,by omega⟩
theorem hd0 {h:Heap} {fr:List Addr} {prog:Program} {w:World} {mg mb:Str->Option Value} {pos:Bool}:j1 ⟨⟨h,fr,prog,w⟩,mg,mb,pos,false⟩ callerA 0:=
  ⟨fun _=>rfl⟩
theorem law_end {prog:Program} {w:World} {s₁:Shared} {mg mb:Str->Option Value} {T:aV} {P:j0} {f N d:Nat} {name:Str} {fa a:Addr} {l:List Int} {σ:ab} {pos:Bool} (p:PrgOk ⟨⟨s₁.heap,[],prog,w⟩,mg,mb,pos,false⟩ T P) (hx:T.fns[f]?=some name)
    (hmg:mg name=some (.ref fa)) (hd:d <= 100) (tk:pos=false) (W:Well w.params s₁.heap (.ref a) (ofPy (.list (l.map .int)))) (hrun:aK P N d f [.fl (l.map .int)] []=.ok (.bool true) σ)
    {Q:Value->Shared->Prop} {E:Value->Shared->Prop} (hQ:∀ s',(∀ b o,s₁.heap.get? b=some o->s'.heap.get? b=some o)->s'.os=s₁.os->s'.gens=s₁.gens->Q (.bool true) s') :
    wpAny (model prog w) callerA (call (.ref fa) [.ref a]) Q E s₁:=by
  have ctx:=eJ (N:=N) d p 0 callerA [] (acX hd) hd0 ⟨[],rfl,rfl,fun e he=>by simp at he⟩
  obtain ⟨a',o,fd,h1,h2,h3,H⟩:=ctx.fn f name hx
  have e:a'=fa:=by
    have h1':mg name=some (.ref a'):=h1
    rw [hmg] at h1'; cases h1'; rfl
  subst e
  have mt:R ⟨s₁.heap,[],prog,w⟩ s₁.heap [] ⟨[],[],[]⟩:=⟨fun _ _ e=>e,fun _ h=>by simp at h,List.nodup_nil,rfl,fun _ h=>by simp at h,fun i m a e=>by simp at e,fun _ h=>by simp at h,rfl,fun _ h=>by simp at h,fun _ h=>by simp at h⟩
  have H:=H [.fl (l.map .int)] [.ref a] s₁ [] ⟨[],[],[]⟩ mt (.cons (aax W) .nil)
  have hrun':(i7 P N 0 d).call f [.fl (l.map .int)] []=.ok (.bool true) σ:=hrun
  rw [hrun'] at H
  refine wpAny_mono (H (by simp) fun q=>by rw [tk] at q; contradiction) (fun v s' hp=>?_) fun e s' hx=>?_
  · obtain ⟨b,σ',α',e,x,r,vr,m⟩:=hp
    cases e
    obtain rfl:=vr.boolE
    exact hQ s' (fun b o e=>r.base b o e) m.os m.gens
  · obtain ⟨i,σ',e,fx⟩:=hx
    contradiction
end Mine
namespace Mine
open PySem PySem.W PyProof.Rows
noncomputable def cr (h:Heap):Frag:=(List.range h.objs.size).filterMap fun a=>(h.get? a).map fun o=>(a,o)
theorem nR {f:Nat->Option Obj} {a:Addr} {o:Obj}:∀ {l:List Nat},(l.filterMap fun a=>(f a).map fun o=>(a,o)).lookup a=some o->f a=some o
  | [],h=>by simp at h
  | b::l,h=>by
    rw [List.filterMap_cons] at h
    cases hb:f b with
    | none=>rw [hb] at h; exact nR h
    | some p =>
      rw [hb] at h
      simp only [Option.map_some,List.lookup_cons] at h
      cases hq:(a == b) with
      | true =>
        rw [hq] at h
        have:a=b:=by simpa using hq
        subst this
        rw [hb]; exact h
      | false=>rw [hq] at h; exact nR h
theorem zH (h:Heap):(cr h).In h:=fun a o e=>nR (f:=h.get?) e
structure Says (T:aV) (n1 n2:Nat) (fns:List Fn) (h:Heap):Prop where
  ex:∃ (K:Frag) (aQ:Heap),K.In h/\(∀ b o,aQ.get? b=some o->h.get? b=some o)/\rd aQ K T=true/\si K T.cst=true/\oU K T.bins=true/\fL T n1 n2 K (gK T K)=some fns
noncomputable def topHook (T:aV) (n1 n2:Nat) (fns:List Fn):Hook where
  α:=Bool × Bool × Bool × Option (List Fn)
  obs:=fun s=>(rd s.heap (cr s.heap) T,si (cr s.heap) T.cst,oU (cr s.heap) T.bins,fL T n1 n2 (cr s.heap) (gK T (cr s.heap)))
  val:=fun _=>(true,true,true,some fns)
  says:=fun _ h=>Says T n1 n2 fns h
  of:=fun _ s e=>⟨⟨cr s.heap,s.heap,zH _,fun _ _ e=>e,congrArg (·.1) e,congrArg (·.2.1) e,congrArg (·.2.2.1) e,congrArg (·.2.2.2) e⟩⟩
  keeps:=fun _ h h' q k=>by
    obtain ⟨K,aQ,a,a',b⟩:=q.ex
    exact ⟨⟨K,aQ,fun x o e=>k x o (a x o e),fun x o e=>k x o (a' x o e),b⟩⟩
noncomputable def viewOf (p:Program):Program:={ p with main:={ p.main with body:=p.main.body.filter fun s=>match s with | .Assign [.Name n _] _ _=>!(n == "__name__") | _=>true } }
end Mine
namespace Mine
open PySem PySem.W PySem.Calls PyProof.Rows
theorem ab6:stepT=PySem.W.Fast.tw10156331382660048174:=PySem.W.Fast.te10156331382660048174
theorem abz:denote=PySem.W.Fast.tw11892475500146522536:=PySem.W.Fast.te11892475500146522536
theorem ab2:treeTable=PySem.W.Fast.tw14364793385576792824:=PySem.W.Fast.te14364793385576792824
theorem aao:stepOk=PySem.W.Fast.tw6613529449190102663:=PySem.W.Fast.te6613529449190102663
noncomputable def o6 (p:Program) (w:World) (sL:Nat) (ann:Option Value):Nat->SharedT->Thread->Option SharedT
  | 0,_,_=>none
  | n + 1,s,t=>match through t with
    | true=>some s
    | false=>match PySem.W.Fast.tw6613529449190102663 sL ann t with
      | false=>none
      | true=>match PySem.W.Fast.tw10156331382660048174 (PySem.W.Fast.tw11892475500146522536 PySem.W.Fast.tw14364793385576792824) p w s t with
        | some (s',t')=>o6 p w sL ann n s' t'
        | none=>none
theorem tJ {p:Program} {w:World} {sL:Nat} {ann:Option Value}:∀ {n:Nat} {s s':SharedT} {t:Thread},o6 p w sL ann n s t=some s'->topRun treeTable p w sL ann n s.abs t=some s'.abs
  | 0,_,_,_,h=>by cases h
  | n + 1,s,s',t,h=>by
    unfold o6 at h
    unfold topRun
    rw [<- aao,<- ab6,<- abz,<- ab2] at h
    cases he:through t with
    | true=>rw [he] at h; cases h; rfl
    | false =>
      rw [he] at h
      cases hk:stepOk sL ann t with
      | false=>rw [hk] at h; cases h
      | true =>
        rw [hk] at h
        cases hs:stepT (denote treeTable) p w s t with
        | none=>rw [hs] at h; cases h
        | some r=>obtain ⟨ay,ag2⟩:=r; rw [hs] at h; rw [stepT_spec hs]; exact tJ h
noncomputable def nD:List Obj->Nat->BT->Option BT
  | [],_,t=>some t
  | o::l,n,t=>match ((t.ins n o).get n).isSome with
    | true=>nD l (n + 1) (t.ins n o)
    | false=>none
theorem qX {life:Life}:∀ {l:List Obj} {n:Nat} {t t':BT},nD l n t=some t'->absHeap t' (n + l.length) life=l.foldl Heap.push (absHeap t n life)
  | [],n,t,t',h=>by cases h; rfl
  | o::l,n,t,t',h=>by
    unfold nD at h
    cases hs:((t.ins n o).get n).isSome with
    | false=>rw [hs] at h; cases h
    | true =>
      rw [hs] at h
      rw [List.length_cons,show n + (l.length + 1)=n + 1 + l.length by omega,qX h,absHeap_ins hs]; rfl
theorem rU {life:Life}:∀ (l:List Obj) (a:Array Obj),l.foldl Heap.push ⟨a,life⟩=⟨a++l.toArray,life⟩
  | [],a=>by simp
  | o::l,a=>by
    show l.foldl Heap.push ⟨a.push o,life⟩=_
    rw [rU l (a.push o)]
    simp
theorem xt {l:List Obj} {life:Life} {t:BT} (h:nD l 0 .nil=some t):absHeap t l.length life=⟨l.toArray,life⟩:=by
  have:=qX (life:=life) h
  rw [Nat.zero_add] at this
  rw [this]
  show l.foldl Heap.push ⟨#[],life⟩=_
  rw [rU]; simp
noncomputable def agT (p:Program) (aQ:Heap) (s₁:Shared):Option Shared:=
  match staticsOk (importedModules p.main.body) aQ s₁.heap && namesBound p s₁.heap && gensDone s₁ && laidKept aQ s₁.heap with
  | true=>some s₁
  | false=>none
noncomputable def rG (p:Program) (w:World) (os:OsState) (N:Nat):Option Shared:=
  (nD (boot_heap w.params).objs.toList 0 .nil).bind fun T =>
    match (boot_heap w.params).isNs mainGlobals with
    | true=>(o6 p w (boot_heap w.params).objs.toList.length ((boot_heap w.params).nsMap mainGlobals "__annotations__") N ⟨T,(boot_heap w.params).objs.toList.length,(boot_heap w.params).life,#[],boot_drawn,boot_toks,os⟩ (topStub p)).bind fun s=>agT p (boot_heap w.params) s.abs
    | false=>none
theorem aa8 {p:Program} {w:World} {os:OsState} {N:Nat} {s₁:Shared} (h:rG p w os N=some s₁):topFrom treeTable p w N ⟨boot_heap w.params,#[],boot_drawn,boot_toks,os⟩=some s₁:=by
  unfold rG at h
  obtain ⟨T,hT,h⟩:=Option.bind_eq_some_iff.mp h
  have hh:absHeap T (boot_heap w.params).objs.toList.length (boot_heap w.params).life=boot_heap w.params:=by
    rw [xt hT]
  cases hn:(boot_heap w.params).isNs mainGlobals with
  | false=>rw [hn] at h; cases h
  | true =>
    rw [hn] at h
    obtain ⟨s,hs,h⟩:=Option.bind_eq_some_iff.mp h
    have hr:=tJ hs
    have ha:(SharedT.abs ⟨T,(boot_heap w.params).objs.toList.length,(boot_heap w.params).life,#[],boot_drawn,boot_toks,os⟩)=⟨boot_heap w.params,#[],boot_drawn,boot_toks,os⟩:=by
      show (⟨absHeap T _ _,#[],boot_drawn,boot_toks,os⟩:Shared)=_
      rw [hh]
    rw [ha,Array.length_toList] at hr
    unfold topFrom
    have hb:((boot_heap w.params).isNs mainGlobals && (#[]:Array GenState).size == 0)=true:=by rw [hn]; rfl
    show (match ((boot_heap w.params).isNs mainGlobals && (#[]:Array GenState).size == 0) with | true=>_ | false=>_)=_
    rw [hb]
    dsimp only
    rw [hr]
    exact h
theorem ad5:openSeen=PySem.W.Fast.tw4187177175401517315:=PySem.W.Fast.te4187177175401517315
theorem aem {p q:Program} {loose:List Str} {Xt:Shared->Bool} {α:Type} {Yf:Shared->α} {Ya:World->α} {N:Nat} (e:opening p=plainProg p.main.scope.names) (hN:Nat.ble 600 N=true) (f:∀ s,fenceModules? p s=some s)
    (h:∀ w os,(rG p w os N).map (fun s=>(PySem.W.Fast.tw4187177175401517315 q loose (importedModules p.main.body) Xt true s,Yf s))=some (openGood q loose,Ya w)):LeftO p q loose Xt Yf Ya N:=fun w=>by
  rw [<- ad5] at h
  obtain ⟨s,hs,hv⟩:=Option.map_eq_some_iff.mp (boot_open e hN f w)
  obtain ⟨hp,g,d,t,os⟩:=s
  simp only [Prod.mk.injEq] at hv
  obtain ⟨rfl,rfl,rfl,rfl⟩:=hv
  unfold openEnds
  rw [hs]
  obtain ⟨s₁,h1,h2⟩:=Option.map_eq_some_iff.mp (h w os)
  show (topFrom treeTable p w N _).map _=_
  have:=aa8 h1
  rw [show (⟨boot_heap w.params,{ toList:=[] },boot_drawn,boot_toks,os⟩:Shared)=⟨boot_heap w.params,#[],boot_drawn,boot_toks,os⟩ from rfl,this]
  exact congrArg some h2
theorem aaR {T:aV} {n1 n2:Nat} {K:Frag} {ys:List (Option (Option Value))} {b:List Fn} (h2:fL T n1 n2 K ys=some b) (xs:List (Option (Option Value))):∀ {a:List Fn},fL T n1 n2 K xs=some a->fL T n1 n2 K (xs++ys)=some (a++b):=by
  induction xs with
  | nil=>intro a h; obtain rfl:=Option.some.inj h; exact h2
  | cons x r ih =>
    intro a h
    change o2 _ _ _=_ at h
    refine ez (M:=fun a=>fL T n1 n2 K (x::r++ys)=some (a++b)) h fun f fs h3 h4=>?_
    show o2 (sN T n1 n2 K x) (fL T n1 n2 K (r++ys)) List.cons=_
    rw [h3,ih h4]; rfl
noncomputable def vh (T:aV) (g:List (Option (Option Value))->List (Option (Option Value))) (s:Shared):Option (List Fn):=fL T 40 30 (cr s.heap) (g (gK T (cr s.heap)))
theorem aeC {T:aV} {o:Option Shared} {k:Nat} {a b:List Fn} (h1:o.map (vh T (List.take k))=some (some a)) (h2:o.map (vh T (List.drop k))=some (some b)):o.map (fun s=>fL T 40 30 (cr s.heap) (gK T (cr s.heap)))=some (some (a++b)):=by
  cases o with
  | none=>exact nomatch h1
  | some s =>
    have h:=aaR (Option.some.inj h2) _ (Option.some.inj h1)
    rw [List.take_append_drop] at h
    exact congrArg some h
end Mine
namespace Mine
open PySem
noncomputable def TT:aV where
  fns:=["is_value", "product", "chosen", "single", "outcome", "is_name", "are_names", "are_unlike", "is_rule", "is_step", "is_plan", "givers_of", "outside", "is_between", "fire_turn", "run", "_law_cell_at", "_law_next", "_law_names", "_law_value", "_law_pairs", "_law_join", "_law_due", "_law_steps", "_law_order", "law"]
  cst:=[("MOST_VALUE",.int 999999),("WRAP",.int 1000000),("LETTERS",.str "abcdefghijklmnopqrstuvwxyz"),("FIGURES",.str "0123456789"),("LONGEST",.int 8),("MOST_STEPS",.int 20),("MOST_NEEDS",.int 4),("MOST_GIVES",.int 3),("PLAIN_WORDS",.tup [.str "sum",.str "times",.str "least",.str "most"]),("MOST_TURNS",.int 200)]
  bins:=["len", "list", "tuple", "sum", "min", "max", "all", "int", "str", "bool", "ValueError", "isinstance", "range", "zip", "set"]
  muts:=[(95,12),(107,12),(130,21),(206,16),(245,17),(270,16),(271,16),(275,16),(280,22),(289,22)]
  excs:=[("FireError",24,[]),("NoPlan",37,[24]),("NoTurn",49,[24]),("NoPlace",61,[24]),("NoValue",73,[24]),("TokenThere",85,[24]),("NoStep",97,[24]),("Fired",109,[24]),("NotReady",121,[24])]
  brd:=some ("Board",311)
  meths:=["__init__", "need_place", "need_turn", "need_step", "put", "missed", "has_fired", "is_ready", "fire", "told", "fired"]
  repl:=false
  dstr:=[(100,12)]
noncomputable abbrev gH:Nat:=0
noncomputable abbrev tX:Nat:=1
noncomputable abbrev wq:Nat:=2
noncomputable abbrev wo:Nat:=3
noncomputable abbrev nW:Nat:=4
noncomputable abbrev ke:Nat:=5
noncomputable abbrev cb:Nat:=6
noncomputable abbrev cT:Nat:=7
noncomputable abbrev t5:Nat:=8
noncomputable abbrev tZ:Nat:=9
noncomputable abbrev gf:Nat:=10
noncomputable abbrev iB:Nat:=11
noncomputable abbrev kc:Nat:=12
noncomputable abbrev cS:Nat:=13
noncomputable abbrev kZ:Nat:=14
noncomputable abbrev rL:Nat:=15
noncomputable abbrev aA:Nat:=16
noncomputable abbrev gG:Nat:=17
noncomputable abbrev fC:Nat:=18
noncomputable abbrev dh:Nat:=19
noncomputable abbrev kY:Nat:=20
noncomputable abbrev rM:Nat:=21
noncomputable abbrev tY:Nat:=22
noncomputable abbrev pJ:Nat:=23
noncomputable abbrev dZ:Nat:=24
noncomputable abbrev agi:Nat:=25
noncomputable abbrev fU:Nat:=26
noncomputable abbrev eB:Nat:=27
noncomputable abbrev fi:Nat:=28
noncomputable abbrev i0:Nat:=29
noncomputable abbrev fE:Nat:=30
noncomputable abbrev dB:Nat:=31
noncomputable abbrev cy:Nat:=32
noncomputable abbrev fT:Nat:=33
noncomputable abbrev nX:Nat:=34
noncomputable abbrev gI:Nat:=35
noncomputable abbrev iW:Nat:=36
noncomputable abbrev af:Nat:=311
noncomputable def uO:S:=(.ret (.and (.cons (.isinst (.v 0) .int) (.cons (.not (.isinst (.v 0) .bool)) (.cons (.cmp2 (.k (.int 0)) .le (.v 0) .le (.k (.int 999999))) .nil)))))
noncomputable def jj:Fn:=⟨1,5,(.cons uO .nil)⟩
noncomputable def n7:S:=(.asg 1 (.k (.int 1)))
noncomputable def lw:S:=(.asg 1 (.bin .mod (.bin .mul (.v 1) (.v 2)) (.k (.int 1000000))))
noncomputable def m5:S:=(.cons lw .nil)
noncomputable def n5:S:=(.for1 2 (.v 0) m5)
noncomputable def n4:S:=(.ret (.v 1))
noncomputable def ue:Fn:=⟨1,4,(.cons n7 (.cons n5 (.cons n4 .nil)))⟩
noncomputable def nc:S:=(.ret (.sub (.v 0) (.k (.int 1))))
noncomputable def iF:S:=(.ife (.cmp (.sub (.v 0) (.k (.int 0))) .eq (.k (.int 0))) (.cons nc .nil) .nil)
noncomputable def k7:S:=(.ret (.sub (.v 0) (.k (.int 2))))
noncomputable def wY:Fn:=⟨1,1,(.cons iF (.cons k7 .nil))⟩
noncomputable def cj:S:=(.asg 2 (.sub (.v 0) (.k (.int 0))))
noncomputable def mZ:S:=(.ret (.bin .mod (.b1 .sum (.v 1)) (.k (.int 1000000))))
noncomputable def cg:S:=(.ife (.cmp (.v 2) .eq (.k (.str "sum"))) (.cons mZ .nil) .nil)
noncomputable def mY:S:=(.ret (.call tX (.cons (.v 1) .nil)))
noncomputable def cH:S:=(.ife (.cmp (.v 2) .eq (.k (.str "times"))) (.cons mY .nil) .nil)
noncomputable def mX:S:=(.ret (.b1 .min (.v 1)))
noncomputable def di:S:=(.ife (.cmp (.v 2) .eq (.k (.str "least"))) (.cons mX .nil) .nil)
noncomputable def mW:S:=(.ret (.b1 .max (.v 1)))
noncomputable def d3:S:=(.ife (.cmp (.v 2) .eq (.k (.str "most"))) (.cons mW .nil) .nil)
noncomputable def mV:S:=(.ret (.sub (.v 0) (.k (.int 1))))
noncomputable def fF:S:=(.ife (.cmp (.v 2) .eq (.k (.str "fixed"))) (.cons mV .nil) .nil)
noncomputable def mU:S:=(.ret (.call wq (.cons (.v 1) .nil)))
noncomputable def iC:S:=(.ife (.cmp (.v 2) .eq (.k (.str "choose"))) (.cons mU .nil) .nil)
noncomputable def k4:S:=(.ret (.sub (.v 1) (.k (.int 0))))
noncomputable def wH:Fn:=⟨2,9,(.cons cj (.cons cg (.cons cH (.cons di (.cons d3 (.cons fF (.cons iC (.cons k4 .nil))))))))⟩
noncomputable def jK:S:=(.ret (.lst true (.cons (.sub (.v 1) (.k (.int 0))) (.cons (.k .none) .nil))))
noncomputable def ij:S:=(.ife (.cmp (.sub (.v 1) (.k (.int 1))) .eq (.k (.int 0))) (.cons jK .nil) .nil)
noncomputable def ly:S:=(.ret (.lst true (.cons (.k .none) (.cons (.sub (.v 1) (.k (.int 0))) .nil))))
noncomputable def eF:S:=(.ife (.cmp (.sub (.v 0) (.k (.int 0))) .eq (.k (.str "way"))) (.cons ij (.cons ly .nil)) .nil)
noncomputable def jJ:S:=(.asg 3 (.call wo (.cons (.v 0) (.cons (.v 1) .nil))))
noncomputable def oq:X:=(.comp true 1 [none,none,some 3] (.v 2) (.k (.bool true)) (.range1 (.v 2)))
noncomputable def jI:S:=(.ret oq)
noncomputable def uf:Fn:=⟨3,6,(.cons eF (.cons jJ (.cons jI .nil)))⟩
noncomputable def tu:S:=(.ret (.k (.bool false)))
noncomputable def gT:S:=(.ife (.or (.cons (.not (.isinst (.v 0) .str)) (.cons (.not (.cmp2 (.k (.int 1)) .le (.b1 .len (.v 0)) .le (.k (.int 8)))) (.cons (.cmp (.sub (.v 0) (.k (.int 0))) .notin (.k (.str "abcdefghijklmnopqrstuvwxyz"))) .nil)))) (.cons tu .nil) .nil)
noncomputable def wX:X:=(.comp true 1 [none,none,none,none] (.or (.cons (.cmp (.v 1) .isin (.k (.str "abcdefghijklmnopqrstuvwxyz"))) (.cons (.cmp (.v 1) .isin (.k (.str "0123456789"))) .nil))) (.k (.bool true)) (.v 0))
noncomputable def jV:S:=(.ret (.b1 .all wX))
noncomputable def uu:Fn:=⟨1,7,(.cons gT (.cons jV .nil))⟩
noncomputable def tB:X:=(.comp true 1 [none,none,none] (.call ke (.cons (.v 1) .nil)) (.k (.bool true)) (.v 0))
noncomputable def tA:S:=(.ret (.and (.cons (.isinst (.v 0) .tuple) (.cons (.cmp2 (.k (.int 1)) .le (.b1 .len (.v 0)) .le (.v 1)) (.cons (.b1 .all tB) .nil)))))
noncomputable def iG:Fn:=⟨2,6,(.cons tA .nil)⟩
noncomputable def sd:S:=(.ret (.cmp (.b1 .lenset (.v 0)) .eq (.b1 .len (.v 0))))
noncomputable def gU:Fn:=⟨1,3,(.cons sd .nil)⟩
noncomputable def tm:S:=(.ret (.k (.bool false)))
noncomputable def gR:S:=(.ife (.or (.cons (.not (.isinst (.v 0) .tuple)) (.cons (.cmp (.b1 .len (.v 0)) .eq (.k (.int 0))) (.cons (.not (.isinst (.sub (.v 0) (.k (.int 0))) .str)) .nil)))) (.cons tm .nil) .nil)
noncomputable def tj:S:=(.ret (.and (.cons (.cmp (.b1 .len (.v 0)) .eq (.k (.int 2))) (.cons (.call gH (.cons (.sub (.v 0) (.k (.int 1))) .nil)) .nil))))
noncomputable def eG:S:=(.ife (.cmp (.sub (.v 0) (.k (.int 0))) .eq (.k (.str "fixed"))) (.cons tj .nil) .nil)
noncomputable def th:S:=(.ret (.k (.bool false)))
noncomputable def jR:S:=(.ife (.cmp (.b1 .len (.v 0)) .ne (.k (.int 1))) (.cons th .nil) .nil)
noncomputable def tf:S:=(.ret (.cmp (.v 1) .eq (.k (.int 1))))
noncomputable def gQ:S:=(.ife (.cmp (.sub (.v 0) (.k (.int 0))) .eq (.k (.str "later"))) (.cons tf .nil) .nil)
noncomputable def te:S:=(.ret (.and (.cons (.cmp (.v 1) .eq (.k (.int 2))) (.cons (.cmp (.v 2) .eq (.k (.int 2))) .nil))))
noncomputable def gP:S:=(.ife (.cmp (.sub (.v 0) (.k (.int 0))) .eq (.k (.str "way"))) (.cons te .nil) .nil)
noncomputable def tc:S:=(.ret (.cmp (.v 1) .eq (.k (.int 3))))
noncomputable def gO:S:=(.ife (.cmp (.sub (.v 0) (.k (.int 0))) .eq (.k (.str "choose"))) (.cons tc .nil) .nil)
noncomputable def jQ:S:=(.ret (.cmp (.sub (.v 0) (.k (.int 0))) .isin (.k (.tup [(.str "sum"),(.str "times"),(.str "least"),(.str "most")]))))
noncomputable def kq:Fn:=⟨3,9,(.cons gR (.cons eG (.cons jR (.cons gQ (.cons gP (.cons gO (.cons jQ .nil)))))))⟩
noncomputable def ta:S:=(.ret (.k (.bool false)))
noncomputable def gN:S:=(.ife (.or (.cons (.not (.isinst (.v 0) .tuple)) (.cons (.cmp (.b1 .len (.v 0)) .ne (.k (.int 4))) (.cons (.not (.call ke (.cons (.sub (.v 0) (.k (.int 0))) .nil))) .nil)))) (.cons ta .nil) .nil)
noncomputable def sZ:S:=(.ret (.k (.bool false)))
noncomputable def dC:S:=(.ife (.or (.cons (.not (.call cb (.cons (.sub (.v 0) (.k (.int 2))) (.cons (.k (.int 4)) .nil)))) (.cons (.not (.call cb (.cons (.sub (.v 0) (.k (.int 3))) (.cons (.k (.int 3)) .nil)))) (.cons (.not (.call cT (.cons (.sub (.v 0) (.k (.int 3))) .nil))) .nil)))) (.cons sZ .nil) .nil)
noncomputable def jP:S:=(.ret (.call t5 (.cons (.sub (.v 0) (.k (.int 1))) (.cons (.b1 .len (.sub (.v 0) (.k (.int 2)))) (.cons (.b1 .len (.sub (.v 0) (.k (.int 3)))) .nil)))))
noncomputable def ur:Fn:=⟨1,10,(.cons gN (.cons dC (.cons jP .nil)))⟩
noncomputable def oM:X:=(.comp true 1 [none,none,none] (.call tZ (.cons (.v 1) .nil)) (.k (.bool true)) (.v 0))
noncomputable def tq:S:=(.ret (.k (.bool false)))
noncomputable def gS:S:=(.ife (.or (.cons (.not (.isinst (.v 0) .tuple)) (.cons (.not (.cmp2 (.k (.int 1)) .le (.b1 .len (.v 0)) .le (.k (.int 20)))) (.cons (.not (.b1 .all oM)) .nil)))) (.cons tq .nil) .nil)
noncomputable def jU:S:=(.asg 2 (.lst false .nil))
noncomputable def tn:S:=(.expr (.me .extend (.v 2) (.cons (.sub (.v 1) (.k (.int 3))) .nil)))
noncomputable def nb:S:=(.cons tn .nil)
noncomputable def jT:S:=(.for1 1 (.v 0) nb)
noncomputable def oK:X:=(.comp true 1 [none,none] (.sub (.v 1) (.k (.int 0))) (.k (.bool true)) (.v 0))
noncomputable def jS:S:=(.ret (.and (.cons (.call cT (.cons oK .nil)) (.cons (.call cT (.cons (.v 2) .nil)) .nil))))
noncomputable def ut:Fn:=⟨1,9,(.cons gS (.cons jU (.cons jT (.cons jS .nil))))⟩
noncomputable def lT:S:=(.asg 1 (.dnew false))
noncomputable def oN:S:=(.asgSub (.v 1) (.v 3) (.v 2))
noncomputable def i3:S:=(.cons oN .nil)
noncomputable def qD:S:=(.for1 3 (.sub (.v 2) (.k (.int 3))) i3)
noncomputable def kr:S:=(.cons qD .nil)
noncomputable def tz:S:=(.for1 2 (.v 0) kr)
noncomputable def tw:S:=(.ret (.v 1))
noncomputable def k6:Fn:=⟨1,4,(.cons lT (.cons tz (.cons tw .nil)))⟩
noncomputable def oc:S:=(.asg 1 (.call iB (.cons (.v 0) .nil)))
noncomputable def n9:S:=(.asg 2 (.lst false .nil))
noncomputable def n8:S:=(.expr (.me .append (.v 2) (.cons (.v 4) .nil)))
noncomputable def qp:S:=(.ife (.and (.cons (.cmp (.v 4) .notin (.v 1)) (.cons (.cmp (.v 4) .notin (.v 2)) .nil))) (.cons n8 .nil) .nil)
noncomputable def kh:S:=(.cons qp .nil)
noncomputable def sV:S:=(.for1 4 (.sub (.v 3) (.k (.int 2))) kh)
noncomputable def m6:S:=(.cons sV .nil)
noncomputable def wM:S:=(.for1 3 (.v 0) m6)
noncomputable def wL:S:=(.ret (.v 2))
noncomputable def oj:Fn:=⟨1,6,(.cons oc (.cons n9 (.cons wM (.cons wL .nil))))⟩
noncomputable def sa:S:=(.ret (.and (.cons (.isinst (.v 0) .int) (.cons (.not (.isinst (.v 0) .bool)) (.cons (.cmp2 (.v 1) .le (.v 0) .le (.v 2)) .nil)))))
noncomputable def jW:Fn:=⟨3,6,(.cons sa .nil)⟩
noncomputable def lW:S:=(.asg 2 (.k (.int 0)))
noncomputable def iQ:S:=(.expr (.meth 311 nX "fire" (.v 0) (.cons (.sub (.v 3) (.k (.int 0))) (.cons (.v 1) .nil))))
noncomputable def iP:S:=(.asg 2 (.bin .add (.v 2) (.k (.int 1))))
noncomputable def fV:S:=(.ife (.meth 311 fT "is_ready" (.v 0) (.cons (.v 3) (.cons (.v 1) .nil))) (.cons iQ (.cons iP .nil)) .nil)
noncomputable def kt:S:=(.cons fV .nil)
noncomputable def lV:S:=(.for1 3 (.attr 311 (.v 0) "plan") kt)
noncomputable def lU:S:=(.ret (.v 2))
noncomputable def pS:Fn:=⟨2,4,(.cons lW (.cons lV (.cons lU .nil)))⟩
noncomputable def wK:S:=(.asg 1 (.k (.int 0)))
noncomputable def rY:S:=(.asg 3 (.call kZ (.cons (.v 0) (.cons (.v 2) .nil))))
noncomputable def nZ:S:=(.asg 1 (.bin .add (.v 1) (.v 3)))
noncomputable def nY:S:=(.asg 3 (.call kZ (.cons (.v 0) (.cons (.v 2) .nil))))
noncomputable def k5:S:=(.cons nZ (.cons nY .nil))
noncomputable def rX:S:=(.whl (.cmp (.v 3) .gt (.k (.int 0))) k5)
noncomputable def ud:S:=(.cons rY (.cons rX .nil))
noncomputable def wJ:S:=(.for1 2 (.range1 (.attr 311 (.v 0) "turns")) ud)
noncomputable def wI:S:=(.ret (.v 1))
noncomputable def adG:Fn:=⟨1,6,(.cons wK (.cons wJ (.cons wI .nil)))⟩
noncomputable def oJ:S:=(.ret (.sub (.v 0) (.v 1)))
noncomputable def qB:S:=(.ife (.cmp (.v 1) .lt (.b1 .len (.v 0))) (.cons oJ .nil) .nil)
noncomputable def qA:S:=(.ret (.k (.int 0)))
noncomputable def dU:Fn:=⟨2,3,(.cons qB (.cons qA .nil))⟩
noncomputable def uN:S:=(.asg 1 (.bin .mod (.bin .add (.bin .mul (.v 0) (.k (.int 48271))) (.k (.int 11))) (.k (.int 2147483647))))
noncomputable def uM:S:=(.ret (.bin .mod (.bin .mul (.v 1) (.v 1)) (.k (.int 2147483629))))
noncomputable def ji:Fn:=⟨1,2,(.cons uN (.cons uM .nil))⟩
noncomputable def qz:S:=(.asg 1 (.lst true (.cons (.k (.str "sum")) (.cons (.k (.str "later")) (.cons (.k (.str "way")) (.cons (.k (.str "fixed")) (.cons (.k (.str "a9")) (.cons (.k (.str "b")) (.cons (.k (.str "times")) (.cons (.k (.str "choose")) (.cons (.k (.str "least")) (.cons (.k (.str "most")) (.cons (.k (.str "z0")) (.cons (.k (.str "put")) .nil))))))))))))))
noncomputable def lP:X:=(.comp true 1 [none,none,some 0,some 1] (.bin .add (.sub (.v 3) (.bin .mod (.bin .add (.bin .fdiv (.v 2) (.k (.int 9))) (.v 1)) (.k (.int 12)))) (.sub (.lst true (.cons (.k (.str "")) (.cons (.k (.str "x")) .nil))) (.bin .fdiv (.v 1) (.k (.int 12))))) (.k (.bool true)) (.range1 (.k (.int 24))))
noncomputable def qy:S:=(.ret lP)
noncomputable def im:S:=(.ife (.cmp (.bin .mod (.v 0) (.k (.int 9))) .eq (.k (.int 8))) (.cons qz (.cons qy .nil)) .nil)
noncomputable def lO:S:=(.asg 3 (.bin .add (.k (.int 1)) (.bin .mod (.v 0) (.k (.int 8)))))
noncomputable def lN:S:=(.asg 4 (.bin .mod (.bin .fdiv (.v 0) (.k (.int 8))) (.v 3)))
noncomputable def lM:S:=(.asg 1 (.k (.str "abcdefghijklmnopqrstuvwxyz0123456789")))
noncomputable def lL:S:=(.asg 5 (.lst false .nil))
noncomputable def qx:S:=(.asg 6 (.sub (.v 1) (.bin .mod (.bin .add (.bin .fdiv (.v 0) (.k (.int 64))) (.v 2)) (.sub (.lst true (.cons (.k (.int 26)) (.cons (.k (.int 36)) .nil))) (.b1 .int (.cmp (.v 4) .gt (.k (.int 0))))))))
noncomputable def qw:S:=(.expr (.me .append (.v 5) (.cons (.bin .add (.bin .add (.bin .mul (.k (.str "m")) (.v 4)) (.v 6)) (.bin .mul (.k (.str "m")) (.bin .sub (.bin .sub (.v 3) (.k (.int 1))) (.v 4)))) .nil)))
noncomputable def gM:S:=(.cons qx (.cons qw .nil))
noncomputable def lK:S:=(.for1 2 (.range1 (.k (.int 24))) gM)
noncomputable def lJ:S:=(.ret (.v 5))
noncomputable def iE:Fn:=⟨1,9,(.cons im (.cons lO (.cons lN (.cons lM (.cons lL (.cons lK (.cons lJ .nil)))))))⟩
noncomputable def qt:S:=(.ret (.sub (.lst true (.cons (.k (.int 0)) (.cons (.k (.int 0)) (.cons (.k (.int 1)) (.cons (.k (.int 999999)) .nil))))) (.bin .mod (.bin .fdiv (.v 0) (.k (.int 4))) (.k (.int 4)))))
noncomputable def sY:S:=(.ife (.cmp (.bin .mod (.v 0) (.k (.int 4))) .eq (.k (.int 0))) (.cons qt .nil) .nil)
noncomputable def qr:S:=(.ret (.bin .mod (.bin .fdiv (.v 0) (.k (.int 4))) (.bin .pow (.k (.int 10)) (.k (.int 6)))))
noncomputable def sX:S:=(.ife (.cmp (.bin .mod (.v 0) (.k (.int 4))) .eq (.k (.int 1))) (.cons qr .nil) .nil)
noncomputable def sW:S:=(.ret (.bin .mod (.bin .fdiv (.v 0) (.k (.int 4))) (.k (.int 5))))
noncomputable def iD:Fn:=⟨1,1,(.cons sY (.cons sX (.cons sW .nil)))⟩
noncomputable def qv:S:=(.ret (.k (.bool false)))
noncomputable def lE:S:=(.ife (.or (.cons (.not (.isinst (.v 0) .list)) (.cons (.cmp (.v 0) .ne (.v 1)) .nil))) (.cons qv .nil) .nil)
noncomputable def lF:X:=(.comp true 1 [none,none,none,none] (.v 1) (.isinst (.v 1) .bool) (.v 2))
noncomputable def oB:S:=(.ret (.k (.bool false)))
noncomputable def qu:S:=(.ife (.or (.cons (.not (.isinst (.v 2) .tuple)) (.cons (.cmp lF .ne (.lst true .nil)) .nil))) (.cons oB .nil) .nil)
noncomputable def gL:S:=(.cons qu .nil)
noncomputable def lD:S:=(.for1 2 (.v 0) gL)
noncomputable def lC:S:=(.ret (.k (.bool true)))
noncomputable def pQ:Fn:=⟨2,6,(.cons lE (.cons lD (.cons lC .nil)))⟩
noncomputable def kn:S:=(.ret (.bin .mod (.bin .add (.v 1) (.v 2)) (.bin .pow (.k (.int 10)) (.k (.int 6)))))
noncomputable def dT:S:=(.ife (.cmp (.v 0) .eq (.k (.str "sum"))) (.cons kn .nil) .nil)
noncomputable def km:S:=(.ret (.bin .mod (.bin .mul (.v 1) (.v 2)) (.bin .pow (.k (.int 10)) (.k (.int 6)))))
noncomputable def fN:S:=(.ife (.cmp (.v 0) .eq (.k (.str "times"))) (.cons km .nil) .nil)
noncomputable def iX:S:=(.ret (.sub (.lst true (.cons (.min2 (.v 1) (.v 2)) (.cons (.max2 (.cons (.v 1) (.cons (.v 2) .nil))) .nil))) (.b1 .int (.cmp (.v 0) .eq (.k (.str "most"))))))
noncomputable def r9:Fn:=⟨3,6,(.cons dT (.cons fN (.cons iX .nil)))⟩
noncomputable def oI:S:=(.asg 4 (.lst false (.cons (.v 1) .nil)))
noncomputable def oH:S:=(.asg 5 (.lst false .nil))
noncomputable def lS:S:=(.expr (.me .append (.v 5) (.cons (.call rM (.cons (.v 0) (.cons (.sub (.v 4) (.neg (.k (.int 1)))) (.cons (.v 6) .nil)))) .nil)))
noncomputable def lR:S:=(.expr (.me .append (.v 4) (.cons (.sub (.v 5) (.neg (.k (.int 1)))) .nil)))
noncomputable def na:S:=(.cons lS (.cons lR .nil))
noncomputable def oG:S:=(.for1 6 (.v 2) na)
noncomputable def oF:S:=(.asg 7 (.lst false (.cons (.slice (.v 4) (.k .none) (.neg (.k (.int 1)))) (.cons (.v 5) .nil))))
noncomputable def lQ:S:=(.expr (.me .append (.v 7) (.cons (.bin .add (.lst true (.cons (.v 6) .nil)) (.slice (.sub (.v 7) (.neg (.k (.int 1)))) (.k .none) (.neg (.k (.int 1))))) .nil)))
noncomputable def m9:S:=(.cons lQ .nil)
noncomputable def oE:S:=(.for1 6 (.v 3) m9)
noncomputable def oC:S:=(.ret (.v 7))
noncomputable def uq:Fn:=⟨4,9,(.cons oI (.cons oH (.cons oG (.cons oF (.cons oE (.cons oC .nil))))))⟩
noncomputable def lB:S:=(.asg 3 (.lst false (.cons (.tup (.cons (.sub (.v 0) (.k (.int 0))) (.cons (.tup (.cons (.v 1) .nil)) (.cons (.tup (.cons (.sub (.v 0) (.k (.int 0))) (.cons (.sub (.v 0) (.k (.int 23))) .nil))) (.cons (.tup (.cons (.sub (.v 0) (.k (.int 1))) .nil)) .nil))))) (.cons (.tup (.cons (.sub (.v 0) (.k (.int 1))) (.cons (.tup (.cons (.k (.str "later")) .nil)) (.cons (.tup (.cons (.sub (.v 0) (.k (.int 1))) .nil)) (.cons (.tup (.cons (.sub (.v 0) (.k (.int 0))) .nil)) .nil))))) .nil))))
noncomputable def jL:S:=(.expr (.me .append (.v 3) (.cons (.tup (.cons (.sub (.v 0) (.bin .add (.k (.int 2)) (.v 4))) (.cons (.tup (.cons (.k (.str "later")) .nil)) (.cons (.tup (.cons (.sub (.v 0) (.bin .add (.k (.int 1)) (.v 4))) .nil)) (.cons (.tup (.cons (.sub (.v 0) (.bin .add (.k (.int 2)) (.v 4))) .nil)) .nil))))) .nil)))
noncomputable def ki:S:=(.cons jL .nil)
noncomputable def lA:S:=(.for1 4 (.range1 (.v 2)) ki)
noncomputable def lz:S:=(.ret (.v 3))
noncomputable def pL:Fn:=⟨3,6,(.cons lB (.cons lA (.cons lz .nil)))⟩
noncomputable def jO:S:=(.ret (.listIt true (.range1 (.v 0))))
noncomputable def eX:S:=(.ife (.cmp (.v 1) .eq (.k (.int 0))) (.cons jO .nil) .nil)
noncomputable def jN:S:=(.ret (.listIt true (.range3 (.cons (.bin .sub (.v 0) (.k (.int 1))) (.cons (.neg (.k (.int 1))) (.cons (.neg (.k (.int 1))) .nil))))))
noncomputable def ik:S:=(.ife (.cmp (.v 1) .eq (.k (.int 1))) (.cons jN .nil) .nil)
noncomputable def lI:S:=(.asg 2 (.lst false .nil))
noncomputable def jM:S:=(.expr (.me .extend (.v 2) (.cons (.listIt true (.range3 (.cons (.v 3) (.cons (.v 0) (.cons (.k (.int 7)) .nil))))) .nil)))
noncomputable def kj:S:=(.cons jM .nil)
noncomputable def lH:S:=(.for1 3 (.range1 (.k (.int 7))) kj)
noncomputable def lG:S:=(.ret (.v 2))
noncomputable def pR:Fn:=⟨2,6,(.cons eX (.cons ik (.cons lI (.cons lH (.cons lG .nil)))))⟩
noncomputable def wW:S:=(.asg 1 (.call fC (.cons (.call aA (.cons (.v 0) (.cons (.k (.int 0)) .nil))) .nil)))
noncomputable def wV:S:=(.asg 2 (.sub (.lst true (.cons (.k (.str "sum")) (.cons (.k (.str "times")) (.cons (.k (.str "least")) (.cons (.k (.str "most")) .nil))))) (.bin .mod (.call aA (.cons (.v 0) (.cons (.k (.int 1)) .nil))) (.k (.int 4)))))
noncomputable def wU:S:=(.asg 3 (.bin .add (.k (.int 1)) (.bin .mod (.call aA (.cons (.v 0) (.cons (.k (.int 2)) .nil))) (.k (.int 12)))))
noncomputable def r6:S:=(.asg 3 (.bin .sub (.k (.int 200)) (.bin .mod (.bin .fdiv (.call aA (.cons (.v 0) (.cons (.k (.int 2)) .nil))) (.k (.int 96))) (.k (.int 9)))))
noncomputable def wT:S:=(.ife (.cmp (.bin .mod (.bin .fdiv (.call aA (.cons (.v 0) (.cons (.k (.int 2)) .nil))) (.k (.int 12))) (.k (.int 8))) .eq (.k (.int 1))) (.cons r6 .nil) .nil)
noncomputable def wS:S:=(.asg 4 (.bin .add (.k (.int 1)) (.bin .mod (.call aA (.cons (.v 0) (.cons (.k (.int 3)) .nil))) (.k (.int 4)))))
noncomputable def rZ:S:=(.asg 4 (.bin .sub (.k (.int 18)) (.bin .mod (.bin .fdiv (.call aA (.cons (.v 0) (.cons (.k (.int 3)) .nil))) (.k (.int 20))) (.k (.int 9)))))
noncomputable def wR:S:=(.ife (.and (.cons (.cmp (.bin .mod (.bin .fdiv (.call aA (.cons (.v 0) (.cons (.k (.int 3)) .nil))) (.k (.int 4))) (.k (.int 5))) .eq (.k (.int 1))) (.cons (.cmp (.v 3) .lt (.k (.int 100))) .nil))) (.cons rZ .nil) .nil)
noncomputable def wQ:S:=(.asg 5 (.call pJ (.cons (.v 1) (.cons (.v 2) (.cons (.v 4) .nil)))))
noncomputable def wP:S:=(.asg 6 (.bin .mod (.call aA (.cons (.v 0) (.cons (.k (.int 4)) .nil))) (.b1 .len (.v 5))))
noncomputable def wO:S:=(.asg 7 (.new 311 fU (.cons (.b1 .tuple (.bin .add (.slice (.v 5) (.v 6) (.k .none)) (.slice (.v 5) (.k .none) (.v 6)))) (.cons (.v 3) .nil))))
noncomputable def acR:X:=(.comp true 1 [none,none,none,none,none,some 0] (.call dh (.cons (.call gG (.cons (.bin .add (.call aA (.cons (.v 5) (.cons (.bin .add (.k (.int 6)) (.bin .mod (.v 1) (.k (.int 20)))) .nil))) (.v 1)) .nil)) .nil)) (.k (.bool true)) (.range1 (.v 3)))
noncomputable def wN:S:=(.asg 9 acR)
noncomputable def acQ:X:=(.comp true 1 [none,none,none,none,none,some 0] (.call dh (.cons (.call gG (.cons (.bin .add (.call aA (.cons (.v 5) (.cons (.k (.int 5)) .nil))) (.v 1)) .nil)) .nil)) (.k (.bool true)) (.range1 (.v 4)))
noncomputable def un:S:=(.asg 10 acQ)
noncomputable def um:S:=(.asg 11 (.call dh (.cons (.call aA (.cons (.v 0) (.cons (.k (.int 5)) .nil))) .nil)))
noncomputable def ul:S:=(.asg 12 (.call tY (.cons (.v 2) (.cons (.v 11) (.cons (.v 9) (.cons (.v 10) .nil))))))
noncomputable def uk:S:=(.asg 13 (.k (.int 0)))
noncomputable def pP:S:=(.expr (.meth 311 fE "put" (.v 7) (.cons (.sub (.v 1) (.k (.int 23))) (.cons (.v 8) (.cons (.sub (.v 9) (.v 8)) .nil)))))
noncomputable def m8:S:=(.asg 13 (.bin .add (.v 13) (.call rL (.cons (.v 7) .nil))))
noncomputable def pO:S:=(.ife (.and (.cons (.cmp (.bin .mod (.bin .fdiv (.call aA (.cons (.v 0) (.cons (.k (.int 1)) .nil))) (.k (.int 12))) (.k (.int 2))) .eq (.k (.int 1))) (.cons (.cmp (.v 8) .lt (.k (.int 4))) .nil))) (.cons m8 .nil) .nil)
noncomputable def jh:S:=(.cons pP (.cons pO .nil))
noncomputable def uj:S:=(.for1 8 (.call dZ (.cons (.v 3) (.cons (.bin .mod (.bin .fdiv (.call aA (.cons (.v 0) (.cons (.k (.int 1)) .nil))) (.k (.int 4))) (.k (.int 3))) .nil))) jh)
noncomputable def pN:S:=(.expr (.meth 311 fE "put" (.v 7) (.cons (.sub (.v 1) (.bin .add (.k (.int 2)) (.v 8))) (.cons (.k (.int 0)) (.cons (.sub (.v 10) (.v 8)) .nil)))))
noncomputable def r8:S:=(.cons pN .nil)
noncomputable def uh:S:=(.for1 8 (.range1 (.v 4)) r8)
noncomputable def ug:S:=(.expr (.meth 311 fE "put" (.v 7) (.cons (.sub (.v 1) (.k (.int 0))) (.cons (.k (.int 0)) (.cons (.v 11) .nil)))))
noncomputable def xT:S:=(.ret (.k (.bool false)))
noncomputable def oA:S:=(.ife (.or (.cons (.cmp (.bin .add (.v 13) (.call rL (.cons (.v 7) .nil))) .ne (.bin .mul (.bin .add (.k (.int 2)) (.v 4)) (.v 3))) (.cons (.cmp (.b1 .len (.meth 311 iW "fired" (.v 7) .nil)) .ne (.bin .mul (.bin .add (.k (.int 2)) (.v 4)) (.v 3))) .nil))) (.cons xT .nil) .nil)
noncomputable def qC:X:=(.comp true 1 [none,none,some 8,some 12] (.tup (.cons (.v 1) (.cons (.sub (.sub (.v 3) (.v 2)) (.v 1)) .nil))) (.k (.bool true)) (.range1 (.v 3)))
noncomputable def r7:S:=(.ret (.k (.bool false)))
noncomputable def m7:S:=(.ife (.not (.call kY (.cons (.meth 311 gI "told" (.v 7) (.cons (.sub (.v 1) (.v 8)) .nil)) (.cons qC .nil)))) (.cons r7 .nil) .nil)
noncomputable def oy:S:=(.cons m7 .nil)
noncomputable def pM:S:=(.for1 14 (.range1 (.k (.int 2))) oy)
noncomputable def mF:S:=(.cons pM .nil)
noncomputable def oz:S:=(.for1 8 (.range1 (.bin .add (.k (.int 2)) (.v 4))) mF)
noncomputable def ou:S:=(.ret (.k (.bool true)))
noncomputable def zJ:Fn:=⟨1,27,(.cons wW (.cons wV (.cons wU (.cons wT (.cons wS (.cons wR (.cons wQ (.cons wP (.cons wO (.cons wN (.cons un (.cons um (.cons ul (.cons uk (.cons uj (.cons uh (.cons ug (.cons oA (.cons oz (.cons ou .nil))))))))))))))))))))⟩
noncomputable def hV:S:=(.ife (.not (.call gf (.cons (.v 1) .nil))) (.cons .stk .nil) .nil)
noncomputable def hJ:S:=(.ife (.not (.call cS (.cons (.v 2) (.cons (.k (.int 1)) (.cons (.k (.int 200)) .nil))))) (.cons .stk .nil) .nil)
noncomputable def nB:S:=(.asgAttr 311 (.v 0) "plan" (.v 1))
noncomputable def nA:S:=(.asgAttr 311 (.v 0) "turns" (.v 2))
noncomputable def ny:S:=(.asgAttr 311 (.v 0) "givers" (.call iB (.cons (.v 1) .nil)))
noncomputable def nx:S:=(.asgAttr 311 (.v 0) "outer" (.call kc (.cons (.v 1) .nil)))
noncomputable def nw:S:=(.asgAttr 311 (.v 0) "here" (.dnew true))
noncomputable def nu:S:=(.asgAttr 311 (.v 0) "gone" (.dnew true))
noncomputable def nq:S:=(.asgAttr 311 (.v 0) "order" (.lst false .nil))
noncomputable def fX:Fn:=⟨3,10,(.cons hV (.cons hJ (.cons nB (.cons nA (.cons ny (.cons nx (.cons nw (.cons nu (.cons nq .nil)))))))))⟩
noncomputable def gj:S:=(.ife (.or (.cons (.not (.isinst (.v 1) .str)) (.cons (.and (.cons (.cmp (.v 1) .notin (.attr 311 (.v 0) "givers")) (.cons (.cmp (.v 1) .notin (.attr 311 (.v 0) "outer")) .nil))) .nil))) (.cons .stk .nil) .nil)
noncomputable def iR:Fn:=⟨2,5,(.cons gj .nil)⟩
noncomputable def gV:S:=(.ife (.not (.call cS (.cons (.v 1) (.cons (.k (.int 0)) (.cons (.bin .sub (.attr 311 (.v 0) "turns") (.k (.int 1))) .nil))))) (.cons .stk .nil) .nil)
noncomputable def i4:Fn:=⟨2,4,(.cons gV .nil)⟩
noncomputable def dW:S:=(.ret (.v 2))
noncomputable def cU:S:=(.ife (.cmp (.sub (.v 2) (.k (.int 0))) .eq (.v 1)) (.cons dW .nil) .nil)
noncomputable def fg:S:=(.cons cU .nil)
noncomputable def fG:S:=(.for1 2 (.attr 311 (.v 0) "plan") fg)
noncomputable def gW:S:=(.ife (.isinst (.v 1) .str) (.cons fG .nil) .nil)
noncomputable def i5:Fn:=⟨2,6,(.cons gW (.cons .stk .nil))⟩
noncomputable def l6:S:=(.expr (.meth 311 eB "need_place" (.v 0) (.cons (.v 1) .nil)))
noncomputable def l5:S:=(.expr (.meth 311 fi "need_turn" (.v 0) (.cons (.v 2) .nil)))
noncomputable def l4:S:=(.ife (.and (.cons (.cmp (.v 1) .isin (.attr 311 (.v 0) "givers")) (.cons (.or (.cons (.cmp (.sub (.sub (.sub (.attr 311 (.v 0) "givers") (.v 1)) (.k (.int 1))) (.k (.int 0))) .ne (.k (.str "later"))) (.cons (.cmp (.v 2) .gt (.k (.int 0))) .nil))) .nil))) (.cons .stk .nil) .nil)
noncomputable def lZ:S:=(.ife (.not (.call gH (.cons (.v 3) .nil))) (.cons .stk .nil) .nil)
noncomputable def lY:S:=(.ife (.cmp (.tup (.cons (.v 1) (.cons (.v 2) .nil))) .isin (.attr 311 (.v 0) "here")) (.cons .stk .nil) .nil)
noncomputable def lX:S:=(.asgSub (.attr 311 (.v 0) "here") (.tup (.cons (.v 1) (.cons (.v 2) .nil))) (.v 3))
noncomputable def k8:Fn:=⟨4,8,(.cons l6 (.cons l5 (.cons l4 (.cons lZ (.cons lY (.cons lX .nil))))))⟩
noncomputable def fm:S:=(.asg 3 (.sub (.v 1) (.k (.int 2))))
noncomputable def np:S:=(.asg 4 (.me .get (.attr 311 (.v 0) "here") (.cons (.tup (.cons (.sub (.v 3) (.k (.int 0))) (.cons (.v 2) .nil))) .nil)))
noncomputable def mc:S:=(.ret (.sub (.v 3) (.k (.int 0))))
noncomputable def nk:S:=(.ife (.cmp (.v 4) .is (.k .none)) (.cons mc .nil) .nil)
noncomputable def l8:S:=(.asg 3 (.slice (.v 3) (.k (.int 1)) (.k (.int 2))))
noncomputable def l9:S:=(.asg 3 (.slice (.v 3) (.k (.int 2)) (.k (.int 3))))
noncomputable def nj:S:=(.ife (.cmp (.v 4) .eq (.k (.int 0))) (.cons l8 .nil) (.cons l9 .nil))
noncomputable def fk:S:=(.ife (.cmp (.sub (.sub (.v 1) (.k (.int 1))) (.k (.int 0))) .eq (.k (.str "choose"))) (.cons np (.cons nk (.cons nj .nil))) .nil)
noncomputable def l7:S:=(.ret (.v 5))
noncomputable def d9:S:=(.ife (.cmp (.tup (.cons (.v 5) (.cons (.v 2) .nil))) .notin (.attr 311 (.v 0) "here")) (.cons l7 .nil) .nil)
noncomputable def eH:S:=(.cons d9 .nil)
noncomputable def cz:S:=(.for1 5 (.v 3) eH)
noncomputable def du:S:=(.ret (.k .none))
noncomputable def mf:Fn:=⟨3,6,(.cons fm (.cons fk (.cons cz (.cons du .nil))))⟩
noncomputable def mG:S:=(.ret (.cmp (.tup (.cons (.v 1) (.cons (.v 2) .nil))) .isin (.attr 311 (.v 0) "gone")))
noncomputable def fq:Fn:=⟨3,3,(.cons mG .nil)⟩
noncomputable def hG:S:=(.ret (.and (.cons (.not (.meth 311 cy "has_fired" (.v 0) (.cons (.sub (.v 1) (.k (.int 0))) (.cons (.v 2) .nil)))) (.cons (.cmp (.meth 311 dB "missed" (.v 0) (.cons (.v 1) (.cons (.v 2) .nil))) .is (.k .none)) .nil))))
noncomputable def jX:Fn:=⟨3,3,(.cons hG .nil)⟩
noncomputable def kF:S:=(.asg 3 (.meth 311 i0 "need_step" (.v 0) (.cons (.v 1) .nil)))
noncomputable def kE:S:=(.expr (.meth 311 fi "need_turn" (.v 0) (.cons (.v 2) .nil)))
noncomputable def kC:S:=(.ife (.meth 311 cy "has_fired" (.v 0) (.cons (.v 1) (.cons (.v 2) .nil))) (.cons .stk .nil) .nil)
noncomputable def kB:S:=(.ife (.cmp (.meth 311 dB "missed" (.v 0) (.cons (.v 3) (.cons (.v 2) .nil))) .isNot (.k .none)) (.cons .stk .nil) .nil)
noncomputable def kA:S:=(.asgSub (.attr 311 (.v 0) "gone") (.tup (.cons (.v 1) (.cons (.v 2) .nil))) (.k (.bool true)))
noncomputable def kz:S:=(.expr (.me .append (.attr 311 (.v 0) "order") (.cons (.tup (.cons (.v 1) (.cons (.v 2) .nil))) .nil)))
noncomputable def kG:X:=(.comp true 1 [none,none,some 0,some 2] (.me .get (.attr 311 (.v 2) "here") (.cons (.tup (.cons (.v 1) (.cons (.v 3) .nil))) .nil)) (.k (.bool true)) (.sub (.v 3) (.k (.int 2))))
noncomputable def ky:S:=(.asg 5 kG)
noncomputable def kx:S:=(.asg 6 (.bin .add (.v 2) (.b1 .int (.cmp (.sub (.sub (.v 3) (.k (.int 1))) (.k (.int 0))) .eq (.k (.str "later"))))))
noncomputable def ei:S:=(.ife (.cmp (.v 6) .eq (.attr 311 (.v 0) "turns")) (.cons .ret0 .nil) .nil)
noncomputable def hH:S:=(.asgSub (.attr 311 (.v 0) "here") (.tup (.cons (.v 4) (.cons (.v 6) .nil))) (.v 7))
noncomputable def i6:S:=(.ife (.cmp (.v 7) .isNot (.k .none)) (.cons hH .nil) .nil)
noncomputable def fW:S:=(.cons i6 .nil)
noncomputable def gX:S:=(.forT [4,7] (.zip (.cons (.sub (.v 3) (.k (.int 3))) (.cons (.call nW (.cons (.sub (.v 3) (.k (.int 1))) (.cons (.v 5) (.cons (.b1 .len (.sub (.v 3) (.k (.int 3)))) .nil)))) .nil))) fW)
noncomputable def jZ:Fn:=⟨3,14,(.cons kF (.cons kE (.cons kC (.cons kB (.cons kA (.cons kz (.cons ky (.cons kx (.cons ei (.cons gX .nil))))))))))⟩
noncomputable def ku:S:=(.expr (.meth 311 eB "need_place" (.v 0) (.cons (.v 1) .nil)))
noncomputable def kv:X:=(.comp true 1 [none,none,some 1,some 0] (.tup (.cons (.v 1) (.cons (.sub (.attr 311 (.v 3) "here") (.tup (.cons (.v 2) (.cons (.v 1) .nil)))) .nil))) (.cmp (.tup (.cons (.v 2) (.cons (.v 1) .nil))) .isin (.attr 311 (.v 3) "here")) (.range1 (.attr 311 (.v 0) "turns")))
noncomputable def se:S:=(.ret kv)
noncomputable def oO:Fn:=⟨2,3,(.cons ku (.cons se .nil))⟩
noncomputable def jY:S:=(.ret (.b1 (.list true) (.attr 311 (.v 0) "order")))
noncomputable def nf:Fn:=⟨1,2,(.cons jY .nil)⟩
noncomputable def PP:j0:=⟨[jj,ue,wY,wH,uf,uu,iG,gU,kq,ur,ut,k6,oj,jW,pS,adG,dU,ji,iE,iD,pQ,r9,uq,pL,pR,zJ,fX,iR,i4,i5,k8,mf,fq,jX,jZ,oO,nf]⟩
noncomputable def topN:Nat:=3500
end Mine
namespace Mine
open PySem
noncomputable def aM:bz->ae PV
  | .next _ σ=>.ok .none σ
  | .ret v _ σ=>.ok v σ
  | .exc i _ σ=>.exc i σ
  | _=>.stuck
section
variable {α β:Type} {σ:ab} {ρ:au} {C:bc} {n:Nat}
theorem az {a:α} {f:α->ab->ae β}:(ae.ok a σ).bind f=f a σ:=rfl
theorem fw {a:α} {f:α->ab->bz}:(ae.ok a σ).toS ρ f=f a σ:=rfl
theorem w6 {a b:Str}:bp .eq (.str a) (.str b) σ=.ok (a == b) σ:=rfl
theorem afj {a b:Str}:bp .ne (.str a) (.str b) σ=.ok (!(a == b)) σ:=rfl
theorem eI {a b:Int}:bp .eq (.int a) (.int b) σ=.ok (a == b) σ:=rfl
theorem aaO {a b:Int}:bp .ne (.int a) (.int b) σ=.ok (!(a == b)) σ:=rfl
theorem lt_int {a b:Int}:bp .lt (.int a) (.int b) σ=.ok (decide (a < b)) σ:=rfl
theorem le_int {a b:Int}:bp .le (.int a) (.int b) σ=.ok (decide (a <= b)) σ:=rfl
theorem gt_int {a b:Int}:bp .gt (.int a) (.int b) σ=.ok (decide (a > b)) σ:=rfl
theorem add_int {a b:Int}:fP .add (.int a) (.int b) σ=.ok (.int (a + b)) σ:=rfl
theorem sub_int {a b:Int}:fP .sub (.int a) (.int b) σ=.ok (.int (a - b)) σ:=rfl
theorem mul_int {a b:Int} (h:a.natAbs < 2 ^ 60\/b.natAbs < 2 ^ 60):fP .mul (.int a) (.int b) σ=.ok (.int (a * b)) σ:=by
  show (if pg a b=true then ae.ok (PV.int (a * b)) σ else .stuck)=_
  exact if_pos (decide_eq_true h)
theorem bE {a b:Int} (h:0 < b):fP .mod (.int a) (.int b) σ=.ok (.int (a % b)) σ:=by
  have e:a.fmod b=a % b:=Int.fmod_eq_emod_of_nonneg _ (Int.le_of_lt h)
  show (if b=0 then ae.stuck else .ok (PV.int (a.fmod b)) σ)=_
  rw [if_neg (Int.ne_of_gt h),e]
theorem ii {a b:Int} (h:0 < b) (h2:b < 1073741824):fP .fdiv (.int a) (.int b) σ=.ok (.int (a / b)) σ:=by
  have e:a.fdiv b=a / b:=Int.fdiv_eq_ediv_of_nonneg _ (Int.le_of_lt h)
  have:b ≠ 0/\b.natAbs < 1073741824:=⟨Int.ne_of_gt h,by omega⟩
  show (if b ≠ 0/\b.natAbs < 1073741824 then ae.ok (PV.int (a.fdiv b)) σ else .stuck)=_
  rw [if_pos this,e]
theorem add_str {a b:Str} (h:a.length + b.length <= ao):fP .add (.str a) (.str b) σ=.ok (.str (a++b)) σ:=by
  show (if a.length + b.length <= ao then ae.ok (PV.str (a++b)) σ else .stuck)=_
  exact if_pos h
theorem abR {a b:List PV} (h:a.length + b.length <= ao):fP .add (.fl a) (.fl b) σ=.ok (.fl (a++b)) σ:=by
  show (if a.length + b.length <= ao then ae.ok (PV.fl (a++b)) σ else .stuck)=_
  exact if_pos h
theorem mv {f:List PV->ae PV} {a:PV} {xs:List PV} (h:a8 σ a=some xs):j9 f a σ=f xs:=by unfold j9; rw [h]
theorem jf {γ:Type} {g:List PV->Option γ} {f:γ->ae PV} {a:PV} {l:γ} (h:(a7 σ a).bind g=some l):cX g f a σ=f l:=by unfold cX; rw [h]
theorem len_str {s:Str} (h:s.length <= ao):cC .len (.str s) σ=.ok (.int s.length) σ:=by
  show (if s.length <= ao then ae.ok (PV.int s.length) σ else .stuck)=_
  exact if_pos h
theorem sP {xs:List PV} (h:xs.length <= ao):cC .len (.tup xs) σ=.ok (.int xs.length) σ:=by
  show (if xs.length <= ao then ae.ok (PV.int xs.length) σ else .stuck)=_
  exact if_pos h
theorem aa6 {xs:List PV} (h:xs.length <= ao):cC .len (.fl xs) σ=.ok (.int xs.length) σ:=by
  show (if xs.length <= ao then ae.ok (PV.int xs.length) σ else .stuck)=_
  exact if_pos h
theorem abU {xs:List PV} (h:xs.length <= ao):cC .tuple (.fl xs) σ=.ok (.tup xs) σ:=by
  show (if xs.length <= ao then ae.ok (PV.tup xs) σ else .stuck)=_
  exact if_pos h
theorem int_bool {b:Bool}:cC .int (.bool b) σ=.ok (.int (if b then 1 else 0)) σ:=rfl
theorem rC {xs:List PV} (h:xs.length <= ao):bh true xs σ=.ok (.fl xs) σ:=if_pos h
theorem aaP {xs:List PV} (h:xs.length <= ao):bh false xs σ=.ok (.ref σ.length) (σ++[.lst xs]):=if_pos h
theorem sU {i:Int} {m:Nat} (h0:0 <= i) (h:i.toNat < m):bQ i m=some i.toNat:=by
  unfold bQ
  rw [if_pos h0,if_pos h]
theorem gA {xs:List PV} {i:Int} {x:PV} (hl:xs.length <= ao) (h0:0 <= i) (h:xs[i.toNat]?=some x):dg (.fl xs) (.int i) σ=.ok x σ:=by
  have hi:=(List.getElem?_eq_some_iff.mp h).1
  show (if xs.length <= ao then ae.ofOpt ((bQ i xs.length).bind (xs[·]?)) σ else .stuck)=_
  rw [if_pos hl,sU h0 hi]
  show ae.ofOpt xs[i.toNat]? σ=_
  rw [h]; rfl
theorem sH {xs:List PV} {r:Nat} {i:Int} {x:PV} (hr:σ[r]?=some (.lst xs)) (hl:xs.length <= ao) (h0:0 <= i) (h:xs[i.toNat]?=some x):dg (.ref r) (.int i) σ=.ok x σ:=by
  have hi:=(List.getElem?_eq_some_iff.mp h).1
  have e:a7 σ (.ref r)=some xs:=by unfold a7; dsimp only; rw [hr]
  show (match a7 σ (.ref r) with
    | some xs=>jE xs i σ
    | none=>.stuck)=_
  rw [e]
  show (if xs.length <= ao then ae.ofOpt ((bQ i xs.length).bind (xs[·]?)) σ else .stuck)=_
  rw [if_pos hl,sU h0 hi]
  show ae.ofOpt xs[i.toNat]? σ=_
  rw [h]; rfl
theorem yi {s:Str} {i:Int} {c:Nat} (hl:s.cps.size <= ao) (h0:0 <= i) (h:s.cps.toList[i.toNat]?=some c):dg (.str s) (.int i) σ=.ok (.str ⟨#[c]⟩) σ:=by
  have hi:=(List.getElem?_eq_some_iff.mp h).1
  have h':s.cps[i.toNat]?=some c:=by rw [<- Array.getElem?_toList]; exact h
  show (if s.cps.size <= ao then (match (bQ i s.cps.size).bind (s.cps[·]?) with
      | some c=>ae.ok (PV.str ⟨#[c]⟩) σ
      | none=>.stuck)
    else .stuck)=_
  rw [if_pos hl,sU h0 (by simpa using hi)]
  show (match s.cps[i.toNat]? with
      | some c=>ae.ok (PV.str ⟨#[c]⟩) σ
      | none=>.stuck)=_
  rw [h']
theorem ac9 {P:Nat->Prop}:∀ k,k < 0->P k:=fun _ h=>absurd h (Nat.not_lt_zero _)
theorem lc {P:Nat->Prop} {n:Nat} (h:∀ k,k < n->P k) (q:P n):∀ k,k < n + 1->P k:=fun k hk=>(Nat.lt_succ_iff_lt_or_eq.mp hk).elim (h k) fun e=>e ▸ q
theorem wm {P:Int->Prop} {n:Nat} (h:∀ k:Nat,k < n->P k) {w:Int} (h0:0 <= w) (h1:w < n):P w:=by
  obtain ⟨k,rfl⟩:=Int.eq_ofNat_of_zero_le h0
  exact h k (Int.ofNat_lt.mp h1)
theorem tK {w:Int} {n:Nat} (h0:0 <= w) (h1:w < n):w.toNat < n:=wm (P:=fun w=>w.toNat < n) (fun _ h=>h) h0 h1
theorem xl {a:Int} {k N:Nat} (hN:N ≠ 0):((a + k) % N).toNat=((a % N).toNat + k) % N:=by
  have hz:(N:Int) ≠ 0:=Int.ofNat_ne_zero.mpr hN
  rw [<- Int.emod_add_emod]
  obtain ⟨m,hm⟩:=Int.eq_ofNat_of_zero_le (Int.emod_nonneg a hz)
  rw [hm,Int.toNat_natCast,<- Int.natCast_add,<- Int.natCast_emod,Int.toNat_natCast]
theorem aI:ao=1000000:=rfl
theorem sq {f:PV->ab->ae (Option PV)} {g:PV->PV}:∀ (xs:List PV),(∀ x ∈ xs,f x σ=.ok (some (g x)) σ)->bG none f xs σ=.ok (xs.map g) σ
  | [],_=>if_pos trivial
  | x::xs,h=>by
    refine (if_pos trivial).trans ?_
    rw [h x List.mem_cons_self]
    show (bG none f xs σ).bind _=_
    rw [sq xs fun y hy=>h y (List.mem_cons_of_mem _ hy)]
    rfl
theorem iq {t:Nat} {cap:List (Option Nat)} {elt it:X} {xs:List PV} (g:PV->PV) (hit:evIt C it ρ σ=.ok (xs,none) σ) (hl:xs.length <= ao)
    (h:∀ x ∈ xs,ev C elt ((aY cap ρ).set t (some x)) σ=.ok (g x) σ) (hh:C.hd=false:=by first | rfl | assumption):ev C (.comp true t cap elt (.k (.bool true)) it) ρ σ=.ok (.fl (xs.map g)) σ:=by
  rw [jt,hh,hit]
  show d4 xs.length (bG none (fun x σ=>((ae.ok true σ).bind fun b σ=>if b=true then (ev C elt ((aY cap ρ).set t (some x)) σ).bind fun v σ=>.ok (some v) σ else .ok none σ)) xs σ) _=_
  rw [sq (g:=g) xs fun x hx=>by
    show (ev C elt ((aY cap ρ).set t (some x)) σ).bind _=_
    rw [h x hx]; rfl]
  exact rC (by simpa using hl)
section
variable {a b c r:X} {σ₁ σ₂ σ₃:ab} {x y z:PV}
theorem aH {o:Op} {v:ae PV} (ha:ev C a ρ σ=.ok x σ₁) (hb:ev C b ρ σ₁=.ok y σ₂) (h:fP o x y σ₂=v):ev C (.bin o a b) ρ σ=v:=by
  rw [afJ,ha,az,hb,az,h]
theorem bu {v:ae PV} (ha:ev C a ρ σ=.ok x σ₁) (hb:ev C b ρ σ₁=.ok y σ₂) (h:dg x y σ₂=v):ev C (.sub a b) ρ σ=v:=by
  rw [afG,ha,az,hb,az,h]
theorem vP {o lo hi v:PV} {a b:Option Int} (h1:gD lo=some a) (h2:gD hi=some b) (h:yl σ o a b=some v):dy o lo hi σ=.ok v σ:=by
  unfold dy
  rw [h1,h2]
  show ae.ofOpt (yl σ o a b) σ=_
  rw [h]; rfl
theorem pq {v:ae PV} (ha:ev C a ρ σ=.ok x σ₁) (hb:ev C b ρ σ₁=.ok y σ₂) (hc:ev C c ρ σ₂=.ok z σ₃) (h:dy x y z σ₃=v):ev C (.slice a b c) ρ σ=v:=by
  rw [w5,ha,az,hb,az,hc,az,h]
theorem agy {k:B1}:kK false k x σ=cC k x σ:=rfl
theorem dk {k:B1} {v:ae PV} (ha:ev C a ρ σ=.ok x σ₁) (h:cC k x σ₁=v) (hh:C.hd=false:=by first | rfl | assumption):ev C (.b1 k a) ρ σ=v:=by
  rw [adI,ha,az,hh,agy,h]
theorem bm {f:Nat} {v:ae PV} (ha:ev C a ρ σ=.ok x σ₁) (h:C.call f [x] σ₁=v):ev C (.call f (.cons a .nil)) ρ σ=v:=by
  rw [pn,dj,ha,az,cu]; exact h
theorem cw {f:Nat} {v:ae PV} (ha:ev C a ρ σ=.ok x σ₁) (hb:ev C b ρ σ₁=.ok y σ₂) (h:C.call f [x,y] σ₂=v):ev C (.call f (.cons a (.cons b .nil))) ρ σ=v:=by
  rw [pn,dj,ha,az,dj,hb,az,cu]; exact h
theorem ju {f:Nat} {v:ae PV} (ha:ev C a ρ σ=.ok x σ₁) (hb:ev C b ρ σ₁=.ok y σ₂) (hc:ev C c ρ σ₂=.ok z σ₃) (h:C.call f [x,y,z] σ₃=v):ev C (.call f (.cons a (.cons b (.cons c .nil)))) ρ σ=v:=by
  rw [pn,dj,ha,az,dj,hb,az,dj,hc,az,cu]; exact h
theorem k9 {m:Me} {v:ae PV} (ha:ev C a ρ σ=.ok x σ₁) (hm:qh m x σ₁=true) (hb:ev C b ρ σ₁=.ok y σ₂) (h:lr m x [y] σ₂=v):ev C (.me m a (.cons b .nil)) ρ σ=v:=by
  rw [adH,ha,az,if_pos hm,dj,hb,az,cu]; exact h
theorem w8 {t:Ty} {q:Bool} (ha:ev C a ρ σ=.ok x σ₁) (h:ga x t σ₁=.ok q σ₁):ev C (.isinst a t) ρ σ=.ok (.bool q) σ₁:=by
  rw [abw,ha,az,h]; rfl
theorem gZ {o:Cm} {q:Bool} (ha:ev C a ρ σ=.ok x σ₁) (hb:ev C b ρ σ₁=.ok y σ₂) (h:bp o x y σ₂=.ok q σ₃):ev C (.cmp a o b) ρ σ=.ok (.bool q) σ₃:=by
  rw [afI,ha,az,hb,az,h]; rfl
theorem kI {xs:X} {v:ae PV} (h:evAnd C xs ρ σ=v):ev C (.and xs) ρ σ=v:=h
theorem io {v:ae PV} (h:ev C a ρ σ=v):evAnd C (.cons a .nil) ρ σ=v:=h
theorem o9 {xs:X} {v:ae Bool} (h:tstAnd C xs ρ σ=v):tst C (.and xs) ρ σ=v:=h
theorem jx {xs:X} {v:ae Bool} (h:tstOr C xs ρ σ=v):tst C (.or xs) ρ σ=v:=h
theorem jw {v:ae PV} (ha:ev C a ρ σ=.ok (.bool true) σ₁) (hb:evAnd C (.cons b r) ρ σ₁=v):evAnd C (.cons a (.cons b r)) ρ σ=v:=by
  rw [gY,ha]; exact hb
theorem bC {o:Cm} {v:ae Bool} (ha:ev C a ρ σ=.ok x σ₁) (hb:ev C b ρ σ₁=.ok y σ₂) (h:bp o x y σ₂=v):tst C (.cmp a o b) ρ σ=v:=by
  rw [adS,ha,az,hb,az,h]
theorem dm {q:Bool} (ha:tst C a ρ σ=.ok q σ₁):tst C (.not a) ρ σ=.ok (!q) σ₁:=by
  rw [adR,ha]; rfl
theorem dR {f:Nat} {args:X} {q:Bool} (h:ev C (.call f args) ρ σ=.ok (.bool q) σ₁):tst C (.call f args) ρ σ=.ok q σ₁:=by
  rw [abX,h]; rfl
theorem agJ {k:B1} {q:Bool} (h:ev C (.b1 k a) ρ σ=.ok (.bool q) σ₁):tst C (.b1 k a) ρ σ=.ok q σ₁:=by
  rw [aeW,h]; rfl
theorem ab3 {t:Ty} {q:Bool} (h:ev C (.isinst a t) ρ σ=.ok (.bool q) σ₁):tst C (.isinst a t) ρ σ=.ok q σ₁:=by
  rw [yQ,h]; rfl
theorem eu {v:ae Bool} (ha:tst C a ρ σ=.ok false σ₁) (h:tstOr C r ρ σ₁=v):tstOr C (.cons a r) ρ σ=v:=by
  rw [eS,ha]; exact h
theorem aaj (ha:tst C a ρ σ=.ok true σ₁):tstOr C (.cons a r) ρ σ=.ok true σ₁:=by
  rw [eS,ha]; rfl
theorem adX {v:ae Bool} (ha:tst C a ρ σ=.ok true σ₁) (h:tstAnd C r ρ σ₁=v):tstAnd C (.cons a r) ρ σ=v:=by
  rw [dY,ha]; exact h
theorem adY (ha:tst C a ρ σ=.ok false σ₁):tstAnd C (.cons a r) ρ σ=.ok false σ₁:=by
  rw [dY,ha]; rfl
theorem vL {q p:Bool} (ha:tst C a ρ σ=.ok q σ₁) (h:q=false->tstOr C r ρ σ₁=.ok p σ₁):tstOr C (.cons a r) ρ σ=.ok (q || p) σ₁:=by
  rw [eS,ha,az]
  cases q
  · exact h rfl
  · rfl
theorem gz {q:Bool} (ha:tst C a ρ σ=.ok q σ₁):tstOr C (.cons a .nil) ρ σ=.ok q σ₁:=by
  rw [eS,ha,az]
  cases q <;> rfl
theorem o8 {q p:Bool} (ha:tst C a ρ σ=.ok q σ₁) (h:q=true->tstAnd C r ρ σ₁=.ok p σ₁):tstAnd C (.cons a r) ρ σ=.ok (q && p) σ₁:=by
  rw [dY,ha,az]
  cases q
  · rfl
  · exact h rfl
theorem lh {q:Bool} (ha:tst C a ρ σ=.ok q σ₁):tstAnd C (.cons a .nil) ρ σ=.ok q σ₁:=by
  rw [dY,ha,az]
  cases q <;> rfl
theorem pr {q p:Bool} (ha:ev C a ρ σ=.ok (.bool q) σ₁) (h:q=true->evAnd C (.cons b r) ρ σ₁=.ok (.bool p) σ₁):evAnd C (.cons a (.cons b r)) ρ σ=.ok (.bool (q && p)) σ₁:=by
  rw [gY,ha]
  cases q
  · rfl
  · exact h rfl
theorem lb {i j k:Int} (ha:ev C a ρ σ=.ok (.int i) σ) (hb:ev C b ρ σ=.ok (.int j) σ) (hc:ev C c ρ σ=.ok (.int k) σ):ev C (.cmp2 a .le b .le c) ρ σ=.ok (.bool (decide (i <= j) && decide (j <= k))) σ:=by
  rw [aeH,ha,az,hb,az,le_int,az]
  cases decide (i <= j)
  · rfl
  · rw [if_pos rfl,hc,az,le_int]; rfl
theorem pE {i j k:Int} (ha:ev C a ρ σ=.ok (.int i) σ) (hb:ev C b ρ σ=.ok (.int j) σ) (hc:ev C c ρ σ=.ok (.int k) σ):tst C (.cmp2 a .le b .le c) ρ σ=.ok (decide (i <= j) && decide (j <= k)) σ:=by
  rw [abW,ha,az,hb,az,le_int,az]
  cases decide (i <= j)
  · rfl
  · rw [if_pos rfl,hc,az,le_int]; rfl
theorem aX {vs:List PV} (ha:ev C a ρ σ=.ok x σ₁) (h:evs C r ρ σ₁=.ok vs σ₂):evs C (.cons a r) ρ σ=.ok (x::vs) σ₂:=by
  rw [dj,ha,az,h]; rfl
theorem sg {xs:X} {vs:List PV} (h:evs C xs ρ σ=.ok vs σ₁) (hl:vs.length <= ao):ev C (.tup xs) ρ σ=.ok (.tup vs) σ₁:=by
  rw [afF,h,az,if_pos hl]
end
theorem aa {a r:S} {ρ':au} {σ':ab} (h:ex C n a ρ σ=.next ρ' σ'):ex C n (.cons a r) ρ σ=ex C n r ρ' σ':=by
  show (match ex C n a ρ σ with | .next ρ σ=>ex C n r ρ σ | o=>o)=_
  rw [h]
theorem ak {a r:S} {v:PV} {ρ':au} {σ':ab} (h:ex C n a ρ σ=.ret v ρ' σ'):ex C n (.cons a r) ρ σ=.ret v ρ' σ':=by
  show (match ex C n a ρ σ with | .next ρ σ=>ex C n r ρ σ | o=>o)=_
  rw [h]
theorem aW {i:Nat} {x:X} {v:PV} {σ':ab} (h:ev C x ρ σ=.ok v σ'):ex C n (.asg i x) ρ σ=.next (ρ.set i (some v)) σ':=by
  show (ev C x ρ σ).toS ρ _=_
  rw [h]; rfl
theorem av {x:X} {v:PV} {σ':ab} (h:ev C x ρ σ=.ok v σ'):ex C n (.ret x) ρ σ=.ret v ρ σ':=by
  show (ev C x ρ σ).toS ρ _=_
  rw [h]; rfl
theorem bR {x:X} {σ':ab} (h:ev C x ρ σ=.ok .none σ'):ex C n (.expr x) ρ σ=.next ρ σ':=by
  show (ev C x ρ σ).toS ρ _=_
  rw [h]; rfl
theorem aR {c:X} {a b:S} {σ':ab} (h:tst C c ρ σ=.ok true σ'):ex C n (.ife c a b) ρ σ=ex C n a ρ σ':=by
  show (tst C c ρ σ).toS ρ _=_
  rw [h]; rfl
theorem aw {c:X} {a b:S} {σ':ab} (h:tst C c ρ σ=.ok false σ'):ex C n (.ife c a b) ρ σ=ex C n b ρ σ':=by
  show (tst C c ρ σ).toS ρ _=_
  rw [h]; rfl
theorem ah:ex C n .nil ρ σ=.next ρ σ:=rfl
section
variable {bnd:PV->au->Option au} {f:au->ab->bz} {x:PV} {xs:List PV} {ρ₁ ρ₂:au} {σ₂:ab}
theorem bJ:aZ none bnd f [] ρ σ=.next ρ σ:=if_pos trivial
theorem bg (hb:bnd x ρ=some ρ₁) (h:f ρ₁ σ=.next ρ₂ σ₂):aZ none bnd f (x::xs) ρ σ=aZ none bnd f xs ρ₂ σ₂:=by
  refine (if_pos trivial).trans ?_
  rw [hb]; show nQ _ (f ρ₁ σ)=_; rw [h]; rfl
theorem bU {i:Nat} {it:X} {body:S} {ys:List PV} {σ₁:ab} {o:bz} (hit:evIt C it ρ σ=.ok (ys,none) σ₁) (h:aZ none (bq i) (fun ρ σ=>ex C n body ρ σ) ys ρ σ₁=o) (hh:C.hd=false:=by first | rfl | assumption):ex C n (.for1 i it body) ρ σ=o:=by
  show (bif C.hd then bz.stuck else (evIt C it ρ σ).toS ρ _)=_
  rw [hh,hit]; exact h
end
theorem ac3 {P:j0} {d f:Nat} {vs:List PV} {fn:Fn} (hf:P.fns[f]?=some fn) (hl:vs.length=fn.params) :
    aK P n (d + 1) f vs σ=aM (ex (i7 P n 0 d) n fn.body (vs.map some++List.replicate (fn.slots - fn.params) none) σ):=by
  show (match P.fns[f]? with
    | some fn=>if vs.length=fn.params then
        match ex (i7 P n 0 d) n fn.body (vs.map some++List.replicate (fn.slots - fn.params) none) σ with
        | .next _ σ=>ae.ok PV.none σ
        | .ret v _ σ=>.ok v σ
        | .exc i _ σ=>.exc i σ
        | _=>.stuck
      else .stuck
    | none=>.stuck)=_
  rw [hf]
  dsimp only
  rw [if_pos hl]
  cases ex (i7 P n 0 d) n fn.body (vs.map some++List.replicate (fn.slots - fn.params) none) σ <;> rfl
end
end Mine
namespace Mine
open PySem
end Mine
namespace Mine
open PySem
noncomputable def CC (d:Nat):bc:=i7 PP topN 0 d
theorem ba {d f:Nat} {vs:List PV} {σ:ab} {fn:Fn} (hf:PP.fns[f]?=some fn) (hl:vs.length=fn.params) :
    aK PP topN (d + 1) f vs σ=aM (ex (CC d) topN fn.body (vs.map some++List.replicate (fn.slots - fn.params) none) σ):=ac3 hf hl
noncomputable def bO:List Nat:=("abcdefghijklmnopqrstuvwxyz" : Str).cps.toList
noncomputable def qo:List Nat:=("0123456789" : Str).cps.toList
structure dX (s:Str):Prop where
  pos:1 <= s.length
  len:s.length <= 8
  fst:∀ c,s.cps.toList[0]?=some c->c ∈ bO
  all:∀ c ∈ s.cps.toList,c ∈ bO\/c ∈ qo
noncomputable def mq (c:Nat):Bool:=bO.contains c || qo.contains c
noncomputable def dL (s:Str):Bool:=decide (1 <= s.length) && decide (s.length <= 8) && (s.cps.toList.take 1).all (fun c=>bO.contains c) && s.cps.toList.all mq
theorem qg {s:Str} (h:dL s=true):dX s:=by
  simp only [dL,mq,Bool.and_eq_true,decide_eq_true_eq,List.all_eq_true,Bool.or_eq_true,List.contains_iff_mem] at h
  refine ⟨h.1.1.1,h.1.1.2,fun c hc=>?_,h.2⟩
  refine h.1.2 c ?_
  cases hq:s.cps.toList with
  | nil=>rw [hq] at hc; cases hc
  | cons x r=>rw [hq] at hc; simp at hc; subst hc; simp
theorem we {s:Str} (h:dX s):dL s=true:=by
  simp only [dL,mq,Bool.and_eq_true,decide_eq_true_eq,List.all_eq_true,Bool.or_eq_true,List.contains_iff_mem]
  refine ⟨⟨⟨h.pos,h.len⟩,fun c hc=>h.fst c ?_⟩,h.all⟩
  cases hq:s.cps.toList with
  | nil=>rw [hq] at hc; simp at hc
  | cons x r=>rw [hq] at hc; simp at hc; simp [hc]
section
variable {d:Nat} {σ:ab}
theorem h0 {i:Int}:aK PP topN (d + 1) gH [.int i] σ=.ok (.bool (decide (0 <= i) && decide (i <= 999999))) σ:=by
  rw [ba (fn:=jj) rfl rfl]
  have:ex (CC d) topN jj.body [some (.int i),none,none,none,none] σ=.ret (.bool (decide (0 <= i) && decide (i <= 999999))) [some (.int i),none,none,none,none] σ:=
    ak (av (kI (jw (σ₁:=σ) rfl (jw (σ₁:=σ) rfl (io (lb rfl rfl rfl))))))
  show aM (ex (CC d) topN jj.body [some (.int i),none,none,none,none] σ)=_
  rw [this]; rfl
theorem aaM {c:Nat} {y:Str}:bp .notin (.str ⟨#[c]⟩) (.str y) σ=.ok (!(y.cps.toList.contains c)) σ:=rfl
theorem afQ {α:Type} {xs:List α} {g:α->Bool}:cC .all (.fl (xs.map fun x=>.bool (g x))) σ=.ok (.bool (xs.all g)) σ:=by
  have e:∀ xs:List α,dl (xs.map fun x=>.bool (g x))=some (xs.map g):=by
    intro xs
    induction xs with
    | nil=>rfl
    | cons x xs ih =>
      show (dl (xs.map fun x=>.bool (g x))).map (g x::·)=_
      rw [ih]; rfl
  refine (jf (σ:=σ) (a:=.fl _) (l:=xs.map g) (g:=dl) (e xs)).trans ?_
  rw [List.all_map]; rfl
theorem qO {C:bc} {ρ:au} {α:Type} {t:Nat} {cap:List (Option Nat)} {elt it:X} {xs:List α} {w:α->PV} {g:α->Bool} (hit:evIt C it ρ σ=.ok (xs.map w,none) σ) (hl:xs.length <= ao)
    (h:∀ x ∈ xs,ev C elt ((aY cap ρ).set t (some (w x))) σ=.ok (.bool (g x)) σ) (hh:C.hd=false:=by first | rfl | assumption):ev C (.b1 .all (.comp true t cap elt (.k (.bool true)) it)) ρ σ=.ok (.bool (xs.all g)) σ:=by
  refine dk (x:=.fl (xs.map fun x=>.bool (g x))) (σ₁:=σ) ?_ afQ hh
  rw [jt,hh,hit]
  show d4 xs.length (bG none (fun x σ=>((ae.ok true σ).bind fun b σ=>if b=true then (ev C elt ((aY cap ρ).set t (some x)) σ).bind fun v σ=>.ok (some v) σ else .ok none σ)) (xs.map w) σ) _=_
  have e:∀ ys:List α,(∀ x ∈ ys,ev C elt ((aY cap ρ).set t (some (w x))) σ=.ok (.bool (g x)) σ)->bG none (fun x σ=>((ae.ok true σ).bind fun b σ=>if b=true then (ev C elt ((aY cap ρ).set t (some x)) σ).bind fun v σ=>.ok (some v) σ else .ok none σ)) (ys.map w) σ=.ok (ys.map fun x=>.bool (g x)) σ:=by
    intro ys
    induction ys with
    | nil=>intro _; exact if_pos trivial
    | cons y ys ih =>
      intro hy
      refine (if_pos trivial).trans ?_
      dsimp only
      rw [az,if_pos rfl,hy y List.mem_cons_self,az,az]
      rw [ih fun x hx=>hy x (List.mem_cons_of_mem _ hx)]
      rfl
  rw [e xs h]
  exact rC (by simpa using hl)
theorem h1 {s:Str} (hlen:s.length <= ao):aK PP topN (d + 1) ke [.str s] σ=.ok (.bool (dL s)) σ:=by
  rw [ba (fn:=uu) rfl rfl]
  show aM (ex (CC d) topN (.cons gT (.cons jV .nil)) [some (.str s),none,none,none,none,none,none] σ)=_
  have hsz:s.length=s.cps.toList.length:=by simp [Str.length]
  have e0:tst (CC d) (.or (.cons (.not (.isinst (.v 0) .str)) (.cons (.not (.cmp2 (.k (.int 1)) .le (.b1 .len (.v 0)) .le (.k (.int 8)))) (.cons (.cmp (.sub (.v 0) (.k (.int 0))) .notin (.k (.str "abcdefghijklmnopqrstuvwxyz"))) .nil)))) [some (.str s),none,none,none,none,none,none] σ =
      .ok (!(decide (1 <= s.length) && decide (s.length <= 8)) || !(s.cps.toList.take 1).all (fun c=>bO.contains c)) σ:=by
    refine jx (eu (σ₁:=σ) rfl (vL ((dm (pE rfl (dk rfl (len_str hlen)) rfl)).trans ?_) fun hq=>gz ?_))
    · rw [show decide ((1:Int) <= (s.length:Int))=decide (1 <= s.length) from decide_eq_decide.mpr (by omega),show decide ((s.length:Int) <= 8)=decide (s.length <= 8) from decide_eq_decide.mpr (by omega)]
    · simp only [Bool.not_eq_false',Bool.and_eq_true,decide_eq_true_eq] at hq
      cases hx:s.cps.toList with
      | nil=>rw [hsz,hx] at hq; simp at hq
      | cons c r =>
        refine (bC (bu rfl rfl (yi (c:=c) (i:=0) hlen (by omega) (by rw [hx]; rfl))) rfl aaM).trans ?_
        show ae.ok (!bO.contains c) σ=_
        simp
  have e1:ex (CC d) topN jV [some (.str s),none,none,none,none,none,none] σ=.ret (.bool (s.cps.toList.all mq)) [some (.str s),none,none,none,none,none,none] σ:=by
    refine av (qO (xs:=s.cps.toList) (w:=fun c=>.str ⟨#[c]⟩) (g:=mq) rfl (by rw [<- hsz]; exact hlen) fun c hc=>?_)
    rw [agu,kH]
    show (if bO.contains c=true then ae.ok (PV.bool (bO.contains c)) σ else _)=_
    unfold mq
    cases q:bO.contains c with
    | true=>rfl
    | false=>rfl
  cases hq:(!(decide (1 <= s.length) && decide (s.length <= 8)) || !(s.cps.toList.take 1).all (fun c=>bO.contains c)) with
  | true =>
    rw [hq] at e0
    rw [ak (a:=gT) ((aR e0).trans (ak (av rfl)))]
    have:dL s=false:=by
      unfold dL
      revert hq
      cases (decide (1 <= s.length) && decide (s.length <= 8)) <;> cases ((s.cps.toList.take 1).all fun c=>bO.contains c) <;> simp
    rw [this]; rfl
  | false =>
    rw [hq] at e0
    rw [aa (a:=gT) ((aw e0).trans ah),ak e1]
    have:dL s=s.cps.toList.all mq:=by
      unfold dL
      revert hq
      cases (decide (1 <= s.length) && decide (s.length <= 8)) <;> cases ((s.cps.toList.take 1).all fun c=>bO.contains c) <;> simp
    rw [this]; rfl
end
end Mine
namespace Mine
open PySem
noncomputable def iO (l:List Str) (m:Nat):Bool:=(decide (1 <= l.length) && decide (l.length <= m)) && l.all dL
section
variable {d:Nat} {σ:ab}
theorem sh {a b:Nat}:decide ((a:Int) <= (b:Int))=decide (a <= b):=decide_eq_decide.mpr (by omega)
theorem h2 {l:List Str} {m:Nat} (h:∀ n ∈ l,n.length <= ao) (hl:l.length <= ao):aK PP topN (d + 2) cb [.tup (l.map .str),.int m] σ=.ok (.bool (iO l m)) σ:=by
  have hlim:(l.map PV.str).length <= ao:=by rw [List.length_map]; exact hl
  rw [ba (fn:=iG) rfl rfl]
  have:ex (CC (d + 1)) topN iG.body [some (.tup (l.map .str)),some (.int m),none,none,none,none] σ=.ret (.bool (iO l m)) [some (.tup (l.map .str)),some (.int m),none,none,none,none] σ:=by
    refine ak (av (kI (jw (w8 rfl rfl) (pr ?_ fun _=>io ?_))))
    · refine (lb (i:=((1:Nat):Int)) (k:=(m:Int)) rfl (dk rfl (sP hlim)) rfl).trans ?_
      rw [List.length_map,sh,sh]
    · exact qO (xs:=l) (w:=.str) (g:=dL) rfl hl fun n hn=>bm rfl (h1 (h n hn))
  show aM (ex (CC (d + 1)) topN iG.body [some (.tup (l.map .str)),some (.int m),none,none,none,none] σ)=_
  rw [this]; rfl
theorem pW:∀ l:List Str,c8 (l.map .str)=some l
  | []=>rfl
  | x::l=>by
    show (c8 (l.map .str)).map (x::·)=_
    rw [pW l]; rfl
theorem qI:∀ (l a:List Str),a.Nodup->(l.foldl (fun a x=>if a.any (· == x) then a else a++[x]) a).length <= a.length + l.length ∧
    ((l.foldl (fun a x=>if a.any (· == x) then a else a++[x]) a).length=a.length + l.length ↔ (a++l).Nodup)
  | [],a,h=>by simpa using h
  | x::l,a,h=>by
    rw [List.foldl_cons]
    cases hx:a.any (· == x) with
    | true =>
      rw [if_pos rfl]
      obtain ⟨h1,h2⟩:=qI l a h
      rw [List.length_cons]
      refine ⟨by omega,⟨fun q=>absurd q (by omega),fun q=>?_⟩⟩
      obtain ⟨y,hy,e⟩:=List.any_eq_true.mp hx
      have e:y=x:=by simpa using e
      subst e
      rw [List.nodup_append] at q
      exact absurd rfl (q.2.2 y hy y (by simp))
    | false =>
      rw [if_neg (by simp)]
      have hn:(a++[x]).Nodup:=by
        rw [List.nodup_append]
        refine ⟨h,by simp,fun y hy z hz e=>?_⟩
        rw [List.mem_singleton] at hz
        subst hz; subst e
        rw [List.any_eq_false] at hx
        exact hx y hy (by simp)
      obtain ⟨h1,h2⟩:=qI l (a++[x]) hn
      rw [List.length_append,List.length_singleton] at h1 h2
      rw [List.length_cons]
      refine ⟨by omega,?_⟩
      rw [List.append_assoc,List.singleton_append] at h2
      rw [<- h2]
      omega
theorem abA {l:List Str}:(bV l).length=l.length ↔ l.Nodup:=by
  have:=(qI l [] (by simp)).2
  rw [List.length_nil,Nat.zero_add,List.nil_append] at this
  exact this
noncomputable def cL (l:List Str):Bool:=(bV l).length == l.length
theorem pD {l:List Str}:cL l=true ↔ l.Nodup:=by
  unfold cL; rw [beq_iff_eq]; exact abA
theorem aa5 {v:PV} {l:List Str} (hv:a8 σ v=some (l.map .str)) (hl:l.length <= 1000):cC .lenset v σ=.ok (.int (bV l).length) σ:=by
  have e:cC .lenset v σ=match (a8 σ v).bind c8 with
    | some l=>if l.length <= 1000 then .ok (.int (bV l).length) σ else .stuck
    | none=>.stuck:=by cases v <;> rfl
  rw [e,hv]
  show (match c8 (l.map .str) with
    | some l=>if l.length <= 1000 then ae.ok (PV.int (bV l).length) σ else .stuck
    | none=>.stuck)=_
  rw [pW]
  dsimp only
  rw [if_pos hl]
theorem ael {v:PV} {xs:List PV} (hv:a8 σ v=some xs) (hn:∀ s,v ≠ .str s) (hl:xs.length <= ao):cC .len v σ=.ok (.int xs.length) σ:=by
  have e:cC .len v σ=j9 (fun xs=>if xs.length <= ao then .ok (.int xs.length) σ else .stuck) v σ:=by cases v <;> first | rfl | exact absurd rfl (hn _)
  rw [e,mv hv,if_pos hl]
theorem h3 {v:PV} {l:List Str} (hv:a8 σ v=some (l.map .str)) (hn:∀ s,v ≠ .str s) (hl:l.length <= 1000):aK PP topN (d + 1) cT [v] σ=.ok (.bool (cL l)) σ:=by
  rw [ba (fn:=gU) rfl rfl]
  have:ex (CC d) topN gU.body [some v,none,none] σ=.ret (.bool (cL l)) [some v,none,none] σ:=by
    refine ak (av ?_)
    refine gZ (q:=cL l) (dk rfl (aa5 hv hl)) (dk rfl (ael hv hn (by rw [List.length_map]; exact Nat.le_trans hl (by decide)))) ?_
    rw [eI,List.length_map]
    unfold cL
    congr 1
    rw [Bool.eq_iff_iff]; simp only [beq_iff_eq]; omega
  show aM (ex (CC d) topN gU.body [some v,none,none] σ)=_
  rw [this]; rfl
inductive cV where
  | word (w:Str)
  | fixed (v:Int)
noncomputable def cV.pv:cV->PV
  | .word w=>.tup [.str w]
  | .fixed v=>.tup [.str "fixed",.int v]
inductive bW:cV->Nat->Nat->Prop where
  | sum (n g:Nat):bW (.word "sum") n g
  | times (n g:Nat):bW (.word "times") n g
  | least (n g:Nat):bW (.word "least") n g
  | most (n g:Nat):bW (.word "most") n g
  | later (g:Nat):bW (.word "later") 1 g
  | way:bW (.word "way") 2 2
  | choose (g:Nat):bW (.word "choose") 3 g
  | fixed (v:Int) (n g:Nat):0 <= v->v <= 999999->bW (.fixed v) n g
noncomputable def je:cV->Nat->Nat->Bool
  | .fixed v,_,_=>decide (0 <= v) && decide (v <= 999999)
  | .word w,n,g=>if w == ("fixed" : Str) then false else if w == ("later" : Str) then n == 1 else if w == ("way" : Str) then (n == 2 && g == 2) else if w == ("choose" : Str) then n == 3 else
      [("sum" : Str), "times", "least", "most"].any fun y=>y == w
theorem acb {r:cV} {n g:Nat} (h:je r n g=true):bW r n g:=by
  cases r with
  | fixed v =>
    simp only [je,Bool.and_eq_true,decide_eq_true_eq] at h
    exact .fixed v n g h.1 h.2
  | word w =>
    simp only [je] at h
    split at h
    · cases h
    · split at h
      · rename_i q; rw [beq_iff_eq] at q h; subst q; subst h; exact .later g
      · split at h
        · rename_i q; rw [Bool.and_eq_true] at h; rw [beq_iff_eq] at q h; obtain ⟨h1,h2⟩:=h; rw [beq_iff_eq] at h2; subst q; subst h1; subst h2; exact .way
        · split at h
          · rename_i q; rw [beq_iff_eq] at q h; subst q; subst h; exact .choose g
          · simp only [List.any_cons,List.any_nil,Bool.or_false,Bool.or_eq_true,beq_iff_eq] at h
            rcases h with q | q | q | q
            · rw [<- q]; exact .sum n g
            · rw [<- q]; exact .times n g
            · rw [<- q]; exact .least n g
            · rw [<- q]; exact .most n g
theorem acd {r:cV} {n g:Nat} (h:bW r n g):je r n g=true:=by
  cases h with
  | fixed v n g q1 q2=>simp [je,q1,q2]
  | _=>rfl
theorem py {n k:Nat}:((n:Int) == ((k:Nat):Int))=(n == k):=by
  rw [Bool.eq_iff_iff]; simp only [beq_iff_eq]; omega
theorem aaY {w:Str}:bp .isin (.str w) (.tup [.str "sum",.str "times",.str "least",.str "most"]) σ=.ok ([("sum" : Str), "times", "least", "most"].any fun y=>y == w) σ:=rfl
theorem h4 {r:cV} {n g:Nat}:aK PP topN (d + 2) t5 [r.pv,.int n,.int g] σ=.ok (.bool (je r n g)) σ:=by
  rw [ba (fn:=kq) rfl rfl]
  cases r with
  | fixed v =>
    have:ex (CC (d + 1)) topN kq.body [some (.tup [.str "fixed",.int v]),some (.int n),some (.int g),none,none,none,none,none,none] σ=.ret (.bool (je (.fixed v) n g)) [some (.tup [.str "fixed",.int v]),some (.int n),some (.int g),none,none,none,none,none,none] σ:=by
      refine (aa (a:=gR) (ρ':=[some (.tup [.str "fixed",.int v]),some (.int n),some (.int g),none,none,none,none,none,none]) (σ':=σ) rfl).trans (ak (a:=eG) ?_)
      refine (aR (σ':=σ) rfl).trans (ak (av ?_))
      exact kI (jw rfl (io (bm rfl h0)))
    show aM (ex (CC (d + 1)) topN kq.body [some (.tup [.str "fixed",.int v]),some (.int n),some (.int g),none,none,none,none,none,none] σ)=_
    rw [this]; rfl
  | word w =>
    show aM (ex (CC (d + 1)) topN (.cons gR (.cons eG (.cons jR (.cons gQ (.cons gP (.cons gO (.cons jQ .nil))))))) [some (.tup [.str w]),some (.int n),some (.int g),none,none,none,none,none,none] σ)=_
    have ts:∀ k:Str,tst (CC (d + 1)) (.cmp (.sub (.v 0) (.k (.int 0))) .eq (.k (.str k))) [some (.tup [.str w]),some (.int n),some (.int g),none,none,none,none,none,none] σ=.ok (w == k) σ:=fun k=>rfl
    rw [aa (a:=gR) (ρ':=[some (.tup [.str w]),some (.int n),some (.int g),none,none,none,none,none,none]) (σ':=σ) rfl]
    simp only [je]
    cases h1:w == ("fixed" : Str) with
    | true =>
      rw [ak (a:=eG) ((aR (σ':=σ) (by rw [ts,h1])).trans (ak (av (kI (v:=.ok (.bool false) σ) rfl))))]; rfl
    | false =>
      rw [aa (a:=eG) ((aw (σ':=σ) (by rw [ts,h1])).trans ah)]
      rw [aa (a:=jR) (ρ':=[some (.tup [.str w]),some (.int n),some (.int g),none,none,none,none,none,none]) (σ':=σ) rfl]
      cases h2:w == ("later" : Str) with
      | true =>
        rw [ak (a:=gQ) ((aR (σ':=σ) (by rw [ts,h2])).trans (ak (av (gZ (x:=.int n) (y:=.int ((1:Nat):Int)) (σ₁:=σ) (σ₂:=σ) rfl rfl (eI.trans (by rw [py]))))))]; rfl
      | false =>
        rw [aa (a:=gQ) ((aw (σ':=σ) (by rw [ts,h2])).trans ah)]
        cases h3:w == ("way" : Str) with
        | true =>
          rw [ak (a:=gP) ((aR (σ':=σ) (by rw [ts,h3])).trans (ak (av (kI (pr (q:=n == 2) (p:=g == 2) (gZ (x:=.int n) (y:=.int ((2:Nat):Int)) (σ₁:=σ) (σ₂:=σ) rfl rfl (eI.trans (by rw [py]))) fun _=>io (gZ (x:=.int g) (y:=.int ((2:Nat):Int)) (σ₁:=σ) (σ₂:=σ) rfl rfl (eI.trans (by rw [py]))))))))]; rfl
        | false =>
          rw [aa (a:=gP) ((aw (σ':=σ) (by rw [ts,h3])).trans ah)]
          cases h4:w == ("choose" : Str) with
          | true =>
            rw [ak (a:=gO) ((aR (σ':=σ) (by rw [ts,h4])).trans (ak (av (gZ (x:=.int n) (y:=.int ((3:Nat):Int)) (σ₁:=σ) (σ₂:=σ) rfl rfl (eI.trans (by rw [py]))))))]; rfl
          | false =>
            rw [aa (a:=gO) ((aw (σ':=σ) (by rw [ts,h4])).trans ah)]
            rw [ak (a:=jQ) (av (gZ (x:=.str w) (y:=.tup [.str "sum",.str "times",.str "least",.str "most"]) (σ₁:=σ) (σ₂:=σ) rfl rfl aaY))]; rfl
end
end Mine
namespace Mine
open PySem
structure ai where
  name:Str
  rule:cV
  needs:List Str
  gives:List Str
noncomputable def ai.pv (s:ai):PV:=.tup [.str s.name,s.rule.pv,.tup (s.needs.map .str),.tup (s.gives.map .str)]
structure fH (s:ai):Prop where
  name:dX s.name
  needs:∀ n ∈ s.needs,dX n
  needs1:1 <= s.needs.length
  needs4:s.needs.length <= 4
  gives:∀ n ∈ s.gives,dX n
  gives1:1 <= s.gives.length
  gives3:s.gives.length <= 3
  unlike:s.gives.Nodup
  rule:bW s.rule s.needs.length s.gives.length
structure bZ (p:List ai):Prop where
  pos:1 <= p.length
  most:p.length <= 20
  steps:∀ s ∈ p,fH s
  names:(p.map (·.name)).Nodup
  gives:(p.flatMap (·.gives)).Nodup
noncomputable def a5 (p:List ai):PV:=.tup (p.map ai.pv)
noncomputable def j6 (s:ai):Bool:=dL s.name && (iO s.needs 4 && (iO s.gives 3 && (cL s.gives && je s.rule s.needs.length s.gives.length)))
noncomputable def rq (p:List ai):Bool:=(decide (1 <= p.length) && decide (p.length <= 20)) && (p.all j6 && (cL (p.map (·.name)) && cL (p.flatMap (·.gives))))
theorem rz {l:List Str} {m:Nat}:iO l m=true ↔ (∀ n ∈ l,dX n)/\1 <= l.length/\l.length <= m:=by
  simp only [iO,Bool.and_eq_true,decide_eq_true_eq,List.all_eq_true]
  exact ⟨fun h=>⟨fun n hn=>qg (h.2 n hn),h.1⟩,fun h=>⟨h.2,fun n hn=>we (h.1 n hn)⟩⟩
theorem tL {s:ai}:j6 s=true ↔ fH s:=by
  simp only [j6,Bool.and_eq_true,rz,pD]
  constructor
  · rintro ⟨a,b,c,e,f⟩
    exact ⟨qg a,b.1,b.2.1,b.2.2,c.1,c.2.1,c.2.2,e,acb f⟩
  · intro h
    exact ⟨we h.name,⟨h.needs,h.needs1,h.needs4⟩,⟨h.gives,h.gives1,h.gives3⟩,h.unlike,acd h.rule⟩
theorem aaJ {p:List ai}:rq p=true ↔ bZ p:=by
  simp only [rq,Bool.and_eq_true,pD,decide_eq_true_eq,List.all_eq_true,tL]
  constructor
  · rintro ⟨⟨a,b⟩,c,e,f⟩
    exact ⟨a,b,c,e,f⟩
  · intro h
    exact ⟨⟨h.pos,h.most⟩,h.steps,h.names,h.gives⟩
structure zZ (s:ai):Prop where
  name:s.name.length <= ao
  needs:∀ n ∈ s.needs,n.length <= ao
  needsl:s.needs.length <= ao
  gives:∀ n ∈ s.gives,n.length <= ao
  givesl:s.gives.length <= ao
section
variable {d:Nat} {σ:ab}
theorem acA {xs:List Str} (h:xs.length <= ao):cC .len (.tup (xs.map .str)) σ=.ok (.int xs.length) σ:=by
  rw [sP (by rw [List.length_map]; exact h),List.length_map]
theorem aeM {a b:Bool}:(!a || !b)=!(a && b):=by cases a <;> cases b <;> rfl
theorem h5 {s:ai} (h:zZ s):aK PP topN (d + 3) tZ [s.pv] σ=.ok (.bool (j6 s)) σ:=by
  rw [ba (fn:=ur) rfl rfl]
  show aM (ex (CC (d + 2)) topN (.cons gN (.cons dC (.cons jP .nil))) [some s.pv,none,none,none,none,none,none,none,none,none] σ)=_
  have e0:tst (CC (d + 2)) (.or (.cons (.not (.isinst (.v 0) .tuple)) (.cons (.cmp (.b1 .len (.v 0)) .ne (.k (.int 4))) (.cons (.not (.call ke (.cons (.sub (.v 0) (.k (.int 0))) .nil))) .nil)))) [some s.pv,none,none,none,none,none,none,none,none,none] σ=.ok (!dL s.name) σ:=
    jx (eu (σ₁:=σ) rfl (eu (σ₁:=σ) rfl (gz (dm (dR (bm (x:=.str s.name) (σ₁:=σ) rfl (h1 h.name)))))))
  unfold j6
  cases q0:dL s.name with
  | false =>
    rw [q0] at e0
    rw [ak (a:=gN) ((aR e0).trans (ak (av rfl)))]; rfl
  | true =>
    rw [q0] at e0
    rw [aa (a:=gN) ((aw e0).trans ah)]
    cases q1:iO s.needs 4 with
    | false =>
      have e1:tst (CC (d + 2)) (.or (.cons (.not (.call cb (.cons (.sub (.v 0) (.k (.int 2))) (.cons (.k (.int 4)) .nil)))) (.cons (.not (.call cb (.cons (.sub (.v 0) (.k (.int 3))) (.cons (.k (.int 3)) .nil)))) (.cons (.not (.call cT (.cons (.sub (.v 0) (.k (.int 3))) .nil))) .nil)))) [some s.pv,none,none,none,none,none,none,none,none,none] σ=.ok true σ:=
        jx (aaj (dm (q:=false) (dR (cw (x:=.tup (s.needs.map .str)) (y:=.int ((4:Nat):Int)) (σ₁:=σ) (σ₂:=σ) rfl rfl ((h2 h.needs h.needsl).trans (by rw [q1]))))))
      rw [ak (a:=dC) ((aR e1).trans (ak (av rfl)))]; rfl
    | true =>
      cases q2:iO s.gives 3 with
      | false =>
        have e1:tst (CC (d + 2)) (.or (.cons (.not (.call cb (.cons (.sub (.v 0) (.k (.int 2))) (.cons (.k (.int 4)) .nil)))) (.cons (.not (.call cb (.cons (.sub (.v 0) (.k (.int 3))) (.cons (.k (.int 3)) .nil)))) (.cons (.not (.call cT (.cons (.sub (.v 0) (.k (.int 3))) .nil))) .nil)))) [some s.pv,none,none,none,none,none,none,none,none,none] σ=.ok true σ:=
          jx (eu (dm (q:=true) (dR (cw (x:=.tup (s.needs.map .str)) (y:=.int ((4:Nat):Int)) (σ₁:=σ) (σ₂:=σ) rfl rfl ((h2 h.needs h.needsl).trans (by rw [q1]))))) (aaj (dm (q:=false) (dR (cw (x:=.tup (s.gives.map .str)) (y:=.int ((3:Nat):Int)) (σ₁:=σ) (σ₂:=σ) rfl rfl ((h2 h.gives h.givesl).trans (by rw [q2])))))))
        rw [ak (a:=dC) ((aR e1).trans (ak (av rfl)))]; rfl
      | true =>
        have g3:=(rz.mp q2).2.2
        have e1:tst (CC (d + 2)) (.or (.cons (.not (.call cb (.cons (.sub (.v 0) (.k (.int 2))) (.cons (.k (.int 4)) .nil)))) (.cons (.not (.call cb (.cons (.sub (.v 0) (.k (.int 3))) (.cons (.k (.int 3)) .nil)))) (.cons (.not (.call cT (.cons (.sub (.v 0) (.k (.int 3))) .nil))) .nil)))) [some s.pv,none,none,none,none,none,none,none,none,none] σ=.ok (!cL s.gives) σ:=
          jx (eu (dm (q:=true) (dR (cw (x:=.tup (s.needs.map .str)) (y:=.int ((4:Nat):Int)) (σ₁:=σ) (σ₂:=σ) rfl rfl ((h2 h.needs h.needsl).trans (by rw [q1]))))) (eu (dm (q:=true) (dR (cw (x:=.tup (s.gives.map .str)) (y:=.int ((3:Nat):Int)) (σ₁:=σ) (σ₂:=σ) rfl rfl ((h2 h.gives h.givesl).trans (by rw [q2])))))
            (gz (dm (dR (bm (x:=.tup (s.gives.map .str)) (σ₁:=σ) rfl (h3 rfl (fun _ q=>by cases q) (Nat.le_trans g3 (by decide)))))))))
        cases q3:cL s.gives with
        | false =>
          rw [q3] at e1
          rw [ak (a:=dC) ((aR e1).trans (ak (av rfl)))]; rfl
        | true =>
          rw [q3] at e1
          rw [aa (a:=dC) ((aw e1).trans ah)]
          rw [ak (a:=jP) (av (ju (x:=s.rule.pv) (σ₁:=σ) rfl (dk (x:=.tup (s.needs.map .str)) (σ₁:=σ) rfl (acA h.needsl)) (dk (x:=.tup (s.gives.map .str)) (σ₁:=σ) rfl (acA h.givesl)) h4))]
          rfl
theorem rS {pl:PV} {σ₀:ab} {d:Nat}:∀ (p:List ai) (y:Option PV) (acc:List Str),acc.length + 3 * p.length <= 1000->(∀ s ∈ p,s.gives.length <= 3) ->
    ∃ y',aZ none (bq 1) (fun ρ σ=>ex (CC d) topN nb ρ σ) (p.map ai.pv) [some pl,y,some (.ref σ₀.length),none,none,none,none,none,none] (σ₀++[.lst (acc.map .str)]) =
      .next [some pl,y',some (.ref σ₀.length),none,none,none,none,none,none] (σ₀++[.lst ((acc++p.flatMap (·.gives)).map .str)])
  | [],y,acc,_,_=>⟨y,by simpa using bJ⟩
  | s::p,y,acc,h,hs=>by
    have hg:=hs s (by simp)
    obtain ⟨y',ih⟩:=rS (pl:=pl) (σ₀:=σ₀) (d:=d) p (some s.pv) (acc++s.gives) (by rw [List.length_append]; rw [List.length_cons] at h; omega) fun t ht=>hs t (List.mem_cons_of_mem _ ht)
    refine ⟨y',(bg (ρ₁:=[some pl,some s.pv,some (.ref σ₀.length),none,none,none,none,none,none]) (ρ₂:=[some pl,some s.pv,some (.ref σ₀.length),none,none,none,none,none,none]) (σ₂:=σ₀++[.lst ((acc++s.gives).map .str)]) rfl ?_).trans (ih.trans (by simp [List.flatMap_cons]))⟩
    have hat:(σ₀++[MO.lst (acc.map .str)])[σ₀.length]?=some (.lst (acc.map .str)):=by simp
    refine (aa (bR (k9 (m:=.extend) (x:=.ref σ₀.length) (σ₁:=σ₀++[.lst (acc.map .str)]) (σ₂:=σ₀++[.lst (acc.map .str)]) rfl ?_ (y:=.tup (s.gives.map .str)) rfl ?_))).trans ah
    · show jg (.ref σ₀.length) _=true
      unfold jg; dsimp only; rw [hat]
    · show eY (.ref σ₀.length) (.tup (s.gives.map .str)) _=_
      unfold eY; dsimp only; rw [hat]; dsimp only
      rw [if_pos (by rw [List.length_map,List.length_map,aI]; omega)]
      simp
theorem yA:∀ (q:List ai),(∀ s ∈ q,s.gives.length <= 3)->(q.flatMap (·.gives)).length <= 3 * q.length
  | [],_=>by simp
  | s::q,hs=>by
    have h1:=yA q fun t ht=>hs t (List.mem_cons_of_mem _ ht)
    have h2:=hs s (by simp)
    rw [List.flatMap_cons,List.length_append,List.length_cons]; omega
theorem h6x {p:List ai} (h:∀ s ∈ p,zZ s) (hl:p.length <= ao):∃ τ,aK PP topN (d + 4) gf [a5 p] σ=.ok (.bool (rq p)) (σ++τ):=by
  have hlim:(p.map ai.pv).length <= ao:=by rw [List.length_map]; exact hl
  have hlen:∀ {σ:ab},cC .len (a5 p) σ=.ok (.int p.length) σ:=fun {σ}=>by
    show cC .len (.tup (p.map ai.pv)) σ=_
    rw [sP hlim,List.length_map]
  rw [ba (fn:=ut) rfl rfl]
  show ∃ τ,aM (ex (CC (d + 3)) topN (.cons gS (.cons jU (.cons jT (.cons jS .nil)))) [some (a5 p),none,none,none,none,none,none,none,none] σ)=_
  have e0:tst (CC (d + 3)) (.or (.cons (.not (.isinst (.v 0) .tuple)) (.cons (.not (.cmp2 (.k (.int 1)) .le (.b1 .len (.v 0)) .le (.k (.int 20)))) (.cons (.not (.b1 .all oM)) .nil)))) [some (a5 p),none,none,none,none,none,none,none,none] σ=.ok (!(decide (1 <= p.length) && decide (p.length <= 20)) || !p.all j6) σ:=by
    refine jx (eu (σ₁:=σ) rfl (vL ((dm (pE (i:=((1:Nat):Int)) (k:=((20:Nat):Int)) rfl (dk rfl hlen) rfl)).trans (by rw [sh,sh])) fun _=>gz (dm (agJ (qO (xs:=p) (w:=ai.pv) (g:=j6) rfl hl fun s hs=>?_)))))
    exact bm rfl (h5 (h s hs))
  rw [aeM] at e0
  unfold rq
  rw [<- Bool.and_assoc]
  cases q0:((decide (1 <= p.length) && decide (p.length <= 20)) && p.all j6) with
  | false =>
    rw [q0] at e0
    exact ⟨[],by rw [ak (a:=gS) ((aR e0).trans (ak (av rfl))),List.append_nil]; rfl⟩
  | true =>
    rw [q0] at e0
    simp only [Bool.and_eq_true,decide_eq_true_eq,List.all_eq_true,tL] at q0
    obtain ⟨⟨p1,p20⟩,hs⟩:=q0
    have e1:ex (CC (d + 3)) topN jU [some (a5 p),none,none,none,none,none,none,none,none] σ=.next [some (a5 p),none,some (.ref σ.length),none,none,none,none,none,none] (σ++[.lst []]):=rfl
    obtain ⟨y',e2⟩:=rS (pl:=a5 p) (σ₀:=σ) (d:=d + 3) p none [] (by simp; omega) fun s hq=>(hs s hq).gives3
    have e2':ex (CC (d + 3)) topN jT [some (a5 p),none,some (.ref σ.length),none,none,none,none,none,none] (σ++[.lst []])=.next [some (a5 p),y',some (.ref σ.length),none,none,none,none,none,none] (σ++[.lst ((p.flatMap (·.gives)).map .str)]):=
      bU (ys:=p.map ai.pv) (σ₁:=σ++[.lst []]) rfl e2
    have hgl:(p.flatMap (·.gives)).length <= 60:=by
      have h1:=yA p fun s hq=>(hs s hq).gives3
      omega
    have e3:ex (CC (d + 3)) topN jS [some (a5 p),y',some (.ref σ.length),none,none,none,none,none,none] (σ++[.lst ((p.flatMap (·.gives)).map .str)])=.ret (.bool (cL (p.map (·.name)) && cL (p.flatMap (·.gives)))) [some (a5 p),y',some (.ref σ.length),none,none,none,none,none,none] (σ++[.lst ((p.flatMap (·.gives)).map .str)]):=by
      have hat:(σ++[MO.lst ((p.flatMap (·.gives)).map .str)])[σ.length]?=some (.lst ((p.flatMap (·.gives)).map .str)):=by simp
      have c1:ev (CC (d + 3)) oK [some (a5 p),y',some (.ref σ.length),none,none,none,none,none,none] (σ++[.lst ((p.flatMap (·.gives)).map .str)])=.ok (.fl ((p.map (·.name)).map .str)) (σ++[.lst ((p.flatMap (·.gives)).map .str)]):=by
        refine (iq (fun x=>match x with | .tup (.str n::_)=>.str n | _=>.none) (xs:=p.map ai.pv) rfl hlim fun x hx=>?_).trans ?_
        · obtain ⟨s,hs,rfl⟩:=List.mem_map.mp hx
          rfl
        · rw [List.map_map,List.map_map]; rfl
      refine av (kI (pr (bm c1 (h3 rfl (fun _ q=>by cases q) (by rw [List.length_map]; exact Nat.le_trans p20 (by decide)))) fun _=>(io (bm rfl (h3 ?_ (fun _ q=>by cases q) (Nat.le_trans hgl (by decide)))))))
      unfold a8; dsimp only; rw [hat]
    refine ⟨[.lst ((p.flatMap (·.gives)).map .str)],?_⟩
    rw [aa (a:=gS) ((aw e0).trans ah),aa e1,aa e2',ak e3]; rfl
theorem h6 {p:List ai} (h:∀ s ∈ p,zZ s) (hl:p.length <= ao):∃ σ',aK PP topN (d + 4) gf [a5 p] σ=.ok (.bool (rq p)) σ':=let ⟨_,e⟩:=h6x h hl; ⟨_,e⟩
end
section
variable {d:Nat} {σ:ab} {C:bc} {ρ:au}
theorem vY {n:Nat} (h:n <= 100) {a:X} (ha:ev C a ρ σ=.ok (.int n) σ):evIt C (.range1 a) ρ σ=.ok (aq 0 1 n,none) σ:=by
  rw [iH,ha,az]
  show (if 0 <= (n:Int)/\(n:Int) <= ao then ae.ok (aq 0 1 (n:Int).toNat,none) σ else .stuck)=_
  rw [if_pos ⟨by omega,by rw [aI]; omega⟩]; rfl
theorem aaB {n:Nat} {x:PV} (h:x ∈ aq 0 1 n):∃ i:Nat,i < n/\x=.int i:=by
  obtain ⟨i,hi,rfl⟩:=List.mem_map.mp h
  exact ⟨i,List.mem_range.mp hi,by simp⟩
end
end Mine
namespace Mine
open PySem
section
variable {d:Nat} {σ:ab} {C:bc} {ρ:au}
theorem h12 {l:List Int} (hl:l.length <= 63) {k:Nat}:aK PP topN (d + 1) aA [.fl (l.map .int),.int k] σ=.ok (.int (l.getD k 0)) σ:=by
  rw [ba (fn:=dU) rfl rfl]
  have hlim:(l.map PV.int).length <= ao:=by rw [List.length_map]; exact Nat.le_trans hl (by decide)
  have hlen:cC .len (.fl (l.map .int)) σ=.ok (.int l.length) σ:=by rw [aa6 hlim,List.length_map]
  show aM (ex (CC d) topN dU.body [some (.fl (l.map .int)),some (.int k),none] σ)=_
  by_cases h:k < l.length
  · have:ex (CC d) topN dU.body [some (.fl (l.map .int)),some (.int k),none] σ=.ret (.int (l.getD k 0)) [some (.fl (l.map .int)),some (.int k),none] σ:=by
      refine ak ((aR (σ':=σ) (bC (x:=.int k) (σ₁:=σ) rfl (dk (x:=.fl (l.map .int)) (σ₁:=σ) rfl hlen) ?_)).trans (ak (av (bu (x:=.fl (l.map .int)) (y:=.int k) (σ₁:=σ) (σ₂:=σ) rfl rfl (gA hlim (by omega) ?_)))))
      · rw [lt_int,decide_eq_true (by (exact Int.ofNat_lt.mpr (by assumption)))]
      · simp [h]
    rw [this]; rfl
  · have:ex (CC d) topN dU.body [some (.fl (l.map .int)),some (.int k),none] σ=.ret (.int 0) [some (.fl (l.map .int)),some (.int k),none] σ:=by
      refine (aa (ρ':=[some (.fl (l.map .int)),some (.int k),none]) (σ':=σ) ((aw (σ':=σ) (bC (x:=.int k) (σ₁:=σ) rfl (dk (x:=.fl (l.map .int)) (σ₁:=σ) rfl hlen) ?_)).trans ah)).trans (ak (av rfl))
      rw [lt_int,decide_eq_false (by (exact fun q=>(by assumption:¬ _) (Int.ofNat_lt.mp q)))]
    have e:l.getD k 0=0:=by simp [List.getD,Nat.not_lt.mp h]
    rw [this,e]; rfl
noncomputable def nxt (p:Int):Int:=(p * 48271 + 11) % 2147483647 * ((p * 48271 + 11) % 2147483647) % 2147483629
theorem h13 {p:Int}:aK PP topN (d + 1) gG [.int p] σ=.ok (.int (nxt p)) σ:=by
  rw [ba (fn:=ji) rfl rfl]
  have:ex (CC d) topN ji.body [some (.int p),none] σ=.ret (.int (nxt p)) [some (.int p),some (.int ((p * 48271 + 11) % 2147483647))] σ:=by
    refine (aa (ρ':=[some (.int p),some (.int ((p * 48271 + 11) % 2147483647))]) (σ':=σ) (aW (aH (aH (aH (x:=.int p) (y:=.int 48271) (σ₁:=σ) (σ₂:=σ) rfl rfl (mul_int (.inr (by decide)))) (y:=.int 11) (σ₂:=σ) rfl add_int) (y:=.int 2147483647) (σ₂:=σ) rfl (bE (by decide))))).trans (ak (av (aH (aH (x:=.int ((p * 48271 + 11) % 2147483647)) (y:=.int ((p * 48271 + 11) % 2147483647)) (σ₁:=σ) (σ₂:=σ) rfl rfl (mul_int (.inl ?_))) (y:=.int 2147483629) (σ₂:=σ) rfl (bE (by decide)))))
    have h1:=Int.emod_nonneg (p * 48271 + 11) (show (2147483647:Int) ≠ 0 by decide)
    have h2:=Int.emod_lt_of_pos (p * 48271 + 11) (show (0:Int) < 2147483647 by decide)
    obtain ⟨w,hw⟩:=Int.eq_ofNat_of_zero_le h1
    rw [hw] at h2 ⊢
    exact Nat.lt_trans (Int.ofNat_lt.mp h2) (by decide)
  show aM (ex (CC d) topN ji.body [some (.int p),none] σ)=_
  rw [this]; rfl
theorem uc {p a b:Int} (ha:0 < a) (ha2:a < 1073741824) (hb:0 < b) {x:X} (hx:ev C x ρ σ=.ok (.int p) σ):ev C (.bin .mod (.bin .fdiv x (.k (.int a))) (.k (.int b))) ρ σ=.ok (.int (p / a % b)) σ:=
  aH (aH hx (y:=.int a) (σ₂:=σ) rfl (ii ha ha2)) (y:=.int b) (σ₂:=σ) rfl (bE hb)
theorem h15 {p:Int}:∃ v,0 <= v/\v <= 999999/\∀ {d:Nat} {σ:ab},aK PP topN (d + 1) dh [.int p] σ=.ok (.int v) σ:=by
  have m4:∀ {d:Nat} {σ:ab} (c:Int),tst (CC d) (.cmp (.bin .mod (.v 0) (.k (.int 4))) .eq (.k (.int c))) [some (.int p)] σ=.ok (p % 4 == c) σ:=fun {d σ} c =>
    bC (aH (x:=.int p) (y:=.int 4) (σ₁:=σ) (σ₂:=σ) rfl rfl (bE (by decide))) (y:=.int c) (σ₂:=σ) rfl eI
  have n0:=Int.emod_nonneg (p / 4) (show (4:Int) ≠ 0 by decide)
  have n1:=Int.emod_lt_of_pos (p / 4) (show (0:Int) < 4 by decide)
  have fin:∀ {d:Nat} {σ:ab} {v:Int},ex (CC d) topN iD.body [some (.int p)] σ=.ret (.int v) [some (.int p)] σ->aK PP topN (d + 1) dh [.int p] σ=.ok (.int v) σ:=fun {d σ v} h=>by
    rw [ba (fn:=iD) rfl rfl]
    show aM (ex (CC d) topN iD.body [some (.int p)] σ)=_
    rw [h]; rfl
  by_cases h0:p % 4=0
  · have hx:∃ v,0 <= v/\v <= 999999/\([PV.int 0,.int 0,.int 1,.int 999999])[(p / 4 % 4).toNat]?=some (.int v):=by
      refine wm (n:=4) (P:=fun w=>∃ v,0 <= v/\v <= 999999/\([PV.int 0,.int 0,.int 1,.int 999999])[w.toNat]?=some (.int v)) (lc (lc (lc (lc ac9 ?_) ?_) ?_) ?_) n0 n1
      · exact ⟨0,by decide,by decide,rfl⟩
      · exact ⟨0,by decide,by decide,rfl⟩
      · exact ⟨1,by decide,by decide,rfl⟩
      · exact ⟨999999,by decide,by decide,rfl⟩
    obtain ⟨v,v0,v1,hv⟩:=hx
    refine ⟨v,v0,v1,fun {d σ}=>fin (ak ((aR (σ':=σ) ((m4 0).trans (by rw [h0]; rfl))).trans (ak (av (bu (x:=.fl [PV.int 0,.int 0,.int 1,.int 999999]) (σ₁:=σ) rfl (uc (by decide) (by decide) (by decide) rfl) (gA (by decide) n0 hv))))))⟩
  · have k0:∀ {d:Nat} {σ:ab},tst (CC d) (.cmp (.bin .mod (.v 0) (.k (.int 4))) .eq (.k (.int 0))) [some (.int p)] σ=.ok false σ:=fun {d σ}=>(m4 0).trans (by rw [show (p % 4 == 0)=false from beq_eq_false_iff_ne.mpr h0])
    by_cases h1:p % 4=1
    · have a0:=Int.emod_nonneg (p / 4) (show (1000000:Int) ≠ 0 by decide)
      have a1:=Int.emod_lt_of_pos (p / 4) (show (0:Int) < 1000000 by decide)
      refine ⟨p / 4 % 1000000,a0,by omega,fun {d σ}=>fin ((aa (ρ':=[some (.int p)]) (σ':=σ) ((aw (σ':=σ) k0).trans ah)).trans (ak ((aR (σ':=σ) ((m4 1).trans (by rw [h1]; rfl))).trans (ak (av (aH (aH (x:=.int p) (y:=.int 4) (σ₁:=σ) (σ₂:=σ) rfl rfl (ii (by decide) (by decide))) (y:=.int 1000000) (σ₂:=σ) rfl (bE (by decide))))))))⟩
    · have a0:=Int.emod_nonneg (p / 4) (show (5:Int) ≠ 0 by decide)
      have a1:=Int.emod_lt_of_pos (p / 4) (show (0:Int) < 5 by decide)
      refine ⟨p / 4 % 5,a0,by omega,fun {d σ}=>fin ((aa (ρ':=[some (.int p)]) (σ':=σ) ((aw (σ':=σ) k0).trans ah)).trans ((aa (ρ':=[some (.int p)]) (σ':=σ) ((aw (σ':=σ) ((m4 1).trans (by rw [show (p % 4 == 1)=false from beq_eq_false_iff_ne.mpr h1]))).trans ah)).trans (ak (av (uc (by decide) (by decide) (by decide) rfl)))))⟩
end
end Mine
namespace Mine
open PySem
noncomputable def gC:List Str:=["sum", "later", "way", "fixed", "a9", "b", "times", "choose", "least", "most", "z0", "put"]
noncomputable def u8 (b k:Nat):Str:=(gC.getD ((b + k) % 12) "")++(if k / 12=0 then ("" : Str) else "x")
noncomputable def lp (b:Nat):List Str:=(List.range 24).map (u8 b)
noncomputable def ry:List Str->Bool
  | []=>true
  | x::r=>!(r.any (· == x)) && ry r
theorem tT:∀ {l:List Str},ry l=true->l.Nodup
  | [],_=>.nil
  | x::r,h=>by
    simp only [ry,Bool.and_eq_true,Bool.not_eq_true',List.any_eq_false,beq_iff_eq] at h
    exact List.nodup_cons.mpr ⟨fun q=>h.1 x q rfl,tT h.2⟩
noncomputable def rt (s:Str):Bool:=!(s.cps.toList.take 2 == [122,122]) && !(s.cps.toList.take 2 == [121,121])
noncomputable def sy (s:Str):Prop:=rt s=true
theorem wc:∀ b:Nat,b < 12->(lp b).all rt=true:=by decide +kernel
theorem xK:∀ b:Nat,b < 12->(ry (lp b) && (lp b).all dL)=true:=by decide +kernel
theorem adq {n:Nat}:(Txt.mul "m" (n:Int)).cps.toList=List.replicate n 109:=by
  have hm:("m" : Str)=⟨#[109]⟩:=by decide +kernel
  rw [hm]
  unfold Txt.mul
  by_cases h1:(n:Int) < 1
  · have:n=0:=by (grind)
    subst this; rw [if_pos h1]; rfl
  · rw [if_neg h1]
    by_cases h2:n=1
    · subst h2; rfl
    · rw [if_neg (by
        have:((n:Int) == 1)=false:=beq_eq_false_iff_ne.mpr (by (grind))
        rw [this]; decide)]
      have key:∀ (k:Nat) (acc:Array Nat),((List.replicate k (#[109]:Array Nat)).foldl (·++·) acc).toList=acc.toList++List.replicate k 109:=by
        intro k
        induction k with
        | zero=>intro acc; simp
        | succ k ih =>
          intro acc
          rw [List.replicate_succ,List.foldl_cons,ih]
          simp [List.replicate_succ]
      have:=key n #[]
      simpa using this
noncomputable def bK:List Nat:=("abcdefghijklmnopqrstuvwxyz0123456789" : Str).cps.toList
noncomputable def ip (p q N b k:Nat):List Nat:=List.replicate p 109++bK.getD ((b + k) % N) 0::List.replicate q 109
noncomputable def fK (p q N b k:Nat):Str:=⟨(ip p q N b k).toArray⟩
noncomputable def iN (p q N b:Nat):List Str:=(List.range 24).map (fK p q N b)
theorem jy:bK.length=36/\bK.Nodup/\(∀ c ∈ bK,c ∈ bO\/c ∈ qo)/\(∀ i,i < 26->bK.getD i 0 ∈ bO)/\109 ∈ bO:=by decide +kernel
theorem aeg {p q:Nat} {x y:Nat} (h:List.replicate p 109++x::List.replicate q 109=List.replicate p 109++y::List.replicate q 109):x=y:=
  (List.cons.inj (List.append_cancel_left h)).1
theorem ae8 {i j:Nat} (hi:i < 36) (hj:j < 36) (h:bK.getD i 0=bK.getD j 0):i=j:=by
  obtain ⟨h1,h2,_⟩:=jy
  have e1:bK.getD i 0=bK[i]'(by (exact Nat.le_trans (by assumption) (by decide))):=by simp [List.getD,h1,hi]
  have e2:bK.getD j 0=bK[j]'(by (exact Nat.le_trans (by assumption) (by decide))):=by simp [List.getD,h1,hj]
  rw [e1,e2] at h
  have e3:bK[i]?=bK[j]?:=by rw [List.getElem?_eq_getElem (by (exact Nat.le_trans (by assumption) (by decide))),List.getElem?_eq_getElem (by (exact Nat.le_trans (by assumption) (by decide))),h]
  exact (List.getElem?_inj (by (assumption)) h2).mp e3
theorem xJ {p q N b:Nat} (hs:p + 1 + q <= 8) (hN:(p=0/\N=26)\/(0 < p/\N=36)):(iN p q N b).Nodup/\∀ n ∈ iN p q N b,dX n:=by
  have hN1:24 <= N/\N <= 36:=by
    rcases hN with ⟨_,rfl⟩ | ⟨_,rfl⟩
    · decide
    · decide
  have hN0:0 < N:=Nat.lt_of_lt_of_le (by decide) hN1.1
  obtain ⟨f1,f2,f3,f4,f5⟩:=jy
  constructor
  · unfold iN
    rw [List.Nodup,List.pairwise_map]
    refine List.Pairwise.imp_of_mem ?_ (List.nodup_range (n:=24))
    intro i j hi hj hne e
    have hi:=List.mem_range.mp hi
    have hj:=List.mem_range.mp hj
    have e1:ip p q N b i=ip p q N b j:=by
      have:=congrArg (fun s:Str=>s.cps.toList) e
      simpa [fK] using this
    have e2:=aeg e1
    have lt36:∀ {k:Nat},(b + k) % N < 36:=Nat.lt_of_lt_of_le (Nat.mod_lt _ hN0) hN1.2
    have e3:=ae8 lt36 lt36 e2
    have key:∀ i j,j < 24->(b + i) % N=(b + j) % N->j <= i:=fun i j hj e=>by
      rcases Nat.le_total j i with h | h
      · exact h
      · have z:=Nat.sub_mod_eq_zero_of_mod_eq e.symm
        rw [Nat.add_sub_add_left,Nat.mod_eq_of_lt (Nat.lt_of_le_of_lt (Nat.sub_le _ _) (Nat.lt_of_lt_of_le hj hN1.1))] at z
        exact Nat.le_of_sub_eq_zero z
    exact hne (Nat.le_antisymm (key j i hi e3.symm) (key i j hj e3))
  · intro n hn
    obtain ⟨k,hk,rfl⟩:=List.mem_map.mp hn
    have m1:(b + k) % N < N:=Nat.mod_lt _ hN0
    have hin:bK.getD ((b + k) % N) 0 ∈ bK:=by
      have hlt:(b + k) % N < bK.length:=by rw [f1]; exact Nat.lt_of_lt_of_le m1 hN1.2
      rw [List.getD_eq_getElem?_getD,List.getElem?_eq_getElem hlt]; exact List.getElem_mem hlt
    have hl:(fK p q N b k).length=p + 1 + q:=by
      show (ip p q N b k).toArray.size=_
      simp [ip]; (grind)
    refine ⟨by rw [hl]; exact Nat.le_trans (Nat.le_add_left 1 p) (Nat.le_add_right _ q),by rw [hl]; exact hs,fun c hc=>?_,fun c hc=>?_⟩
    · have hc':(ip p q N b k)[0]?=some c:=by simpa [fK] using hc
      rcases hN with ⟨rfl,rfl⟩ | ⟨hp,rfl⟩
      · simp [ip] at hc'
        subst hc'
        have:=f4 _ m1
        simpa [List.getD] using this
      · obtain ⟨p',rfl⟩:∃ p',p=p' + 1:=⟨p - 1,by (grind)⟩
        simp [ip,List.replicate_succ] at hc'
        subst hc'; exact f5
    · have hc':c ∈ ip p q N b k:=by simpa [fK] using hc
      simp only [ip,List.mem_append,List.mem_cons,List.mem_replicate] at hc'
      rcases hc' with ⟨_,rfl⟩ | rfl | ⟨_,rfl⟩
      · exact .inl f5
      · exact f3 _ hin
      · exact .inl f5
theorem qd {x y:Nat} {r:List Nat} {s:Str} (h:s.cps.toList=x::y::r) (q:x=109\/y=109):sy s:=by
  unfold sy rt
  rw [h]
  rcases q with rfl | rfl
  · rfl
  · show (!(x == 122 && (false && true)) && !(x == 121 && (false && true)))=true
    rw [Bool.false_and,Bool.and_false,Bool.and_false]; rfl
theorem wb {p q N b:Nat}:∀ n ∈ iN p q N b,sy n:=by
  intro n hn
  obtain ⟨k,hk,rfl⟩:=List.mem_map.mp hn
  have e:(fK p q N b k).cps.toList=ip p q N b k:=rfl
  generalize fK p q N b k=s at e
  unfold ip at e
  cases p with
  | zero =>
    cases q with
    | zero=>unfold sy rt; rw [e]; show (!(_ && false) && !(_ && false))=true; rw [Bool.and_false,Bool.and_false]; rfl
    | succ q=>exact qd e (.inr rfl)
  | succ p =>
    cases p with
    | zero=>exact qd e (.inl rfl)
    | succ p=>exact qd e (.inl rfl)
end Mine
namespace Mine
open PySem
section
variable {d:Nat} {σ:ab} {C:bc} {ρ:au}
theorem aaC {n:Nat} {g:PV->PV} {f:Nat->Str} (h:∀ k,k < n->g (.int k)=.str (f k)):(aq 0 1 n).map g=((List.range n).map f).map .str:=by
  unfold aq
  rw [List.map_map,List.map_map]
  refine List.map_congr_left fun k hk=>?_
  show g (.int (0 + (k:Int) * 1))=.str (f k)
  rw [show (0 + (k:Int) * 1)=k by (grind)]
  exact h k (List.mem_range.mp hk)
theorem aap:∀ i,i < 12->(gC.map PV.str)[i]?=some (.str (gC.getD i "")):=fun i hi=>by
  rw [List.getElem?_map]
  have:gC.length=12:=rfl
  simp [List.getD,this,hi]
theorem zd:∀ i,i < 12->(gC.getD i ("" : Str)).length <= 8:=by decide +kernel
noncomputable abbrev R9 (a b c e f g h:Option PV):au:=[a,b,c,e,f,g,h,none,none]
theorem xL {c:Int}:ev (CC d) lP (R9 (some (.int c)) (some (.fl (gC.map .str))) none none none none none) σ=.ok (.fl ((lp (c / 9 % 12).toNat).map .str)) σ:=by
  have n0:=Int.emod_nonneg (c / 9) (show (12:Int) ≠ 0 by decide)
  have n1:=Int.emod_lt_of_pos (c / 9) (show (0:Int) < 12 by decide)
  refine (iq (fun x=>match x with | .int i=>.str (u8 (c / 9 % 12).toNat i.toNat) | _=>.none) (vY (n:=24) (by decide) rfl) (by rw [show (aq 0 1 24).length=24 by simp [aq]]; decide) fun x hx=>?_).trans (by rw [aaC (f:=u8 (c / 9 % 12).toNat) fun k hk=>by simp]; rfl)
  obtain ⟨k,hk,rfl⟩:=aaB hx
  show _=ae.ok (PV.str (u8 (c / 9 % 12).toNat ((k:Int).toNat))) σ
  have hi:((c / 9 + k) % 12).toNat=((c / 9 % 12).toNat + k) % 12:=xl (N:=12) (by decide)
  have hlt:((c / 9 % 12).toNat + k) % 12 < 12:=Nat.mod_lt _ (by decide)
  have h2:([PV.str "",.str "x"])[((k:Int) / 12).toNat]?=some (.str (if k / 12=0 then ("" : Str) else "x")):=by
    have e:((k:Int) / 12).toNat=k / 12:=rfl
    rw [e]
    exact lc (P:=fun i=>([PV.str "",.str "x"])[i]?=some (.str (if i=0 then ("" : Str) else "x"))) (lc ac9 rfl) rfl _ (Nat.div_lt_of_lt_mul hk)
  refine aH (x:=.str (gC.getD (((c / 9 % 12).toNat + k) % 12) "")) (y:=.str (if k / 12=0 then ("" : Str) else "x")) (σ₁:=σ) (σ₂:=σ) ?_ ?_ ?_
  · refine bu (x:=.fl (gC.map .str)) (σ₁:=σ) rfl (aH (aH (aH (x:=.int c) (y:=.int 9) (σ₁:=σ) (σ₂:=σ) rfl rfl (ii (by decide) (by decide))) (y:=.int k) (σ₂:=σ) rfl add_int) (y:=.int 12) (σ₂:=σ) rfl (bE (by decide))) (gA (show (12:Nat) <= ao by decide) (Int.emod_nonneg _ (by decide)) ?_)
    rw [hi]; exact aap _ hlt
  · exact bu (x:=.fl [.str "",.str "x"]) (σ₁:=σ) rfl (aH (x:=.int k) (y:=.int 12) (σ₁:=σ) (σ₂:=σ) rfl rfl (ii (by decide) (by decide))) (gA (show (2:Nat) <= ao by decide) (by (exact Int.natCast_nonneg _)) h2)
  · have l1:=zd _ hlt
    have l2:(if k / 12=0 then ("" : Str) else "x").length <= 1:=by split <;> decide +kernel
    rw [add_str (by rw [aI]; (grind))]
    rfl
theorem yq {n:Int} (h0:0 <= n) (h1:n <= 100):fP .mul (.str "m") (.int n) σ=.ok (.str (Txt.mul "m" n)) σ:=by
  show (if ("m" : Str).length <= 100/\0 <= n/\n <= 100 then ae.ok (PV.str (Txt.mul "m" n)) σ else .stuck)=_
  exact if_pos ⟨by decide +kernel,h0,h1⟩
theorem oW {σ₀:ab} {xs:List PV} {v:PV} (h:xs.length < 1000):lr .append (.ref σ₀.length) [v] (σ₀++[.lst xs])=.ok .none (σ₀++[.lst (xs++[v])]):=by
  have hat:(σ₀++[MO.lst xs])[σ₀.length]?=some (.lst xs):=by simp
  show eZ (.ref σ₀.length) v (σ₀++[.lst xs])=_
  unfold eZ; dsimp only; rw [hat]; dsimp only
  rw [if_pos (by rw [aI]; (exact Nat.le_trans (by assumption) (by decide)))]
  simp
theorem wg {σ₀ τ:ab} {xs:List PV} {m:Me} (hm:m=.append\/m=.extend\/False):qh m (.ref σ₀.length) (σ₀++.lst xs::τ)=true:=by
  have hat:(σ₀++MO.lst xs::τ)[σ₀.length]?=some (.lst xs):=by simp
  have:jg (.ref σ₀.length) (σ₀++.lst xs::τ)=true:=by unfold jg; dsimp only; rw [hat]
  rcases hm with rfl | rfl | h
  · exact this
  · exact this
  · exact h.elim
theorem afX {c:Int} {p q N k:Nat} (hs:p + 1 + q <= 8) (hN:(p=0/\N=26)\/(0 < p/\N=36)) (acc:List Str) (hacc:acc.length < 100) {z:Option PV} :
    ex (CC d) topN gM (R9 (some (.int c)) (some (.str "abcdefghijklmnopqrstuvwxyz0123456789")) (some (.int k)) (some (.int ((p + 1 + q:Nat):Int))) (some (.int p)) (some (.ref σ.length)) z) (σ++[.lst (acc.map .str)]) =
      .next (R9 (some (.int c)) (some (.str "abcdefghijklmnopqrstuvwxyz0123456789")) (some (.int k)) (some (.int ((p + 1 + q:Nat):Int))) (some (.int p)) (some (.ref σ.length)) (some (.str ⟨#[bK.getD (((c / 64 % N).toNat + k) % N) 0]⟩))) (σ++[.lst ((acc++[fK p q N (c / 64 % N).toNat k]).map .str)]):=by
  obtain ⟨f1,f2,f3,f4,f5⟩:=jy
  have hN0:0 < N:=by (grind)
  have n0:=Int.emod_nonneg (c / 64) (show (N:Int) ≠ 0 by (exact Int.ofNat_ne_zero.mpr (Nat.ne_of_gt (by assumption))))
  have n1:=Int.emod_lt_of_pos (c / 64) (show (0:Int) < N by (exact Int.ofNat_lt.mpr (by assumption)))
  have hi:((c / 64 + k) % N).toNat=((c / 64 % N).toNat + k) % N:=xl (Nat.ne_of_gt hN0)
  have hlt:((c / 64 % N).toNat + k) % N < N:=Nat.mod_lt _ hN0
  have hsel:([PV.int 26,.int 36])[((if decide ((p:Int) > 0)=true then 1 else 0:Int)).toNat]?=some (.int N):=by
    rcases hN with ⟨rfl,rfl⟩ | ⟨hp,rfl⟩
    · rfl
    · rw [decide_eq_true (by (grind))]; rfl
  have hsel0:(0:Int) <= (if decide ((p:Int) > 0)=true then 1 else 0:Int):=by split <;> decide
  have s1:ex (CC d) topN (.asg 6 (.sub (.v 1) (.bin .mod (.bin .add (.bin .fdiv (.v 0) (.k (.int 64))) (.v 2)) (.sub (.lst true (.cons (.k (.int 26)) (.cons (.k (.int 36)) .nil))) (.b1 .int (.cmp (.v 4) .gt (.k (.int 0)))))))) (R9 (some (.int c)) (some (.str "abcdefghijklmnopqrstuvwxyz0123456789")) (some (.int k)) (some (.int ((p + 1 + q:Nat):Int))) (some (.int p)) (some (.ref σ.length)) z) (σ++[.lst (acc.map .str)]) =
      .next (R9 (some (.int c)) (some (.str "abcdefghijklmnopqrstuvwxyz0123456789")) (some (.int k)) (some (.int ((p + 1 + q:Nat):Int))) (some (.int p)) (some (.ref σ.length)) (some (.str ⟨#[bK.getD (((c / 64 % N).toNat + k) % N) 0]⟩))) (σ++[.lst (acc.map .str)]):=by
    generalize hS:σ++[MO.lst (acc.map .str)]=S
    refine aW (bu (x:=.str "abcdefghijklmnopqrstuvwxyz0123456789") (σ₁:=S) rfl (aH (aH (aH (x:=.int c) (y:=.int 64) (σ₁:=S) (σ₂:=S) rfl rfl (ii (by decide) (by decide))) (y:=.int k) (σ₂:=S) rfl add_int) (y:=.int N) (σ₂:=S) (bu (x:=.fl [.int 26,.int 36]) (σ₁:=S) rfl (dk (gZ (x:=.int p) (y:=.int 0) (σ₁:=S) (σ₂:=S) rfl rfl gt_int) int_bool) (gA (show (2:Nat) <= ao by decide) hsel0 hsel)) (bE (by (exact Int.ofNat_lt.mpr (by assumption))))) (yi (by decide +kernel) (Int.emod_nonneg _ (by (exact Int.ofNat_ne_zero.mpr (Nat.ne_of_gt (by assumption))))) ?_))
    rw [hi]
    show bK[((c / 64 % N).toNat + k) % N]?=_
    simp [List.getD,f1,show ((c / 64 % N).toNat + k) % N < 36 by (grind)]
  refine (aa s1).trans ?_
  refine (aa (bR (k9 (m:=.append) (x:=.ref σ.length) (σ₁:=σ++[.lst (acc.map .str)]) rfl (wg (.inl rfl)) (y:=.str (fK p q N (c / 64 % N).toNat k)) (σ₂:=σ++[.lst (acc.map .str)]) ?_ (oW (by rw [List.length_map]; (exact Nat.le_trans (by assumption) (by decide))))))).trans (by rw [ah,List.map_append]; rfl)
  generalize σ++[MO.lst (acc.map .str)]=S
  have hp:Txt.mul "m" (p:Int)=⟨(List.replicate p 109).toArray⟩:=Str.ext' (Array.toList_inj.mp (by rw [adq]))
  have hq:Txt.mul "m" (((p + 1 + q:Nat):Int) - 1 - p)=⟨(List.replicate q 109).toArray⟩:=by
    rw [show ((p + 1 + q:Nat):Int) - 1 - p=(q:Int) by (grind)]
    exact Str.ext' (Array.toList_inj.mp (by rw [adq]))
  refine aH (aH (aH (x:=.str "m") (y:=.int p) (σ₁:=S) (σ₂:=S) rfl rfl (yq (by (exact Int.natCast_nonneg _)) (by (grind)))) (y:=.str ⟨#[bK.getD (((c / 64 % N).toNat + k) % N) 0]⟩) (σ₂:=S) rfl (add_str ?_)) (aH (x:=.str "m") (σ₁:=S) rfl (aH (aH (x:=.int ((p + 1 + q:Nat):Int)) (y:=.int 1) (σ₁:=S) (σ₂:=S) rfl rfl sub_int) (y:=.int p) (σ₂:=S) rfl sub_int) (yq (by (grind)) (by (grind)))) ?_
  · rw [hp,aI]
    show (List.replicate p 109).toArray.size + 1 <= _
    simp; (grind)
  · rw [hp,hq,add_str]
    · congr 1
      refine congrArg PV.str (Str.ext' ?_)
      simp [Str.cps_append,fK,ip]
    · rw [Str.length_append,aI]
      show (List.replicate p 109).toArray.size + 1 + (List.replicate q 109).toArray.size <= _
      simp; (exact Nat.le_trans (by assumption) (by decide))
theorem adt {c:Int} {p q N:Nat} (hs:p + 1 + q <= 8) (hN:(p=0/\N=26)\/(0 < p/\N=36)):∀ (n k:Nat) (acc:List Str) (y z:Option PV),acc.length=k->k + n <= 24->∃ y' z',
    aZ none (bq 2) (fun ρ σ=>ex (CC d) topN gM ρ σ) ((List.range' k n).map fun (i:Nat)=>PV.int i) (R9 (some (.int c)) (some (.str "abcdefghijklmnopqrstuvwxyz0123456789")) y (some (.int ((p + 1 + q:Nat):Int))) (some (.int p)) (some (.ref σ.length)) z) (σ++[.lst (acc.map .str)]) =
      .next (R9 (some (.int c)) (some (.str "abcdefghijklmnopqrstuvwxyz0123456789")) y' (some (.int ((p + 1 + q:Nat):Int))) (some (.int p)) (some (.ref σ.length)) z') (σ++[.lst ((acc++(List.range' k n).map (fK p q N (c / 64 % N).toNat)).map .str)])
  | 0,k,acc,y,z,_,_=>⟨y,z,by simpa using bJ⟩
  | n + 1,k,acc,y,z,h1,h2=>by
    obtain ⟨y',z',ih⟩:=adt hs hN n (k + 1) (acc++[fK p q N (c / 64 % N).toNat k]) (some (.int k)) (some (.str ⟨#[bK.getD (((c / 64 % N).toNat + k) % N) 0]⟩)) (by rw [List.length_append,h1]; rfl) (by (grind))
    refine ⟨y',z',?_⟩
    rw [List.range'_succ,List.map_cons]
    refine (bg (ρ₁:=R9 (some (.int c)) (some (.str "abcdefghijklmnopqrstuvwxyz0123456789")) (some (.int k)) (some (.int ((p + 1 + q:Nat):Int))) (some (.int p)) (some (.ref σ.length)) z) rfl (afX hs hN acc (by (grind)))).trans (ih.trans ?_)
    simp [List.append_assoc]
theorem h14 (c:Int):∃ names:List Str,names.length=24/\names.Nodup/\(∀ n ∈ names,dX n)/\(∀ n ∈ names,sy n) ∧
    ((∀ d,aK PP topN (d + 1) fC [.int c] []=.ok (.fl (names.map .str)) [])\/(∀ d,aK PP topN (d + 1) fC [.int c] []=.ok (.ref 0) [.lst (names.map .str)])):=by
  have t0:∀ d,tst (CC d) (.cmp (.bin .mod (.v 0) (.k (.int 9))) .eq (.k (.int 8))) (R9 (some (.int c)) none none none none none none) []=.ok (c % 9 == 8) []:=fun d =>
    bC (aH (x:=.int c) (y:=.int 9) (σ₁:=[]) (σ₂:=[]) rfl rfl (bE (by decide))) (y:=.int 8) (σ₂:=[]) rfl eI
  have fin:∀ {d:Nat} {v:PV} {ρ:au} {σ:ab},ex (CC d) topN iE.body (R9 (some (.int c)) none none none none none none) []=.ret v ρ σ->aK PP topN (d + 1) fC [.int c] []=.ok v σ:=fun {d v ρ σ} h=>by
    rw [ba (fn:=iE) rfl rfl]
    show aM (ex (CC d) topN iE.body (R9 (some (.int c)) none none none none none none) [])=_
    rw [h]; rfl
  by_cases h9:c % 9=8
  · have n0:=Int.emod_nonneg (c / 9) (show (12:Int) ≠ 0 by decide)
    have n1:=Int.emod_lt_of_pos (c / 9) (show (0:Int) < 12 by decide)
    have g:=xK (c / 9 % 12).toNat (tK (n:=12) n0 n1)
    rw [Bool.and_eq_true] at g
    refine ⟨lp (c / 9 % 12).toNat,by simp [lp],tT g.1,fun n hn=>qg (List.all_eq_true.mp g.2 n hn),fun n hn=>List.all_eq_true.mp (wc (c / 9 % 12).toNat (tK (n:=12) n0 n1)) n hn,.inl fun d=>fin (ak (a:=im) ((aR (σ':=[]) ((t0 d).trans (by rw [h9]; rfl))).trans ((aa (ρ':=R9 (some (.int c)) (some (.fl (gC.map .str))) none none none none none) (σ':=[]) rfl).trans (ak (av xL)))))⟩
  · have a0:=Int.emod_nonneg c (show (8:Int) ≠ 0 by decide)
    have a1:=Int.emod_lt_of_pos c (show (0:Int) < 8 by decide)
    have b2:(0:Int) < 1 + c % 8:=Int.lt_of_lt_of_le (by decide) (Int.le_add_of_nonneg_right a0)
    have b0:=Int.emod_nonneg (c / 8) (Int.ne_of_gt b2)
    have b1:=Int.emod_lt_of_pos (c / 8) b2
    obtain ⟨p,hp⟩:=Int.eq_ofNat_of_zero_le b0
    obtain ⟨e,he⟩:=Int.eq_ofNat_of_zero_le a0
    rw [hp,he] at b1
    rw [he] at a1
    have hpe:p < 1 + e:=Int.ofNat_lt.mp b1
    rw [Nat.add_comm] at hpe
    have hq:1 + c % 8=((p + 1 + (e - p):Nat):Int):=by
      rw [he,Nat.add_right_comm,Nat.add_sub_cancel' (Nat.le_of_lt_succ hpe),Nat.add_comm]; rfl
    generalize e - p=q at hq
    have hs:p + 1 + q <= 8:=by rw [he] at hq; exact (Int.ofNat.inj hq:1 + e=p + 1 + q) ▸ Nat.add_le_add_left (Nat.le_of_lt_succ (Int.ofNat_lt.mp a1)) 1
    obtain ⟨N,hN⟩:∃ N:Nat,(p=0/\N=26)\/(0 < p/\N=36):=by
      rcases Nat.eq_zero_or_pos p with q | q
      · exact ⟨26,.inl ⟨q,rfl⟩⟩
      · exact ⟨36,.inr ⟨q,rfl⟩⟩
    have good:=xJ (b:=(c / 64 % N).toNat) hs hN
    refine ⟨iN p q N (c / 64 % N).toNat,by simp [iN],good.1,good.2,wb,.inr fun d=>?_⟩
    obtain ⟨y',z',hl⟩:=adt (d:=d) (σ:=[]) (c:=c) hs hN 24 0 [] none none rfl (by decide)
    refine fin (ρ:=R9 (some (.int c)) (some (.str "abcdefghijklmnopqrstuvwxyz0123456789")) y' (some (.int ((p + 1 + q:Nat):Int))) (some (.int p)) (some (.ref 0)) z') ?_
    have e0:ex (CC d) topN im (R9 (some (.int c)) none none none none none none) []=.next (R9 (some (.int c)) none none none none none none) []:=(aw (σ':=[]) ((t0 d).trans (by rw [show (c % 9 == 8)=false from beq_eq_false_iff_ne.mpr h9]))).trans ah
    have e1:ex (CC d) topN lO (R9 (some (.int c)) none none none none none none) []=.next (R9 (some (.int c)) none none (some (.int ((p + 1 + q:Nat):Int))) none none none) []:=by
      refine aW ((aH (x:=.int 1) (σ₁:=[]) rfl (aH (x:=.int c) (y:=.int 8) (σ₁:=[]) (σ₂:=[]) rfl rfl (bE (by decide))) add_int).trans ?_)
      rw [hq]
    have e2:ex (CC d) topN lN (R9 (some (.int c)) none none (some (.int ((p + 1 + q:Nat):Int))) none none none) []=.next (R9 (some (.int c)) none none (some (.int ((p + 1 + q:Nat):Int))) (some (.int p)) none none) []:=by
      refine aW ((aH (aH (x:=.int c) (y:=.int 8) (σ₁:=[]) (σ₂:=[]) rfl rfl (ii (by decide) (by decide))) (y:=.int ((p + 1 + q:Nat):Int)) (σ₂:=[]) rfl (bE (by (grind)))).trans ?_)
      rw [<- hq,hp]
    have e5:ex (CC d) topN lK (R9 (some (.int c)) (some (.str "abcdefghijklmnopqrstuvwxyz0123456789")) none (some (.int ((p + 1 + q:Nat):Int))) (some (.int p)) (some (.ref 0)) none) [.lst []] =
        .next (R9 (some (.int c)) (some (.str "abcdefghijklmnopqrstuvwxyz0123456789")) y' (some (.int ((p + 1 + q:Nat):Int))) (some (.int p)) (some (.ref 0)) z') [.lst ((iN p q N (c / 64 % N).toNat).map .str)]:=by
      refine bU (ys:=(List.range' 0 24).map fun (i:Nat)=>PV.int i) (σ₁:=[.lst []]) ((vY (n:=24) (by decide) rfl).trans ?_) (hl.trans ?_)
      · have:aq 0 1 24=(List.range' 0 24).map fun (i:Nat)=>PV.int i:=by
          unfold aq; rw [List.range_eq_range']; refine List.map_congr_left fun i _=>?_; congr 1; (grind)
        rw [this]
      · simp [iN,List.range_eq_range']
    exact (aa e0).trans ((aa e1).trans ((aa e2).trans ((aa (a:=lM) (ρ':=R9 (some (.int c)) (some (.str "abcdefghijklmnopqrstuvwxyz0123456789")) none (some (.int ((p + 1 + q:Nat):Int))) (some (.int p)) none none) (σ':=[]) rfl).trans ((aa (a:=lL) (ρ':=R9 (some (.int c)) (some (.str "abcdefghijklmnopqrstuvwxyz0123456789")) none (some (.int ((p + 1 + q:Nat):Int))) (some (.int p)) (some (.ref 0)) none) (σ':=[.lst []]) rfl).trans ((aa e5).trans (ak (a:=lJ) rfl))))))
end
end Mine
namespace Mine
open PySem
section
variable {d:Nat} {σ:ab}
theorem adK {i a b:Int}:aK PP topN (d + 1) cS [.int i,.int a,.int b] σ=.ok (.bool (decide (a <= i) && decide (i <= b))) σ:=by
  rw [ba (fn:=jW) rfl rfl]
  have:ex (CC d) topN jW.body [some (.int i),some (.int a),some (.int b),none,none,none] σ=.ret (.bool (decide (a <= i) && decide (i <= b))) [some (.int i),some (.int a),some (.int b),none,none,none] σ:=
    ak (av (kI (jw (σ₁:=σ) rfl (jw (σ₁:=σ) rfl (io (lb rfl rfl rfl))))))
  exact (congrArg aM this).trans rfl
theorem db {τ υ:ab} {m:MO}:(τ++m::υ)[τ.length]?=some m:=by simp
theorem lj {τ υ:ab} {m m':MO}:(τ++m::υ).set τ.length m'=τ++m'::υ:=by simp
theorem abP {es:List (Str × PV)} {k:Str}:k ∉ es.map (·.1)->ac k es=none:=by
  intro h
  unfold ac
  rw [List.find?_eq_none.mpr]
  · rfl
  · intro e he q
    exact h (List.mem_map.mpr ⟨e,he,of_decide_eq_true q⟩)
theorem xi {es:List (Str × PV)} {k:Str} {v:PV} (h:k ∉ es.map (·.1)):bL k v es=es++[(k,v)]:=by
  unfold bL
  rw [if_neg]
  intro q
  obtain ⟨e,he,q⟩:=List.any_eq_true.mp q
  exact h (List.mem_map.mpr ⟨e,he,of_decide_eq_true q⟩)
theorem abO {es:List (Str × PV)} {k:Str}:(ac k es).isSome=decide (k ∈ es.map (·.1)):=by
  by_cases h:k ∈ es.map (·.1)
  · rw [decide_eq_true h]
    obtain ⟨e,he,q⟩:=List.mem_map.mp h
    unfold ac
    rw [Option.isSome_map,List.find?_isSome]
    exact ⟨e,he,decide_eq_true q⟩
  · rw [decide_eq_false h,abP h]; rfl
noncomputable def aU (p:List ai):List (Str × PV):=p.flatMap fun s=>s.gives.map fun g=>(g,s.pv)
theorem pK (p:List ai):(aU p).map (·.1)=p.flatMap (·.gives):=by
  unfold aU
  rw [List.map_flatMap]
  congr 1
  funext s
  rw [List.map_map]
  exact List.map_id _
theorem ab5 {r:Nat} {es:List (Str × PV)} {k:Str} {v:PV} {ρ:au} (hr:σ[r]?=some (.ds es)) (hl:es.length < ao):bN (.ref r) (.str k) v ρ σ=.next ρ (σ.set r (.ds (bL k v es))):=by
  have e:((σ[r]?).bind fun m=>li m (.str k) v)=some (.ds (bL k v es)):=by rw [hr]; exact if_pos hl
  unfold bN; dsimp only; rw [e]
theorem qb {r:Nat} {es:List ((Str × Int) × PV)} {x:Str} {j:Int} {v:PV} {ρ:au} (hr:σ[r]?=some (.dp es)) (hl:es.length < ao):bN (.ref r) (.tup [.str x,.int j]) v ρ σ=.next ρ (σ.set r (.dp (bL (x,j) v es))):=by
  have e:((σ[r]?).bind fun m=>li m (.tup [.str x,.int j]) v)=some (.dp (bL (x,j) v es)):=by rw [hr]; exact if_pos hl
  unfold bN; dsimp only; rw [e]
theorem afz {pl s:PV} {τ:ab}:∀ (gs:List Str) (y:Option PV) (es:List (Str × PV)),es.length + gs.length <= 1000->(es.map (·.1)++gs).Nodup ->
    ∃ y',aZ none (bq 3) (fun ρ σ=>ex (CC d) topN i3 ρ σ) (gs.map .str) [some pl,some (.ref τ.length),some s,y] (τ++[.ds es]) =
      .next [some pl,some (.ref τ.length),some s,y'] (τ++[.ds (es++gs.map fun g=>(g,s))]):=by
  intro gs
  induction gs with
  | nil=>intro y es _ _; exact ⟨y,by simpa using bJ⟩
  | cons g gs ih =>
    intro y es hl hn
    have hk:g ∉ es.map (·.1):=fun q=>(List.nodup_append.mp hn).2.2 g q g (by simp) rfl
    rw [List.length_cons] at hl
    obtain ⟨y',e⟩:=ih (some (.str g)) (es++[(g,s)]) (by rw [List.length_append]; show es.length + 1 + gs.length <= 1000; omega) (by simpa using hn)
    refine ⟨y',(bg (ρ₁:=[some pl,some (.ref τ.length),some s,some (.str g)]) (ρ₂:=[some pl,some (.ref τ.length),some s,some (.str g)]) (σ₂:=τ++[.ds (es++[(g,s)])]) rfl ?_).trans (e.trans (by simp))⟩
    refine (aa ?_).trans ah
    show bN (.ref τ.length) (.str g) s _ (τ++[.ds es])=_
    rw [ab5 db (by rw [aI]; omega),lj,xi hk]
theorem aey {pl:PV} {τ:ab}:∀ (p:List ai) (x y:Option PV) (es:List (Str × PV)),es.length + 3 * p.length <= 1000->(∀ s ∈ p,s.gives.length <= 3)->(es.map (·.1)++p.flatMap (·.gives)).Nodup ->
    ∃ x' y',aZ none (bq 2) (fun ρ σ=>ex (CC d) topN kr ρ σ) (p.map ai.pv) [some pl,some (.ref τ.length),x,y] (τ++[.ds es]) =
      .next [some pl,some (.ref τ.length),x',y'] (τ++[.ds (es++aU p)]):=by
  intro p
  induction p with
  | nil=>intro x y es _ _ _; exact ⟨x,y,by simpa [aU] using bJ⟩
  | cons s p ih =>
    intro x y es hl h3 hn
    have hs:=h3 s (by simp)
    rw [List.length_cons] at hl
    rw [List.flatMap_cons,<- List.append_assoc] at hn
    obtain ⟨y1,e1⟩:=afz (d:=d) (pl:=pl) (s:=s.pv) (τ:=τ) s.gives y es (by omega) (List.nodup_append.mp hn).1
    have hk:(es++s.gives.map fun g=>(g,s.pv)).map (·.1)=es.map (·.1)++s.gives:=by
      rw [List.map_append,List.map_map]; congr 1; exact List.map_id _
    obtain ⟨x',y',e2⟩:=ih (some s.pv) y1 (es++s.gives.map fun g=>(g,s.pv)) (by rw [List.length_append,List.length_map]; omega) (fun t ht=>h3 t (List.mem_cons_of_mem _ ht)) (by rw [hk]; exact hn)
    refine ⟨x',y',(bg (ρ₁:=[some pl,some (.ref τ.length),some s.pv,y]) (ρ₂:=[some pl,some (.ref τ.length),some s.pv,y1]) (σ₂:=τ++[.ds (es++s.gives.map fun g=>(g,s.pv))]) rfl ?_).trans (e2.trans (by simp [aU]))⟩
    exact (aa (bU (ys:=s.gives.map .str) (σ₁:=τ++[.ds es]) rfl e1)).trans ah
theorem t9 {p:List ai} (h:bZ p):aK PP topN (d + 1) iB [a5 p] σ=.ok (.ref σ.length) (σ++[.ds (aU p)]):=by
  rw [ba (fn:=k6) rfl rfl]
  obtain ⟨x',y',e⟩:=aey (d:=d) (pl:=a5 p) (τ:=σ) p none none [] (by show 0 + 3 * p.length <= 1000; have:=h.most; omega) (fun s hs=>(h.steps s hs).gives3) (by simpa using h.gives)
  have:ex (CC d) topN k6.body [some (a5 p),none,none,none] σ=.ret (.ref σ.length) [some (a5 p),some (.ref σ.length),x',y'] (σ++[.ds (aU p)]):=by
    refine (aa (a:=lT) (ρ':=[some (a5 p),some (.ref σ.length),none,none]) (σ':=σ++[.ds []]) rfl).trans ((aa (bU (ys:=p.map ai.pv) (σ₁:=σ++[.ds []]) rfl e)).trans ?_)
    exact ak (av rfl)
  exact (congrArg aM this).trans rfl
end
end Mine
namespace Mine
open PySem
section
variable {d:Nat} {σ:ab}
theorem aah {ns:List Str}:(ns.map PV.str).mapM (cQ 16 σ)=some (ns.map PyData.str):=by
  induction ns with
  | nil=>rfl
  | cons n ns ih=>rw [List.map_cons,List.mapM_cons,ih]; rfl
theorem aaX {ns:List Str} {g:Str}:mz σ (.str g) (ns.map .str)=some (decide (g ∈ ns)):=by
  unfold mz
  rw [aah]
  show some ((ns.map PyData.str).any fun y=>PyData.eqv y (.str g))=_
  congr 1
  rw [List.any_map]
  induction ns with
  | nil=>rfl
  | cons n ns ih =>
    rw [List.any_cons,ih]
    show (n == g || decide (g ∈ ns))=_
    by_cases q:n=g
    · subst q; simp
    · rw [beq_eq_false_iff_ne.mpr q]
      by_cases q2:g ∈ ns
      · simp [q2]
      · rw [decide_eq_false q2,decide_eq_false (by simp [q2]; exact fun z=>q z.symm)]; rfl
theorem rx {r:Nat} {ns:List Str} {g:Str} (h:σ[r]?=some (.lst (ns.map .str))):bp .notin (.str g) (.ref r) σ=.ok (!decide (g ∈ ns)) σ:=by
  show ae.ofOpt ((b9 (.str g) (.ref r) σ).map (!·)) σ=_
  have:b9 (.str g) (.ref r) σ=some (decide (g ∈ ns)):=by
    unfold b9
    dsimp only
    rw [h]
    exact aaX
  rw [this]; rfl
theorem tR {r:Nat} {es:List (Str × PV)} {g:Str} (h:σ[r]?=some (.ds es)):bp .notin (.str g) (.ref r) σ=.ok (!decide (g ∈ es.map (·.1))) σ:=by
  show ae.ofOpt ((b9 (.str g) (.ref r) σ).map (!·)) σ=_
  have:b9 (.str g) (.ref r) σ=some (decide (g ∈ es.map (·.1))):=by
    unfold b9
    dsimp only
    rw [h]
    exact congrArg some abO
  rw [this]; rfl
noncomputable def b5 (G acc:List Str) (n:Str):List Str:=if (!decide (n ∈ G) && !decide (n ∈ acc))=true then acc++[n] else acc
noncomputable def zl (G ns:List Str):List Str:=ns.foldl (b5 G) []
theorem pI {G acc:List Str} {n:Str}:(b5 G acc n).length <= acc.length + 1:=by
  unfold b5; split
  · simp
  · omega
theorem aee {G:List Str}:∀ (ns acc:List Str),(ns.foldl (b5 G) acc).length <= acc.length + ns.length:=by
  intro ns
  induction ns with
  | nil=>intro acc; exact Nat.le_refl _
  | cons n ns ih =>
    intro acc
    rw [List.foldl_cons,List.length_cons]
    have h1:=ih (b5 G acc n)
    have h2:=pI (G:=G) (acc:=acc) (n:=n)
    omega
theorem aeN {τ:ab} {xs:List PV} {v:PV} (h:xs.length < 1000):lr .append (.ref τ.length) [v] (τ++[.lst xs])=.ok .none (τ++[.lst (xs++[v])]):=oW h
theorem afe {pl s:PV} {r:Nat} {es:List (Str × PV)} {τ:ab} {w:Option PV} (hr:τ[r]?=some (.ds es)):∀ (ns:List Str) (y:Option PV) (acc:List Str),acc.length + ns.length <= 900 ->
    ∃ y',aZ none (bq 4) (fun ρ σ=>ex (CC d) topN kh ρ σ) (ns.map .str) [some pl,some (.ref r),some (.ref τ.length),some s,y,w] (τ++[.lst (acc.map .str)]) =
      .next [some pl,some (.ref r),some (.ref τ.length),some s,y',w] (τ++[.lst ((ns.foldl (b5 (es.map (·.1))) acc).map .str)]):=by
  intro ns
  induction ns with
  | nil=>intro y acc _; exact ⟨y,bJ⟩
  | cons n ns ih =>
    intro y acc hl
    rw [List.length_cons] at hl
    obtain ⟨y',e⟩:=ih (some (.str n)) (b5 (es.map (·.1)) acc n) (by have:=pI (G:=es.map (·.1)) (acc:=acc) (n:=n); omega)
    refine ⟨y',(bg (ρ₁:=[some pl,some (.ref r),some (.ref τ.length),some s,some (.str n),w]) (ρ₂:=[some pl,some (.ref r),some (.ref τ.length),some s,some (.str n),w]) (σ₂:=τ++[.lst ((b5 (es.map (·.1)) acc n).map .str)]) rfl ?_).trans e⟩
    have hr':(τ++[MO.lst (acc.map .str)])[r]?=some (.ds es):=by
      rw [List.getElem?_append_left (List.getElem?_eq_some_iff.mp hr).1]; exact hr
    have t:tst (CC d) (.and (.cons (.cmp (.v 4) .notin (.v 1)) (.cons (.cmp (.v 4) .notin (.v 2)) .nil))) [some pl,some (.ref r),some (.ref τ.length),some s,some (.str n),w] (τ++[.lst (acc.map .str)])=.ok (!decide (n ∈ es.map (·.1)) && !decide (n ∈ acc)) (τ++[.lst (acc.map .str)]):=
      o9 (o8 (bC (x:=.str n) (y:=.ref r) (σ₁:=τ++[.lst (acc.map .str)]) (σ₂:=τ++[.lst (acc.map .str)]) rfl rfl (tR hr')) fun _=>lh (bC (x:=.str n) (y:=.ref τ.length) (σ₁:=τ++[.lst (acc.map .str)]) (σ₂:=τ++[.lst (acc.map .str)]) rfl rfl (rx db)))
    unfold b5
    cases hq:(!decide (n ∈ es.map (·.1)) && !decide (n ∈ acc)) with
    | false =>
      rw [hq] at t
      exact (aa ((aw t).trans ah)).trans ah
    | true =>
      rw [hq] at t
      rw [if_pos rfl]
      refine (aa ((aR t).trans ((aa (bR (k9 (m:=.append) (x:=.ref τ.length) (σ₁:=τ++[.lst (acc.map .str)]) rfl ?_ (y:=.str n) (σ₂:=τ++[.lst (acc.map .str)]) rfl (aeN (by rw [List.length_map]; omega))))).trans ?_))).trans ah
      · exact wg (.inl rfl)
      · rw [List.map_append]; exact ah
theorem aec {pl:PV} {r:Nat} {es:List (Str × PV)} {τ:ab} {w:Option PV} (hr:τ[r]?=some (.ds es)):∀ (p:List ai) (x y:Option PV) (acc:List Str),acc.length + 4 * p.length <= 900->(∀ s ∈ p,s.needs.length <= 4) ->
    ∃ x' y',aZ none (bq 3) (fun ρ σ=>ex (CC d) topN m6 ρ σ) (p.map ai.pv) [some pl,some (.ref r),some (.ref τ.length),x,y,w] (τ++[.lst (acc.map .str)]) =
      .next [some pl,some (.ref r),some (.ref τ.length),x',y',w] (τ++[.lst (((p.flatMap (·.needs)).foldl (b5 (es.map (·.1))) acc).map .str)]):=by
  intro p
  induction p with
  | nil=>intro x y acc _ _; exact ⟨x,y,bJ⟩
  | cons s p ih =>
    intro x y acc hl h4
    have hs:=h4 s (by simp)
    rw [List.length_cons] at hl
    obtain ⟨y1,e1⟩:=afe (d:=d) (pl:=pl) (s:=s.pv) (w:=w) hr s.needs y acc (by omega)
    obtain ⟨x',y',e2⟩:=ih (some s.pv) y1 (s.needs.foldl (b5 (es.map (·.1))) acc) (by have:=aee (G:=es.map (·.1)) s.needs acc; omega) fun t ht=>h4 t (List.mem_cons_of_mem _ ht)
    refine ⟨x',y',(bg (ρ₁:=[some pl,some (.ref r),some (.ref τ.length),some s.pv,y,w]) (ρ₂:=[some pl,some (.ref r),some (.ref τ.length),some s.pv,y1,w]) (σ₂:=τ++[.lst ((s.needs.foldl (b5 (es.map (·.1))) acc).map .str)]) rfl ?_).trans (e2.trans (by rw [List.flatMap_cons,List.foldl_append]))⟩
    exact (aa (bU (ys:=s.needs.map .str) (σ₁:=τ++[.lst (acc.map .str)]) rfl e1)).trans ah
theorem ack {p:List ai} (h:bZ p):aK PP topN (d + 2) kc [a5 p] σ=.ok (.ref (σ.length + 1)) (σ++[.ds (aU p),.lst ((zl (p.flatMap (·.gives)) (p.flatMap (·.needs))).map .str)]):=by
  rw [ba (fn:=oj) rfl rfl]
  have hr:(σ++[MO.ds (aU p)])[σ.length]?=some (.ds (aU p)):=by simp
  obtain ⟨x',y',e⟩:=aec (d:=d + 1) (pl:=a5 p) (w:=none) hr p none none [] (by show 0 + 4 * p.length <= 900; have:=h.most; omega) fun s hs=>(h.steps s hs).needs4
  rw [pK] at e
  have hl:(σ++[MO.ds (aU p)]).length=σ.length + 1:=by simp
  rw [hl] at e
  have:ex (CC (d + 1)) topN oj.body [some (a5 p),none,none,none,none,none] σ=.ret (.ref (σ.length + 1)) [some (a5 p),some (.ref σ.length),some (.ref (σ.length + 1)),x',y',none] (σ++[.ds (aU p),.lst ((zl (p.flatMap (·.gives)) (p.flatMap (·.needs))).map .str)]):=by
    refine (aa (a:=oc) (ρ':=[some (a5 p),some (.ref σ.length),none,none,none,none]) (σ':=σ++[.ds (aU p)]) (aW (bm (x:=a5 p) (σ₁:=σ) rfl (t9 h)))).trans ?_
    refine (aa (a:=n9) (ρ':=[some (a5 p),some (.ref σ.length),some (.ref (σ++[MO.ds (aU p)]).length),none,none,none]) (σ':=σ++[.ds (aU p)]++[.lst []]) rfl).trans ?_
    rw [hl]
    refine (aa (bU (ys:=p.map ai.pv) (σ₁:=σ++[.ds (aU p)]++[.lst []]) rfl e)).trans ((ak (av rfl)).trans ?_)
    rw [List.append_assoc]; rfl
  exact (congrArg aM this).trans rfl
end
end Mine
namespace Mine
open PySem
section
variable {d:Nat} {σ:ab}
theorem y8 {n:Str} {c:Nat} {v:PV} {ρ:au} {τ υ:ab} {fs:List (Str × PV)} (h:fs.length < 100):ew c (.inst c τ.length) n v ρ (τ++.ns fs::υ)=.next ρ (τ++.ns (bL n v fs)::υ):=by
  unfold ew
  dsimp only
  rw [if_pos rfl,db]
  dsimp only
  rw [if_pos h,lj]
theorem aeE {c k:Nat} {n:Str} {o x:X} {v:PV} {C:bc} {ρ:au} {τ υ υ':ab} {fs:List (Str × PV)} (hx:ev C x ρ (τ++.ns fs::υ)=.ok v (τ++.ns fs::υ')) (ho:ev C o ρ (τ++.ns fs::υ')=.ok (.inst c τ.length) (τ++.ns fs::υ')) (h:fs.length < 100) :
    ex C k (.asgAttr c o n x) ρ (τ++.ns fs::υ)=.next ρ (τ++.ns (bL n v fs)::υ'):=by
  show (ev C x ρ (τ++.ns fs::υ)).toS ρ (fun v σ=>(ev C o ρ σ).toS ρ fun o σ=>ew c o n v ρ σ)=_
  rw [hx]
  show (ev C o ρ (τ++.ns fs::υ')).toS ρ (fun o σ=>ew c o n v ρ σ)=_
  rw [ho]
  exact y8 h
end
end Mine
namespace Mine
open PySem
section
variable {d:Nat} {σ:ab}
theorem aeD {s:ai} (h:fH s):zZ s:=by
  have k:∀ n,dX n->n.length <= ao:=fun n q=>Nat.le_trans q.len (by decide)
  exact ⟨k _ h.name,fun n hn=>k n (h.needs n hn),Nat.le_trans h.needs4 (by decide),fun n hn=>k n (h.gives n hn),Nat.le_trans h.gives3 (by decide)⟩
theorem aaI {p:List ai} (h:bZ p):∃ τ,aK PP topN (d + 4) gf [a5 p] σ=.ok (.bool true) (σ++τ):=by
  obtain ⟨τ,e⟩:=h6x (d:=d) (σ:=σ) (fun s hs=>aeD (h.steps s hs)) (Nat.le_trans h.most (by decide))
  rw [aaJ.mpr h] at e
  exact ⟨τ,e⟩
end
end Mine
namespace Mine
open PySem
noncomputable def lu (p:List ai) (n:Nat) (g o h gn od:Nat):List (Str × PV):=[("plan",a5 p),("turns",.int n),("givers",.ref g),("outer",.ref o),("here",.ref h),("gone",.ref gn),("order",.ref od)]
noncomputable def kT (p:List ai):List Str:=zl (p.flatMap (·.gives)) (p.flatMap (·.needs))
structure p4 (p:List ai) (n:Nat) (es:List ((Str × Int) × PV)) (i g o h gn od:Nat) (σ:ab):Prop where
  ns:σ[i]?=some (.ns (lu p n g o h gn od))
  gv:σ[g]?=some (.ds (aU p))
  ot:σ[o]?=some (.lst ((kT p).map .str))
  hr:σ[h]?=some (.dp es)
  ne:h ≠ i/\h ≠ g/\h ≠ o
theorem p4.more {p:List ai} {n:Nat} {es:List ((Str × Int) × PV)} {i g o h gn od:Nat} {σ τ:ab} (b:p4 p n es i g o h gn od σ):p4 p n es i g o h gn od (σ++τ):=by
  have k:∀ {j:Nat} {m:MO},σ[j]?=some m->(σ++τ)[j]?=some m:=fun {j m} e=>by rw [List.getElem?_append_left (List.getElem?_eq_some_iff.mp e).1]; exact e
  exact ⟨k b.ns,k b.gv,k b.ot,k b.hr,b.ne⟩
theorem p4.other {p:List ai} {n:Nat} {es:List ((Str × Int) × PV)} {i g o h gn od j:Nat} {m:MO} {σ:ab} (b:p4 p n es i g o h gn od σ) (hj:j ≠ i/\j ≠ g/\j ≠ o/\j ≠ h):p4 p n es i g o h gn od (σ.set j m):=by
  have k:∀ {a:Nat},j ≠ a->(σ.set j m)[a]?=σ[a]?:=fun {a} e=>List.getElem?_set_ne e
  exact ⟨(k hj.1).trans b.ns,(k hj.2.1).trans b.gv,(k hj.2.2.1).trans b.ot,(k hj.2.2.2).trans b.hr,b.ne⟩
theorem p4.put {p:List ai} {n:Nat} {es es':List ((Str × Int) × PV)} {i g o h gn od:Nat} {σ:ab} (b:p4 p n es i g o h gn od σ):p4 p n es' i g o h gn od (σ.set h (.dp es')):=by
  have k:∀ {a:Nat},h ≠ a->(σ.set h (.dp es'))[a]?=σ[a]?:=fun {a} e=>List.getElem?_set_ne e
  exact ⟨(k b.ne.1).trans b.ns,(k b.ne.2.1).trans b.gv,(k b.ne.2.2).trans b.ot,List.getElem?_set_self (List.getElem?_eq_some_iff.mp b.hr).1,b.ne⟩
theorem zr:(("turns" : Str) ∉ (["plan"]:List Str))/\(("givers" : Str) ∉ (["plan", "turns"]:List Str))/\(("outer" : Str) ∉ (["plan", "turns", "givers"]:List Str))/\(("here" : Str) ∉ (["plan", "turns", "givers", "outer"]:List Str)) ∧
    (("gone" : Str) ∉ (["plan", "turns", "givers", "outer", "here"]:List Str))/\(("order" : Str) ∉ (["plan", "turns", "givers", "outer", "here", "gone"]:List Str)):=by decide +kernel
section
variable {d:Nat} {σ:ab}
theorem acJ {p:List ai} {n:Nat} (h:bZ p) (h1:1 <= n) (h2:n <= 200):∃ (υ:ab) (g o hr gn od:Nat),aK PP topN (d + 5) fU [.inst af σ.length,a5 p,.int n] (σ++[.ns []])=.ok .none (σ++υ)/\p4 p n [] σ.length g o hr gn od (σ++υ)/\σ.length < g/\σ.length < o/\σ.length < hr/\(σ.length < g/\g < o/\o < hr/\hr < gn/\gn < od)/\(σ++υ)[gn]?=some (.dp [])/\(σ++υ)[od]?=some (.lst []):=by
  obtain ⟨τ,hp⟩:=aaI (d:=d) (σ:=σ++[.ns []]) h
  rw [ba (fn:=fX) rfl rfl]
  obtain ⟨f1,f2,f3,f4,f5,f6⟩:=zr
  generalize jH:([some (.inst af σ.length),some (a5 p),some (.int n),none,none,none,none,none,none,none]:au)=ρ
  have o0:∀ {st:ab},ev (CC (d + 4)) (.v 0) ρ st=.ok (.inst af σ.length) st:=fun {st}=>by subst jH; rfl
  have o1:∀ {st:ab},ev (CC (d + 4)) (.v 1) ρ st=.ok (a5 p) st:=fun {st}=>by subst jH; rfl
  have o2:∀ {st:ab},ev (CC (d + 4)) (.v 2) ρ st=.ok (.int n) st:=fun {st}=>by subst jH; rfl
  have s0:ex (CC (d + 4)) topN hV ρ (σ++[.ns []])=.next ρ (σ++.ns []::τ):=by
    have c1:ev (CC (d + 4)) (.call gf (.cons (.v 1) .nil)) ρ (σ++[.ns []])=.ok (.bool true) (σ++.ns []::τ):=by
      have c:ev (CC (d + 4)) (.call gf (.cons (.v 1) .nil)) ρ (σ++[.ns []])=.ok (.bool true) (σ++[.ns []]++τ):=bm o1 hp
      rw [List.append_assoc] at c; exact c
    exact (aw (dm (q:=true) (dR c1))).trans ah
  have s1:ex (CC (d + 4)) topN hJ ρ (σ++.ns []::τ)=.next ρ (σ++.ns []::τ):=by
    have c:aK PP topN (d + 4) cS [.int n,.int 1,.int 200] (σ++.ns []::τ)=.ok (.bool true) (σ++.ns []::τ):=by
      rw [adK,decide_eq_true (show (1:Int) <= n from Int.ofNat_le.mpr h1),decide_eq_true (show (n:Int) <= 200 from Int.ofNat_le.mpr h2)]; rfl
    exact (aw (dm (q:=true) (dR (ju (f:=cS) (y:=.int 1) (z:=.int 200) (σ₂:=σ++.ns []::τ) (σ₃:=σ++.ns []::τ) o2 rfl rfl c)))).trans ah
  have at_:∀ {k:Str} {v:PV} {fs:List (Str × PV)} {υ υ':ab} {x:X},ev (CC (d + 4)) x ρ (σ++.ns fs::υ)=.ok v (σ++.ns fs::υ')->k ∉ fs.map (·.1)->fs.length < 100->ex (CC (d + 4)) topN (.asgAttr af (.v 0) k x) ρ (σ++.ns fs::υ)=.next ρ (σ++.ns (fs++[(k,v)])::υ'):=fun {k v fs υ υ' x} hx hk hl=>by
    rw [<- xi hk]
    exact aeE hx o0 hl
  have s2:=at_ (k := "plan") (fs:=[]) (υ:=τ) o1 (by simp) (by decide)
  have s3:=at_ (k := "turns") (fs:=[("plan",a5 p)]) (υ:=τ) o2 f1 (by simp)
  have app:∀ {a b:ab} {m:MO},(σ++m::a)++b=σ++m::(a++b):=fun {a b m}=>by rw [List.append_assoc]; rfl
  have len:∀ {a:ab} {m:MO},(σ++m::a).length=σ.length + a.length + 1:=fun {a m}=>by rw [List.length_append,List.length_cons]; rfl
  have cv:∀ {x:X} {k:Nat} {a b:ab} {m:MO},ev (CC (d + 4)) x ρ (σ++m::a)=.ok (.ref ((σ++m::a).length + k)) ((σ++m::a)++b)->ev (CC (d + 4)) x ρ (σ++m::a)=.ok (.ref (σ.length + a.length + 1 + k)) (σ++m::(a++b)):=fun {x k a b m} c=>by
    rw [len,app] at c; exact c
  have s4:=at_ (k := "givers") (x:=.call iB (.cons (.v 1) .nil)) (fs:=[("plan",a5 p),("turns",.int n)]) (υ:=τ) (υ':=τ++[.ds (aU p)]) (v:=.ref (σ.length + τ.length + 1)) (cv (k:=0) (bm o1 (t9 (d:=d + 3) h))) f2 (by simp)
  have s5:=at_ (k := "outer") (x:=.call kc (.cons (.v 1) .nil)) (fs:=[("plan",a5 p),("turns",.int n),("givers",.ref (σ.length + τ.length + 1))]) (υ:=τ++[.ds (aU p)]) (υ':=τ++[.ds (aU p)]++[.ds (aU p),.lst ((kT p).map .str)]) (v:=.ref (σ.length + (τ++[MO.ds (aU p)]).length + 1 + 1)) (cv (k:=1) (a:=τ++[.ds (aU p)]) (b:=[.ds (aU p),.lst ((kT p).map .str)]) (bm (f:=kc) o1 (ack (d:=d + 2) h))) f3 (by simp)
  generalize acK:τ++[MO.ds (aU p)]++[.ds (aU p),.lst ((kT p).map .str)]=gu at s5
  generalize hg:σ.length + τ.length + 1=g at s4 s5
  generalize ho:σ.length + (τ++[MO.ds (aU p)]).length + 1 + 1=o at s5
  have s6:=at_ (k := "here") (x:=.dnew true) (fs:=[("plan",a5 p),("turns",.int n),("givers",.ref g),("outer",.ref o)]) (υ:=gu) (υ':=gu++[.dp []]) (v:=.ref (σ.length + gu.length + 1)) (cv (k:=0) rfl) f4 (by simp)
  generalize hh:σ.length + gu.length + 1=hr at s6
  have s7:=at_ (k := "gone") (x:=.dnew true) (fs:=[("plan",a5 p),("turns",.int n),("givers",.ref g),("outer",.ref o),("here",.ref hr)]) (υ:=gu++[.dp []]) (υ':=gu++[.dp []]++[.dp []]) (v:=.ref (σ.length + (gu++[MO.dp []]).length + 1)) (cv (k:=0) rfl) f5 (by simp)
  generalize hgn:σ.length + (gu++[MO.dp []]).length + 1=gn at s7
  have s8:=at_ (k := "order") (x:=.lst false .nil) (fs:=[("plan",a5 p),("turns",.int n),("givers",.ref g),("outer",.ref o),("here",.ref hr),("gone",.ref gn)]) (υ:=gu++[.dp []]++[.dp []]) (υ':=gu++[.dp []]++[.dp []]++[.lst []]) (v:=.ref (σ.length + (gu++[MO.dp []]++[MO.dp []]).length + 1)) (cv (k:=0) rfl) f6 (by simp)
  generalize hod:σ.length + (gu++[MO.dp []]++[MO.dp []]).length + 1=od at s8
  have body:ex (CC (d + 4)) topN fX.body ρ (σ++[.ns []])=.next ρ (σ++.ns (lu p n g o hr gn od)::(gu++[.dp []]++[.dp []]++[.lst []])):=
    (aa s0).trans ((aa s1).trans ((aa s2).trans ((aa s3).trans ((aa s4).trans ((aa s5).trans ((aa s6).trans ((aa s7).trans ((aa s8).trans ah))))))))
  have l2:gu.length=τ.length + 3:=by subst acK; simp
  have ho':o=σ.length + τ.length + 3:=by subst ho; simp; omega
  have at2:∀ {j:Nat} {m:MO},gu[j]?=some m->(σ++.ns (lu p n g o hr gn od)::(gu++[.dp []]++[.dp []]++[.lst []]))[σ.length + j + 1]?=some m:=fun {j m} e=>by
    have hj:=(List.getElem?_eq_some_iff.mp e).1
    rw [Nat.add_assoc,List.getElem?_append_right (Nat.le_add_right _ _),Nat.add_sub_cancel_left,List.getElem?_cons_succ,List.append_assoc,List.append_assoc,List.getElem?_append_left hj]; exact e
  have a0:σ.length < g:=hg ▸ Nat.lt_succ_of_le (Nat.le_add_right _ _)
  have a3:σ.length < o:=by rw [ho',Nat.add_assoc]; exact Nat.lt_add_of_pos_right (Nat.succ_pos _)
  have hh2:hr=σ.length + τ.length + 4:=by rw [<- hh,l2]; rfl
  have a1:g < hr:=by rw [hh2,<- hg]; exact Nat.add_lt_add_left (by decide) _
  have a2:o < hr:=by rw [hh2,ho']; exact Nat.lt_succ_self _
  refine ⟨_,g,o,hr,gn,od,by subst jH; exact (congrArg aM body).trans rfl,⟨?_,?_,?_,?_,?_⟩,?_⟩
  · rw [List.getElem?_append_right (Nat.le_refl _),Nat.sub_self]; rfl
  · have q:=at2 (j:=τ.length) (m:=.ds (aU p)) (by subst acK; simp)
    rw [hg] at q; exact q
  · have q:=at2 (j:=τ.length + 2) (m:=.lst ((kT p).map .str)) (by subst acK; simp)
    rw [show σ.length + (τ.length + 2) + 1=o from ho'.symm] at q; exact q
  · rw [List.getElem?_append_right (Nat.le_of_lt (Nat.lt_trans a0 a1)),show hr - σ.length=gu.length + 1 from (by rw [<- hh,Nat.add_assoc,Nat.add_sub_cancel_left]),List.getElem?_cons_succ]
    simp
  · exact ⟨Nat.ne_of_gt (Nat.lt_trans a0 a1),Nat.ne_of_gt a1,Nat.ne_of_gt a2⟩
  · have hg2:gn=hr + 1:=by rw [<- hgn,<- hh,List.length_append]; rfl
    have ho2:od=gn + 1:=by rw [<- hod,<- hgn,List.length_append (bs:=[MO.dp []])]; rfl
    have go:g < o:=by rw [ho',<- hg]; exact Nat.add_lt_add_left (by decide) _
    have i2:∀ {k j:Nat} {m:MO} {l:ab},k=σ.length + j + 1->l[j]?=some m->(σ++.ns (lu p n g o hr gn od)::l)[k]?=some m:=fun {k j m l} hk e=>by
      rw [hk,Nat.add_assoc,List.getElem?_append_right (Nat.le_add_right _ _),Nat.add_sub_cancel_left,List.getElem?_cons_succ]; exact e
    refine ⟨a0,a3,Nat.lt_trans a0 a1,⟨a0,go,a2,hg2 ▸ Nat.lt_succ_self _,ho2 ▸ Nat.lt_succ_self _⟩,i2 (j:=gu.length + 1) ?_ ?_,i2 (j:=gu.length + 2) ?_ ?_⟩
    · rw [hg2,<- hh]; rfl
    · simp
    · rw [ho2,hg2,<- hh]; rfl
    · simp
end
theorem xH {G acc:List Str} {n x:Str}:x ∈ b5 G acc n ↔ x ∈ acc\/(x=n/\n ∉ G):=by
  unfold b5
  by_cases h1:n ∈ G
  · rw [decide_eq_true h1]
    exact ⟨.inl,fun h=>h.elim id fun z=>absurd h1 z.2⟩
  · rw [decide_eq_false h1]
    by_cases h2:n ∈ acc
    · rw [decide_eq_true h2]
      exact ⟨.inl,fun h=>h.elim id fun z=>z.1 ▸ h2⟩
    · rw [decide_eq_false h2]
      show x ∈ acc++[n] ↔ _
      rw [List.mem_append,List.mem_singleton]
      exact ⟨fun h=>h.imp id fun z=>⟨z,h1⟩,fun h=>h.imp id fun z=>z.1⟩
theorem aed {G:List Str} {x:Str}:∀ (ns acc:List Str),x ∈ ns.foldl (b5 G) acc ↔ x ∈ acc\/(x ∈ ns/\x ∉ G):=by
  intro ns
  induction ns with
  | nil=>intro acc; exact ⟨.inl,fun h=>h.elim id fun z=>nomatch z.1⟩
  | cons n ns ih =>
    intro acc
    rw [List.foldl_cons,ih,xH,List.mem_cons]
    constructor
    · rintro ((h | ⟨rfl,h⟩) | h)
      · exact .inl h
      · exact .inr ⟨.inl rfl,h⟩
      · exact .inr ⟨.inr h.1,h.2⟩
    · rintro (h | ⟨rfl | h,h'⟩)
      · exact .inl (.inl h)
      · exact .inl (.inr ⟨rfl,h'⟩)
      · exact .inr ⟨h,h'⟩
theorem acn {p:List ai} {x:Str}:x ∈ kT p ↔ x ∈ p.flatMap (·.needs)/\x ∉ p.flatMap (·.gives):=by
  unfold kT zl
  rw [aed]
  exact ⟨fun h=>h.elim (fun z=>nomatch z) id,.inr⟩
end Mine
namespace Mine
open PySem
section
variable {C:bc} {ρ:au} {σ σ₁ σ₂:ab}
theorem cp {c i:Nat} {o:X} {n:Str} {v:PV} {fs:List (Str × PV)} (ho:ev C o ρ σ=.ok (.inst c i) σ₁) (hs:σ₁[i]?=some (.ns fs)) (hv:ac n fs=some v):ev C (.attr c o n) ρ σ=.ok v σ₁:=by
  rw [yC,ho,az]
  unfold sv
  dsimp only
  rw [if_pos rfl,hs]
  dsimp only
  rw [hv]; rfl
theorem cA {c i f:Nat} {o args:X} {n:Str} {vs:List PV} {fs:List (Str × PV)} {r:ae PV} (ho:ev C o ρ σ=.ok (.inst c i) σ₁) (hs:σ₁[i]?=some (.ns fs)) (hn:ac n fs=none) (ha:evs C args ρ σ₁=.ok vs σ₂) (h:C.call f (.inst c i::vs) σ₂=r):ev C (.meth c f n o args) ρ σ=r:=by
  rw [yB,ho,az]
  unfold ka
  dsimp only
  rw [if_pos rfl,hs]
  dsimp only
  rw [hn]
  dsimp only
  rw [ha]; exact h
end
section
variable {p:List ai} {n g o h gn od:Nat}
end
section
variable {C:bc} {ρ:au} {σ:ab}
theorem zN {f:PV->ab->ae (Option PV)} {q:PV->Option PV}:∀ (xs:List PV),(∀ x ∈ xs,f x σ=.ok (q x) σ)->bG none f xs σ=.ok (xs.filterMap q) σ:=by
  intro xs
  induction xs with
  | nil=>intro _; exact if_pos trivial
  | cons x xs ih =>
    intro h
    refine (if_pos trivial).trans ?_
    rw [h x List.mem_cons_self]
    show (bG none f xs σ).bind _=_
    rw [ih fun y hy=>h y (List.mem_cons_of_mem _ hy)]
    show ae.ok (zM (q x) (xs.filterMap q)) σ=_
    rw [List.filterMap_cons]
    cases q x <;> rfl
theorem xb {t:Nat} {cap:List (Option Nat)} {elt cond it:X} {xs:List PV} (q:PV->Option PV) (hit:evIt C it ρ σ=.ok (xs,none) σ) (hl:xs.length <= ao)
    (hc:∀ x ∈ xs,tst C cond ((aY cap ρ).set t (some x)) σ=.ok (q x).isSome σ) (he:∀ x ∈ xs,∀ v,q x=some v->ev C elt ((aY cap ρ).set t (some x)) σ=.ok v σ) (hh:C.hd=false:=by first | rfl | assumption) :
    ev C (.comp true t cap elt cond it) ρ σ=.ok (.fl (xs.filterMap q)) σ:=by
  rw [jt,hh,hit]
  show d4 xs.length (bG none (fun x σ=>((tst C cond ((aY cap ρ).set t (some x)) σ).bind fun b σ=>if b=true then (ev C elt ((aY cap ρ).set t (some x)) σ).bind fun v σ=>.ok (some v) σ else .ok none σ)) xs σ) _=_
  rw [zN (q:=q) xs fun x hx=>by
    show (tst C cond ((aY cap ρ).set t (some x)) σ).bind _=_
    rw [hc x hx,az]
    cases hq:q x with
    | none=>rfl
    | some v =>
      show (ev C elt ((aY cap ρ).set t (some x)) σ).bind _=_
      rw [he x hx v hq]; rfl]
  exact rC (Nat.le_trans (List.length_filterMap_le _ _) hl)
theorem afy {r:Nat} {x:Str} {j:Int} {es:List ((Str × Int) × PV)} (h:σ[r]?=some (.dp es)):lr .get (.ref r) [.tup [.str x,.int j]] σ=.ok ((ac (x,j) es).getD .none) σ:=by
  show qk (.ref r) (.tup [.str x,.int j]) σ=_
  unfold qk; dsimp only; rw [h]; rfl
theorem afA {r:Nat} {es:List ((Str × Int) × PV)} (h:σ[r]?=some (.dp es)):qh .get (.ref r) σ=true:=by
  show rK (.ref r) σ=true
  unfold rK; dsimp only; rw [h]
theorem sQ {r:Nat} {x:Str} {j:Int} {es:List ((Str × Int) × PV)} (h:σ[r]?=some (.dp es)):bp .isin (.tup [.str x,.int j]) (.ref r) σ=.ok (ac (x,j) es).isSome σ:=by
  show ae.ofOpt (b9 (.tup [.str x,.int j]) (.ref r) σ) σ=_
  have:b9 (.tup [.str x,.int j]) (.ref r) σ=some (ac (x,j) es).isSome:=by unfold b9; dsimp only; rw [h]; rfl
  rw [this]; rfl
theorem ae4 {r:Nat} {x:Str} {j:Int} {v:PV} {es:List ((Str × Int) × PV)} (h:σ[r]?=some (.dp es)) (hv:ac (x,j) es=some v):dg (.ref r) (.tup [.str x,.int j]) σ=.ok v σ:=by
  show p9 (.ref r) (.tup [.str x,.int j]) σ=_
  unfold p9; dsimp only; rw [h]
  show ae.ofOpt (ac (x,j) es) σ=_
  rw [hv]; rfl
end
noncomputable def rf (x:Str) (n:Nat) (es:List ((Str × Int) × PV)):List PV:=(List.range n).filterMap fun (t:Nat)=>(ac (x,(t:Int)) es).map fun v=>.tup [.int t,v]
theorem yE {es:List ((Str × Int) × PV)} {k:Str × Int} {v:PV} (h:ac k es=none):bL k v es=es++[(k,v)]:=by
  unfold bL
  rw [if_neg]
  intro z
  obtain ⟨e,he,hk⟩:=List.any_eq_true.mp z
  unfold ac at h
  rw [Option.map_eq_none_iff,List.find?_eq_none] at h
  exact h e he hk
noncomputable def mE (p:List ai) (x:Str):Option ai:=p.find? fun s=>decide (x ∈ s.gives)
noncomputable def da:cV->Bool
  | .word w=>w == "later"
  | _=>false
noncomputable def cB (p:List ai) (x:Str) (j:Int):Bool:=
  match mE p x with
  | some s=>!da s.rule || decide (j > 0)
  | none=>false
theorem p3 {x:Str}:∀ {p:List ai},ac x (aU p)=(mE p x).map ai.pv:=by
  intro p
  induction p with
  | nil=>rfl
  | cons s p ih =>
    unfold mE
    rw [List.find?_cons]
    have e:aU (s::p)=(s.gives.map fun g=>(g,s.pv))++aU p:=rfl
    unfold ac at ih ⊢
    rw [e,List.find?_append]
    by_cases hx:x ∈ s.gives
    · rw [decide_eq_true hx]
      have:∀ (l:List Str),x ∈ l->(l.map fun g=>(g,s.pv)).find? (fun e=>decide (e.1=x))=some (x,s.pv):=by
        intro l
        induction l with
        | nil=>intro h; contradiction
        | cons a l ih2 =>
          intro h
          rw [List.map_cons,List.find?_cons]
          by_cases ha:a=x
          · subst ha; simp
          · rw [decide_eq_false ha]
            exact ih2 ((List.mem_cons.mp h).resolve_left fun z=>ha z.symm)
      rw [this _ hx]; rfl
    · rw [decide_eq_false hx]
      have:(s.gives.map fun g=>(g,s.pv)).find? (fun e=>decide (e.1=x))=none:=by
        rw [List.find?_eq_none]
        intro e he
        obtain ⟨g,hg,rfl⟩:=List.mem_map.mp he
        simp; rintro rfl; exact hx hg
      rw [this]
      exact ih
section
variable {σ:ab}
theorem aet {r:Nat} {es:List (Str × PV)} {k:Str} (h:σ[r]?=some (.ds es)):bp .isin (.str k) (.ref r) σ=.ok (ac k es).isSome σ:=by
  show ae.ofOpt (b9 (.str k) (.ref r) σ) σ=_
  have:b9 (.str k) (.ref r) σ=some (ac k es).isSome:=by unfold b9; dsimp only; rw [h]
  rw [this]; rfl
theorem ae3 {r:Nat} {es:List (Str × PV)} {k:Str} {v:PV} (h:σ[r]?=some (.ds es)) (hv:ac k es=some v):dg (.ref r) (.str k) σ=.ok v σ:=by
  show p9 (.ref r) (.str k) σ=_
  unfold p9; dsimp only; rw [h]
  show ae.ofOpt (ac k es) σ=_
  rw [hv]; rfl
end
end Mine
namespace Mine
open PySem
noncomputable abbrev cD:=List ((Str × Int) × PV)
structure Ix where
  i:Nat
  g:Nat
  o:Nat
  h:Nat
  gn:Nat
  od:Nat
structure Ix.Lt (X:Ix):Prop where
  a:X.i < X.g
  b:X.g < X.o
  c:X.o < X.h
  d:X.h < X.gn
  e:X.gn < X.od
structure Bo (p:List ai) (n:Nat) (es gs:cD) (os:List PV) (X:Ix) (σ:ab):Prop where
  ns:σ[X.i]?=some (.ns (lu p n X.g X.o X.h X.gn X.od))
  gv:σ[X.g]?=some (.ds (aU p))
  ot:σ[X.o]?=some (.lst ((kT p).map .str))
  hr:σ[X.h]?=some (.dp es)
  go:σ[X.gn]?=some (.dp gs)
  od:σ[X.od]?=some (.lst os)
  lt:X.Lt
structure bM (X:Ix) (σ σ':ab):Prop where
  len:σ.length <= σ'.length
  at_:∀ (j:Nat) (m:MO),j ≠ X.h->j ≠ X.gn->j ≠ X.od->σ[j]?=some m->σ'[j]?=some m
theorem bM.refl {X:Ix} {σ:ab}:bM X σ σ:=⟨Nat.le_refl _,fun _ _ _ _ _ h=>h⟩
theorem bM.trans {X:Ix} {a b c:ab} (k:bM X a b) (l:bM X b c):bM X a c:=⟨Nat.le_trans k.len l.len,fun j m h1 h2 h3 h=>l.at_ j m h1 h2 h3 (k.at_ j m h1 h2 h3 h)⟩
theorem d0 {σ τ:ab} {j:Nat} {m:MO} (e:σ[j]?=some m):(σ++τ)[j]?=some m:=by rw [List.getElem?_append_left (List.getElem?_eq_some_iff.mp e).1]; exact e
theorem bP {σ:ab} {j k:Nat} {m m':MO} (hj:k ≠ j) (e:σ[j]?=some m):(σ.set k m')[j]?=some m:=(List.getElem?_set_ne hj).trans e
theorem qm {σ:ab} {j:Nat} {m m':MO} (e:σ[j]?=some m):(σ.set j m')[j]?=some m':=List.getElem?_set_self (List.getElem?_eq_some_iff.mp e).1
theorem bM.app {X:Ix} {σ τ:ab}:bM X σ (σ++τ):=⟨by rw [List.length_append]; exact Nat.le_add_right _ _,fun _ _ _ _ _ h=>d0 h⟩
theorem bM.set {X:Ix} {σ:ab} {j:Nat} {m:MO} (hj:j=X.h\/j=X.gn\/j=X.od):bM X σ (σ.set j m):=⟨by rw [List.length_set]; exact Nat.le_refl _,fun k m' h1 h2 h3 h=>bP (fun q=>by
  subst q
  rcases hj with q | q | q
  · exact h1 q
  · exact h2 q
  · exact h3 q) h⟩
section
variable {p:List ai} {n:Nat} {es gs:cD} {os:List PV} {X:Ix} {σ:ab}
theorem Bo.more {τ:ab} (b:Bo p n es gs os X σ):Bo p n es gs os X (σ++τ):=⟨d0 b.ns,d0 b.gv,d0 b.ot,d0 b.hr,d0 b.go,d0 b.od,b.lt⟩
theorem Ix.Lt.hi (l:X.Lt):X.h ≠ X.i:=Nat.ne_of_gt (Nat.lt_trans l.a (Nat.lt_trans l.b l.c))
theorem Ix.Lt.hg (l:X.Lt):X.h ≠ X.g:=Nat.ne_of_gt (Nat.lt_trans l.b l.c)
theorem Ix.Lt.gi (l:X.Lt):X.gn ≠ X.i:=Nat.ne_of_gt (Nat.lt_trans l.a (Nat.lt_trans l.b (Nat.lt_trans l.c l.d)))
theorem Ix.Lt.gg (l:X.Lt):X.gn ≠ X.g:=Nat.ne_of_gt (Nat.lt_trans l.b (Nat.lt_trans l.c l.d))
theorem Ix.Lt.go (l:X.Lt):X.gn ≠ X.o:=Nat.ne_of_gt (Nat.lt_trans l.c l.d)
theorem Ix.Lt.oh (l:X.Lt):X.od ≠ X.h:=Nat.ne_of_gt (Nat.lt_trans l.d l.e)
theorem Ix.Lt.oo (l:X.Lt):X.od ≠ X.o:=Nat.ne_of_gt (Nat.lt_trans l.c (Nat.lt_trans l.d l.e))
theorem Ix.Lt.og (l:X.Lt):X.od ≠ X.g:=Nat.ne_of_gt (Nat.lt_trans l.b (Nat.lt_trans l.c (Nat.lt_trans l.d l.e)))
theorem Ix.Lt.oi (l:X.Lt):X.od ≠ X.i:=Nat.ne_of_gt (Nat.lt_trans l.a (Nat.lt_trans l.b (Nat.lt_trans l.c (Nat.lt_trans l.d l.e))))
theorem Bo.here {es':cD} (b:Bo p n es gs os X σ):Bo p n es' gs os X (σ.set X.h (.dp es')):=
  ⟨bP b.lt.hi b.ns,bP b.lt.hg b.gv,bP (Nat.ne_of_gt b.lt.c) b.ot,qm b.hr,bP (Nat.ne_of_lt b.lt.d) b.go,bP b.lt.oh.symm b.od,b.lt⟩
theorem Bo.gone {gs':cD} (b:Bo p n es gs os X σ):Bo p n es gs' os X (σ.set X.gn (.dp gs')):=
  ⟨bP b.lt.gi b.ns,bP b.lt.gg b.gv,bP b.lt.go b.ot,bP (Nat.ne_of_gt b.lt.d) b.hr,qm b.go,bP (Nat.ne_of_lt b.lt.e) b.od,b.lt⟩
theorem Bo.order {os':List PV} (b:Bo p n es gs os X σ):Bo p n es gs os' X (σ.set X.od (.lst os')):=
  ⟨bP b.lt.oi b.ns,bP b.lt.og b.gv,bP b.lt.oo b.ot,bP b.lt.oh b.hr,bP (Nat.ne_of_gt b.lt.e) b.go,qm b.od,b.lt⟩
end
noncomputable def cN:cV->Bool
  | .word w=>w == "choose"
  | _=>false
noncomputable def j4:PV->Bool
  | .int i=>i == 0
  | _=>false
noncomputable def mM (es:cD) (s:ai) (t:Int):List Str:=
  if cN s.rule=true then (match s.needs with
    | [a,b,c]=>(match ac (a,t) es with
      | none=>[a]
      | some v=>if j4 v=true then [b] else [c])
    | _=>[])
  else s.needs
noncomputable def cE (es:cD) (s:ai) (t:Int):Option Str:=(mM es s t).find? fun x=>(ac (x,t) es).isNone
noncomputable def nL (es gs:cD) (s:ai) (t:Int):Bool:=(ac (s.name,t) gs).isNone && (cE es s t).isNone
noncomputable def acp:Option Str->PV
  | some x=>.str x
  | none=>.none
noncomputable def dO (es:cD):Prop:=∀ k v,ac k es=some v->∃ i:Int,v=.int i/\0 <= i/\i <= 999999
section
variable {p:List ai} {n:Nat} {es gs:cD} {os:List PV} {X:Ix} {σ:ab} {d:Nat}
theorem t6 {x:Str} {t:Int} (b:Bo p n es gs os X σ):aK PP topN (d + 1) cy [.inst af X.i,.str x,.int t] σ=.ok (.bool (ac (x,t) gs).isSome) σ:=by
  rw [ba (fn:=fq) rfl rfl]
  have:ex (CC d) topN fq.body [some (.inst af X.i),some (.str x),some (.int t)] σ=.ret (.bool (ac (x,t) gs).isSome) [some (.inst af X.i),some (.str x),some (.int t)] σ:=
    ak (av (gZ (x:=.tup [.str x,.int t]) (σ₁:=σ) rfl (cp (i:=X.i) (σ₁:=σ) (v:=.ref X.gn) rfl b.ns rfl) (sQ b.go)))
  exact (congrArg aM this).trans rfl
theorem acq {r:Nat} {x:Str} {j:Int} {es:cD} (h:σ[r]?=some (.dp es)):bp .notin (.tup [.str x,.int j]) (.ref r) σ=.ok (ac (x,j) es).isNone σ:=by
  show ae.ofOpt ((b9 (.tup [.str x,.int j]) (.ref r) σ).map (!·)) σ=_
  have:b9 (.tup [.str x,.int j]) (.ref r) σ=some (ac (x,j) es).isSome:=by unfold b9; dsimp only; rw [h]; rfl
  rw [this]
  cases ac (x,j) es <;> rfl
theorem yy {bnd:PV->au->Option au} {f:au->ab->bz} {x v:PV} {xs:List PV} {ρ ρ₁ ρ₂:au} {σ₂:ab} (hb:bnd x ρ=some ρ₁) (h:f ρ₁ σ=.ret v ρ₂ σ₂):aZ none bnd f (x::xs) ρ σ=.ret v ρ₂ σ₂:=by
  refine (if_pos trivial).trans ?_
  rw [hb]; show nQ _ (f ρ₁ σ)=_; rw [h]; rfl
theorem aaT {t:Int} {sp pl:PV} {y:Option PV} (b:Bo p n es gs os X σ):∀ (ns:List Str) (z:Option PV),∃ z',
    aZ none (bq 5) (fun ρ σ=>ex (CC d) topN eH ρ σ) (ns.map .str) [some (.inst af X.i),some sp,some (.int t),some pl,y,z] σ =
      match ns.find? fun x=>(ac (x,t) es).isNone with
      | some x=>.ret (.str x) [some (.inst af X.i),some sp,some (.int t),some pl,y,z'] σ
      | none=>.next [some (.inst af X.i),some sp,some (.int t),some pl,y,z'] σ:=by
  intro ns
  induction ns with
  | nil=>intro z; exact ⟨z,bJ⟩
  | cons x ns ih =>
    intro z
    have tt:tst (CC d) (.cmp (.tup (.cons (.v 5) (.cons (.v 2) .nil))) .notin (.attr af (.v 0) "here")) [some (.inst af X.i),some sp,some (.int t),some pl,y,some (.str x)] σ=.ok (ac (x,t) es).isNone σ:=
      bC (x:=.tup [.str x,.int t]) (σ₁:=σ) rfl (cp (i:=X.i) (σ₁:=σ) (v:=.ref X.h) rfl b.ns rfl) (acq b.hr)
    rw [List.find?_cons]
    cases hq:(ac (x,t) es).isNone with
    | true =>
      rw [hq] at tt
      exact ⟨some (.str x),yy (ρ₁:=[some (.inst af X.i),some sp,some (.int t),some pl,y,some (.str x)]) rfl (ak (a:=d9) ((aR tt).trans (ak (av rfl))))⟩
    | false =>
      rw [hq] at tt
      obtain ⟨z',e⟩:=ih (some (.str x))
      exact ⟨z',(bg (ρ₁:=[some (.inst af X.i),some sp,some (.int t),some pl,y,some (.str x)]) (ρ₂:=[some (.inst af X.i),some sp,some (.int t),some pl,y,some (.str x)]) (σ₂:=σ) rfl ((aa (a:=d9) ((aw tt).trans ah)).trans ah)).trans e⟩
theorem acx {t:Int} {sp pl:PV} {y z:Option PV} {ns:List Str} (b:Bo p n es gs os X σ) (hp:evIt (CC d) (.v 3) [some (.inst af X.i),some sp,some (.int t),some pl,y,z] σ=.ok (ns.map .str,none) σ) :
    aM (ex (CC d) topN (.cons cz (.cons du .nil)) [some (.inst af X.i),some sp,some (.int t),some pl,y,z] σ)=.ok (acp (ns.find? fun x=>(ac (x,t) es).isNone)) σ:=by
  obtain ⟨z',e⟩:=aaT (d:=d) (t:=t) (sp:=sp) (pl:=pl) (y:=y) b ns z
  have e2:=bU (C:=CC d) (n:=topN) (i:=5) (body:=eH) hp e
  cases hq:ns.find? fun x=>(ac (x,t) es).isNone with
  | none =>
    rw [hq] at e2
    exact (congrArg aM ((aa (a:=cz) e2).trans (ak (a:=du) (av rfl)))).trans rfl
  | some x =>
    rw [hq] at e2
    exact (congrArg aM (ak (a:=cz) e2)).trans rfl
theorem tP {r:cV} {k g:Nat} (h:bW r k g):∃ w,(∀ σ,dg r.pv (.int 0) σ=.ok (.str w) σ)/\(w == "choose")=cN r/\(cN r=true->k=3):=by
  cases h <;> first | exact ⟨_,fun _=>rfl,rfl,fun z=>by contradiction⟩ | exact ⟨_,fun _=>rfl,rfl,fun _=>rfl⟩ | exact ⟨"fixed",fun _=>rfl,by decide +kernel,fun z=>by contradiction⟩ | skip
  all_goals refine ⟨_,fun _=>rfl,rfl,fun z=>?_⟩
  all_goals (revert z; decide +kernel)
noncomputable def g9 (s:ai):Prop:=cN s.rule=false
theorem yt {s:ai} {t:Int} (b:Bo p n es gs os X σ) (hs:fH s) (hr:g9 s) (hv:dO es):aK PP topN (d + 1) dB [.inst af X.i,s.pv,.int t] σ=.ok (acp (cE es s t)) σ:=by
  rw [ba (fn:=mf) rfl rfl]
  show aM (ex (CC d) topN (.cons fm (.cons fk (.cons cz (.cons du .nil)))) [some (.inst af X.i),some s.pv,some (.int t),none,none,none] σ)=_
  obtain ⟨w,hw1,hw2,hw3⟩:=tP hs.rule
  rw [aa (a:=fm) (ρ':=[some (.inst af X.i),some s.pv,some (.int t),some (.tup (s.needs.map .str)),none,none]) (σ':=σ) rfl]
  have tt:tst (CC d) (.cmp (.sub (.sub (.v 1) (.k (.int 1))) (.k (.int 0))) .eq (.k (.str "choose"))) [some (.inst af X.i),some s.pv,some (.int t),some (.tup (s.needs.map .str)),none,none] σ=.ok (cN s.rule) σ:=by
    rw [<- hw2]
    exact bC (x:=.str w) (σ₁:=σ) (bu (x:=s.rule.pv) (σ₁:=σ) rfl (y:=.int 0) (σ₂:=σ) rfl (hw1 σ)) (y:=.str "choose") (σ₂:=σ) rfl w6
  unfold cE mM
  cases hc:cN s.rule with
  | false =>
    rw [hc] at tt
    rw [aa (a:=fk) ((aw tt).trans ah),if_neg (by decide)]
    exact acx b rfl
  | true =>
    rw [hc] at tt
    exact absurd (hc.symm.trans hr) (by decide)
theorem afb {s:ai} {t:Int} (b:Bo p n es gs os X σ) (hs:fH s) (hr:g9 s) (hv:dO es):aK PP topN (d + 2) fT [.inst af X.i,s.pv,.int t] σ=.ok (.bool (nL es gs s t)) σ:=by
  rw [ba (fn:=jX) rfl rfl]
  have e1:ev (CC (d + 1)) (.meth af cy "has_fired" (.v 0) (.cons (.sub (.v 1) (.k (.int 0))) (.cons (.v 2) .nil))) [some (.inst af X.i),some s.pv,some (.int t)] σ=.ok (.bool (ac (s.name,t) gs).isSome) σ:=
    cA (i:=X.i) (σ₁:=σ) (σ₂:=σ) (vs:=[.str s.name,.int t]) rfl b.ns rfl rfl (t6 b)
  have e2:ev (CC (d + 1)) (.meth af dB "missed" (.v 0) (.cons (.v 1) (.cons (.v 2) .nil))) [some (.inst af X.i),some s.pv,some (.int t)] σ=.ok (acp (cE es s t)) σ:=
    cA (i:=X.i) (σ₁:=σ) (σ₂:=σ) (vs:=[s.pv,.int t]) rfl b.ns rfl rfl (yt b hs hr hv)
  have e3:ev (CC (d + 1)) (.not (.meth af cy "has_fired" (.v 0) (.cons (.sub (.v 1) (.k (.int 0))) (.cons (.v 2) .nil)))) [some (.inst af X.i),some s.pv,some (.int t)] σ=.ok (.bool (ac (s.name,t) gs).isNone) σ:=by
    rw [afH,e1]
    cases ac (s.name,t) gs <;> rfl
  have e4:ev (CC (d + 1)) (.cmp (.meth af dB "missed" (.v 0) (.cons (.v 1) (.cons (.v 2) .nil))) .is (.k .none)) [some (.inst af X.i),some s.pv,some (.int t)] σ=.ok (.bool (cE es s t).isNone) σ:=
    gZ e2 (y:=.none) (σ₂:=σ) rfl (by cases cE es s t <;> rfl)
  exact (congrArg aM (ak (a:=hG) (av (kI (pr e3 fun _=>io e4))))).trans rfl
end
end Mine
namespace Mine
open PySem
noncomputable def dS (vs:List PV):List Int:=(bF vs).getD []
noncomputable def u7 (l:List Int):Int:=l.foldl (fun a x=>a * x % 1000000) 1
noncomputable def nU:List Int->Int
  | []=>0
  | x::l=>l.foldl min x
noncomputable def rB:List Int->Int
  | []=>0
  | x::l=>l.foldl max x
theorem pY:∀ l:List Int,bF (l.map .int)=some l:=by
  intro l
  induction l with
  | nil=>rfl
  | cons x l ih=>show (bF (l.map .int)).map (x::·)=_; rw [ih]; rfl
theorem eW {l:List Int}:dS (l.map .int)=l:=by unfold dS; rw [pY]; rfl
section
variable {d:Nat} {σ:ab}
theorem aaH {pl:PV} {w:Option PV}:∀ (l:List Int) (a:Int) (z:Option PV),(0 <= a/\a <= 999999)->(∀ x ∈ l,0 <= x/\x <= 999999)->∃ z',aZ none (bq 2) (fun ρ σ=>ex (CC d) topN m5 ρ σ) (l.map .int) [some pl,some (.int a),z,w] σ=.next [some pl,some (.int (l.foldl (fun a x=>a * x % 1000000) a)),z',w] σ:=by
  intro l
  induction l with
  | nil=>intro a z _ _; exact ⟨z,bJ⟩
  | cons x l ih =>
    intro a z ha hl
    have hb:0 <= a * x % 1000000/\a * x % 1000000 <= 999999:=⟨Int.emod_nonneg _ (by decide),Int.le_of_lt_add_one (Int.emod_lt_of_pos _ (by decide))⟩
    obtain ⟨z',e⟩:=ih (a * x % 1000000) (some (.int x)) hb fun y hy=>hl y (List.mem_cons_of_mem _ hy)
    refine ⟨z',(bg (ρ₁:=[some pl,some (.int a),some (.int x),w]) (ρ₂:=[some pl,some (.int (a * x % 1000000)),some (.int x),w]) (σ₂:=σ) rfl ?_).trans e⟩
    refine (aa (a:=lw) (aW (aH (aH (x:=.int a) (σ₁:=σ) rfl (y:=.int x) (σ₂:=σ) rfl (mul_int (.inl ?_))) (y:=.int 1000000) (σ₂:=σ) rfl (bE (by decide))))).trans ah
    (grind)
theorem aci {l:List Int} (h:∀ x ∈ l,0 <= x/\x <= 999999):aK PP topN (d + 1) tX [.fl (l.map .int)] σ=.ok (.int (u7 l)) σ:=by
  rw [ba (fn:=ue) rfl rfl]
  obtain ⟨z,e⟩:=aaH (d:=d) (σ:=σ) (pl:=.fl (l.map .int)) (w:=none) l 1 none (by decide) h
  exact (congrArg aM ((aa (a:=n7) (ρ':=[some (.fl (l.map .int)),some (.int 1),none,none]) (σ':=σ) rfl).trans ((aa (a:=n5) (bU (ys:=l.map .int) (σ₁:=σ) rfl e)).trans (ak (a:=n4) (av rfl))))).trans rfl
theorem qN {l:List Int}:(a7 σ (.fl (l.map .int))).bind bF=some l:=pY l
theorem ae2 {l:List Int} (hl:l.length <= 1000) (h:∀ x ∈ l,0 <= x/\x <= 999999):cC .sum (.fl (l.map .int)) σ=.ok (.int l.sum) σ:=by
  show cX bF (fun l=>if l.length <= 1000/\l.all (fun x=>decide (x.natAbs < 2 ^ 40)) then ae.ok (PV.int l.sum) σ else .stuck) (.fl (l.map .int)) σ=_
  rw [jf qN]
  refine if_pos ⟨hl,List.all_eq_true.mpr fun x hx=>decide_eq_true ?_⟩
  have:=h x hx
  (grind)
theorem afl {x:Int} {l:List Int}:cC .min (.fl ((x::l).map .int)) σ=.ok (.int (nU (x::l))) σ:=by
  show cX bF (fun l=>match l with
    | x::l=>ae.ok (PV.int (l.foldl min x)) σ
    | []=>.stuck) (.fl ((x::l).map .int)) σ=_
  rw [jf qN]; rfl
theorem afn {x:Int} {l:List Int}:cC .max (.fl ((x::l).map .int)) σ=.ok (.int (rB (x::l))) σ:=by
  show cX bF (fun l=>match l with
    | x::l=>ae.ok (PV.int (l.foldl max x)) σ
    | []=>.stuck) (.fl ((x::l).map .int)) σ=_
  rw [jf qN]; rfl
noncomputable def cq:cV->List PV->PV
  | .fixed v,_=>.int v
  | .word w,vs =>
    if w == ("sum" : Str) then .int ((dS vs).sum % 1000000) else
    if w == ("times" : Str) then .int (u7 (dS vs)) else
    if w == ("least" : Str) then .int (nU (dS vs)) else
    if w == ("most" : Str) then .int (rB (dS vs)) else
    if w == ("choose" : Str) then (if j4 (vs.getD 0 .none)=true then vs.getD 1 .none else vs.getD 2 .none) else
    vs.getD 0 .none
noncomputable def kO:cV->Bool
  | .word w=>w == "way"
  | _=>false
noncomputable def kS (r:cV) (vs:List PV) (k:Nat):List PV:=
  if kO r=true then (if j4 (vs.getD 1 .none)=true then [vs.getD 0 .none,.none] else [.none,vs.getD 0 .none]) else List.replicate k (cq r vs)
noncomputable def bw (v:PV):Prop:=∃ i:Int,v=.int i/\0 <= i/\i <= 999999
noncomputable def mh (r:cV) (vs:List PV):Prop:=if cN r=true then bw (vs.getD 0 .none)/\bw (if j4 (vs.getD 0 .none)=true then vs.getD 1 .none else vs.getD 2 .none) else ∀ v ∈ vs,bw v
theorem hY:∀ {vs:List PV},(∀ v ∈ vs,bw v)->∃ l:List Int,vs=l.map .int/\∀ x ∈ l,0 <= x/\x <= 999999:=by
  intro vs
  induction vs with
  | nil=>intro _; exact ⟨[],rfl,fun x hx=>by contradiction⟩
  | cons v vs ih =>
    intro h
    obtain ⟨l,rfl,hl⟩:=ih fun w hw=>h w (List.mem_cons_of_mem _ hw)
    obtain ⟨i,rfl,hi⟩:=h v List.mem_cons_self
    exact ⟨i::l,rfl,fun x hx=>by
      rcases List.mem_cons.mp hx with rfl | hx
      · exact hi
      · exact hl x hx⟩
end
end Mine
namespace Mine
open PySem
section
variable {d:Nat} {σ:ab}
theorem bw.get {vs:List PV} {i:Nat} (h:∀ v ∈ vs,bw v) (hi:i < vs.length):∃ x:Int,vs.getD i .none=.int x/\vs[i]?=some (.int x):=by
  obtain ⟨x,hx,_⟩:=h vs[i] (List.getElem_mem hi)
  exact ⟨x,by rw [List.getD_eq_getElem?_getD,List.getElem?_eq_getElem hi]; exact hx,by rw [List.getElem?_eq_getElem hi,hx]⟩
theorem ae5 {vs:List PV} {i:Nat} {x:PV} (hl:vs.length <= 100) (h:vs[i]?=some x):dg (.fl vs) (.int (i:Nat)) σ=.ok x σ:=
  gA (Nat.le_trans hl (by decide)) (Int.natCast_nonneg i) (by rw [Int.toNat_natCast]; exact h)
theorem aeK {a b c:PV} (ha:∃ i:Int,a=.int i):aK PP topN (d + 1) wq [.fl [a,b,c]] σ=.ok (if j4 a=true then b else c) σ:=by
  obtain ⟨i,rfl⟩:=ha
  rw [ba (fn:=wY) rfl rfl]
  have t:tst (CC d) (.cmp (.sub (.v 0) (.k (.int 0))) .eq (.k (.int 0))) [some (.fl [.int i,b,c])] σ=.ok (i == 0) σ:=rfl
  show aM (ex (CC d) topN (.cons iF (.cons k7 .nil)) [some (.fl [.int i,b,c])] σ)=.ok (if (i == 0)=true then b else c) σ
  cases hi:(i == 0) with
  | true =>
    rw [hi] at t
    exact (congrArg aM (ak (a:=iF) ((aR t).trans (ak (a:=nc) (av (v:=b) (σ':=σ) rfl))))).trans rfl
  | false =>
    rw [hi] at t
    exact (congrArg aM ((aa (a:=iF) ((aw t).trans ah)).trans (ak (a:=k7) (av (v:=c) (σ':=σ) rfl)))).trans rfl
theorem ad2 {r:cV} {vs:List PV} {k:Nat} (h:bW r vs.length k) (hw:kO r=false) (hl:vs.length <= 100) (h1:1 <= vs.length) (he:mh r vs):aK PP topN (d + 2) wo [r.pv,.fl vs] σ=.ok (cq r vs) σ:=by
  rw [ba (fn:=wH) rfl rfl]
  show aM (ex (CC (d + 1)) topN (.cons cj (.cons cg (.cons cH (.cons di (.cons d3 (.cons fF (.cons iC (.cons k4 .nil)))))))) [some r.pv,some (.fl vs),none,none,none,none,none,none,none] σ)=_
  generalize hk:vs.length=m at h
  cases h with
  | sum _ _ =>
    obtain ⟨l,rfl,hv⟩:=hY (show ∀ v ∈ vs,bw v from he)
    have e:ev (CC (d + 1)) (.bin .mod (.b1 .sum (.v 1)) (.k (.int 1000000))) [some (cV.pv (.word "sum")),some (.fl (l.map .int)),some (.str "sum"),none,none,none,none,none,none] σ=.ok (.int (l.sum % 1000000)) σ:=
      aH (dk (x:=.fl (l.map .int)) (σ₁:=σ) rfl (ae2 (by rw [List.length_map] at hl; (exact Nat.le_trans (by assumption) (by decide))) hv)) (y:=.int 1000000) (σ₂:=σ) rfl (bE (by decide))
    refine (congrArg aM ((aa (a:=cj) (aW (v:=.str "sum") (σ':=σ) rfl)).trans (ak (a:=cg) ((aR (σ':=σ) rfl).trans (ak (a:=mZ) (av e)))))).trans ?_
    show ae.ok (PV.int (l.sum % 1000000)) σ=ae.ok (.int ((dS (l.map .int)).sum % 1000000)) σ
    rw [eW]
  | times _ _ =>
    obtain ⟨l,rfl,hv⟩:=hY (show ∀ v ∈ vs,bw v from he)
    refine (congrArg aM ((aa (a:=cj) (aW (v:=.str "times") (σ':=σ) rfl)).trans ((aa (a:=cg) ((aw (σ':=σ) rfl).trans ah)).trans (ak (a:=cH) ((aR (σ':=σ) rfl).trans (ak (a:=mY) (av (bm (x:=.fl (l.map .int)) (σ₁:=σ) rfl (aci hv))))))))).trans ?_
    show ae.ok (PV.int (u7 l)) σ=ae.ok (.int (u7 (dS (l.map .int)))) σ
    rw [eW]
  | least _ _ =>
    obtain ⟨l,rfl,hv⟩:=hY (show ∀ v ∈ vs,bw v from he)
    cases l with
    | nil=>exact absurd h1 (by decide)
    | cons x l =>
    refine (congrArg aM ((aa (a:=cj) (aW (v:=.str "least") (σ':=σ) rfl)).trans ((aa (a:=cg) ((aw (σ':=σ) rfl).trans ah)).trans ((aa (a:=cH) ((aw (σ':=σ) rfl).trans ah)).trans
      (ak (a:=di) ((aR (σ':=σ) rfl).trans (ak (a:=mX) (av (dk (x:=.fl ((x::l).map .int)) (σ₁:=σ) rfl afl))))))))).trans ?_
    show ae.ok (PV.int (nU (x::l))) σ=ae.ok (.int (nU (dS ((x::l).map .int)))) σ
    rw [eW]
  | most _ _ =>
    obtain ⟨l,rfl,hv⟩:=hY (show ∀ v ∈ vs,bw v from he)
    cases l with
    | nil=>exact absurd h1 (by decide)
    | cons x l =>
    refine (congrArg aM ((aa (a:=cj) (aW (v:=.str "most") (σ':=σ) rfl)).trans ((aa (a:=cg) ((aw (σ':=σ) rfl).trans ah)).trans ((aa (a:=cH) ((aw (σ':=σ) rfl).trans ah)).trans ((aa (a:=di) ((aw (σ':=σ) rfl).trans ah)).trans
      (ak (a:=d3) ((aR (σ':=σ) rfl).trans (ak (a:=mW) (av (dk (x:=.fl ((x::l).map .int)) (σ₁:=σ) rfl afn)))))))))).trans ?_
    show ae.ok (PV.int (rB (x::l))) σ=ae.ok (.int (rB (dS ((x::l).map .int)))) σ
    rw [eW]
  | later _ =>
    have hx:vs[0]?=some (vs.getD 0 .none):=by rw [List.getD_eq_getElem?_getD,List.getElem?_eq_getElem (show 0 < vs.length from h1)]; rfl
    exact (congrArg aM ((aa (a:=cj) (aW (v:=.str "later") (σ':=σ) rfl)).trans ((aa (a:=cg) ((aw (σ':=σ) rfl).trans ah)).trans ((aa (a:=cH) ((aw (σ':=σ) rfl).trans ah)).trans ((aa (a:=di) ((aw (σ':=σ) rfl).trans ah)).trans ((aa (a:=d3) ((aw (σ':=σ) rfl).trans ah)).trans
      ((aa (a:=fF) ((aw (σ':=σ) rfl).trans ah)).trans ((aa (a:=iC) ((aw (σ':=σ) rfl).trans ah)).trans (ak (a:=k4) (av (bu (x:=.fl vs) (σ₁:=σ) rfl (y:=.int ((0:Nat):Int)) (σ₂:=σ) rfl (ae5 hl hx)))))))))))).trans rfl
  | way=>contradiction
  | choose _ =>
    obtain ⟨i,hi,_⟩:=(show bw (vs.getD 0 .none) from And.left he)
    match vs,hk with
    | [a,b,c],_ =>
    exact (congrArg aM ((aa (a:=cj) (aW (v:=.str "choose") (σ':=σ) rfl)).trans ((aa (a:=cg) ((aw (σ':=σ) rfl).trans ah)).trans ((aa (a:=cH) ((aw (σ':=σ) rfl).trans ah)).trans ((aa (a:=di) ((aw (σ':=σ) rfl).trans ah)).trans ((aa (a:=d3) ((aw (σ':=σ) rfl).trans ah)).trans
      ((aa (a:=fF) ((aw (σ':=σ) rfl).trans ah)).trans (ak (a:=iC) ((aR (σ':=σ) rfl).trans (ak (a:=mU) (av (bm (x:=.fl [a,b,c]) (σ₁:=σ) rfl (aeK ⟨i,hi⟩))))))))))))).trans rfl
  | fixed v _ _ _ _ =>
    exact (congrArg aM ((aa (a:=cj) (aW (v:=.str "fixed") (σ':=σ) rfl)).trans ((aa (a:=cg) ((aw (σ':=σ) rfl).trans ah)).trans ((aa (a:=cH) ((aw (σ':=σ) rfl).trans ah)).trans ((aa (a:=di) ((aw (σ':=σ) rfl).trans ah)).trans ((aa (a:=d3) ((aw (σ':=σ) rfl).trans ah)).trans
      (ak (a:=fF) ((aR (σ':=σ) rfl).trans (ak (a:=mV) (av (v:=.int v) (σ':=σ) rfl)))))))))).trans rfl
theorem acl {r:cV} {vs:List PV} {k:Nat} (h:bW r vs.length k) (hl:vs.length <= 100) (h1:1 <= vs.length) (hk:k <= 100) (he:mh r vs):aK PP topN (d + 3) nW [r.pv,.fl vs,.int (k:Nat)] σ=.ok (.fl (kS r vs k)) σ:=by
  rw [ba (fn:=uf) rfl rfl]
  show aM (ex (CC (d + 2)) topN (.cons eF (.cons jJ (.cons jI .nil))) [some r.pv,some (.fl vs),some (.int (k:Nat)),none,none,none] σ)=_
  have tt:tst (CC (d + 2)) (.cmp (.sub (.v 0) (.k (.int 0))) .eq (.k (.str "way"))) [some r.pv,some (.fl vs),some (.int (k:Nat)),none,none,none] σ=.ok (kO r) σ:=by
    generalize vs.length=m at h
    cases h <;> rfl
  unfold kS
  cases hw:kO r with
  | true =>
    rw [hw] at tt
    rw [if_pos rfl]
    generalize hm:vs.length=m at h
    cases h with
    | way =>
      match vs,hm with
      | [a,b],_ =>
      obtain ⟨j,rfl,_⟩:=(show ∀ v ∈ [a,b],bw v from he) b (by simp)
      have t2:tst (CC (d + 2)) (.cmp (.sub (.v 1) (.k (.int 1))) .eq (.k (.int 0))) [some (cV.pv (.word "way")),some (.fl [a,.int j]),some (.int ((2:Nat):Int)),none,none,none] σ=.ok (j == 0) σ:=rfl
      show _=ae.ok (PV.fl (if (j == 0)=true then [a,.none] else [.none,a])) σ
      cases hj:(j == 0) with
      | true =>
        rw [hj] at t2
        exact (congrArg aM (ak (a:=eF) ((aR tt).trans (ak (a:=ij) ((aR t2).trans (ak (a:=jK) (av (v:=.fl [a,.none]) (σ':=σ) rfl))))))).trans rfl
      | false =>
        rw [hj] at t2
        exact (congrArg aM (ak (a:=eF) ((aR tt).trans ((aa (a:=ij) ((aw t2).trans ah)).trans (ak (a:=ly) (av (v:=.fl [.none,a]) (σ':=σ) rfl)))))).trans rfl
    | _=>contradiction
  | false =>
    rw [hw] at tt
    rw [if_neg (by decide)]
    have s1:ex (CC (d + 2)) topN jJ [some r.pv,some (.fl vs),some (.int (k:Nat)),none,none,none] σ=.next [some r.pv,some (.fl vs),some (.int (k:Nat)),some (cq r vs),none,none] σ:=
      aW (cw (x:=r.pv) (y:=.fl vs) (σ₁:=σ) (σ₂:=σ) rfl rfl (ad2 h hw hl h1 he))
    have rng:evIt (CC (d + 2)) (.range1 (.v 2)) [some r.pv,some (.fl vs),some (.int (k:Nat)),some (cq r vs),none,none] σ=.ok (aq 0 1 k,none) σ:=by
      show (if 0 <= (k:Int)/\(k:Int) <= ao then ae.ok (aq 0 1 (k:Int).toNat,none) σ else .stuck)=_
      rw [if_pos ⟨by (exact Int.natCast_nonneg _),by rw [aI]; (grind)⟩]; rfl
    have c:ev (CC (d + 2)) oq [some r.pv,some (.fl vs),some (.int (k:Nat)),some (cq r vs),none,none] σ=.ok (.fl ((aq 0 1 k).map fun _=>cq r vs)) σ:=
      iq (fun _=>cq r vs) rng (by rw [aI]; simp [aq]; (exact Nat.le_trans (by assumption) (by decide))) fun x _=>rfl
    rw [List.map_const',show (aq 0 1 k).length=k by simp [aq]] at c
    exact (congrArg aM ((aa (a:=eF) ((aw tt).trans ah)).trans ((aa s1).trans (ak (a:=jI) (av c))))).trans rfl
end
end Mine
namespace Mine
open PySem
section
variable {p:List ai} {n:Nat} {es gs:cD} {os:List PV} {X:Ix} {σ:ab} {d:Nat}
theorem nO {t:Int} (b:Bo p n es gs os X σ) (h0:0 <= t) (h1:t < n):aK PP topN (d + 2) fi [.inst af X.i,.int t] σ=.ok .none σ:=by
  rw [ba (fn:=i4) rfl rfl]
  have c:aK PP topN (d + 1) cS [.int t,.int 0,.int ((n:Int) - 1)] σ=.ok (.bool true) σ:=by
    rw [adK,decide_eq_true h0,decide_eq_true (show t <= (n:Int) - 1 by (grind))]; rfl
  have tt:tst (CC (d + 1)) (.not (.call cS (.cons (.v 1) (.cons (.k (.int 0)) (.cons (.bin .sub (.attr af (.v 0) "turns") (.k (.int 1))) .nil))))) [some (.inst af X.i),some (.int t),none,none] σ=.ok (!true) σ:=
    dm (dR (ju (x:=.int t) (σ₁:=σ) rfl (y:=.int 0) (σ₂:=σ) rfl (aH (cp (i:=X.i) (σ₁:=σ) (v:=.int n) rfl b.ns rfl) (y:=.int 1) (σ₂:=σ) rfl sub_int) c))
  exact (congrArg aM ((aa (a:=gV) ((aw tt).trans ah)).trans ah)).trans rfl
theorem aan {i:Nat} {s:ai}:∀ (q:List ai) (z:Option PV),s ∈ q->(q.map (·.name)).Nodup->∃ z',aZ none (bq 2) (fun ρ σ=>ex (CC d) topN fg ρ σ) (q.map ai.pv) [some (.inst af i),some (.str s.name),z,none,none,none] σ=.ret s.pv [some (.inst af i),some (.str s.name),z',none,none,none] σ:=by
  intro q
  induction q with
  | nil=>intro z h _; contradiction
  | cons a q ih =>
    intro z h hn
    rw [List.map_cons,List.nodup_cons] at hn
    have tt:tst (CC d) (.cmp (.sub (.v 2) (.k (.int 0))) .eq (.v 1)) [some (.inst af i),some (.str s.name),some a.pv,none,none,none] σ=.ok (a.name == s.name) σ:=rfl
    by_cases ha:a.name=s.name
    · have:a=s:=by
        rcases List.mem_cons.mp h with rfl | h
        · rfl
        · exact absurd (List.mem_map.mpr ⟨s,h,ha.symm⟩) hn.1
      subst this
      rw [beq_self_eq_true] at tt
      exact ⟨some a.pv,yy (ρ₁:=[some (.inst af i),some (.str a.name),some a.pv,none,none,none]) rfl (ak (a:=cU) ((aR tt).trans (ak (a:=dW) (av rfl))))⟩
    · rw [beq_eq_false_iff_ne.mpr ha] at tt
      obtain ⟨z',e⟩:=ih (some a.pv) ((List.mem_cons.mp h).resolve_left fun q=>ha (q ▸ rfl)) hn.2
      exact ⟨z',(bg (ρ₁:=[some (.inst af i),some (.str s.name),some a.pv,none,none,none]) (ρ₂:=[some (.inst af i),some (.str s.name),some a.pv,none,none,none]) (σ₂:=σ) rfl ((aa (a:=cU) ((aw tt).trans ah)).trans ah)).trans e⟩
theorem yn {o:Mine.X} {ρ:au} (b:Bo p n es gs os X σ) (ho:ev (CC d) o ρ σ=.ok (.inst af X.i) σ):evIt (CC d) (.attr af o "plan") ρ σ=.ok (p.map ai.pv,none) σ:=by
  show (ev (CC d) (.attr af o "plan") ρ σ).bind mR=_
  rw [cp (v:=a5 p) ho b.ns rfl]; rfl
theorem zq {s:ai} (b:Bo p n es gs os X σ) (hs:s ∈ p) (hn:(p.map (·.name)).Nodup):aK PP topN (d + 1) i0 [.inst af X.i,.str s.name] σ=.ok s.pv σ:=by
  rw [ba (fn:=i5) rfl rfl]
  obtain ⟨z,e⟩:=aan (d:=d) (σ:=σ) (i:=X.i) p none hs hn
  have e2:ex (CC d) topN fG [some (.inst af X.i),some (.str s.name),none,none,none,none] σ=.ret s.pv [some (.inst af X.i),some (.str s.name),z,none,none,none] σ:=
    bU (ys:=p.map ai.pv) (σ₁:=σ) (yn b rfl) e
  exact (congrArg aM (ak (a:=gW) ((aR (σ':=σ) rfl).trans (ak e2)))).trans rfl
theorem aak {C:bc} {c f:Nat} {m:Str} {o args:Mine.X} {ρ:au} {q:Bool} {σ₁:ab} (h:ev C (.meth c f m o args) ρ σ=.ok (.bool q) σ₁):tst C (.meth c f m o args) ρ σ=.ok q σ₁:=by
  show (ev C (.meth c f m o args) ρ σ).bind cP=_
  rw [h]; rfl
noncomputable def b7 (es:cD) (s:ai) (t:Int):List PV:=s.needs.map fun x=>(ac (x,t) es).getD .none
noncomputable def bt (s:ai) (t:Int):Int:=t + (if da s.rule=true then 1 else 0)
noncomputable def dK (w:Int) (es:cD) (e:Str × PV):cD:=if gd e.2=true then es else bL (e.1,w) e.2 es
noncomputable def ce (n:Nat) (es:cD) (s:ai) (t:Int):cD:=if bt s t=n then es else (s.gives.zip (kS s.rule (b7 es s t) s.gives.length)).foldl (dK (bt s t)) es
theorem ux {s:ai} {t:Int} (hs:fH s) (hv:dO es) (hm:cE es s t=none):mh s.rule (b7 es s t):=by
  unfold mh
  unfold cE mM at hm
  rw [List.find?_eq_none] at hm
  have got:∀ x,¬ (ac (x,t) es).isNone=true->bw ((ac (x,t) es).getD .none):=fun x hx=>by
    cases ha:ac (x,t) es with
    | none=>rw [ha] at hx; exact absurd rfl hx
    | some v=>exact hv _ _ ha
  obtain ⟨_,_,_,h3⟩:=tP hs.rule
  cases hc:cN s.rule with
  | false =>
    rw [hc,if_neg (by decide)] at hm
    rw [if_neg (by decide)]
    intro v hv'
    obtain ⟨x,hx,rfl⟩:=List.mem_map.mp hv'
    exact got x (hm x hx)
  | true =>
    rw [hc,if_pos rfl] at hm
    rw [if_pos rfl]
    have h3:=h3 hc
    obtain ⟨nm,rl,ns,gv⟩:=s
    dsimp only at h3 hm
    match ns,h3 with
    | [x,y,z],_ =>
    dsimp only at hm
    cases ha:ac (x,t) es with
    | none =>
      rw [ha] at hm
      exact absurd (by rw [ha]; rfl) (hm x (by simp))
    | some v =>
      rw [ha] at hm
      show bw ((ac (x,t) es).getD .none)/\bw (if j4 ((ac (x,t) es).getD .none)=true then (ac (y,t) es).getD .none else (ac (z,t) es).getD .none)
      rw [ha]
      refine ⟨hv _ _ ha,?_⟩
      dsimp only at hm
      show bw (if j4 v=true then (ac (y,t) es).getD .none else (ac (z,t) es).getD .none)
      cases hz:j4 v with
      | true=>rw [hz] at hm; exact got y (hm y (by simp))
      | false=>rw [hz] at hm; exact got z (hm z (by simp))
theorem vZ {w:Int} {es:cD} {e:Str × PV}:(dK w es e).length <= es.length + 1:=by
  unfold dK
  split
  · exact Nat.le_succ _
  · unfold bL
    split
    · rw [List.length_map]; exact Nat.le_succ _
    · rw [List.length_append]; exact Nat.le_refl _
theorem acg {w:Int}:∀ (l:List (Str × PV)) (es:cD),(l.foldl (dK w) es).length <= es.length + l.length:=by
  intro l
  induction l with
  | nil=>intro es; exact Nat.le_refl _
  | cons e l ih =>
    intro es
    rw [List.foldl_cons,List.length_cons]
    have h1:=ih (dK w es e)
    have h2:=vZ (w:=w) (es:=es) (e:=e)
    (grind)
theorem wE {w:Option (Nat × MO)} {bnd:PV->au->Option au} {f:au->ab->bz} {ρ:au} (hw:cK w σ):aZ w bnd f [] ρ σ=.next ρ σ:=if_pos hw
theorem ub {w:Option (Nat × MO)} {bnd:PV->au->Option au} {f:au->ab->bz} {x:PV} {xs:List PV} {ρ ρ₁ ρ₂:au} {σ₂:ab} (hw:cK w σ) (hb:bnd x ρ=some ρ₁) (h:f ρ₁ σ=.next ρ₂ σ₂):aZ w bnd f (x::xs) ρ σ=aZ w bnd f xs ρ₂ σ₂:=by
  refine (if_pos hw).trans ?_
  rw [hb]; show nQ _ (f ρ₁ σ)=_; rw [h]; rfl
noncomputable def RF (i:Nat) (nm:Str) (t:Int) (sp:PV) (pl vs:Option PV) (w:Option PV) (v:Option PV):au:=[some (.inst af i),some (.str nm),some (.int t),some sp,pl,vs,w,v,none,none,none,none,none,none]
theorem abo {j:Nat} {nm:Str} {t w:Int} {sp:PV} {vs:Option PV} (hj:j ≠ X.h):∀ (l:List (Str × PV)) (es:cD) (σ:ab) (y z:Option PV),σ[j]?=some .tp->Bo p n es gs os X σ->es.length + l.length < 900000 ->
    ∃ y' z' σ',aZ (some (j,.tp)) (mI [4,7]) (fun ρ σ=>ex (CC d) topN fW ρ σ) (l.map fun e=>.tup [.str e.1,e.2]) (RF X.i nm t sp y vs (some (.int w)) z) σ=.next (RF X.i nm t sp y' vs (some (.int w)) z') σ'/\Bo p n (l.foldl (dK w) es) gs os X σ'/\bM X σ σ':=by
  intro l
  induction l with
  | nil=>intro es σ y z hw b _; exact ⟨y,z,σ,wE hw,b,.refl⟩
  | cons e l ih =>
    intro es σ y z hw b hl
    rw [List.length_cons] at hl
    obtain ⟨x,v⟩:=e
    have tt:tst (CC d) (.cmp (.v 7) .isNot (.k .none)) (RF X.i nm t sp (some (.str x)) vs (some (.int w)) (some v)) σ=.ok (!gd v) σ:=rfl
    have hb:mI [4,7] (.tup [.str x,v]) (RF X.i nm t sp y vs (some (.int w)) z)=some (RF X.i nm t sp (some (.str x)) vs (some (.int w)) (some v)):=rfl
    have fin:∀ {es':cD} {σ₁:ab},es'=dK w es (x,v)->ex (CC d) topN i6 (RF X.i nm t sp (some (.str x)) vs (some (.int w)) (some v)) σ=.next (RF X.i nm t sp (some (.str x)) vs (some (.int w)) (some v)) σ₁->Bo p n es' gs os X σ₁->bM X σ σ₁->σ₁[j]?=some .tp ->
        ∃ y' z' σ',aZ (some (j,.tp)) (mI [4,7]) (fun ρ σ=>ex (CC d) topN fW ρ σ) (((x,v)::l).map fun e=>.tup [.str e.1,e.2]) (RF X.i nm t sp y vs (some (.int w)) z) σ=.next (RF X.i nm t sp y' vs (some (.int w)) z') σ'/\Bo p n (((x,v)::l).foldl (dK w) es) gs os X σ'/\bM X σ σ':=fun {es' σ₁} he h b1 k1 hw1=>by
      subst he
      obtain ⟨y',z',σ',e,b',k'⟩:=ih (dK w es (x,v)) σ₁ (some (.str x)) (some v) hw1 b1 (by have:=vZ (w:=w) (es:=es) (e:=(x,v)); (grind))
      exact ⟨y',z',σ',(ub (w:=some (j,.tp)) hw hb ((aa h).trans ah)).trans e,b',k1.trans k'⟩
    cases hv:gd v with
    | true =>
      rw [hv] at tt
      exact fin (es':=es) (by unfold dK; exact (if_pos hv).symm) ((aw tt).trans ah) b .refl hw
    | false =>
      rw [hv] at tt
      refine fin (es':=bL (x,w) v es) (σ₁:=σ.set X.h (.dp (bL (x,w) v es))) (by unfold dK; exact (if_neg (by rw [hv]; decide)).symm) ((aR tt).trans ((aa (a:=hH) ?_).trans ah)) b.here (.set (.inl rfl)) (bP (Ne.symm hj) hw)
      have ahr:ev (CC d) (.attr af (.v 0) "here") (RF X.i nm t sp (some (.str x)) vs (some (.int w)) (some v)) σ=.ok (.ref X.h) σ:=cp (i:=X.i) (σ₁:=σ) rfl b.ns rfl
      show (ev (CC d) (.v 7) (RF X.i nm t sp (some (.str x)) vs (some (.int w)) (some v)) σ).toS _ (fun v σ=>(ev (CC d) (.attr af (.v 0) "here") (RF X.i nm t sp (some (.str x)) vs (some (.int w)) (some v)) σ).toS _ fun o σ=>(ev (CC d) (.tup (.cons (.v 4) (.cons (.v 6) .nil))) (RF X.i nm t sp (some (.str x)) vs (some (.int w)) (some v)) σ).toS _ fun i σ=>bN o i v _ σ)=_
      rw [show ev (CC d) (.v 7) (RF X.i nm t sp (some (.str x)) vs (some (.int w)) (some v)) σ=.ok v σ from rfl,fw,ahr,fw,show ev (CC d) (.tup (.cons (.v 4) (.cons (.v 6) .nil))) (RF X.i nm t sp (some (.str x)) vs (some (.int w)) (some v)) σ=.ok (.tup [.str x,.int w]) σ from rfl,fw]
      exact qb b.hr (by rw [aI]; (grind))
theorem jm {r:Nat} {xs:List PV} {v:PV} (h:σ[r]?=some (.lst xs)) (hl:xs.length < 900000):lr .append (.ref r) [v] σ=.ok .none (σ.set r (.lst (xs++[v]))):=by
  show eZ (.ref r) v σ=_
  unfold eZ; dsimp only; rw [h]; dsimp only
  exact if_pos (by rw [aI]; (exact Nat.le_trans (by assumption) (by decide)))
theorem lq {r:Nat} {xs:List PV} (h:σ[r]?=some (.lst xs)):qh .append (.ref r) σ=true:=by
  show jg (.ref r) σ=true
  unfold jg; dsimp only; rw [h]
theorem rH {r:cV} {k g:Nat} (h:bW r k g):∃ w,(∀ σ,dg r.pv (.int 0) σ=.ok (.str w) σ)/\(w == "later")=da r:=by
  cases h <;> first | exact ⟨_,fun _=>rfl,rfl⟩ | exact ⟨"fixed",fun _=>rfl,by decide +kernel⟩
theorem yH:∀ (a:List Str) (b:List PV),gx (a.map .str) b=(a.zip b).map fun e=>.tup [.str e.1,e.2]:=by
  intro a
  induction a with
  | nil=>intro b; cases b <;> rfl
  | cons x a ih =>
    intro b
    cases b with
    | nil=>rfl
    | cons y b=>exact congrArg (_::·) (ih b)
theorem acm {r:cV} {vs:List PV} {k g:Nat} (h:bW r k g):(kS r vs g).length=g:=by
  unfold kS
  cases hw:kO r with
  | false=>rw [if_neg (by decide)]; exact List.length_replicate
  | true =>
    rw [if_pos rfl]
    cases h <;> first | contradiction | (split <;> rfl)
structure Did (p:List ai) (n:Nat) (es gs:cD) (os:List PV) (X:Ix) (σ:ab) (r:ae PV) (v:PV) (σ':ab):Prop where
  e:r=.ok v σ'
  b:Bo p n es gs os X σ'
  k:bM X σ σ'
theorem agt {s:ai} {t:Int} (hp:bZ p) (b:Bo p n es gs os X σ) (hs:s ∈ p) (hr:g9 s) (hv:dO es) (h0:0 <= t) (h1:t < n) (hg:ac (s.name,t) gs=none) (hm:cE es s t=none)
    (l1:es.length < 800000) (l2:gs.length < 800000) (l3:os.length < 800000) :
    ∃ σ',Did p n (ce n es s t) (gs++[((s.name,t),.bool true)]) (os++[.tup [.str s.name,.int t]]) X σ (aK PP topN (d + 4) nX [.inst af X.i,.str s.name,.int t] σ) .none σ':=by
  have so:=hp.steps s hs
  rw [ba (fn:=jZ) rfl rfl]
  have s0:ex (CC (d + 3)) topN kF [some (.inst af X.i),some (.str s.name),some (.int t),none,none,none,none,none,none,none,none,none,none,none] σ=.next (RF X.i s.name t s.pv none none none none) σ:=
    aW (cA (i:=X.i) (σ₁:=σ) (σ₂:=σ) (vs:=[.str s.name]) rfl b.ns rfl rfl (zq b hs hp.names))
  have s1:ex (CC (d + 3)) topN kE (RF X.i s.name t s.pv none none none none) σ=.next (RF X.i s.name t s.pv none none none none) σ:=
    bR (cA (i:=X.i) (σ₁:=σ) (σ₂:=σ) (vs:=[.int t]) rfl b.ns rfl rfl (nO b h0 h1))
  have s2:ex (CC (d + 3)) topN kC (RF X.i s.name t s.pv none none none none) σ=.next (RF X.i s.name t s.pv none none none none) σ:=by
    have c:=t6 (d:=d + 2) (x:=s.name) (t:=t) b
    rw [hg] at c
    exact (aw (aak (cA (i:=X.i) (σ₁:=σ) (σ₂:=σ) (vs:=[.str s.name,.int t]) rfl b.ns rfl rfl c))).trans ah
  have s3:ex (CC (d + 3)) topN kB (RF X.i s.name t s.pv none none none none) σ=.next (RF X.i s.name t s.pv none none none none) σ:=by
    have c:=yt (d:=d + 2) (t:=t) b so hr hv
    rw [hm] at c
    exact (aw (bC (cA (i:=X.i) (σ₁:=σ) (σ₂:=σ) (vs:=[s.pv,.int t]) rfl b.ns rfl rfl c) (y:=.none) (σ₂:=σ) rfl rfl)).trans ah
  have s4:ex (CC (d + 3)) topN kA (RF X.i s.name t s.pv none none none none) σ=.next (RF X.i s.name t s.pv none none none none) (σ.set X.gn (.dp (gs++[((s.name,t),.bool true)]))):=by
    have ag:ev (CC (d + 3)) (.attr af (.v 0) "gone") (RF X.i s.name t s.pv none none none none) σ=.ok (.ref X.gn) σ:=cp (i:=X.i) (σ₁:=σ) rfl b.ns rfl
    show (ae.ok (PV.bool true) σ).toS _ (fun v σ=>(ev (CC (d + 3)) (.attr af (.v 0) "gone") (RF X.i s.name t s.pv none none none none) σ).toS _ fun o σ=>(ev (CC (d + 3)) (.tup (.cons (.v 1) (.cons (.v 2) .nil))) (RF X.i s.name t s.pv none none none none) σ).toS _ fun i σ=>bN o i v _ σ)=_
    rw [fw,ag,fw,show ev (CC (d + 3)) (.tup (.cons (.v 1) (.cons (.v 2) .nil))) (RF X.i s.name t s.pv none none none none) σ=.ok (.tup [.str s.name,.int t]) σ from rfl,fw,qb b.go (by rw [aI]; (exact Nat.le_trans (by assumption) (by decide))),yE hg]
  have b1:Bo p n es (gs++[((s.name,t),.bool true)]) os X (σ.set X.gn (.dp (gs++[((s.name,t),.bool true)]))):=b.gone
  have k1:bM X σ (σ.set X.gn (.dp (gs++[((s.name,t),.bool true)]))):=.set (.inr (.inl rfl))
  generalize σ.set X.gn (.dp (gs++[((s.name,t),.bool true)]))=aC at s4 b1 k1
  generalize gs++[((s.name,t),.bool true)]=gs1 at b1 ⊢
  have s5:ex (CC (d + 3)) topN kz (RF X.i s.name t s.pv none none none none) aC=.next (RF X.i s.name t s.pv none none none none) (aC.set X.od (.lst (os++[.tup [.str s.name,.int t]]))):=
    bR (k9 (cp (i:=X.i) (σ₁:=aC) (v:=.ref X.od) rfl b1.ns rfl) (lq b1.od) (y:=.tup [.str s.name,.int t]) (σ₂:=aC) rfl (jm b1.od (by (exact Nat.le_trans (by assumption) (by decide)))))
  have b2:Bo p n es gs1 (os++[.tup [.str s.name,.int t]]) X (aC.set X.od (.lst (os++[.tup [.str s.name,.int t]]))):=b1.order
  have k2:=k1.trans (bM.set (X:=X) (σ:=aC) (m:=.lst (os++[.tup [.str s.name,.int t]])) (.inr (.inr rfl)))
  generalize aC.set X.od (.lst (os++[.tup [.str s.name,.int t]]))=aO at s5 b2 k2
  generalize os++[.tup [.str s.name,.int t]]=os1 at b2 ⊢
  have nl:(s.needs.map PV.str).length <= ao:=by rw [List.length_map]; exact Nat.le_trans so.needs4 (by decide)
  have s6:ex (CC (d + 3)) topN ky (RF X.i s.name t s.pv none none none none) aO=.next (RF X.i s.name t s.pv none (some (.fl (b7 es s t))) none none) aO:=by
    have c:ev (CC (d + 3)) kG (RF X.i s.name t s.pv none none none none) aO=.ok (.fl ((s.needs.map PV.str).map fun v=>match v with | .str x=>(ac (x,t) es).getD .none | _=>.none)) aO:=
      iq (xs:=s.needs.map .str) _ rfl nl fun v hv'=>by
        obtain ⟨x,_,rfl⟩:=List.mem_map.mp hv'
        exact k9 (cp (i:=X.i) (σ₁:=aO) (v:=.ref X.h) rfl b2.ns rfl) (afA b2.hr) (y:=.tup [.str x,.int t]) (σ₂:=aO) rfl (afy b2.hr)
    rw [List.map_map] at c
    exact aW c
  obtain ⟨w,hw1,hw2⟩:=rH so.rule
  have s7:ex (CC (d + 3)) topN kx (RF X.i s.name t s.pv none (some (.fl (b7 es s t))) none none) aO=.next (RF X.i s.name t s.pv none (some (.fl (b7 es s t))) (some (.int (bt s t))) none) aO:=by
    have c:ev (CC (d + 3)) (.cmp (.sub (.sub (.v 3) (.k (.int 1))) (.k (.int 0))) .eq (.k (.str "later"))) (RF X.i s.name t s.pv none (some (.fl (b7 es s t))) none none) aO=.ok (.bool (da s.rule)) aO:=by
      rw [<- hw2]
      exact gZ (bu (x:=s.rule.pv) (σ₁:=aO) rfl (y:=.int 0) (σ₂:=aO) rfl (hw1 aO)) (y:=.str "later") (σ₂:=aO) rfl w6
    exact aW (aH (x:=.int t) (σ₁:=aO) rfl (dk c int_bool) add_int)
  have t8:tst (CC (d + 3)) (.cmp (.v 6) .eq (.attr af (.v 0) "turns")) (RF X.i s.name t s.pv none (some (.fl (b7 es s t))) (some (.int (bt s t))) none) aO=.ok (bt s t == (n:Int)) aO:=
    bC (x:=.int (bt s t)) (σ₁:=aO) rfl (cp (i:=X.i) (σ₁:=aO) (v:=.int n) rfl b2.ns rfl) eI
  have pre:∀ {o:bz},ex (CC (d + 3)) topN (.cons ei (.cons gX .nil)) (RF X.i s.name t s.pv none (some (.fl (b7 es s t))) (some (.int (bt s t))) none) aO=o->ex (CC (d + 3)) topN jZ.body [some (.inst af X.i),some (.str s.name),some (.int t),none,none,none,none,none,none,none,none,none,none,none] σ=o:=fun {o} ho =>
    (aa s0).trans ((aa s1).trans ((aa s2).trans ((aa s3).trans ((aa s4).trans ((aa s5).trans ((aa s6).trans ((aa s7).trans ho)))))))
  unfold ce
  by_cases hw:bt s t=n
  · rw [beq_iff_eq.mpr hw] at t8
    rw [if_pos hw]
    exact ⟨aO,(congrArg aM (pre (ak (a:=ei) ((aR t8).trans (ak (a:=.ret0) rfl))))).trans rfl,b2,k2⟩
  · rw [beq_eq_false_iff_ne.mpr hw] at t8
    rw [if_neg hw]
    have vl:(b7 es s t).length=s.needs.length:=List.length_map _
    have out:=acl (d:=d) (σ:=aO) (r:=s.rule) (vs:=b7 es s t) (k:=s.gives.length) (by rw [vl]; exact so.rule) (by rw [vl]; exact Nat.le_trans so.needs4 (by decide)) (by rw [vl]; exact so.needs1) (Nat.le_trans so.gives3 (by decide)) (ux so hv hm)
    have ol:(kS s.rule (b7 es s t) s.gives.length).length=s.gives.length:=acm so.rule
    generalize kS s.rule (b7 es s t) s.gives.length=us at out ol ⊢
    have it:evIt (CC (d + 3)) (.zip (.cons (.sub (.v 3) (.k (.int 3))) (.cons (.call nW (.cons (.sub (.v 3) (.k (.int 1))) (.cons (.v 5) (.cons (.b1 .len (.sub (.v 3) (.k (.int 3)))) .nil)))) .nil))) (RF X.i s.name t s.pv none (some (.fl (b7 es s t))) (some (.int (bt s t))) none) aO=.ok ((s.gives.zip us).map fun e=>.tup [.str e.1,e.2],some (aO.length,.tp)) (aO++[.tp]):=by
      rw [acS,aX (x:=.tup (s.gives.map .str)) (σ₁:=aO) rfl (aX (ju (x:=s.rule.pv) (σ₁:=aO) rfl (y:=.fl (b7 es s t)) (σ₂:=aO) rfl (dk (x:=.tup (s.gives.map .str)) (σ₁:=aO) rfl (acA (Nat.le_trans so.gives3 (by decide)))) out) (cu)),az]
      show (if (s.gives.map PV.str).length=us.length/\us.length <= ao then ae.ok (gx (s.gives.map .str) us,some (aO.length,MO.tp)) (aO++[.tp]) else .stuck)=_
      rw [if_pos ⟨by rw [List.length_map,ol],by rw [ol]; exact Nat.le_trans so.gives3 (by decide)⟩,yH]
    obtain ⟨y',z',σ',e,b',k'⟩:=abo (d:=d + 3) (n:=n) (j:=aO.length) (nm:=s.name) (t:=t) (w:=bt s t) (sp:=s.pv) (vs:=some (.fl (b7 es s t))) (X:=X) (Nat.ne_of_gt (List.getElem?_eq_some_iff.mp b2.hr).1) (s.gives.zip us) es (aO++[.tp]) none none (by simp) b2.more (by rw [List.length_zip,ol,Nat.min_self]; have:=so.gives3; (grind))
    have s9:ex (CC (d + 3)) topN gX (RF X.i s.name t s.pv none (some (.fl (b7 es s t))) (some (.int (bt s t))) none) aO=.next (RF X.i s.name t s.pv y' (some (.fl (b7 es s t))) (some (.int (bt s t))) z') σ':=by
      show (evIt (CC (d + 3)) _ _ aO).toS _ _=_
      rw [it]; exact e
    exact ⟨σ',(congrArg aM (pre ((aa (a:=ei) ((aw t8).trans ah)).trans ((aa s9).trans ah)))).trans rfl,b',(k2.trans .app).trans k'⟩
end
end Mine
namespace Mine
open PySem
theorem kM {κ:Type} [DecidableEq κ] {k k':κ} {v:PV}:∀ {es:List (κ × PV)},ac k (bL k' v es)=if k=k' then some v else ac k es:=by
  intro es
  have upd:∀ l:List (κ × PV),ac k (l.map fun e=>if e.1=k' then (e.1,v) else e)=if k=k' then (ac k l).map (fun _=>v) else ac k l:=by
    intro l
    induction l with
    | nil=>by_cases h:k=k' <;> simp [h,ac]
    | cons e l ih =>
      unfold ac at ih ⊢
      rw [List.map_cons,List.find?_cons,List.find?_cons]
      by_cases he:e.1=k'
      · rw [if_pos he]
        by_cases hk:e.1=k
        · have:k=k':=hk.symm.trans he
          simp [hk,this]
        · rw [decide_eq_false hk]; exact ih
      · rw [if_neg he]
        by_cases hk:e.1=k
        · have:k ≠ k':=fun q=>he (hk.trans q)
          simp [hk,this]
        · rw [decide_eq_false hk]; exact ih
  unfold bL
  split
  · rename_i h
    rw [upd]
    by_cases hk:k=k'
    · rw [if_pos hk,if_pos hk]
      obtain ⟨e,he,hek⟩:=List.any_eq_true.mp h
      have:(es.find? fun e=>decide (e.1=k)).isSome=true:=List.find?_isSome.mpr ⟨e,he,by rw [hk]; exact hek⟩
      unfold ac
      obtain ⟨e',he'⟩:=Option.isSome_iff_exists.mp this
      rw [he']; rfl
    · rw [if_neg hk,if_neg hk]
  · rename_i h
    unfold ac
    rw [List.find?_append]
    by_cases hk:k=k'
    · have:es.find? (fun e=>decide (e.1=k))=none:=List.find?_eq_none.mpr fun e he q=>h (List.any_eq_true.mpr ⟨e,he,by rw [<- hk]; exact q⟩)
      rw [this,if_pos hk]
      simp [hk]
    · rw [if_neg hk]
      have:[(k',v)].find? (fun e=>decide (e.1=k))=none:=by simp [Ne.symm hk]
      rw [this,Option.or_none]
theorem gq {κ:Type} [DecidableEq κ] {k k':κ} {v:PV} {es:List (κ × PV)} (h:ac k' es=none):ac k (es++[(k',v)])=if k=k' then some v else ac k es:=by
  unfold ac at h ⊢
  rw [List.find?_append]
  by_cases hk:k=k'
  · subst hk
    rw [if_pos rfl,Option.map_eq_none_iff.mp h]
    simp
  · rw [if_neg hk]
    have:[(k',v)].find? (fun e=>decide (e.1=k))=none:=by simp [Ne.symm hk]
    rw [this,Option.or_none]
theorem kL {w:Int} {k:Str × Int}:∀ (l:List (Str × PV)) (es:cD),k.2 ≠ w\/k.1 ∉ l.map (·.1)->ac k (l.foldl (dK w) es)=ac k es:=by
  intro l
  induction l with
  | nil=>intro es _; rfl
  | cons e l ih =>
    intro es h
    rw [List.foldl_cons,ih]
    · unfold dK
      split
      · rfl
      · rw [kM,if_neg]
        rintro rfl
        rcases h with h | h
        · exact h rfl
        · exact h (by simp)
    · rcases h with h | h
      · exact .inl h
      · exact .inr fun q=>h (List.mem_cons_of_mem _ q)
theorem dO.puts {w:Int}:∀ (l:List (Str × PV)) (es:cD),dO es->(∀ e ∈ l,bw e.2\/e.2=.none)->dO (l.foldl (dK w) es):=by
  intro l
  induction l with
  | nil=>intro es h _; exact h
  | cons e l ih =>
    intro es h hl
    refine ih _ ?_ fun x hx=>hl x (List.mem_cons_of_mem _ hx)
    unfold dK
    rcases hl e List.mem_cons_self with hv | hv
    · split
      · exact h
      · intro k v hk
        rw [kM] at hk
        by_cases hq:k=(e.1,w)
        · rw [if_pos hq] at hk
          obtain rfl:=Option.some.inj hk
          exact hv
        · rw [if_neg hq] at hk; exact h k v hk
    · rw [if_pos (by rw [hv]; rfl)]; exact h
theorem ld {i:Int} (h0:0 <= i) (h1:i <= 999999):bw (.int i):=⟨i,rfl,h0,h1⟩
theorem yz {f:Int->Int->Int} (hf:∀ a b:Int,f a b=a\/f a b=b):∀ (l:List Int) (a:Int),(0 <= a/\a <= 999999)->(∀ x ∈ l,0 <= x/\x <= 999999)->0 <= l.foldl f a/\l.foldl f a <= 999999:=by
  intro l
  induction l with
  | nil=>intro a h _; exact h
  | cons x l ih =>
    intro a h hl
    refine ih _ ?_ fun y hy=>hl y (List.mem_cons_of_mem _ hy)
    rcases hf a x with q | q
    · rw [q]; exact h
    · rw [q]; exact hl x List.mem_cons_self
theorem aaV (a b:Int):min a b=a\/min a b=b:=by (grind)
theorem aa2 (a b:Int):max a b=a\/max a b=b:=by (grind)
theorem yr {i:Int}:bw (.int (i % 1000000)):=ld (Int.emod_nonneg _ (by decide)) (Int.le_of_lt_add_one (Int.emod_lt_of_pos _ (by decide)))
theorem acj:∀ (l:List Int) (a:Int),(0 <= a/\a <= 999999)->bw (.int (l.foldl (fun a x=>a * x % 1000000) a)):=by
  intro l
  induction l with
  | nil=>intro a h; exact ld h.1 h.2
  | cons x l ih=>intro a h; obtain ⟨i,hi,h0,h1⟩:=yr (i:=a * x); cases hi; exact ih _ ⟨h0,h1⟩
theorem rh {r:cV} {vs:List PV} {k:Nat} (h:bW r vs.length k) (h1:1 <= vs.length) (he:mh r vs):bw (cq r vs):=by
  have at0:(∀ v ∈ vs,bw v)->bw (vs.getD 0 .none):=fun hv=>by
    rw [List.getD_eq_getElem?_getD,List.getElem?_eq_getElem (show 0 < vs.length from h1)]
    exact hv _ (List.getElem_mem _)
  generalize hk:vs.length=m at h
  cases h with
  | sum _ _=>exact yr
  | times _ _=>exact acj _ 1 (by decide)
  | least _ _ =>
    obtain ⟨l,rfl,hv⟩:=hY (show ∀ v ∈ vs,bw v from he)
    show bw (.int (nU (dS (l.map .int))))
    rw [eW]
    cases l with
    | nil=>exact absurd h1 (by decide)
    | cons x l=>obtain ⟨a,b⟩:=yz (f:=min) aaV l x (hv x List.mem_cons_self) fun y hy=>hv y (List.mem_cons_of_mem _ hy); exact ld a b
  | most _ _ =>
    obtain ⟨l,rfl,hv⟩:=hY (show ∀ v ∈ vs,bw v from he)
    show bw (.int (rB (dS (l.map .int))))
    rw [eW]
    cases l with
    | nil=>exact absurd h1 (by decide)
    | cons x l=>obtain ⟨a,b⟩:=yz (f:=max) aa2 l x (hv x List.mem_cons_self) fun y hy=>hv y (List.mem_cons_of_mem _ hy); exact ld a b
  | later _=>exact at0 he
  | way=>exact at0 he
  | choose _=>exact he.2
  | fixed v _ _ a b=>exact ld a b
theorem aeb {r:cV} {vs:List PV} {k:Nat} (h:bW r vs.length k) (h1:1 <= vs.length) (he:mh r vs):∀ u ∈ kS r vs k,bw u\/u=.none:=by
  unfold kS
  cases hw:kO r with
  | false =>
    rw [if_neg (by decide)]
    intro u hu
    rw [List.eq_of_mem_replicate hu]
    exact .inl (rh h h1 he)
  | true =>
    rw [if_pos rfl]
    have hs:=rh h h1 he
    generalize vs.length=m at h
    cases h with
    | way =>
      have hs:bw (vs.getD 0 .none):=hs
      intro u hu
      split at hu
      · rcases List.mem_cons.mp hu with rfl | hu
        · exact .inl hs
        · exact .inr (List.mem_singleton.mp hu)
      · rcases List.mem_cons.mp hu with rfl | hu
        · exact .inr rfl
        · rw [List.mem_singleton.mp hu]; exact .inl hs
    | _=>contradiction
theorem dO.fire {n:Nat} {es:cD} {s:ai} {t:Int} (hs:fH s) (hv:dO es) (hm:cE es s t=none):dO (ce n es s t):=by
  unfold ce
  split
  · exact hv
  · have vl:(b7 es s t).length=s.needs.length:=List.length_map _
    refine hv.puts _ _ fun e he=>?_
    exact aeb (k:=s.gives.length) (by rw [vl]; exact hs.rule) (by rw [vl]; exact hs.needs1) (ux hs hv hm) e.2 (List.of_mem_zip he).2
end Mine
namespace Mine
open PySem
structure bH where
  es:cD
  gs:cD
  os:List PV
noncomputable def bH.fire (n:Nat) (B:bH) (s:ai) (t:Int):bH:=⟨ce n B.es s t,B.gs++[((s.name,t),.bool true)],B.os++[.tup [.str s.name,.int t]]⟩
noncomputable def bH.rdy (B:bH) (s:ai) (t:Int):Bool:=nL B.es B.gs s t
theorem bH.rdy_of {B:bH} {s:ai} {t:Int} (h:B.rdy s t=true):ac (s.name,t) B.gs=none/\cE B.es s t=none:=by
  obtain ⟨a,b⟩:=Bool.and_eq_true_iff.mp h
  exact ⟨Option.isNone_iff_eq_none.mp a,Option.isNone_iff_eq_none.mp b⟩
inductive bx (p:List ai) (n:Nat) (A:bH):bH->List (ai × Int)->Prop
  | nil:bx p n A A []
  | snoc {B:bH} {l:List (ai × Int)} {s:ai} {t:Int} (h:bx p n A B l) (hs:s ∈ p) (h0:0 <= t) (h1:t < n) (hr:B.rdy s t=true):bx p n A (B.fire n s t) (l++[(s,t)])
section
variable {p:List ai} {n:Nat} {A B:bH} {l:List (ai × Int)}
theorem bx.trans {D:bH} {k:List (ai × Int)} (h:bx p n A B l) (h2:bx p n B D k):bx p n A D (l++k):=by
  induction h2 with
  | nil=>rw [List.append_nil]; exact h
  | snoc h2 hs h0 h1 hr ih=>rw [<- List.append_assoc]; exact .snoc ih hs h0 h1 hr
theorem bx.val (hp:bZ p) (h:bx p n A B l) (hv:dO A.es):dO B.es:=by
  induction h with
  | nil=>exact hv
  | snoc h hs h0 h1 hr ih=>exact ih.fire (hp.steps _ hs) (bH.rdy_of hr).2
structure ck (B:bH) (m:Nat):Prop where
  es:B.es.length <= 3 * m
  gs:B.gs.length <= m
  os:B.os.length <= m
theorem acM {es:cD} {s:ai} {t:Int} (hs:fH s):(ce n es s t).length <= es.length + 3:=by
  unfold ce
  split
  · exact Nat.le_add_right _ _
  · refine Nat.le_trans (acg _ _) (Nat.add_le_add_left ?_ _)
    rw [List.length_zip]
    exact Nat.le_trans (Nat.min_le_left _ _) hs.gives3
theorem ck.fire {m:Nat} {s:ai} {t:Int} (hs:fH s) (h:ck B m):ck (B.fire n s t) (m + 1):=
  ⟨by have:=acM (n:=n) (es:=B.es) (t:=t) hs; have:=h.es; show (ce n B.es s t).length <= _; (grind),by show (B.gs++[_]).length <= _; rw [List.length_append]; exact Nat.succ_le_succ h.gs,by show (B.os++[_]).length <= _; rw [List.length_append]; exact Nat.succ_le_succ h.os⟩
theorem bx.sized {m:Nat} (hp:bZ p) (h:bx p n A B l) (hz:ck A m):ck B (m + l.length):=by
  induction h with
  | nil=>exact hz
  | snoc h hs h0 h1 hr ih=>rw [List.length_append]; exact ih.fire (hp.steps _ hs)
noncomputable def left (p:List ai) (B:bH) (t:Int):Nat:=p.countP fun s=>(ac (s.name,t) B.gs).isNone
theorem zL {f g:ai->Bool} {s:ai} (h:∀ x,g x=true->f x=true) (hf:f s=true) (hg:g s=false):∀ {p:List ai},s ∈ p->p.countP g + 1 <= p.countP f:=by
  intro p
  induction p with
  | nil=>intro h; contradiction
  | cons a p ih =>
    intro hs
    rw [List.countP_cons,List.countP_cons]
    have le:p.countP g <= p.countP f:=List.countP_mono_left fun x _=>h x
    rcases List.mem_cons.mp hs with rfl | hs
    · rw [hf,hg]; simp; exact le
    · have:=ih hs
      cases ha:g a with
      | true=>rw [h a ha]; simp; (assumption)
      | false=>simp; (exact Nat.le_trans (by assumption) (Nat.le_add_right _ _))
theorem bx.left {t:Int} (h:bx p n A B l) (ht:∀ e ∈ l,e.2=t):left p B t + l.length <= left p A t:=by
  induction h with
  | nil=>exact Nat.le_refl _
  | @snoc B l s t' h hs h0 h1 hr ih =>
    have:=ih fun e he=>ht e (List.mem_append_left _ he)
    obtain rfl:t'=t:=ht (s,t') (List.mem_append_right _ (List.mem_singleton.mpr rfl))
    have hg:=(bH.rdy_of hr).1
    have key:∀ x,ac (x,t') (B.fire n s t').gs=if (x,t')=(s.name,t') then some (.bool true) else ac (x,t') B.gs:=fun x=>gq hg
    have c:Mine.left p (B.fire n s t') t' + 1 <= Mine.left p B t':=by
      refine zL (s:=s) (fun x hx=>?_) (by rw [hg]; rfl) ?_ hs
      · rw [key] at hx
        by_cases q:(x.name,t')=(s.name,t')
        · rw [if_pos q] at hx; contradiction
        · rw [if_neg q] at hx; exact hx
      · rw [key,if_pos rfl]; rfl
    rw [List.length_append]
    show _ + (l.length + 1) <= _
    (grind)
theorem aen {t:Int}:left p B t <= p.length:=List.countP_le_length
theorem bx.rdy {t:Int} {s:ai} (h:bx p n A B l) (ht:∀ e ∈ l,t < e.2):B.rdy s t=A.rdy s t:=by
  induction h with
  | nil=>rfl
  | @snoc B l s' t' h hs h0 h1 hr ih =>
    rw [<- ih fun e he=>ht e (List.mem_append_left _ he)]
    have lt:t < t':=ht (s',t') (List.mem_append_right _ (List.mem_singleton.mpr rfl))
    have hg:=(bH.rdy_of hr).1
    have e1:∀ x,ac (x,t) (B.fire n s' t').gs=ac (x,t) B.gs:=fun x=>(gq hg).trans (if_neg fun q=>Int.ne_of_lt lt (Prod.mk.inj q).2)
    have e2:∀ x,ac (x,t) (B.fire n s' t').es=ac (x,t) B.es:=fun x=>by
      show ac (x,t) (ce n B.es s' t')=_
      unfold ce
      split
      · rfl
      · refine kL _ _ (.inl (Int.ne_of_lt ?_))
        unfold bt
        split
        · exact Int.lt_add_one_of_le (Int.le_of_lt lt)
        · rw [Int.add_zero]; exact lt
    show nL _ _ _ _=nL _ _ _ _
    unfold nL cE
    have e3:mM (B.fire n s' t').es s t=mM B.es s t:=by
      unfold mM
      split
      · split
        · rw [e2]
        · rfl
      · rfl
    rw [e1,e3]
    refine congrArg (fun f=>(ac (s.name,t) B.gs).isNone && ((mM B.es s t).find? f).isNone) (funext fun x=>?_)
    rw [e2]
end
section
variable {p:List ai} {n:Nat} {X:Ix} {σ:ab} {d:Nat}
noncomputable abbrev nh (p:List ai) (n:Nat) (B:bH) (X:Ix) (σ:ab):Prop:=Bo p n B.es B.gs B.os X σ
noncomputable def RT (i:Nat) (t:Int) (c:Nat) (z:Option PV):au:=[some (.inst af i),some (.int t),some (.int c),z]
theorem aac {t:Int} (hp:bZ p) (h0:0 <= t) (h1:t < n):∀ (q:List ai) (B:bH) (σ:ab) (c m:Nat) (z:Option PV),(∀ s ∈ q,s ∈ p/\g9 s)->nh p n B X σ->dO B.es->ck B m->m + q.length < 200000 ->
    ∃ B' l σ' z',aZ none (bq 3) (fun ρ σ=>ex (CC (d + 4)) topN kt ρ σ) (q.map ai.pv) (RT X.i t c z) σ=.next (RT X.i t (c + l.length) z') σ'/\nh p n B' X σ'/\bM X σ σ'/\bx p n B B' l/\(∀ e ∈ l,e.2=t)/\(l=[]->B'=B/\∀ s ∈ q,B.rdy s t=false):=by
  intro q
  induction q with
  | nil=>intro B σ c m z _ b _ _ _; exact ⟨B,[],σ,z,bJ,b,.refl,.nil,fun e he=>by contradiction,fun _=>⟨rfl,fun s hs=>by contradiction⟩⟩
  | cons s q ih =>
    intro B σ c m z hq b hv hz hl
    rw [List.length_cons] at hl
    obtain ⟨hs,hpl⟩:=hq s List.mem_cons_self
    have tt:tst (CC (d + 4)) (.meth af fT "is_ready" (.v 0) (.cons (.v 3) (.cons (.v 1) .nil))) (RT X.i t c (some s.pv)) σ=.ok (B.rdy s t) σ:=
      aak (cA (i:=X.i) (σ₁:=σ) (σ₂:=σ) (vs:=[s.pv,.int t]) rfl b.ns rfl rfl (afb b (hp.steps s hs) hpl hv))
    cases hr:B.rdy s t with
    | false =>
      rw [hr] at tt
      obtain ⟨B',l,σ',z',e,b',k,f,ht,hn⟩:=ih B σ c m (some s.pv) (fun x hx=>hq x (List.mem_cons_of_mem _ hx)) b hv hz (by (exact Nat.lt_of_succ_lt (by assumption)))
      refine ⟨B',l,σ',z',(bg (ρ₁:=RT X.i t c (some s.pv)) (ρ₂:=RT X.i t c (some s.pv)) (σ₂:=σ) rfl ((aa (a:=fV) ((aw tt).trans ah)).trans ah)).trans e,b',k,f,ht,fun h=>⟨(hn h).1,fun x hx=>?_⟩⟩
      rcases List.mem_cons.mp hx with rfl | hx
      · exact hr
      · exact (hn h).2 x hx
    | true =>
      rw [hr] at tt
      obtain ⟨g1,g2⟩:=bH.rdy_of hr
      obtain ⟨aC,e1,b1,k1⟩:=agt (d:=d) hp b hs hpl hv h0 h1 g1 g2 (by have:=hz.es; (grind)) (by have:=hz.gs; (grind)) (by have:=hz.os; (grind))
      have f1:bx p n B (B.fire n s t) [(s,t)]:=.snoc .nil hs h0 h1 hr
      obtain ⟨B',l,σ',z',e,b',k,f,ht,_⟩:=ih (B.fire n s t) aC (c + 1) (m + 1) (some s.pv) (fun x hx=>hq x (List.mem_cons_of_mem _ hx)) b1 (f1.val hp hv) (hz.fire (hp.steps s hs)) (by (grind))
      have x1:ex (CC (d + 4)) topN iQ (RT X.i t c (some s.pv)) σ=.next (RT X.i t c (some s.pv)) aC:=bR (cA (i:=X.i) (σ₁:=σ) (σ₂:=σ) (vs:=[.str s.name,.int t]) rfl b.ns rfl rfl e1)
      have x2:ex (CC (d + 4)) topN iP (RT X.i t c (some s.pv)) aC=.next (RT X.i t (c + 1) (some s.pv)) aC:=rfl
      refine ⟨B',(s,t)::l,σ',z',?_,b',k1.trans k,f1.trans f,fun x hx=>?_,fun h=>by contradiction⟩
      · refine (bg (ρ₁:=RT X.i t c (some s.pv)) (ρ₂:=RT X.i t (c + 1) (some s.pv)) (σ₂:=aC) rfl ((aa (a:=fV) ((aR tt).trans ((aa x1).trans ((aa x2).trans ah)))).trans ah)).trans (e.trans ?_)
        rw [List.length_cons,Nat.add_assoc,Nat.add_comm 1]
      · rcases List.mem_cons.mp hx with rfl | hx
        · rfl
        · exact ht x hx
theorem rW {t:Int} {B:bH} {m:Nat} (hp:bZ p) (hpl:∀ s ∈ p,g9 s) (h0:0 <= t) (h1:t < n) (b:nh p n B X σ) (hv:dO B.es) (hz:ck B m) (hl:m < 190000) :
    ∃ B' l σ',aK PP topN (d + 5) kZ [.inst af X.i,.int t] σ=.ok (.int (l.length:Nat)) σ'/\nh p n B' X σ'/\bM X σ σ'/\bx p n B B' l/\(∀ e ∈ l,e.2=t)/\(l=[]->∀ s ∈ p,B'.rdy s t=false):=by
  obtain ⟨B',l,σ',z',e,b',k,f,ht,hn⟩:=aac (d:=d) (X:=X) hp h0 h1 p B σ 0 m none (fun s hs=>⟨hs,hpl s hs⟩) b hv hz (by have:=hp.most; (grind))
  rw [Nat.zero_add] at e
  refine ⟨B',l,σ',?_,b',k,f,ht,fun h s hs=>?_⟩
  · rw [ba (fn:=pS) rfl rfl]
    exact (congrArg aM ((aa (a:=lW) (ρ':=RT X.i t 0 none) (σ':=σ) rfl).trans ((aa (a:=lV) (bU (ys:=p.map ai.pv) (σ₁:=σ) (yn b rfl) e)).trans (ak (a:=lU) (av (v:=.int (l.length:Nat)) (σ':=σ') rfl))))).trans rfl
  · obtain ⟨e1,e2⟩:=hn h
    rw [e1]; exact e2 s hs
end
end Mine
namespace Mine
open PySem
theorem afE {C:bc} {k:Nat} {c:X} {body:S} {ρ:au} {σ:ab} (hh:C.hd=false):ex C k (.whl c body) ρ σ=cJ (fun ρ σ=>tst C c ρ σ) (fun ρ σ=>ex C k body ρ σ) k ρ σ:=by
  show (bif C.hd then bz.stuck else cJ (fun ρ σ=>tst C c ρ σ) (fun ρ σ=>ex C k body ρ σ) k ρ σ)=_
  rw [hh]; rfl
theorem aeA:100 < topN:=by decide
noncomputable def RN (i:Nat) (c:Nat) (t m:Option PV):au:=[some (.inst af i),some (.int c),t,m,none,none]
section
variable {p:List ai} {n:Nat} {X:Ix} {d:Nat}
theorem aay {t:Int} (hp:bZ p) (hpl:∀ s ∈ p,g9 s) (h0:0 <= t) (h1:t < n):∀ (k:Nat) (B:bH) (σ:ab) (c m z:Nat),nh p n B X σ->dO B.es->ck B z->z + left p B t < 190000->(m=0->∀ s ∈ p,B.rdy s t=false)->(if m=0 then 0 else left p B t + 1) < k ->
    ∃ B' l σ',cJ (fun ρ σ=>tst (CC (d + 5)) (.cmp (.v 3) .gt (.k (.int 0))) ρ σ) (fun ρ σ=>ex (CC (d + 5)) topN k5 ρ σ) k (RN X.i c (some (.int t)) (some (.int (m:Nat)))) σ=.next (RN X.i (c + m + l.length) (some (.int t)) (some (.int ((0:Nat):Int)))) σ'/\nh p n B' X σ'/\bM X σ σ'/\bx p n B B' l/\(∀ e ∈ l,e.2=t)/\∀ s ∈ p,B'.rdy s t=false:=by
  intro k
  induction k with
  | zero=>intro B σ c m z _ _ _ _ _ h; exact absurd h (Nat.not_lt_zero _)
  | succ k ih =>
    intro B σ c m z b hv hz hl hr hk
    have tt:tst (CC (d + 5)) (.cmp (.v 3) .gt (.k (.int 0))) (RN X.i c (some (.int t)) (some (.int (m:Nat)))) σ=.ok (decide ((m:Int) > 0)) σ:=rfl
    by_cases hm:m=0
    · subst hm
      refine ⟨B,[],σ,?_,b,.refl,.nil,fun e he=>by contradiction,hr rfl⟩
      unfold cJ
      rw [tt]; rfl
    · rw [if_neg hm] at hk
      rw [decide_eq_true (show (m:Int) > 0 by (grind))] at tt
      obtain ⟨B1,l1,aC,e1,b1,k1,f1,t1,n1⟩:=rW (d:=d) (X:=X) hp hpl h0 h1 b hv hz (by (grind))
      have lf:=f1.left t1
      have x:ex (CC (d + 5)) topN k5 (RN X.i c (some (.int t)) (some (.int (m:Nat)))) σ=.next (RN X.i (c + m) (some (.int t)) (some (.int (l1.length:Nat)))) aC:=
        (aa (a:=nZ) (ρ':=RN X.i (c + m) (some (.int t)) (some (.int (m:Nat)))) (σ':=σ) rfl).trans ((aa (a:=nY) (aW (cw (x:=.inst af X.i) (y:=.int t) (σ₁:=σ) (σ₂:=σ) rfl rfl e1))).trans ah)
      obtain ⟨B',l,σ',e,b',k',f,t',n'⟩:=ih B1 aC (c + m) l1.length (z + l1.length) b1 (f1.val hp hv) (f1.sized hp hz) (by (grind)) (fun q=>n1 (List.eq_nil_of_length_eq_zero q)) (by
        by_cases q:l1.length=0
        · rw [if_pos q]; (grind)
        · rw [if_neg q]; (grind))
      refine ⟨B',l1++l,σ',?_,b',k1.trans k',f1.trans f,fun e he=>?_,n'⟩
      · unfold cJ
        rw [tt]
        dsimp only
        rw [x]
        dsimp only
        rw [e,List.length_append,Nat.add_assoc (c + m)]
      · rcases List.mem_append.mp he with q | q
        · exact t1 e q
        · exact t' e q
theorem aca (hp:bZ p) (hpl:∀ s ∈ p,g9 s):∀ (k a:Nat) (B:bH) (σ:ab) (c z:Nat) (u v:Option PV),a + k=n->nh p n B X σ->dO B.es->ck B z->z + p.length * k < 180000->(∀ t:Int,0 <= t->t < a->∀ s ∈ p,B.rdy s t=false) ->
    ∃ B' l σ' u' v',aZ none (bq 2) (fun ρ σ=>ex (CC (d + 5)) topN ud ρ σ) ((List.range' a k).map fun (i:Nat)=>PV.int (0 + (i:Int) * 1)) (RN X.i c u v) σ=.next (RN X.i (c + l.length) u' v') σ'/\nh p n B' X σ'/\bM X σ σ'/\bx p n B B' l/\l.length <= p.length * k/\∀ t:Int,0 <= t->t < n->∀ s ∈ p,B'.rdy s t=false:=by
  intro k
  induction k with
  | zero=>intro a B σ c z u v ha b _ _ _ hr; exact ⟨B,[],σ,u,v,bJ,b,.refl,.nil,Nat.zero_le _,fun t h0 h1=>hr t h0 (by (grind))⟩
  | succ k ih =>
    intro a B σ c z u v ha b hv hz hl hr
    rw [Nat.mul_succ] at hl
    have at0:(0:Int) <= (a:Int):=Int.natCast_nonneg a
    have at1:(a:Int) < n:=by (grind)
    obtain ⟨B1,l1,aC,e1,b1,k1,f1,t1,n1⟩:=rW (d:=d) (X:=X) hp hpl at0 at1 b hv hz (by (grind))
    have lf:=f1.left t1
    have le:=aen (p:=p) (B:=B) (t:=(a:Int))
    obtain ⟨B2,l2,aO,e2,b2,k2,f2,t2,n2⟩:=aay (d:=d) (X:=X) hp hpl at0 at1 topN B1 aC c l1.length (z + l1.length) b1 (f1.val hp hv) (f1.sized hp hz) (by (grind)) (fun q=>n1 (List.eq_nil_of_length_eq_zero q)) (by
      have hm:=hp.most
      have:=aeA
      generalize topN=fuel at this ⊢
      by_cases q:l1.length=0
      · rw [if_pos q]; (grind)
      · rw [if_neg q]; (grind))
    have lf2:=f2.left t2
    have f:=f1.trans f2
    have ht:∀ e ∈ l1++l2,e.2=(a:Int):=fun e he=>(List.mem_append.mp he).elim (t1 e) (t2 e)
    have hlen:(l1++l2).length <= p.length:=by rw [List.length_append]; (grind)
    obtain ⟨B3,l3,cG,u3,v3,e3,b3,k3,f3,len3,n3⟩:=ih (a + 1) B2 aO (c + (l1++l2).length) (z + (l1++l2).length) (some (.int (a:Int))) (some (.int ((0:Nat):Int))) (by (grind)) b2 (f.val hp hv) (f.sized hp hz) (by (grind)) fun t q0 q1 s hs=>by
      by_cases q:t=(a:Int)
      · subst q; exact n2 s hs
      · rw [f.rdy fun e he=>(by rw [ht e he]; (grind))]
        exact hr t q0 (by (grind)) s hs
    refine ⟨B3,(l1++l2)++l3,cG,u3,v3,?_,b3,(k1.trans k2).trans k3,f.trans f3,?_,n3⟩
    · rw [List.range'_succ,List.map_cons]
      have hb:bq 2 (PV.int (0 + (a:Int) * 1)) (RN X.i c u v)=some (RN X.i c (some (.int (a:Int))) v):=by
        rw [show (0:Int) + (a:Int) * 1=a by (grind)]; rfl
      have x1:ex (CC (d + 5)) topN rY (RN X.i c (some (.int (a:Int))) v) σ=.next (RN X.i c (some (.int (a:Int))) (some (.int (l1.length:Nat)))) aC:=aW (cw (x:=.inst af X.i) (y:=.int (a:Int)) (σ₁:=σ) (σ₂:=σ) rfl rfl e1)
      have x2:ex (CC (d + 5)) topN rX (RN X.i c (some (.int (a:Int))) (some (.int (l1.length:Nat)))) aC=.next (RN X.i (c + (l1++l2).length) (some (.int (a:Int))) (some (.int ((0:Nat):Int)))) aO:=by
        rw [List.length_append,<- Nat.add_assoc]
        exact (afE (C:=CC (d + 5)) rfl).trans e2
      refine (bg hb ((aa x1).trans ((aa x2).trans ah))).trans (e3.trans ?_)
      rw [List.length_append (as:=l1++l2),Nat.add_assoc c]
    · rw [List.length_append,Nat.mul_succ]; (grind)
theorem agL {B:bH} {σ:ab} {z:Nat} (hp:bZ p) (hpl:∀ s ∈ p,g9 s) (hn:n <= 200) (b:nh p n B X σ) (hv:dO B.es) (hz:ck B z) (hl:z < 100000) :
    ∃ B' l σ',aK PP topN (d + 6) rL [.inst af X.i] σ=.ok (.int (l.length:Nat)) σ'/\nh p n B' X σ'/\bM X σ σ'/\bx p n B B' l/\l.length <= 4000/\∀ t:Int,0 <= t->t < n->∀ s ∈ p,B'.rdy s t=false:=by
  have hm:p.length * n <= 4000:=Nat.mul_le_mul hp.most hn
  obtain ⟨B',l,σ',u,v,e,b',k,f,len,nr⟩:=aca (d:=d) (X:=X) hp hpl n 0 B σ 0 z none none (Nat.zero_add n) b hv hz (by (grind)) fun t h0 h1=>absurd h0 (by (grind))
  rw [Nat.zero_add] at e
  refine ⟨B',l,σ',?_,b',k,f,Nat.le_trans len hm,nr⟩
  rw [ba (fn:=adG) rfl rfl]
  have it:evIt (CC (d + 5)) (.range1 (.attr af (.v 0) "turns")) (RN X.i 0 none none) σ=.ok ((List.range' 0 n).map fun (i:Nat)=>PV.int (0 + (i:Int) * 1),none) σ:=by
    rw [iH,cp (i:=X.i) (c:=af) (σ₁:=σ) (v:=.int n) rfl b.ns rfl,az]
    show (if 0 <= (n:Int)/\(n:Int) <= ao then ae.ok (aq 0 1 (n:Int).toNat,none) σ else .stuck)=_
    rw [if_pos ⟨by (exact Int.natCast_nonneg _),by rw [aI]; (grind)⟩,<- List.range_eq_range']; rfl
  exact (congrArg aM ((aa (a:=wK) (ρ':=RN X.i 0 none none) (σ':=σ) rfl).trans ((aa (a:=wJ) (bU it e)).trans (ak (a:=wI) (av (v:=.int (l.length:Nat)) (σ':=σ') rfl))))).trans rfl
end
end Mine
namespace Mine
open PySem
noncomputable def jz (p:List ai) (x:Str):Bool:=decide (x ∈ p.flatMap (·.gives)) || decide (x ∈ kT p)
section
variable {p:List ai} {n:Nat} {es gs:cD} {os:List PV} {X:Ix} {σ:ab} {d:Nat}
theorem mP {x:Str} (b:Bo p n es gs os X σ) (h:jz p x=true):aK PP topN (d + 1) eB [.inst af X.i,.str x] σ=.ok .none σ:=by
  rw [ba (fn:=iR) rfl rfl]
  have tt:tst (CC d) (.or (.cons (.not (.isinst (.v 1) .str)) (.cons (.and (.cons (.cmp (.v 1) .notin (.attr af (.v 0) "givers")) (.cons (.cmp (.v 1) .notin (.attr af (.v 0) "outer")) .nil))) .nil))) [some (.inst af X.i),some (.str x),none,none,none] σ=.ok (!jz p x) σ:=by
    refine jx (eu (dm (q:=true) (ab3 (w8 (x:=.str x) (σ₁:=σ) rfl rfl))) (gz ((o9 (o8 (bC (x:=.str x) (σ₁:=σ) rfl (cp (i:=X.i) (σ₁:=σ) (v:=.ref X.g) rfl b.ns rfl) (tR b.gv)) fun _=>lh (bC (x:=.str x) (σ₁:=σ) rfl (cp (i:=X.i) (σ₁:=σ) (v:=.ref X.o) rfl b.ns rfl) (rx b.ot)))).trans ?_)))
    rw [pK]
    unfold jz
    rw [Bool.not_or]
  rw [h] at tt
  exact (congrArg aM ((aa (a:=gj) ((aw tt).trans ah)).trans ah)).trans rfl
theorem afc {x:Str} {j i:Int} (hp:bZ p) (b:Bo p n es gs os X σ) (h1:jz p x=true) (h0:0 <= j) (hj:j < n) (hb:cB p x j=false) (hv:0 <= i/\i <= 999999) (ha:ac (x,j) es=none) (hl:es.length < 900000) :
    aK PP topN (d + 4) fE [.inst af X.i,.str x,.int j,.int i] σ=.ok .none (σ.set X.h (.dp (es++[((x,j),.int i)]))):=by
  rw [ba (fn:=k8) rfl rfl]
  show aM (ex (CC (d + 3)) topN k8.body [some (.inst af X.i),some (.str x),some (.int j),some (.int i),none,none,none,none] σ)=_
  generalize jH:([some (.inst af X.i),some (.str x),some (.int j),some (.int i),none,none,none,none]:au)=ρ
  have v0:∀ {τ:ab},ev (CC (d + 3)) (.v 0) ρ τ=.ok (.inst af X.i) τ:=fun {τ}=>by subst jH; rfl
  have v1:∀ {τ:ab},ev (CC (d + 3)) (.v 1) ρ τ=.ok (.str x) τ:=fun {τ}=>by subst jH; rfl
  have v2:∀ {τ:ab},ev (CC (d + 3)) (.v 2) ρ τ=.ok (.int j) τ:=fun {τ}=>by subst jH; rfl
  have v3:∀ {τ:ab},ev (CC (d + 3)) (.v 3) ρ τ=.ok (.int i) τ:=fun {τ}=>by subst jH; rfl
  have s0:ex (CC (d + 3)) topN l6 ρ σ=.next ρ σ:=bR (cA v0 b.ns rfl (aX v1 rfl) (mP b h1))
  have s1:ex (CC (d + 3)) topN l5 ρ σ=.next ρ σ:=bR (cA v0 b.ns rfl (aX v2 rfl) (nO b h0 hj))
  have agv:=cp (n := "givers") (v:=.ref X.g) (v0 (τ:=σ)) b.ns rfl
  have ahr:=cp (n := "here") (v:=.ref X.h) (v0 (τ:=σ)) b.ns rfl
  have key:ev (CC (d + 3)) (.tup (.cons (.v 1) (.cons (.v 2) .nil))) ρ σ=.ok (.tup [.str x,.int j]) σ:=sg (vs:=[.str x,.int j]) (aX v1 (aX v2 rfl)) (show (2:Nat) <= ao by decide)
  have t2:tst (CC (d + 3)) (.and (.cons (.cmp (.v 1) .isin (.attr af (.v 0) "givers")) (.cons (.or (.cons (.cmp (.sub (.sub (.sub (.attr af (.v 0) "givers") (.v 1)) (.k (.int 1))) (.k (.int 0))) .ne (.k (.str "later"))) (.cons (.cmp (.v 2) .gt (.k (.int 0))) .nil))) .nil))) ρ σ=.ok (cB p x j) σ:=by
    have c1:=bC v1 agv (aet (k:=x) b.gv)
    rw [p3,Option.isSome_map] at c1
    unfold cB
    cases hg:mE p x with
    | none =>
      rw [hg] at c1
      exact o9 (adY c1)
    | some s =>
      rw [hg] at c1
      have hs:s ∈ p:=List.mem_of_find?_eq_some hg
      obtain ⟨w,hw1,hw2⟩:=rH (hp.steps s hs).rule
      have c2:ev (CC (d + 3)) (.sub (.attr af (.v 0) "givers") (.v 1)) ρ σ=.ok s.pv σ:=bu agv v1 (ae3 b.gv (by rw [p3,hg]; rfl))
      have c4:ev (CC (d + 3)) (.sub (.sub (.sub (.attr af (.v 0) "givers") (.v 1)) (.k (.int 1))) (.k (.int 0))) ρ σ=.ok (.str w) σ:=bu (bu c2 (y:=.int 1) (σ₂:=σ) rfl (v:=.ok s.rule.pv σ) rfl) (y:=.int 0) (σ₂:=σ) rfl (hw1 σ)
      have c5:=bC c4 (y:=.str "later") (σ₂:=σ) (b:=.k (.str "later")) rfl afj
      rw [hw2] at c5
      exact o9 (adX c1 (lh (jx (vL c5 fun _=>gz (bC v2 (y:=.int 0) (σ₂:=σ) rfl gt_int)))))
  rw [hb] at t2
  have s2:ex (CC (d + 3)) topN l4 ρ σ=.next ρ σ:=(aw t2).trans ah
  have t3:tst (CC (d + 3)) (.not (.call gH (.cons (.v 3) .nil))) ρ σ=.ok (!true) σ:=by
    have c:aK PP topN (d + 3) gH [.int i] σ=.ok (.bool (decide (0 <= i) && decide (i <= 999999))) σ:=Mine.h0
    rw [decide_eq_true hv.1,decide_eq_true hv.2] at c
    exact dm (dR (bm v3 c))
  have s3:ex (CC (d + 3)) topN lZ ρ σ=.next ρ σ:=(aw t3).trans ah
  have t4:=bC key ahr (sQ (x:=x) (j:=j) b.hr)
  rw [ha] at t4
  have s4:ex (CC (d + 3)) topN lY ρ σ=.next ρ σ:=(aw t4).trans ah
  have s5:ex (CC (d + 3)) topN lX ρ σ=.next ρ (σ.set X.h (.dp (es++[((x,j),.int i)]))):=by
    show (ev (CC (d + 3)) (.v 3) ρ σ).toS ρ (fun v σ=>(ev (CC (d + 3)) (.attr af (.v 0) "here") ρ σ).toS ρ fun o σ=>(ev (CC (d + 3)) (.tup (.cons (.v 1) (.cons (.v 2) .nil))) ρ σ).toS ρ fun i σ=>bN o i v ρ σ)=_
    rw [v3,fw,ahr,fw,key,fw,qb b.hr (by rw [aI]; (exact Nat.le_trans (by assumption) (by decide))),yE ha]
  exact (congrArg aM ((aa s0).trans ((aa s1).trans ((aa s2).trans ((aa s3).trans ((aa s4).trans ((aa s5).trans ah))))))).trans rfl
theorem adV {x:Str} (hn:n <= 200) (b:Bo p n es gs os X σ) (h1:jz p x=true):aK PP topN (d + 2) gI [.inst af X.i,.str x] σ=.ok (.fl (rf x n es)) σ:=by
  rw [ba (fn:=oO) rfl rfl]
  have s0:ex (CC (d + 1)) topN ku [some (.inst af X.i),some (.str x),none] σ=.next [some (.inst af X.i),some (.str x),none] σ:=bR (cA (i:=X.i) (σ₁:=σ) (σ₂:=σ) (vs:=[.str x]) rfl b.ns rfl rfl (mP b h1))
  have c0:ev (CC (d + 1)) kv [some (.inst af X.i),some (.str x),none] σ=.ok (.fl (rf x n es)) σ:=by
    have lm:(aq 0 1 n).length <= ao:=by rw [aI]; simp [aq]; (exact Nat.le_trans (by assumption) (by decide))
    have rng:evIt (CC (d + 1)) (.range1 (.attr af (.v 0) "turns")) [some (.inst af X.i),some (.str x),none] σ=.ok (aq 0 1 n,none) σ:=by
      rw [iH,cp (n := "turns") (v:=.int n) (i:=X.i) (c:=af) (σ₁:=σ) rfl b.ns rfl,az]
      show (if 0 <= (n:Int)/\(n:Int) <= ao then ae.ok (aq 0 1 (n:Int).toNat,none) σ else .stuck)=_
      rw [if_pos ⟨by (exact Int.natCast_nonneg _),by rw [aI]; (grind)⟩]; rfl
    have key:∀ (t:Int),ev (CC (d + 1)) (.tup (.cons (.v 2) (.cons (.v 1) .nil))) ((aY [none,none,some 1,some 0] [some (.inst af X.i),some (.str x),none]).set 1 (some (.int t))) σ=.ok (.tup [.str x,.int t]) σ:=fun t=>rfl
    have hre:∀ (t:Int),ev (CC (d + 1)) (.attr af (.v 3) "here") ((aY [none,none,some 1,some 0] [some (.inst af X.i),some (.str x),none]).set 1 (some (.int t))) σ=.ok (.ref X.h) σ:=fun t=>cp (i:=X.i) (σ₁:=σ) rfl b.ns rfl
    refine (xb (fun y=>match y with | .int t=>(ac (x,t) es).map fun v=>.tup [.int t,v] | _=>none) rng lm (fun y hy=>?_) (fun y hy v hv=>?_)).trans ?_
    · obtain ⟨t,ht,rfl⟩:=List.mem_map.mp hy
      refine (bC (key _) (hre _) (sQ b.hr)).trans ?_
      exact congrArg (ae.ok · σ) (Option.isSome_map).symm
    · obtain ⟨t,ht,rfl⟩:=List.mem_map.mp hy
      obtain ⟨w,hw,rfl⟩:=Option.map_eq_some_iff.mp hv
      exact sg (vs:=[.int _,w]) (aX (x:=.int _) (σ₁:=σ) rfl (aX (bu (hre _) (key _) (ae4 b.hr hw)) rfl)) (show (2:Nat) <= ao by decide)
    · refine congrArg (fun l=>ae.ok (PV.fl l) σ) ?_
      unfold rf aq
      rw [List.filterMap_map]
      refine congrArg (fun f=>(List.range n).filterMap f) (funext fun (t:Nat)=>?_)
      show Option.map (fun v=>PV.tup [.int (0 + (t:Int) * 1),v]) (ac (x,0 + (t:Int) * 1) es)=_
      rw [show (0:Int) + (t:Int) * 1=t by (grind)]
  exact (congrArg aM ((aa s0).trans (ak (av c0)))).trans rfl
theorem afD (b:Bo p n es gs os X σ) (hl:os.length <= 900000):aK PP topN (d + 1) iW [.inst af X.i] σ=.ok (.fl os) σ:=by
  rw [ba (fn:=nf) rfl rfl]
  have e:ev (CC d) (.b1 (.list true) (.attr af (.v 0) "order")) [some (.inst af X.i),none] σ=.ok (.fl os) σ:=by
    refine dk (cp (i:=X.i) (σ₁:=σ) (v:=.ref X.od) rfl b.ns rfl) ?_
    show j9 (fun xs=>bh true xs σ) (.ref X.od) σ=_
    rw [mv (show a8 σ (.ref X.od)=some os by unfold a8; dsimp only; rw [b.od])]
    exact rC (by rw [aI]; (exact Nat.le_trans (by assumption) (by decide)))
  exact (congrArg aM (ak (a:=jY) (av e))).trans rfl
end
end Mine
namespace Mine
open PySem
noncomputable def eh (q:Int × Int):PV:=.tup [.int q.1,.int q.2]
section
variable {d:Nat} {σ:ab}
theorem adW {n:Nat}:∀ (l:List (Int × Int)),(l.map eh).mapM (cQ (n + 2) σ)=some (l.map fun q=>PyData.tuple [.int q.1,.int q.2]):=by
  intro l
  induction l with
  | nil=>rfl
  | cons q l ih=>rw [List.map_cons,List.mapM_cons,ih]; rfl
theorem afK:∀ (l:List (Int × Int)),PyData.eqv (.list (l.map fun q=>PyData.tuple [.int q.1,.int q.2])) (.list (l.map fun q=>PyData.tuple [.int q.1,.int q.2]))=true:=by
  intro l
  show PyData.eqvAll _ _=true
  induction l with
  | nil=>rfl
  | cons q l ih =>
    rw [List.map_cons]
    show ((q.1 == q.1 && (q.2 == q.2 && true)) && PyData.eqvAll _ _)=true
    rw [ih,beq_self_eq_true,beq_self_eq_true]; rfl
theorem ae1 {l:List (Int × Int)}:cQ 16 σ (.fl (l.map eh))=some (.list (l.map fun q=>PyData.tuple [.int q.1,.int q.2])):=by
  show ((l.map eh).mapM (cQ 15 σ)).map PyData.list=_
  rw [adW (n:=13) l]; rfl
theorem aef {l:List (Int × Int)}:bp .ne (.fl (l.map eh)) (.fl (l.map eh)) σ=.ok false σ:=by
  show ae.ofOpt ((eqv σ (.fl (l.map eh)) (.fl (l.map eh))).map (!·)) σ=_
  unfold eqv
  rw [ae1]
  show ae.ofOpt (some (!PyData.eqv _ _)) σ=_
  rw [afK]; rfl
theorem aek {a b:Option PV} {q:Int × Int}:ex (CC d) topN gL [a,b,some (eh q),none,none,none] σ=.next [a,b,some (eh q),none,none,none] σ:=by
  have c0:ev (CC d) lF [a,b,some (eh q),none,none,none] σ=.ok (.fl []) σ:=by
    refine (xb (fun _=>none) (xs:=[.int q.1,.int q.2]) rfl (show (2:Nat) <= ao by decide) (fun x hx=>?_) (fun x hx v hv=>by contradiction)).trans rfl
    rcases List.mem_cons.mp hx with rfl | hx
    · rfl
    · rw [List.mem_singleton.mp hx]; rfl
  exact (aa ((aw (σ':=σ) (jx (eu (σ₁:=σ) rfl (gz (bC c0 (y:=.fl []) (σ₂:=σ) rfl rfl))))).trans ah)).trans ah
theorem acz {a b:Option PV}:∀ (l:List (Int × Int)) (y:Option PV),∃ y',aZ none (bq 2) (fun ρ σ=>ex (CC d) topN gL ρ σ) (l.map eh) [a,b,y,none,none,none] σ=.next [a,b,y',none,none,none] σ:=by
  intro l
  induction l with
  | nil=>intro y; exact ⟨y,bJ⟩
  | cons q l ih =>
    intro y
    obtain ⟨y',e⟩:=ih (some (eh q))
    exact ⟨y',(bg (ρ₁:=[a,b,some (eh q),none,none,none]) rfl aek).trans e⟩
theorem zA {l:List (Int × Int)}:aK PP topN (d + 1) kY [.fl (l.map eh),.fl (l.map eh)] σ=.ok (.bool true) σ:=by
  rw [ba (fn:=pQ) rfl rfl]
  obtain ⟨y,e⟩:=acz (d:=d) (σ:=σ) (a:=some (.fl (l.map eh))) (b:=some (.fl (l.map eh))) l none
  exact (congrArg aM ((aa (a:=lE) ((aw (σ':=σ) (jx (eu (σ₁:=σ) rfl (gz (bC (x:=.fl (l.map eh)) (y:=.fl (l.map eh)) (σ₁:=σ) (σ₂:=σ) rfl rfl aef))))).trans ah)).trans
    ((aa (a:=lD) (bU (ys:=l.map eh) (σ₁:=σ) rfl e)).trans (ak (a:=lC) (av rfl))))).trans rfl
inductive Wd:Str->Prop
  | sum:Wd "sum"
  | times:Wd "times"
  | least:Wd "least"
  | most:Wd "most"
noncomputable def bT (w:Str) (a b:Int):Int:=
  if w == ("sum" : Str) then (a + b) % 1000000 else if w == ("times" : Str) then a * b % 1000000 else if w == ("most" : Str) then max a b else min a b
theorem agd {w:Str} {a b:Int} (h:Wd w) (ha:0 <= a/\a <= 999999):aK PP topN (d + 1) rM [.str w,.int a,.int b] σ=.ok (.int (bT w a b)) σ:=by
  rw [ba (fn:=r9) rfl rfl]
  have last:∀ {w:Str} {q:Bool},(w == ("most" : Str))=q->ev (CC d) (.sub (.lst true (.cons (.min2 (.v 1) (.v 2)) (.cons (.max2 (.cons (.v 1) (.cons (.v 2) .nil))) .nil))) (.b1 .int (.cmp (.v 0) .eq (.k (.str "most"))))) [some (.str w),some (.int a),some (.int b),none,none,none] σ=.ok (.int (if q=true then max a b else min a b)) σ:=fun {w q} hq=>by
    have e1:ev (CC d) (.lst true (.cons (.min2 (.v 1) (.v 2)) (.cons (.max2 (.cons (.v 1) (.cons (.v 2) .nil))) .nil))) [some (.str w),some (.int a),some (.int b),none,none,none] σ=.ok (.fl [.int (min a b),.int (max a b)]) σ:=rfl
    have e2:ev (CC d) (.b1 .int (.cmp (.v 0) .eq (.k (.str "most")))) [some (.str w),some (.int a),some (.int b),none,none,none] σ=.ok (.int (if q=true then 1 else 0)) σ:=by
      subst hq
      exact dk (gZ (x:=.str w) (σ₁:=σ) rfl (y:=.str "most") (σ₂:=σ) rfl w6) int_bool
    refine bu e1 e2 ?_
    cases q <;> rfl
  cases h with
  | sum=>exact (congrArg aM (ak (a:=dT) ((aR (σ':=σ) rfl).trans (ak (a:=kn) (av (aH (x:=.int (a + b)) (σ₁:=σ) rfl (y:=.int 1000000) (σ₂:=σ) rfl (bE (by decide)))))))).trans rfl
  | times=>exact (congrArg aM ((aa (a:=dT) ((aw (σ':=σ) rfl).trans ah)).trans (ak (a:=fN) ((aR (σ':=σ) rfl).trans (ak (a:=km) (av (aH (aH (x:=.int a) (σ₁:=σ) rfl (y:=.int b) (σ₂:=σ) rfl (mul_int (.inl (by (grind))))) (y:=.int 1000000) (σ₂:=σ) rfl (bE (by decide))))))))).trans rfl
  | least=>exact (congrArg aM ((aa (a:=dT) ((aw (σ':=σ) rfl).trans ah)).trans ((aa (a:=fN) ((aw (σ':=σ) rfl).trans ah)).trans (ak (a:=iX) (av (last (q:=false) (by decide +kernel))))))).trans rfl
  | most=>exact (congrArg aM ((aa (a:=dT) ((aw (σ':=σ) rfl).trans ah)).trans ((aa (a:=fN) ((aw (σ':=σ) rfl).trans ah)).trans (ak (a:=iX) (av (last (q:=true) (by decide +kernel))))))).trans rfl
theorem xG {w:Str} {a b:Int} (h:Wd w) (ha:0 <= a/\a <= 999999):cq (.word w) [.int a,.int b]=.int (bT w a b):=by
  cases h with
  | sum=>show PV.int ((a + (b + 0)) % 1000000)=_; rw [Int.add_zero]; rfl
  | times =>
    show PV.int (1 * a % 1000000 * b % 1000000)=_
    rw [Int.one_mul,Int.emod_eq_of_lt ha.1 (Int.lt_of_le_of_lt ha.2 (by decide))]; rfl
  | least=>rfl
  | most=>rfl
theorem aep {w:Str} {a b:Int} (h:Wd w) (ha:0 <= a/\a <= 999999) (hb:0 <= b/\b <= 999999):0 <= bT w a b/\bT w a b <= 999999:=by
  have md:∀ i:Int,0 <= i % 1000000/\i % 1000000 <= 999999:=fun i=>⟨Int.emod_nonneg _ (by decide),Int.le_of_lt_add_one (Int.emod_lt_of_pos _ (by decide))⟩
  cases h with
  | sum=>exact md _
  | times=>exact md _
  | least =>
    show 0 <= min a b/\min a b <= 999999
    rcases aaV a b with q | q <;> rw [q] <;> assumption
  | most =>
    show 0 <= max a b/\max a b <= 999999
    rcases aa2 a b with q | q <;> rw [q] <;> assumption
end
end Mine
namespace Mine
open PySem
noncomputable def bY (w:Str):Int->List Int->List Int
  | _,[]=>[]
  | x,v::r=>bT w x v::bY w (bT w x v) r
noncomputable def dJ:List Int->List Int->List (List Int)
  | _,[]=>[]
  | r,v::l=>(v::r.dropLast)::dJ (v::r.dropLast) l
theorem jD {w:Str}:∀ (l:List Int) (x:Int),(bY w x l).length=l.length:=by
  intro l
  induction l with
  | nil=>intro x; rfl
  | cons v l ih=>intro x; exact congrArg Nat.succ (ih _)
theorem acD {m:Nat}:bQ (-1) (m + 1)=some m:=by
  unfold bQ
  rw [if_neg (by decide)]
  simp
  (grind)
theorem aby {α:Type} {xs:List α}:bI xs none (some (-1))=xs.dropLast:=by
  unfold bI
  rw [List.dropLast_eq_take]
  show (xs.drop 0).take (clipAt xs.length (-1) - 0)=_
  rw [List.drop_zero,Nat.sub_zero]
  refine congrArg (fun k=>xs.take k) ?_
  unfold clipAt
  simp
  (grind)
section
variable {d:Nat} {σ:ab}
theorem p8 {r:Nat} {xs:List PV} {x:PV} (h:σ[r]?=some (.lst (xs++[x]))) (hl:xs.length < 900000):dg (.ref r) (.int (-1)) σ=.ok x σ:=by
  have e:a7 σ (.ref r)=some (xs++[x]):=by unfold a7; dsimp only; rw [h]
  show (match a7 σ (.ref r) with
    | some xs=>jE xs (-1) σ
    | none=>.stuck)=_
  rw [e]
  show (if (xs++[x]).length <= ao then ae.ofOpt ((bQ (-1) (xs++[x]).length).bind ((xs++[x])[·]?)) σ else .stuck)=_
  rw [if_pos (by rw [List.length_append,aI]; show xs.length + 1 <= _; (exact Nat.le_trans (by assumption) (by decide))),List.length_append]
  show ae.ofOpt ((bQ (-1) (xs.length + 1)).bind ((xs++[x])[·]?)) σ=_
  rw [acD]
  show ae.ofOpt ((xs++[x])[xs.length]?) σ=_
  simp [ae.ofOpt]
theorem tN {o:PV} {xs:List PV} (h:a7 σ o=some xs) (ho:yl σ o none (some (-1))=(a7 σ o).bind fun xs=>if xs.length <= ao then some (.fl (bI xs none (some (-1)))) else none) (hl:xs.length <= 900000):dy o .none (.int (-1)) σ=.ok (.fl xs.dropLast) σ:=by
  refine vP (a:=none) (b:=some (-1)) rfl rfl ?_
  rw [ho,h]
  show (if xs.length <= ao then some (PV.fl (bI xs none (some (-1)))) else none)=_
  rw [if_pos (by rw [aI]; (exact Nat.le_trans (by assumption) (by decide))),aby]
noncomputable def RD (w:Str) (f:Int) (inc lat:PV) (k m:Nat) (v r:Option PV):au:=[some (.str w),some (.int f),some inc,some lat,some (.ref k),some (.ref m),v,r,none]
theorem acU {w:Str} {f:Int} {inc lat:PV} (hw:Wd w):∀ (l:List Int) (ks ms:List Int) (x:Int) (z:Option PV),ks.length + l.length < 500->ms.length + l.length < 500->(0 <= x/\x <= 999999)->(∀ y ∈ l,0 <= y/\y <= 999999) ->
    ∃ z',aZ none (bq 6) (fun ρ σ=>ex (CC (d + 1)) topN na ρ σ) (l.map .int) (RD w f inc lat σ.length (σ.length + 1) z none) (σ++[.lst ((ks++[x]).map .int),.lst (ms.map .int)]) =
      .next (RD w f inc lat σ.length (σ.length + 1) z' none) (σ++[.lst ((ks++x::bY w x l).map .int),.lst ((ms++bY w x l).map .int)]):=by
  intro l
  induction l with
  | nil=>intro ks ms x z _ _ _ _; refine ⟨z,bJ.trans ?_⟩; rw [show bY w x []=[] from rfl,List.append_nil]
  | cons v l ih =>
    intro ks ms x z h1 h2 hx hl
    rw [List.length_cons] at h1 h2
    have hv:=hl v List.mem_cons_self
    have hy:=aep (b:=v) hw hx hv
    obtain ⟨z',e⟩:=ih (ks++[x]) (ms++[bT w x v]) (bT w x v) (some (.int v)) (by rw [List.length_append]; simp; (grind)) (by rw [List.length_append]; simp; (grind)) hy fun y q=>hl y (List.mem_cons_of_mem _ q)
    have g0:(σ++[MO.lst ((ks++[x]).map .int),.lst (ms.map .int)])[σ.length]?=some (.lst (ks.map .int++[.int x])):=by rw [db,List.map_append]; rfl
    have g1:(σ++[MO.lst ((ks++[x]).map .int),.lst (ms.map .int)])[σ.length + 1]?=some (.lst (ms.map .int)):=by rw [List.getElem?_append_right (Nat.le_add_right _ _),Nat.add_sub_cancel_left]; rfl
    have nG:(σ++[MO.lst ((ks++[x]).map .int),.lst (ms.map .int)]).set (σ.length + 1) (.lst (ms.map .int++[.int (bT w x v)]))=σ++[.lst ((ks++[x]).map .int),.lst (ms.map .int++[.int (bT w x v)])]:=by
      rw [List.set_append_right _ _ (Nat.le_add_right _ _),Nat.add_sub_cancel_left]; rfl
    have x1:ex (CC (d + 1)) topN lS (RD w f inc lat σ.length (σ.length + 1) (some (.int v)) none) (σ++[.lst ((ks++[x]).map .int),.lst (ms.map .int)])=.next (RD w f inc lat σ.length (σ.length + 1) (some (.int v)) none) (σ++[.lst ((ks++[x]).map .int),.lst (ms.map .int++[.int (bT w x v)])]):=by
      rw [<- nG]
      refine bR (k9 (x:=.ref (σ.length + 1)) (σ₁:=σ++[.lst ((ks++[x]).map .int),.lst (ms.map .int)]) rfl (lq g1) (ju (x:=.str w) (σ₁:=σ++[.lst ((ks++[x]).map .int),.lst (ms.map .int)]) rfl (bu (x:=.ref σ.length) (σ₁:=σ++[.lst ((ks++[x]).map .int),.lst (ms.map .int)]) rfl (y:=.int (-1)) (σ₂:=σ++[.lst ((ks++[x]).map .int),.lst (ms.map .int)]) rfl (p8 g0 (by rw [List.length_map]; (grind)))) (z:=.int v) (σ₃:=σ++[.lst ((ks++[x]).map .int),.lst (ms.map .int)]) rfl (agd hw hx)) (jm g1 (by rw [List.length_map]; (grind))))
    have g2:(σ++[MO.lst ((ks++[x]).map .int),.lst (ms.map .int++[.int (bT w x v)])])[σ.length + 1]?=some (.lst (ms.map .int++[.int (bT w x v)])):=by rw [List.getElem?_append_right (Nat.le_add_right _ _),Nat.add_sub_cancel_left]; rfl
    have x2:ex (CC (d + 1)) topN lR (RD w f inc lat σ.length (σ.length + 1) (some (.int v)) none) (σ++[.lst ((ks++[x]).map .int),.lst (ms.map .int++[.int (bT w x v)])])=.next (RD w f inc lat σ.length (σ.length + 1) (some (.int v)) none) (σ++[.lst ((ks++[x]++[bT w x v]).map .int),.lst ((ms++[bT w x v]).map .int)]):=by
      rw [List.map_append (l₁:=ks++[x]),List.map_append (l₁:=ms)]
      refine (bR (k9 (x:=.ref σ.length) (σ₁:=σ++[.lst ((ks++[x]).map .int),.lst (ms.map .int++[.int (bT w x v)])]) rfl (lq db) (bu (x:=.ref (σ.length + 1)) (σ₁:=σ++[.lst ((ks++[x]).map .int),.lst (ms.map .int++[.int (bT w x v)])]) rfl (y:=.int (-1)) (σ₂:=σ++[.lst ((ks++[x]).map .int),.lst (ms.map .int++[.int (bT w x v)])]) rfl (p8 g2 (by rw [List.length_map]; (grind)))) (jm db (by rw [List.length_map,List.length_append]; simp; (grind))))).trans ?_
      rw [lj]; rfl
    refine ⟨z',(bg (ρ₁:=RD w f inc lat σ.length (σ.length + 1) (some (.int v)) none) rfl ((aa x1).trans ((aa x2).trans ah))).trans (e.trans ?_)⟩
    rw [List.append_assoc ks,List.append_assoc ms]; rfl
end
end Mine
namespace Mine
open PySem
inductive dc (σ:ab):PV->List Int->Prop
  | fl (l:List Int):dc σ (.fl (l.map .int)) l
  | ref (j:Nat) (l:List Int):σ[j]?=some (.lst (l.map .int))->dc σ (.ref j) l
theorem dc.app {σ τ:ab} {v:PV} {l:List Int} (h:dc σ v l):dc (σ++τ) v l:=by
  cases h with
  | fl=>exact .fl l
  | ref j _ e=>exact .ref j l (d0 e)
section
variable {d:Nat} {σ:ab}
theorem dc.slice {v:PV} {l:List Int} (h:dc σ v l) (hl:l.length <= 900000):dy v .none (.int (-1)) σ=.ok (.fl (l.dropLast.map .int)) σ:=by
  have hl':(l.map PV.int).length <= 900000:=by rw [List.length_map]; exact hl
  have e:dy v .none (.int (-1)) σ=.ok (.fl (l.map PV.int).dropLast) σ:=by
    cases h with
    | fl=>exact tN (xs:=l.map .int) rfl rfl hl'
    | ref j _ e=>exact tN (xs:=l.map .int) (by unfold a7; dsimp only; rw [e]) rfl hl'
  rw [e,List.map_dropLast]
theorem dc.sub {v:PV} {l:List Int} {i:Nat} {x:Int} (h:dc σ v l) (hl:l.length <= 900000) (hx:l[i]?=some x):dg v (.int (i:Nat)) σ=.ok (.int x) σ:=by
  have hx':(l.map PV.int)[(i:Int).toNat]?=some (.int x):=by rw [Int.toNat_natCast,List.getElem?_map,hx]; rfl
  have hl':(l.map PV.int).length <= ao:=by rw [List.length_map,aI]; (exact Nat.le_trans (by assumption) (by decide))
  cases h with
  | fl=>exact gA hl' (Int.natCast_nonneg i) hx'
  | ref j _ e=>exact sH e hl' (Int.natCast_nonneg i) hx'
theorem aaz {w:Str} {f:Int} {inc latV:PV} {k m:Nat} {τ:ab}:∀ (lat:List Int) (pre:List PV) (lv:PV) (r:List Int) (z:Option PV),dc τ lv r->r.length <= 500->pre.length + lat.length < 500 ->
    ∃ z',aZ none (bq 6) (fun ρ σ=>ex (CC d) topN m9 ρ σ) (lat.map .int) (RD w f inc latV k m z (some (.ref τ.length))) (τ++[.lst (pre++[lv])]) =
      .next (RD w f inc latV k m z' (some (.ref τ.length))) (τ++[.lst (pre++[lv]++(dJ r lat).map fun q=>.fl (q.map .int))]):=by
  intro lat
  induction lat with
  | nil=>intro pre lv r z _ _ _; refine ⟨z,bJ.trans ?_⟩; rw [show dJ r []=[] from rfl,List.map_nil,List.append_nil]
  | cons v lat ih =>
    intro pre lv r z hv hr hl
    rw [List.length_cons] at hl
    have hlen:(v::r.dropLast).length <= 500:=by rw [List.length_cons,List.length_dropLast]; (grind)
    obtain ⟨z',e⟩:=ih (pre++[lv]) (.fl ((v::r.dropLast).map .int)) (v::r.dropLast) (some (.int v)) (.fl _) hlen (by rw [List.length_append]; simp; (grind))
    have g:(τ++[MO.lst (pre++[lv])])[τ.length]?=some (.lst (pre++[lv])):=db
    have y:ev (CC d) (.bin .add (.lst true (.cons (.v 6) .nil)) (.slice (.sub (.v 7) (.neg (.k (.int 1)))) (.k .none) (.neg (.k (.int 1))))) (RD w f inc latV k m (some (.int v)) (some (.ref τ.length))) (τ++[.lst (pre++[lv])])=.ok (.fl ((v::r.dropLast).map .int)) (τ++[.lst (pre++[lv])]):=
      aH (x:=.fl [.int v]) (σ₁:=τ++[.lst (pre++[lv])]) rfl (pq (bu (x:=.ref τ.length) (σ₁:=τ++[.lst (pre++[lv])]) rfl (y:=.int (-1)) (σ₂:=τ++[.lst (pre++[lv])]) rfl (p8 g (by (grind)))) (y:=.none) (σ₂:=τ++[.lst (pre++[lv])]) rfl (z:=.int (-1)) (σ₃:=τ++[.lst (pre++[lv])]) rfl (hv.app.slice (by (grind)))) (abR (by rw [List.length_map,List.length_dropLast,aI]; show 1 + _ <= _; (grind)))
    have x1:ex (CC d) topN lQ (RD w f inc latV k m (some (.int v)) (some (.ref τ.length))) (τ++[.lst (pre++[lv])])=.next (RD w f inc latV k m (some (.int v)) (some (.ref τ.length))) (τ++[.lst (pre++[lv]++[.fl ((v::r.dropLast).map .int)])]):=
      bR (k9 (x:=.ref τ.length) (σ₁:=τ++[.lst (pre++[lv])]) rfl (lq g) y (oW (by rw [List.length_append]; simp; (grind))))
    refine ⟨z',(bg (ρ₁:=RD w f inc latV k m (some (.int v)) (some (.ref τ.length))) rfl ((aa x1).trans ah)).trans (e.trans ?_)⟩
    rw [List.append_assoc (pre++[lv])]; rfl
noncomputable def xp (σ:ab) (r:Nat) (rows:List (List Int)):Prop:=∃ vs:List PV,σ[r]?=some (.lst vs)/\vs.length=rows.length/\vs.length <= 500/\∀ (i:Nat) v l,vs[i]?=some v->rows[i]?=some l->dc σ v l
noncomputable def dI (w:Str) (f:Int) (inc lat:List Int):List (List Int):=(f::bY w f inc).dropLast::bY w f inc::dJ (bY w f inc) lat
theorem tQ:∀ (lat r:List Int),(dJ r lat).length=lat.length:=by
  intro lat
  induction lat with
  | nil=>intro r; rfl
  | cons v l ih=>intro r; exact congrArg Nat.succ (ih _)
theorem acC {w:Str} {f:Int} {inc lat:List Int} (hw:Wd w) (hf:0 <= f/\f <= 999999) (h1:∀ y ∈ inc,0 <= y/\y <= 999999) (l1:inc.length <= 200) (l2:lat.length <= 100) :
    ∃ τ r,aK PP topN (d + 2) tY [.str w,.int f,.fl (inc.map .int),.fl (lat.map .int)] σ=.ok (.ref r) (σ++τ)/\σ.length <= r/\xp (σ++τ) r (dI w f inc lat):=by
  obtain ⟨z,e1⟩:=acU (d:=d) (σ:=σ) (w:=w) (f:=f) (inc:=.fl (inc.map .int)) (lat:=.fl (lat.map .int)) hw inc [] [] f none (by show 0 + _ < _; (grind)) (by show 0 + _ < _; (grind)) hf h1
  rw [List.nil_append,List.nil_append,List.nil_append] at e1
  have ml:=jD (w:=w) inc f
  unfold dI
  generalize bY w f inc=ms at e1 ml ⊢
  generalize hτ:σ++[MO.lst ((f::ms).map .int),.lst (ms.map .int)]=τ at e1
  have tl:τ.length=σ.length + 2:=by rw [<- hτ,List.length_append]; rfl
  have g0:τ[σ.length]?=some (.lst ((f::ms).map .int)):=by rw [<- hτ,db]
  have g1:τ[σ.length + 1]?=some (.lst (ms.map .int)):=by rw [<- hτ,List.getElem?_append_right (Nat.le_add_right _ _),Nat.add_sub_cancel_left]; rfl
  have k0:dc τ (.ref σ.length) (f::ms):=.ref _ _ g0
  have k1:dc τ (.ref (σ.length + 1)) ms:=.ref _ _ g1
  obtain ⟨z2,e2⟩:=aaz (d:=d + 1) (w:=w) (f:=f) (inc:=.fl (inc.map .int)) (latV:=.fl (lat.map .int)) (k:=σ.length) (m:=σ.length + 1) (τ:=τ) lat [.fl ((f::ms).dropLast.map .int)] (.ref (σ.length + 1)) ms z k1 (by (grind)) (by show 1 + _ < _; (grind))
  have s3:ex (CC (d + 1)) topN oF (RD w f (.fl (inc.map .int)) (.fl (lat.map .int)) σ.length (σ.length + 1) z none) τ=.next (RD w f (.fl (inc.map .int)) (.fl (lat.map .int)) σ.length (σ.length + 1) z (some (.ref τ.length))) (τ++[.lst ([.fl ((f::ms).dropLast.map .int)]++[.ref (σ.length + 1)])]):=by
    refine aW ?_
    rw [abv,aX (pq (x:=.ref σ.length) (σ₁:=τ) rfl (y:=.none) (σ₂:=τ) rfl (z:=.int (-1)) (σ₃:=τ) rfl (k0.slice (by rw [List.length_cons]; (grind)))) (aX (x:=.ref (σ.length + 1)) (σ₁:=τ) rfl cu),az]
    exact aaP (by rw [aI]; show (2:Nat) <= 1000000; decide)
  have s0:ex (CC (d + 1)) topN oI [some (.str w),some (.int f),some (.fl (inc.map .int)),some (.fl (lat.map .int)),none,none,none,none,none] σ=.next [some (.str w),some (.int f),some (.fl (inc.map .int)),some (.fl (lat.map .int)),some (.ref σ.length),none,none,none,none] (σ++[.lst [.int f]]):=rfl
  have s1:ex (CC (d + 1)) topN oH [some (.str w),some (.int f),some (.fl (inc.map .int)),some (.fl (lat.map .int)),some (.ref σ.length),none,none,none,none] (σ++[.lst [.int f]])=.next (RD w f (.fl (inc.map .int)) (.fl (lat.map .int)) σ.length (σ.length + 1) none none) (σ++[.lst ([f].map .int),.lst ([].map .int)]):=by
    refine (aW (v:=.ref (σ++[MO.lst [.int f]]).length) (σ':=(σ++[.lst [.int f]])++[.lst []]) rfl).trans ?_
    rw [List.length_append,List.append_assoc]; rfl
  refine ⟨[.lst ((f::ms).map .int),.lst (ms.map .int),.lst ([.fl ((f::ms).dropLast.map .int)]++[.ref (σ.length + 1)]++(dJ ms lat).map fun q=>.fl (q.map .int))],τ.length,?_,by (grind),?_⟩
  · rw [ba (fn:=uq) rfl rfl]
    refine (congrArg aM ((aa s0).trans ((aa s1).trans ((aa (a:=oG) (bU (ys:=inc.map .int) (σ₁:=σ++[.lst ([f].map .int),.lst ([].map .int)]) rfl e1)).trans ((aa s3).trans ((aa (a:=oE) (bU (ys:=lat.map .int) (σ₁:=τ++[.lst ([.fl ((f::ms).dropLast.map .int)]++[.ref (σ.length + 1)])]) rfl e2)).trans (ak (a:=oC) (av rfl)))))))).trans ?_
    show ae.ok (PV.ref τ.length) (τ++_)=ae.ok (PV.ref τ.length) (σ++_)
    rw [<- hτ,List.append_assoc]; rfl
  · rw [show ∀ m:MO,σ++[MO.lst ((f::ms).map .int),.lst (ms.map .int),m]=τ++[m] from fun m=>by rw [<- hτ,List.append_assoc]; rfl]
    refine ⟨_,db,?_,?_,fun i v l hv hr=>?_⟩
    · rw [List.length_append,List.length_map]
      show 2 + _=(dJ ms lat).length + 1 + 1
      (grind)
    · rw [List.length_append,List.length_map,tQ]
      show 2 + _ <= 500
      (grind)
    · match i with
      | 0 =>
        obtain rfl:=Option.some.inj hv
        obtain rfl:=Option.some.inj hr
        exact .fl _
      | 1 =>
        obtain rfl:=Option.some.inj hv
        obtain rfl:=Option.some.inj hr
        exact k1.app
      | i + 2 =>
        have hv':((dJ ms lat).map fun q=>PV.fl (q.map .int))[i]?=some v:=hv
        have hr':(dJ ms lat)[i]?=some l:=hr
        rw [List.getElem?_map,hr'] at hv'
        obtain rfl:=Option.some.inj hv'
        exact .fl _
end
end Mine
namespace Mine
open PySem
inductive cW (names:List Str) (σ:ab):PV->Prop
  | fl:cW names σ (.fl (names.map .str))
  | ref (j:Nat):σ[j]?=some (.lst (names.map .str))->cW names σ (.ref j)
theorem cW.app {names:List Str} {σ τ:ab} {v:PV} (h:cW names σ v):cW names (σ++τ) v:=by
  cases h with
  | fl=>exact .fl
  | ref j e=>exact .ref j (d0 e)
noncomputable def nm (names:List Str) (i:Nat):Str:=names.getD i ""
theorem cW.sub {names:List Str} {σ:ab} {v:PV} {i:Nat} (h:cW names σ v) (hl:names.length=24) (hi:i < 24):dg v (.int (i:Nat)) σ=.ok (.str (nm names i)) σ:=by
  have hx:(names.map PV.str)[(i:Int).toNat]?=some (.str (nm names i)):=by
    rw [Int.toNat_natCast,List.getElem?_map,List.getElem?_eq_getElem (by (grind))]
    unfold nm
    rw [List.getD_eq_getElem?_getD,List.getElem?_eq_getElem (by (grind))]; rfl
  have hl':(names.map PV.str).length <= ao:=by rw [List.length_map,hl]; decide
  cases h with
  | fl=>exact gA hl' (Int.natCast_nonneg i) hx
  | ref j e=>exact sH e hl' (Int.natCast_nonneg i) hx
noncomputable def nH (names:List Str) (w:Str):ai:=⟨nm names 0,.word w,[nm names 0,nm names 23],[nm names 1]⟩
noncomputable def nG (names:List Str):ai:=⟨nm names 1,.word "later",[nm names 1],[nm names 0]⟩
noncomputable def tM (names:List Str) (k:Nat):ai:=⟨nm names (2 + k),.word "later",[nm names (1 + k)],[nm names (2 + k)]⟩
noncomputable def aD (names:List Str) (w:Str) (many:Nat):List ai:=nH names w::nG names::(List.range many).map (tM names)
section
variable {C:bc} {ρ:au} {σ σ₁:ab}
theorem agw {xs:X} {vs:List PV} (h:evs C xs ρ σ=.ok vs σ₁) (hl:vs.length <= 1000):ev C (.lst false xs) ρ σ=.ok (.ref σ₁.length) (σ₁++[.lst vs]):=by
  rw [abv,h,az]
  exact aaP (Nat.le_trans hl (by decide))
theorem iS {x:X} {a:PV} (h:ev C x ρ σ=.ok a σ):ev C (.tup (.cons x .nil)) ρ σ=.ok (.tup [a]) σ:=sg (vs:=[a]) (aX h cu) (show (1:Nat) <= ao by decide)
theorem abx {x y:X} {a b:PV} (h:ev C x ρ σ=.ok a σ) (h2:ev C y ρ σ=.ok b σ):ev C (.tup (.cons x (.cons y .nil))) ρ σ=.ok (.tup [a,b]) σ:=sg (vs:=[a,b]) (aX h (aX h2 cu)) (show (2:Nat) <= ao by decide)
theorem w7 {x y z u:X} {a b c e:PV} (h:ev C x ρ σ=.ok a σ) (h2:ev C y ρ σ=.ok b σ) (h3:ev C z ρ σ=.ok c σ) (h4:ev C u ρ σ=.ok e σ):ev C (.tup (.cons x (.cons y (.cons z (.cons u .nil))))) ρ σ=.ok (.tup [a,b,c,e]) σ:=
  sg (vs:=[a,b,c,e]) (aX h (aX h2 (aX h3 (aX h4 cu)))) (show (4:Nat) <= ao by decide)
end
section
variable {d:Nat} {σ:ab} {names:List Str} {w:Str} {v:PV} {many:Nat}
theorem zb (hl:names.length=24) (hv:cW names σ v):∀ (k a:Nat) (ss:List ai) (z:Option PV),a + k <= 18->ss.length + k < 500 ->
    ∃ z',aZ none (bq 4) (fun ρ σ=>ex (CC d) topN ki ρ σ) ((List.range' a k).map fun (i:Nat)=>PV.int (0 + (i:Int) * 1)) [some v,some (.str w),some (.int (many:Nat)),some (.ref σ.length),z,none] (σ++[.lst (ss.map ai.pv)]) =
      .next [some v,some (.str w),some (.int (many:Nat)),some (.ref σ.length),z',none] (σ++[.lst ((ss++(List.range' a k).map (tM names)).map ai.pv)]):=by
  intro k
  induction k with
  | zero=>intro a ss z _ _; refine ⟨z,bJ.trans ?_⟩; rw [List.range'_zero,List.map_nil,List.append_nil]
  | succ k ih =>
    intro a ss z ha hs
    obtain ⟨z',e⟩:=ih (a + 1) (ss++[tM names a]) (some (.int (a:Int))) (by (grind)) (by rw [List.length_append]; simp; (grind))
    have hv':cW names (σ++[.lst (ss.map ai.pv)]) v:=hv.app
    have g:(σ++[MO.lst (ss.map ai.pv)])[σ.length]?=some (.lst (ss.map ai.pv)):=db
    generalize hσ:σ++[MO.lst (ss.map ai.pv)]=aC at hv' g
    have nn:∀ (c:Nat),c + a < 24->ev (CC d) (.sub (.v 0) (.bin .add (.k (.int (c:Nat))) (.v 4))) [some v,some (.str w),some (.int (many:Nat)),some (.ref σ.length),some (.int (a:Int)),none] aC=.ok (.str (nm names (c + a))) aC:=fun c hc =>
      bu (x:=v) (σ₁:=aC) rfl (aH (x:=.int (c:Nat)) (σ₁:=aC) rfl (y:=.int (a:Int)) (σ₂:=aC) rfl add_int) (by rw [<- Int.natCast_add]; exact hv'.sub hl hc)
    have y:ev (CC d) (.tup (.cons (.sub (.v 0) (.bin .add (.k (.int ((2:Nat):Int))) (.v 4))) (.cons (.tup (.cons (.k (.str "later")) .nil)) (.cons (.tup (.cons (.sub (.v 0) (.bin .add (.k (.int ((1:Nat):Int))) (.v 4))) .nil)) (.cons (.tup (.cons (.sub (.v 0) (.bin .add (.k (.int ((2:Nat):Int))) (.v 4))) .nil)) .nil))))) [some v,some (.str w),some (.int (many:Nat)),some (.ref σ.length),some (.int (a:Int)),none] aC=.ok (tM names a).pv aC:=
      w7 (nn 2 (by (grind))) (iS (a:=.str "later") rfl) (iS (nn 1 (by (grind)))) (iS (nn 2 (by (grind))))
    have x1:ex (CC d) topN jL [some v,some (.str w),some (.int (many:Nat)),some (.ref σ.length),some (.int (a:Int)),none] aC=.next [some v,some (.str w),some (.int (many:Nat)),some (.ref σ.length),some (.int (a:Int)),none] (σ++[.lst ((ss++[tM names a]).map ai.pv)]):=by
      refine (bR (k9 (x:=.ref σ.length) (σ₁:=aC) rfl (lq g) y (jm g (by rw [List.length_map]; (grind))))).trans ?_
      rw [<- hσ,lj,List.map_append]; rfl
    have hb:bq 4 (PV.int (0 + (a:Int) * 1)) [some v,some (.str w),some (.int (many:Nat)),some (.ref σ.length),z,none]=some [some v,some (.str w),some (.int (many:Nat)),some (.ref σ.length),some (.int (a:Int)),none]:=by
      rw [show (0:Int) + (a:Int) * 1=a by (grind)]; rfl
    refine ⟨z',?_⟩
    rw [List.range'_succ,List.map_cons]
    refine (bg hb ((aa x1).trans ah)).trans (e.trans ?_)
    rw [List.append_assoc,List.map_cons]; rfl
theorem zz (hl:names.length=24) (hv:cW names σ v) (hm:many <= 18):aK PP topN (d + 1) pJ [v,.str w,.int (many:Nat)] σ=.ok (.ref σ.length) (σ++[.lst ((aD names w many).map ai.pv)]):=by
  rw [ba (fn:=pL) rfl rfl]
  obtain ⟨z,e⟩:=zb (d:=d) (w:=w) (many:=many) hl hv many 0 [nH names w,nG names] none (by (grind)) (by show 2 + _ < _; (grind))
  have nn:∀ (c:Nat),c < 24->ev (CC d) (.sub (.v 0) (.k (.int (c:Nat)))) [some v,some (.str w),some (.int (many:Nat)),none,none,none] σ=.ok (.str (nm names c)) σ:=fun c hc =>
    bu (x:=v) (σ₁:=σ) rfl (y:=.int (c:Nat)) (σ₂:=σ) rfl (hv.sub hl hc)
  have s0:ex (CC d) topN lB [some v,some (.str w),some (.int (many:Nat)),none,none,none] σ=.next [some v,some (.str w),some (.int (many:Nat)),some (.ref σ.length),none,none] (σ++[.lst ([nH names w,nG names].map ai.pv)]):=by
    have a0:=w7 (nn 0 (by decide)) (iS (x:=.v 1) (a:=.str w) rfl) (abx (nn 0 (by decide)) (nn 23 (by decide))) (iS (nn 1 (by decide)))
    have a1:=w7 (nn 1 (by decide)) (iS (x:=.k (.str "later")) (a:=.str "later") rfl) (iS (nn 1 (by decide))) (iS (nn 0 (by decide)))
    exact aW (agw (vs:=[(nH names w).pv,(nG names).pv]) (aX a0 (aX a1 cu)) (show (2:Nat) <= 1000 by decide))
  have it:evIt (CC d) (.range1 (.v 2)) [some v,some (.str w),some (.int (many:Nat)),some (.ref σ.length),none,none] (σ++[.lst ([nH names w,nG names].map ai.pv)])=.ok ((List.range' 0 many).map fun (i:Nat)=>PV.int (0 + (i:Int) * 1),none) (σ++[.lst ([nH names w,nG names].map ai.pv)]):=by
    show (if 0 <= (many:Int)/\(many:Int) <= ao then ae.ok (aq 0 1 (many:Int).toNat,none) _ else .stuck)=_
    rw [if_pos ⟨by (exact Int.natCast_nonneg _),by rw [aI]; (grind)⟩,<- List.range_eq_range']; rfl
  refine (congrArg aM ((aa s0).trans ((aa (a:=lA) (bU it e)).trans (ak (a:=lz) (av rfl))))).trans ?_
  rw [<- List.range_eq_range']; rfl
end
end Mine
namespace Mine
open PySem
structure vj (xs:List Int) (n:Nat):Prop where
  nodup:xs.Nodup
  mem:∀ x,x ∈ xs ↔ 0 <= x/\x < n
noncomputable def hZ (n j:Nat):List Int:=(List.range (Builtin.Range.rangeSize j n 7).toNat).map fun (i:Nat)=>(j:Int) + (i:Int) * 7
theorem zf {n j:Nat} {i:Nat}:i < (Builtin.Range.rangeSize (j:Int) (n:Int) 7).toNat ↔ (j:Int) + (i:Int) * 7 < n:=by
  unfold Builtin.Range.rangeSize
  rw [if_pos (by decide)]
  split
  · (grind)
  · (grind)
theorem pd {n j:Nat} {x:Int}:x ∈ hZ n j ↔ ∃ i:Nat,x=(j:Int) + (i:Int) * 7/\x < n:=by
  unfold hZ
  rw [List.mem_map]
  constructor
  · rintro ⟨i,hi,rfl⟩
    exact ⟨i,rfl,zf.mp (List.mem_range.mp hi)⟩
  · rintro ⟨i,rfl,h⟩
    exact ⟨i,List.mem_range.mpr (zf.mpr h),rfl⟩
theorem aaw {n j:Nat}:(hZ n j).Nodup:=by
  unfold hZ
  refine List.Pairwise.map _ ?_ (List.nodup_range (n:=(Builtin.Range.rangeSize j n 7).toNat))
  intro a b h q
  exact h (by (grind))
theorem ad3 {n:Nat}:vj ((List.range 7).flatMap (hZ n)) n:=by
  constructor
  · unfold List.Nodup
    rw [List.pairwise_flatMap]
    refine ⟨fun j _=>aaw,?_⟩
    refine List.Pairwise.imp_of_mem (R:=fun a b=>a ≠ b) ?_ (List.nodup_range (n:=7))
    intro a b ha hb h x h1 y h2 q
    obtain ⟨i,rfl,_⟩:=pd.mp h1
    obtain ⟨k,hk,_⟩:=pd.mp h2
    have:=List.mem_range.mp ha
    have:=List.mem_range.mp hb
    exact h (by (grind))
  · intro x
    rw [List.mem_flatMap]
    constructor
    · rintro ⟨j,_,hx⟩
      obtain ⟨i,rfl,h⟩:=pd.mp hx
      exact ⟨by (exact Int.natCast_nonneg _),h⟩
    · rintro ⟨h0,h1⟩
      refine ⟨(x % 7).toNat,List.mem_range.mpr (by (grind)),pd.mpr ⟨(x / 7).toNat,by (grind),h1⟩⟩
theorem afW {n:Nat}:vj ((List.range n).map fun (i:Nat)=>(0:Int) + (i:Int) * 1) n:=by
  constructor
  · refine List.Pairwise.map _ ?_ (List.nodup_range (n:=n))
    intro a b h q
    exact h (by (grind))
  · intro x
    rw [List.mem_map]
    constructor
    · rintro ⟨i,hi,rfl⟩
      have:=List.mem_range.mp hi
      (grind)
    · rintro ⟨h0,h1⟩
      exact ⟨x.toNat,List.mem_range.mpr (by (grind)),by (grind)⟩
theorem aeJ {n:Nat}:vj ((List.range n).map fun (i:Nat)=>((n:Int) - 1) + (i:Int) * (-1)) n:=by
  constructor
  · refine List.Pairwise.map _ ?_ (List.nodup_range (n:=n))
    intro a b h q
    exact h (by (grind))
  · intro x
    rw [List.mem_map]
    constructor
    · rintro ⟨i,hi,rfl⟩
      have:=List.mem_range.mp hi
      (grind)
    · rintro ⟨h0,h1⟩
      exact ⟨((n:Int) - 1 - x).toNat,List.mem_range.mpr (by (grind)),by (grind)⟩
end Mine
namespace Mine
open PySem
theorem vW {a c:Int} {k:Nat}:aq a c k=((List.range k).map fun (i:Nat)=>a + (i:Int) * c).map .int:=by
  unfold aq
  rw [List.map_map]; rfl
theorem qH {C:bc} {ρ:au} {σ:ab} {it:X} {l:List Int} (h:evIt C it ρ σ=.ok (l.map .int,none) σ) (hl:l.length <= 100000) (hh:C.hd=false:=by first | rfl | assumption):ev C (.listIt true it) ρ σ=.ok (.fl (l.map .int)) σ:=by
  rw [uv,hh,h]
  exact rC (by rw [List.length_map,aI]; (exact Nat.le_trans (by assumption) (by decide)))
theorem yu {C:bc} {ρ:au} {σ:ab} {xs:X} {a b c:Int} (h:evs C xs ρ σ=.ok [.int a,.int b,.int c] σ) (hc:c ≠ 0) (ha:a.natAbs <= 1000) (hb:b.natAbs <= 1000) (hl:c.natAbs <= 1000):evIt C (.range3 xs) ρ σ=.ok (((List.range (Builtin.Range.rangeSize a b c).toNat).map fun (i:Nat)=>a + (i:Int) * c).map .int,none) σ:=by
  rw [xU,h,az]
  show (if c ≠ 0/\a.natAbs <= ao/\b.natAbs <= ao/\c.natAbs <= ao then ae.ok (aq a c (Builtin.Range.rangeSize a b c).toNat,none) σ else .stuck)=_
  rw [if_pos ⟨hc,Nat.le_trans ha (by decide),Nat.le_trans hb (by decide),Nat.le_trans hl (by decide)⟩,vW]
section
variable {d:Nat} {σ:ab}
theorem ad4 {n j:Nat} (hn:n <= 200):(hZ n j).length <= 100:=by
  unfold hZ
  rw [List.length_map,List.length_range]
  refine Nat.le_of_not_lt fun h=>?_
  have:=zf.mp h
  (grind)
theorem zm {n:Nat} {wy:PV} (hn:n <= 200):∀ (k a:Nat) (acc:List Int) (z:Option PV),a + k <= 7->acc.length + 100 * k <= 900 ->
    ∃ z',aZ none (bq 3) (fun ρ σ=>ex (CC d) topN kj ρ σ) ((List.range' a k).map fun (i:Nat)=>PV.int (0 + (i:Int) * 1)) [some (.int (n:Nat)),some wy,some (.ref σ.length),z,none,none] (σ++[.lst (acc.map .int)]) =
      .next [some (.int (n:Nat)),some wy,some (.ref σ.length),z',none,none] (σ++[.lst ((acc++(List.range' a k).flatMap (hZ n)).map .int)]):=by
  intro k
  induction k with
  | zero=>intro a acc z _ _; refine ⟨z,bJ.trans ?_⟩; rw [List.range'_zero,List.flatMap_nil,List.append_nil]
  | succ k ih =>
    intro a acc z ha hl
    have hs:=ad4 (j:=a) hn
    obtain ⟨z',e⟩:=ih (a + 1) (acc++hZ n a) (some (.int (a:Int))) (by (grind)) (by rw [List.length_append]; (grind))
    have g:(σ++[MO.lst (acc.map .int)])[σ.length]?=some (.lst (acc.map .int)):=db
    have it:evIt (CC d) (.range3 (.cons (.v 3) (.cons (.v 0) (.cons (.k (.int 7)) .nil)))) [some (.int (n:Nat)),some wy,some (.ref σ.length),some (.int (a:Int)),none,none] (σ++[.lst (acc.map .int)])=.ok ((hZ n a).map .int,none) (σ++[.lst (acc.map .int)]):=
      yu (a:=(a:Int)) (b:=(n:Int)) (c:=7) rfl (by decide) (by (grind)) (by (grind)) (by decide)
    have x1:ex (CC d) topN jM [some (.int (n:Nat)),some wy,some (.ref σ.length),some (.int (a:Int)),none,none] (σ++[.lst (acc.map .int)])=.next [some (.int (n:Nat)),some wy,some (.ref σ.length),some (.int (a:Int)),none,none] (σ++[.lst ((acc++hZ n a).map .int)]):=by
      refine bR (k9 (m:=.extend) (x:=.ref σ.length) (σ₁:=σ++[.lst (acc.map .int)]) rfl (wg (.inr (.inl rfl))) (qH it (by (exact Nat.le_trans (by assumption) (by decide)))) ?_)
      show eY (.ref σ.length) (.fl ((hZ n a).map .int)) _=_
      unfold eY; dsimp only; rw [db]; dsimp only
      rw [if_pos (by rw [List.length_map,List.length_map,aI]; (grind)),lj,List.map_append]
    have hb:bq 3 (PV.int (0 + (a:Int) * 1)) [some (.int (n:Nat)),some wy,some (.ref σ.length),z,none,none]=some [some (.int (n:Nat)),some wy,some (.ref σ.length),some (.int (a:Int)),none,none]:=by
      rw [show (0:Int) + (a:Int) * 1=a by (grind)]; rfl
    refine ⟨z',?_⟩
    rw [List.range'_succ,List.map_cons]
    refine (bg hb ((aa x1).trans ah)).trans (e.trans ?_)
    rw [List.append_assoc,List.flatMap_cons]
theorem aau {n:Nat} (h:1 <= n):(Builtin.Range.rangeSize ((n:Int) - 1) (-1) (-1)).toNat=n:=by
  unfold Builtin.Range.rangeSize
  rw [if_neg (by decide),if_pos (by (grind)),show (-(-1):Int)=1 from rfl,Int.ediv_one]
  (grind)
theorem zB {n:Nat} {wy:Int} (h1:1 <= n) (hn:n <= 200) (h0:0 <= wy) (h3:wy < 3):∃ (xs:List Int) (v:PV) (τ:ab),vj xs n/\aK PP topN (d + 1) dZ [.int (n:Nat),.int wy] σ=.ok v (σ++τ)/\dc (σ++τ) v xs:=by
  obtain ⟨k,rfl⟩:=Int.eq_ofNat_of_zero_le h0
  rw [ba (fn:=pR) rfl rfl]
  match k,h3 with
  | 0,_ =>
    refine ⟨_,.fl _,[],afW (n:=n),?_,.fl _⟩
    rw [List.append_nil]
    refine (congrArg aM (ak (a:=eX) ((aR (σ':=σ) rfl).trans (ak (a:=jO) (av (qH ?_ (by rw [List.length_map,List.length_range]; (exact Nat.le_trans (by assumption) (by decide))))))))).trans rfl
    rw [<- vW]
    show (if 0 <= (n:Int)/\(n:Int) <= ao then ae.ok (aq 0 1 (n:Int).toNat,none) σ else .stuck)=_
    rw [if_pos ⟨by (exact Int.natCast_nonneg _),by rw [aI]; (grind)⟩]; rfl
  | 1,_ =>
    have it:evIt (CC d) (.range3 (.cons (.bin .sub (.v 0) (.k (.int 1))) (.cons (.neg (.k (.int 1))) (.cons (.neg (.k (.int 1))) .nil)))) [some (.int (n:Nat)),some (.int ((1:Nat):Int)),none,none,none,none] σ=_:=yu (a:=(n:Int) - 1) (b:=-1) (c:=-1) rfl (by decide) (by (grind)) (by decide) (by decide)
    rw [aau h1] at it
    refine ⟨_,.fl _,[],aeJ (n:=n),?_,.fl _⟩
    rw [List.append_nil]
    exact (congrArg aM ((aa (a:=eX) ((aw (σ':=σ) rfl).trans ah)).trans (ak (a:=ik) ((aR (σ':=σ) rfl).trans (ak (a:=jN) (av (qH it (by rw [List.length_map,List.length_range]; (exact Nat.le_trans (by assumption) (by decide)))))))))).trans rfl
  | 2,_ =>
    obtain ⟨z,e⟩:=zm (d:=d) (σ:=σ) (wy:=.int ((2:Nat):Int)) hn 7 0 [] none (by decide) (by decide)
    have ok:=ad3 (n:=n)
    rw [List.nil_append,<- List.range_eq_range'] at e
    generalize (List.range 7).flatMap (hZ n)=q at e ok
    have it:evIt (CC d) (.range1 (.k (.int 7))) [some (.int (n:Nat)),some (.int ((2:Nat):Int)),some (.ref σ.length),none,none,none] (σ++[.lst []])=.ok ((List.range 7).map fun (i:Nat)=>PV.int (0 + (i:Int) * 1),none) (σ++[.lst []]):=rfl
    generalize (List.range 7).map (fun (i:Nat)=>PV.int (0 + (i:Int) * 1))=ys at e it
    refine ⟨q,.ref σ.length,[.lst (q.map .int)],ok,?_,.ref _ _ db⟩
    exact (congrArg aM ((aa (a:=eX) ((aw (σ':=σ) rfl).trans ah)).trans ((aa (a:=ik) ((aw (σ':=σ) rfl).trans ah)).trans ((aa (a:=lI) (ρ':=[some (.int (n:Nat)),some (.int ((2:Nat):Int)),some (.ref σ.length),none,none,none]) (σ':=σ++[.lst []]) rfl).trans
      ((aa (a:=lH) (bU it e)).trans (ak (a:=lG) (av rfl))))))).trans rfl
end
end Mine
namespace Mine
open PySem
structure dF (names:List Str):Prop where
  len:names.length=24
  nodup:names.Nodup
  ok:∀ x ∈ names,dX x
section
variable {names:List Str} {w:Str} {many:Nat}
theorem dF.at_ (h:dF names) {i:Nat} (hi:i < 24):names[i]?=some (nm names i):=by
  unfold nm
  rw [List.getD_eq_getElem?_getD,List.getElem?_eq_getElem (by rw [h.len]; exact hi)]; rfl
theorem dF.inj (h:dF names) {i j:Nat} (hi:i < 24) (hj:j < 24) (e:nm names i=nm names j):i=j:=
  (List.getElem?_inj (by rw [h.len]; exact hi) h.nodup).mp ((h.at_ hi).trans ((congrArg some e).trans (h.at_ hj).symm))
theorem dF.name (h:dF names) {i:Nat} (hi:i < 24):dX (nm names i):=h.ok _ (List.mem_of_getElem? (h.at_ hi))
theorem ad6 {k g:Nat} (h:Wd w):bW (.word w) k g:=by
  cases h
  · exact .sum k g
  · exact .times k g
  · exact .least k g
  · exact .most k g
theorem jd:(aD names w many).map (·.name)=(List.range (2 + many)).map (nm names):=by
  rw [Nat.add_comm,List.range_succ_eq_map,List.range_succ_eq_map]
  unfold aD
  simp only [List.map_cons,List.map_map]
  refine congrArg (fun l=>nm names 0::nm names 1::l) (List.map_congr_left fun k _=>?_)
  show nm names (2 + k)=nm names (k + 1 + 1)
  rw [Nat.add_comm 2]
theorem wa (h:dF names) {k:Nat} (hk:k <= 24):((List.range k).map (nm names)).Nodup:=by
  refine List.Pairwise.imp_of_mem (R:=fun a b=>a ≠ b) ?_ (List.nodup_range (n:=k)) |> List.pairwise_map.mpr
  intro a b ha hb ne e
  exact ne (h.inj (Nat.lt_of_lt_of_le (List.mem_range.mp ha) hk) (Nat.lt_of_lt_of_le (List.mem_range.mp hb) hk) e)
theorem cR {s:ai}:s ∈ aD names w many ↔ s=nH names w\/s=nG names\/∃ k,k < many/\s=tM names k:=by
  unfold aD
  simp only [List.mem_cons,List.mem_map,List.mem_range]
  refine or_congr Iff.rfl (or_congr Iff.rfl ⟨fun ⟨k,hk,e⟩=>⟨k,hk,e.symm⟩,fun ⟨k,hk,e⟩=>⟨k,hk,e.symm⟩⟩)
theorem adZ (h:dF names) (hw:Wd w) (hm:many <= 18):∀ s ∈ aD names w many,fH s:=by
  intro s hs
  have iM:∀ {i:Nat},i < 24->∀ x ∈ [nm names i],dX x:=fun {i} hi x hx=>by rw [List.mem_singleton.mp hx]; exact h.name hi
  rcases cR.mp hs with rfl | rfl | ⟨k,hk,rfl⟩
  · refine ⟨h.name (by decide),fun x hx=>?_,Nat.le_of_ble_eq_true rfl,Nat.le_of_ble_eq_true rfl,iM (by decide),Nat.le_refl _,Nat.le_of_ble_eq_true rfl,List.nodup_cons.mpr ⟨List.not_mem_nil,List.nodup_nil⟩,ad6 hw⟩
    rcases List.mem_cons.mp hx with rfl | hx
    · exact h.name (by decide)
    · exact iM (by decide) x hx
  · exact ⟨h.name (by decide),iM (by decide),Nat.le_refl _,Nat.le_of_ble_eq_true rfl,iM (by decide),Nat.le_refl _,Nat.le_of_ble_eq_true rfl,List.nodup_cons.mpr ⟨List.not_mem_nil,List.nodup_nil⟩,.later _⟩
  · exact ⟨h.name (by (grind)),iM (by (grind)),Nat.le_refl _,Nat.le_of_ble_eq_true rfl,iM (by (grind)),Nat.le_refl _,Nat.le_of_ble_eq_true rfl,List.nodup_cons.mpr ⟨List.not_mem_nil,List.nodup_nil⟩,.later _⟩
theorem zc:(aD names w many).flatMap (·.gives)=nm names 1::nm names 0::(List.range many).map fun k=>nm names (2 + k):=by
  unfold aD
  rw [List.flatMap_cons,List.flatMap_cons]
  refine congrArg (fun l=>nm names 1::nm names 0::l) ?_
  rw [List.flatMap_map]
  induction List.range many with
  | nil=>rfl
  | cons a l ih=>rw [List.flatMap_cons,List.map_cons,<- ih]; rfl
theorem gB (h:dF names) (hw:Wd w) (hm:many <= 18) {p:List ai} (hp:p.Perm (aD names w many)):bZ p:=by
  have len:(aD names w many).length=many + 2:=by unfold aD; rw [List.length_cons,List.length_cons,List.length_map,List.length_range]
  have nn:=wa h (k:=2 + many) (by (grind))
  refine ⟨by rw [hp.length_eq,len]; (grind),by rw [hp.length_eq,len]; (grind),fun s hs=>adZ h hw hm s (hp.mem_iff.mp hs),?_,?_⟩
  · rw [(hp.map _).nodup_iff,jd]; exact nn
  · rw [(hp.flatMap_right _).nodup_iff,zc]
    have e:(List.range (2 + many)).map (nm names)=nm names 0::nm names 1::(List.range many).map fun k=>nm names (2 + k):=by
      rw [<- jd (w:=w)]
      unfold aD
      simp only [List.map_cons,List.map_map]; rfl
    rw [e] at nn
    exact ((List.Perm.swap _ _ _).nodup_iff).mp nn
end
end Mine
namespace Mine
open PySem
theorem aa3 {w:Str}:∀ (inc:List Int) (x:Int) (t:Nat) (v:Int),inc[t]?=some v->∃ a,(x::bY w x inc)[t]?=some a/\(bY w x inc)[t]?=some (bT w a v):=by
  intro inc
  induction inc with
  | nil=>intro x t v h; contradiction
  | cons y inc ih =>
    intro x t v h
    cases t with
    | zero=>obtain rfl:=Option.some.inj h; exact ⟨x,rfl,rfl⟩
    | succ t=>exact ih (bT w x y) t v h
theorem zg:∀ (lat r:List Int),1 <= r.length->∀ l ∈ dJ r lat,l.length=r.length:=by
  intro lat
  induction lat with
  | nil=>intro r _ l h; contradiction
  | cons v lat ih =>
    intro r hr l h
    have e:(v::r.dropLast).length=r.length:=by rw [List.length_cons,List.length_dropLast]; (grind)
    rcases List.mem_cons.mp h with rfl | h
    · exact e
    · rw [<- e]; exact ih _ (by rw [e]; exact hr) l h
theorem nK {w:Str} {f:Int} {inc lat:List Int} (h:1 <= inc.length):∀ l ∈ dI w f inc lat,l.length=inc.length:=by
  intro l hl
  have ml:=jD (w:=w) inc f
  unfold dI at hl
  rcases List.mem_cons.mp hl with rfl | hl
  · rw [List.length_dropLast,List.length_cons,ml]; rfl
  · rcases List.mem_cons.mp hl with rfl | hl
    · exact ml
    · rw [<- ml]; exact zg lat _ (by rw [ml]; exact h) l hl
theorem vV:∀ (lat r:List Int) (k:Nat) (v:Int),lat[k]?=some v->∃ q,(r::dJ r lat)[k]?=some q/\(dJ r lat)[k]?=some (v::q.dropLast):=by
  intro lat
  induction lat with
  | nil=>intro r k v h; contradiction
  | cons y lat ih =>
    intro r k v h
    cases k with
    | zero=>obtain rfl:=Option.some.inj h; exact ⟨r,rfl,rfl⟩
    | succ k=>exact ih (y::r.dropLast) k v h
noncomputable def dz (w:Str) (f:Int) (inc lat:List Int) (i t:Nat):Int:=((dI w f inc lat).getD i []).getD t 0
theorem ls {α:Type} {l:List α} {i:Nat} {x d:α} (h:l[i]?=some x):l.getD i d=x:=by rw [List.getD_eq_getElem?_getD,h]; rfl
theorem pu {l:List Int} {t:Nat} (h:t + 1 < l.length):l.dropLast.getD t 0=l.getD t 0:=by
  rw [List.getD_eq_getElem?_getD,List.getD_eq_getElem?_getD,List.getElem?_dropLast,if_pos (by (grind))]
section
variable {w:Str} {f:Int} {inc lat:List Int}
theorem af5 (h:1 <= inc.length):dz w f inc lat 0 0=f:=by
  show ((f::bY w f inc).dropLast).getD 0 0=f
  rw [pu (by rw [List.length_cons,jD]; (exact Nat.lt_succ_of_le (by assumption)))]; rfl
theorem afa {t:Nat} (h:t + 1 < inc.length):dz w f inc lat 0 (t + 1)=dz w f inc lat 1 t:=by
  show ((f::bY w f inc).dropLast).getD (t + 1) 0=(bY w f inc).getD t 0
  rw [pu (by rw [List.length_cons,jD]; (exact Nat.lt_succ_of_le (by assumption)))]; rfl
theorem af4 {t:Nat} {v:Int} (h:inc[t]?=some v):dz w f inc lat 1 t=bT w (dz w f inc lat 0 t) v:=by
  obtain ⟨a,h1,h2⟩:=aa3 (w:=w) inc f t v h
  have ht:=(List.getElem?_eq_some_iff.mp h).1
  show (bY w f inc).getD t 0=bT w (((f::bY w f inc).dropLast).getD t 0) v
  rw [pu (by rw [List.length_cons,jD]; (exact Nat.lt_succ_of_le (by assumption))),ls h1,ls h2]
theorem af3 {k:Nat} {v:Int} (hk:lat[k]?=some v):dz w f inc lat (2 + k) 0=v:=by
  obtain ⟨q,_,h2⟩:=vV lat (bY w f inc) k v hk
  unfold dz dI
  rw [Nat.add_comm 2]
  show ((dJ (bY w f inc) lat).getD k []).getD 0 0=v
  rw [ls h2]; rfl
theorem ae9 {k t:Nat} {v:Int} (hk:lat[k]?=some v) (ht:t + 1 < inc.length):dz w f inc lat (2 + k) (t + 1)=dz w f inc lat (1 + k) t:=by
  obtain ⟨q,h1,h2⟩:=vV lat (bY w f inc) k v hk
  unfold dz dI
  rw [Nat.add_comm 2,Nat.add_comm 1]
  show ((dJ (bY w f inc) lat).getD k []).getD (t + 1) 0=((bY w f inc::dJ (bY w f inc) lat).getD k []).getD t 0
  rw [ls h1,ls h2]
  show q.dropLast.getD t 0=_
  have ql:q.length=inc.length:=nK (w:=w) (f:=f) (lat:=lat) (by (grind)) q (List.mem_cons_of_mem _ (List.mem_of_getElem? h1))
  exact pu (by (grind))
end
end Mine
namespace Mine
open PySem
theorem acL {s:ai} {x:Str} (hx:x ∈ s.gives):∀ {p:List ai},(p.flatMap (·.gives)).Nodup->s ∈ p->mE p x=some s:=by
  intro p
  induction p with
  | nil=>intro _ h; contradiction
  | cons a p ih =>
    intro hg hs
    rw [List.flatMap_cons,List.nodup_append] at hg
    unfold mE
    rw [List.find?_cons]
    by_cases ha:x ∈ a.gives
    · rw [decide_eq_true ha]
      rcases List.mem_cons.mp hs with rfl | hs
      · rfl
      · exact absurd rfl (hg.2.2 x ha x (List.mem_flatMap.mpr ⟨s,hs,hx⟩))
    · rw [decide_eq_false ha]
      rcases List.mem_cons.mp hs with rfl | hs
      · exact absurd hx ha
      · exact ih hg.2.1 hs
theorem sB {g:List Str} {l:List PV} {x:Str} (h:x ∈ (g.zip l).map (·.1)):x ∈ g:=by
  obtain ⟨e,he,rfl⟩:=List.mem_map.mp h
  exact (List.of_mem_zip he).1
section
variable {p:List ai} {n:Nat} {A B:bH} {l:List (ai × Int)} {es:cD} {s:ai} {t:Int}
theorem abp {x:Str} {j:Int} (hp:bZ p) (hs:s ∈ p) (h0:0 <= t) (hb:cB p x j=false):ac (x,j) (ce n es s t)=ac (x,j) es:=by
  unfold ce
  split
  · rfl
  · refine kL _ _ ?_
    by_cases hx:x ∈ s.gives
    · refine .inl fun q=>?_
      unfold cB at hb
      rw [acL hx hp.gives hs] at hb
      obtain ⟨h1,h2⟩:=Bool.or_eq_false_iff.mp hb
      have h1:da s.rule=true:=by cases hl:da s.rule <;> rw [hl] at h1 <;> first | rfl | contradiction
      have q:j=t + (if da s.rule=true then 1 else 0):=q
      rw [if_pos h1] at q
      have:=of_decide_eq_false h2
      (grind)
    · exact .inr fun q=>hx (sB q)
theorem bx.free {x:Str} {j:Int} (hp:bZ p) (h:bx p n A B l) (hb:cB p x j=false):ac (x,j) B.es=ac (x,j) A.es:=by
  induction h with
  | nil=>rfl
  | snoc h hs h0 h1 hr ih=>exact (abp hp hs h0 hb).trans ih
theorem aaF {w:Int} {k:Str × Int}:∀ (l:List (Str × PV)) (es:cD),(ac k es).isSome=true->(ac k (l.foldl (dK w) es)).isSome=true:=by
  intro l
  induction l with
  | nil=>intro es h; exact h
  | cons e l ih =>
    intro es h
    rw [List.foldl_cons]
    refine ih _ ?_
    unfold dK
    split
    · exact h
    · rw [kM]
      split
      · rfl
      · exact h
theorem abn {k:Str × Int} (h:(ac k es).isSome=true):(ac k (ce n es s t)).isSome=true:=by
  unfold ce
  split
  · exact h
  · exact aaF _ _ h
theorem ada {w:Int} {v:PV} (hv:gd v=false):∀ (g:List Str) (es:cD) (x:Str),x ∈ g->ac (x,w) ((g.zip (List.replicate g.length v)).foldl (dK w) es)=some v:=by
  intro g
  induction g with
  | nil=>intro es x h; contradiction
  | cons a g ih =>
    intro es x h
    rw [List.length_cons,List.replicate_succ,List.zip_cons_cons,List.foldl_cons]
    by_cases hx:x ∈ g
    · exact ih _ x hx
    · rw [kL _ _ (.inr fun q=>hx (sB q))]
      unfold dK
      rw [if_neg (by rw [hv]; decide),kM,if_pos]
      rw [(List.mem_cons.mp h).resolve_right hx]
theorem wC {x:Str} (hw:kO s.rule=false) (hv:gd (cq s.rule (b7 es s t))=false) (hn:bt s t ≠ n) (hx:x ∈ s.gives):ac (x,bt s t) (ce n es s t)=some (cq s.rule (b7 es s t)):=by
  unfold ce kS
  rw [if_neg hn,if_neg (by rw [hw]; decide)]
  exact ada hv _ _ _ hx
theorem zG {k:Str × Int} (h:k.2 ≠ bt s t\/k.1 ∉ s.gives):ac k (ce n es s t)=ac k es:=by
  unfold ce
  split
  · rfl
  · exact kL _ _ (h.imp id fun h q=>h (sB q))
theorem wi (hc:cN s.rule=false) (hm:cE es s t=none):∀ x ∈ s.needs,∃ v,ac (x,t) es=some v:=by
  intro x hx
  unfold cE mM at hm
  rw [hc,if_neg (by decide),List.find?_eq_none] at hm
  cases ha:ac (x,t) es with
  | none=>exact absurd (by rw [ha]; rfl) (hm x hx)
  | some v=>exact ⟨v,rfl⟩
theorem aaS (hc:cN s.rule=false) (h:∀ x ∈ s.needs,(ac (x,t) es).isSome=true):cE es s t=none:=by
  unfold cE mM
  rw [hc,if_neg (by decide),List.find?_eq_none]
  intro x hx
  have:=h x hx
  cases ha:ac (x,t) es with
  | none=>rw [ha] at this; contradiction
  | some v=>exact fun q=>nomatch q
theorem zi (hr:B.rdy s t=false) (hm:cE B.es s t=none):(ac (s.name,t) B.gs).isSome=true:=by
  have hr:((ac (s.name,t) B.gs).isNone && (cE B.es s t).isNone)=false:=hr
  rw [hm] at hr
  cases ha:ac (s.name,t) B.gs with
  | none=>rw [ha] at hr; contradiction
  | some v=>rfl
theorem acu (hp:bZ p) {a b:ai} (ha:a ∈ p) (hb:b ∈ p) (e:a.name=b.name):a=b:=by
  have h:=hp.names
  clear hp
  induction p with
  | nil=>contradiction
  | cons c p ih =>
    rw [List.map_cons,List.nodup_cons] at h
    rcases List.mem_cons.mp ha with rfl | ha2
    · rcases List.mem_cons.mp hb with rfl | hb2
      · rfl
      · exact absurd (List.mem_map.mpr ⟨b,hb2,e.symm⟩) h.1
    · rcases List.mem_cons.mp hb with rfl | hb2
      · exact absurd (List.mem_map.mpr ⟨a,ha2,e⟩) h.1
      · exact ih ha2 hb2 h.2
theorem yx {κ:Type} [DecidableEq κ] {k:κ} {es:List (κ × PV)}:(ac k es).isSome=true ↔ k ∈ es.map (·.1):=by
  unfold ac
  rw [Option.isSome_map,List.find?_isSome,List.mem_map]
  exact ⟨fun ⟨e,he,q⟩=>⟨e,he,of_decide_eq_true q⟩,fun ⟨e,he,q⟩=>⟨e,he,decide_eq_true q⟩⟩
structure Gk (p:List ai) (n:Nat) (B:bH):Prop where
  nodup:(B.gs.map (·.1)).Nodup
  inn:∀ k:Str × Int,k ∈ B.gs.map (·.1)->∃ s ∈ p,k.1=s.name/\0 <= k.2/\k.2 < (n:Int)
  os:B.os=B.gs.map fun e=>.tup [.str e.1.1,.int e.1.2]
theorem bx.gk (h:bx p n A B l) (g:Gk p n A):Gk p n B:=by
  induction h with
  | nil=>exact g
  | @snoc B l s t h hs h0 h1 hr ih =>
    have hg:=(bH.rdy_of hr).1
    have nin:(s.name,t) ∉ B.gs.map (·.1):=fun q=>by
      have:=yx.mpr q
      rw [hg] at this; contradiction
    refine ⟨?_,fun k hk=>?_,?_⟩
    · show ((B.gs++[((s.name,t),PV.bool true)]).map (·.1)).Nodup
      rw [List.map_append,List.nodup_append]
      refine ⟨ih.nodup,List.nodup_cons.mpr ⟨List.not_mem_nil,List.nodup_nil⟩,fun a ha b hb q=>?_⟩
      rw [List.mem_singleton.mp hb] at q
      have q:a=(s.name,t):=q
      rw [q] at ha; exact nin ha
    · have hk:k ∈ (B.gs++[((s.name,t),PV.bool true)]).map (·.1):=hk
      rw [List.map_append] at hk
      rcases List.mem_append.mp hk with hk | hk
      · exact ih.inn k hk
      · rw [List.mem_singleton.mp hk]
        exact ⟨s,hs,rfl,h0,h1⟩
    · show B.os++[_]=(B.gs++[((s.name,t),PV.bool true)]).map _
      rw [List.map_append,ih.os]; rfl
theorem bx.count (h:bx p n A B l):B.gs.length=A.gs.length + l.length:=by
  induction h with
  | nil=>rfl
  | @snoc B l s t h hs h0 h1 hr ih =>
    show (B.gs++[((s.name,t),PV.bool true)]).length=_
    rw [List.length_append,List.length_append,ih]; rfl
end
end Mine
namespace Mine
open PySem
section
variable {names:List Str} {w:Str} {f:Int} {inc lat:List Int} {many n:Nat}
noncomputable def oS (w:Str) (f:Int) (inc lat:List Int) (i t:Nat):Int:=if i=23 then inc.getD t 0 else dz w f inc lat i t
structure fJ (names:List Str) (w:Str) (inc lat:List Int) (many n:Nat):Prop where
  nm:dF names
  wd:Wd w
  inc:inc.length=n
  lat:lat.length=many
  many:many <= 18
structure Jv (names:List Str) (w:Str) (f:Int) (inc lat:List Int) (many n:Nat) (B:bH):Prop where
  val:∀ i,i < 24->∀ (t:Nat) (v:PV),ac (nm names i,(t:Int)) B.es=some v->v=.int (oS w f inc lat i t)
  giv:∀ s ∈ aD names w many,∀ t:Int,(ac (s.name,t) B.gs).isSome=true->bt s t ≠ n->∀ x ∈ s.gives,(ac (x,bt s t) B.es).isSome=true
  ok:dO B.es
theorem p6 (h:Wd w):kO (.word w)=false/\cN (.word w)=false/\da (.word w)=false:=by
  cases h <;> exact ⟨by decide +kernel,by decide +kernel,by decide +kernel⟩
theorem fA:kO (.word "later")=false/\cN (.word "later")=false/\da (.word "later")=true:=⟨by decide +kernel,by decide +kernel,by decide +kernel⟩
structure adN (names:List Str) (w:Str) (f:Int) (inc lat:List Int) (n:Nat) (s:ai):Prop where
  way:kO s.rule=false
  cho:cN s.rule=false
  val:∃ g,g < 24/\s.gives=[nm names g]/\∀ (es:cD) (t:Nat),t < n->dO es->(∀ i,i < 24->∀ v,ac (nm names i,(t:Int)) es=some v->v=.int (oS w f inc lat i t))->cE es s t=none->bt s t ≠ n->∃ u:Nat,bt s t=u/\cq s.rule (b7 es s t)=.int (oS w f inc lat g u)
theorem ja {s:ai} {t:Nat} (h:da s.rule=true):bt s t=((t + 1:Nat):Int):=by
  unfold bt
  rw [if_pos h]; rfl
theorem p5 {s:ai} {t:Int} (h:da s.rule=false):bt s t=t:=by
  unfold bt
  rw [if_neg (by rw [h]; decide),Int.add_zero]
theorem qj (F:fJ names w inc lat many n) {s:ai} (hs:s ∈ aD names w many):adN names w f inc lat n s:=by
  have later1:∀ (a g:Nat),a < 23->g < 23->(∀ t,t + 1 < n->dz w f inc lat g (t + 1)=dz w f inc lat a t)->∀ x,adN names w f inc lat n ⟨x,.word "later",[nm names a],[nm names g]⟩:=fun a g ha hg hrow x=>by
    obtain ⟨l1,l2,l3⟩:=fA
    refine ⟨l1,l2,g,Nat.lt_succ_of_lt hg,rfl,fun es t ht hv hval hm hw=>⟨t + 1,ja l3,?_⟩⟩
    obtain ⟨v,hv1⟩:=wi (s:=⟨x,.word "later",[nm names a],[nm names g]⟩) l2 hm (nm names a) List.mem_cons_self
    have e:=hval a (Nat.lt_succ_of_lt ha) v hv1
    show (ac (nm names a,(t:Int)) es).getD .none=_
    rw [ja l3] at hw
    rw [hv1,e]
    show PV.int _=PV.int _
    unfold oS
    rw [if_neg (by (grind)),if_neg (by (grind)),hrow t (by (grind))]
  rcases cR.mp hs with rfl | rfl | ⟨k,hk,rfl⟩
  · obtain ⟨l1,l2,l3⟩:=p6 F.wd
    refine ⟨l1,l2,1,by decide,rfl,fun es t ht hv hval hm hw=>⟨t,p5 l3,?_⟩⟩
    have ms:=wi (s:=nH names w) l2 hm
    obtain ⟨v,hv1⟩:=ms (nm names 0) List.mem_cons_self
    obtain ⟨u,hu1⟩:=ms (nm names 23) (List.mem_cons_of_mem _ List.mem_cons_self)
    have e1:=hval 0 (by decide) v hv1
    have e2:=hval 23 (by decide) u hu1
    obtain ⟨i,hi,h0,h1⟩:=hv _ _ hv1
    rw [e1] at hi
    injection hi with hi
    show cq (.word w) [(ac (nm names 0,(t:Int)) es).getD .none,(ac (nm names 23,(t:Int)) es).getD .none]=_
    rw [hv1,hu1,e1,e2]
    show cq (.word w) [PV.int _,PV.int _]=_
    rw [xG F.wd (by rw [hi]; exact ⟨h0,h1⟩)]
    refine congrArg PV.int ?_
    have ht':t < inc.length:=by rw [F.inc]; exact ht
    have e3:inc[t]?=some (inc.getD t 0):=by rw [List.getD_eq_getElem?_getD,List.getElem?_eq_getElem ht']; rfl
    exact (af4 e3).symm
  · exact later1 1 0 (by decide) (by decide) (fun t ht=>afa (by rw [F.inc]; exact ht)) _
  · refine later1 (1 + k) (2 + k) (by have:=F.many; (grind)) (by have:=F.many; (grind)) (fun t ht=>?_) _
    have hk':k < lat.length:=by rw [F.lat]; exact hk
    exact ae9 (v:=lat.getD k 0) (by rw [List.getD_eq_getElem?_getD,List.getElem?_eq_getElem hk']; rfl) (by rw [F.inc]; exact ht)
theorem Jv.fire {p:List ai} {B:bH} {s:ai} {t:Int} (F:fJ names w inc lat many n) (hp:p.Perm (aD names w many)) (h:Jv names w f inc lat many n B) (hs:s ∈ p) (h0:0 <= t) (h1:t < n) (hr:B.rdy s t=true):Jv names w f inc lat many n (B.fire n s t):=by
  have po:=gB F.nm F.wd F.many hp
  obtain ⟨r1,r2⟩:=bH.rdy_of hr
  obtain ⟨t,rfl⟩:=Int.eq_ofNat_of_zero_le h0
  have hs':=hp.mem_iff.mp hs
  obtain ⟨gw,gc,g,hg,hgs,gv⟩:=qj (f:=f) F hs'
  have key:=gv B.es t (by (exact Int.ofNat_lt.mp (by assumption))) h.ok (fun i hi v=>h.val i hi t v) r2
  refine ⟨fun i hi u v hv=>?_,fun s' hs2 t' hf hw x hx=>?_,h.ok.fire (po.steps s hs) r2⟩
  · have hv:ac (nm names i,(u:Int)) (ce n B.es s t)=some v:=hv
    by_cases hn:bt s t=n
    · unfold ce at hv
      rw [if_pos hn] at hv
      exact h.val i hi u v hv
    · obtain ⟨c,hc,ev⟩:=key hn
      by_cases q:(u:Int)=bt s t/\nm names i ∈ s.gives
      · rw [q.1,wC gw (by rw [ev]; rfl) hn q.2,ev] at hv
        obtain rfl:=Option.some.inj hv
        have e1:u=c:=by have:=q.1.trans hc; (grind)
        have e2:i=g:=F.nm.inj hi hg (by have:=q.2; rw [hgs] at this; exact List.mem_singleton.mp this)
        rw [e1,e2]
      · rw [zG (by
          by_cases q1:(u:Int)=bt s t
          · exact .inr fun q2=>q ⟨q1,q2⟩
          · exact .inl q1)] at hv
        exact h.val i hi u v hv
  · show (ac (x,bt s' t') (ce n B.es s t)).isSome=true
    have hf:(ac (s'.name,t') (B.gs++[((s.name,(t:Int)),PV.bool true)])).isSome=true:=hf
    rw [gq r1] at hf
    by_cases q:(s'.name,t')=(s.name,(t:Int))
    · obtain ⟨q1,q2⟩:=Prod.mk.inj q
      obtain rfl:=acu po (hp.mem_iff.mpr hs2) hs q1
      subst q2
      obtain ⟨c,hc,ev⟩:=key hw
      rw [wC gw (by rw [ev]; rfl) hw hx]; rfl
    · rw [if_neg q] at hf
      exact abn (h.giv s' hs2 t' hf hw x hx)
theorem bx.jv {p:List ai} {A B:bH} {l:List (ai × Int)} (F:fJ names w inc lat many n) (hp:p.Perm (aD names w many)) (h:bx p n A B l) (j:Jv names w f inc lat many n A):Jv names w f inc lat many n B:=by
  induction h with
  | nil=>exact j
  | snoc h hs h0 h1 hr ih=>exact ih.fire F hp hs h0 h1 hr
noncomputable def bH.put (B:bH) (x:Str) (j i:Int):bH:=⟨B.es++[((x,j),.int i)],B.gs,B.os⟩
theorem Jv.put {B:bH} {i t:Nat} {v:Int} (F:fJ names w inc lat many n) (h:Jv names w f inc lat many n B) (hi:i < 24) (ha:ac (nm names i,(t:Int)) B.es=none) (hv:v=oS w f inc lat i t) (h0:0 <= v/\v <= 999999):Jv names w f inc lat many n (B.put (nm names i) t v):=by
  have key:∀ k,ac k (B.put (nm names i) t v).es=if k=(nm names i,(t:Int)) then some (.int v) else ac k B.es:=fun k=>gq ha
  refine ⟨fun a ha2 u x hx=>?_,fun s hs u hf hw x hx=>?_,fun k x hx=>?_⟩
  · rw [key] at hx
    by_cases q:(nm names a,(u:Int))=(nm names i,(t:Int))
    · rw [if_pos q] at hx
      obtain rfl:=Option.some.inj hx
      obtain ⟨q1,q2⟩:=Prod.mk.inj q
      obtain rfl:=F.nm.inj ha2 hi q1
      obtain rfl:u=t:=by (grind)
      rw [hv]
    · rw [if_neg q] at hx; exact h.val a ha2 u x hx
  · have:=h.giv s hs u hf hw x hx
    rw [key]
    by_cases q:(x,bt s u)=(nm names i,(t:Int))
    · rw [if_pos q]; rfl
    · rw [if_neg q]; exact this
  · rw [key] at hx
    by_cases q:k=(nm names i,(t:Int))
    · rw [if_pos q] at hx
      obtain rfl:=Option.some.inj hx
      exact ⟨v,rfl,h0⟩
    · rw [if_neg q] at hx; exact h.ok k x hx
theorem abM {B:bH} (F:fJ names w inc lat many n) (h:Jv names w f inc lat many n B) (hr:∀ t:Int,0 <= t->t < n->∀ s ∈ aD names w many,B.rdy s t=false)
    (h23:∀ t:Nat,t < n->(ac (nm names 23,(t:Int)) B.es).isSome=true) (h0:(ac (nm names 0,((0:Nat):Int)) B.es).isSome=true) (hl:∀ k,k < many->(ac (nm names (2 + k),((0:Nat):Int)) B.es).isSome=true) :
    ∀ t:Nat,t < n->(∀ s ∈ aD names w many,(ac (s.name,(t:Int)) B.gs).isSome=true)/\∀ i,i < 2 + many->(ac (nm names i,(t:Int)) B.es).isSome=true:=by
  have fire:∀ (t:Nat),t < n->∀ s ∈ aD names w many,(∀ x ∈ s.needs,(ac (x,(t:Int)) B.es).isSome=true)->(ac (s.name,(t:Int)) B.gs).isSome=true:=fun t ht s hs hn =>
    zi (hr t (Int.natCast_nonneg t) (by (exact Int.ofNat_lt.mpr (by assumption))) s hs) (aaS (qj (f:=f) F hs).cho hn)
  have m0:nH names w ∈ aD names w many:=cR.mpr (.inl rfl)
  have m1:nG names ∈ aD names w many:=cR.mpr (.inr (.inl rfl))
  have mL:∀ k,k < many->tM names k ∈ aD names w many:=fun k hk=>cR.mpr (.inr (.inr ⟨k,hk,rfl⟩))
  have iM:∀ (t:Nat),t < n->(ac (nm names 0,(t:Int)) B.es).isSome=true->(∀ k,k < many->(ac (nm names (2 + k),(t:Int)) B.es).isSome=true)->(∀ s ∈ aD names w many,(ac (s.name,(t:Int)) B.gs).isSome=true)/\∀ i,i < 2 + many->(ac (nm names i,(t:Int)) B.es).isSome=true:=fun t ht a0 aL=>by
    have f0:=fire t ht _ m0 (fun x hx=>by
      rcases List.mem_cons.mp hx with rfl | hx
      · exact a0
      · rw [List.mem_singleton.mp hx]; exact h23 t ht)
    have g0:=h.giv _ m0 (t:Int) f0 (by rw [p5 (p6 F.wd).2.2]; (grind)) (nm names 1) List.mem_cons_self
    rw [p5 (p6 F.wd).2.2] at g0
    have all:∀ i,i < 2 + many->(ac (nm names i,(t:Int)) B.es).isSome=true:=fun i hi=>by
      match i,hi with
      | 0,_=>exact a0
      | 1,_=>exact g0
      | i + 2,hi=>rw [Nat.add_comm]; exact aL i (by (grind))
    refine ⟨fun s hs=>?_,all⟩
    rcases cR.mp hs with rfl | rfl | ⟨k,hk,rfl⟩
    · exact f0
    · exact fire t ht _ m1 fun x hx=>by rw [List.mem_singleton.mp hx]; exact g0
    · exact fire t ht _ (mL k hk) fun x hx=>by rw [List.mem_singleton.mp hx]; exact all (1 + k) (by (grind))
  intro t
  induction t with
  | zero=>intro ht; exact iM 0 ht h0 hl
  | succ t ih =>
    intro ht
    obtain ⟨fs,as⟩:=ih (by (exact Nat.lt_of_succ_lt (by assumption)))
    have giv:∀ s ∈ aD names w many,da s.rule=true->∀ x ∈ s.gives,(ac (x,((t + 1:Nat):Int)) B.es).isSome=true:=fun s hs hl x hx=>by
      have:=h.giv s hs (t:Int) (fs s hs) (by rw [ja hl]; (grind)) x hx
      rw [ja hl] at this; exact this
    exact iM (t + 1) ht (giv _ m1 fA.2.2 _ List.mem_cons_self) fun k hk=>giv _ (mL k hk) fA.2.2 _ List.mem_cons_self
theorem abN {p:List ai} {B:bH} (F:fJ names w inc lat many n) (hp:p.Perm (aD names w many)) (g:Gk p n B) (h:∀ t:Nat,t < n->∀ s ∈ aD names w many,(ac (s.name,(t:Int)) B.gs).isSome=true):B.gs.length=(2 + many) * n:=by
  have hm:=F.many
  have nn:=wa F.nm (k:=2 + many) (by (grind))
  have pm:(B.gs.map (·.1)).Perm (((List.range (2 + many)).map (nm names)).flatMap fun x=>(List.range n).map fun (t:Nat)=>(x,(t:Int))):=by
    refine (List.perm_ext_iff_of_nodup g.nodup ?_).mpr fun k=>?_
    · unfold List.Nodup
      rw [List.pairwise_flatMap]
      refine ⟨fun x _=>List.Pairwise.map _ (fun a b q e=>q (by have:=(Prod.mk.inj e).2; (grind))) (List.nodup_range (n:=n)),?_⟩
      refine nn.imp fun {a b} q x hx y hy e=>?_
      obtain ⟨i,_,rfl⟩:=List.mem_map.mp hx
      obtain ⟨j,_,rfl⟩:=List.mem_map.mp hy
      exact q (Prod.mk.inj e).1
    · rw [List.mem_flatMap]
      constructor
      · intro hk
        obtain ⟨s,hs,h1,h2,h3⟩:=g.inn k hk
        obtain ⟨x,t⟩:=k
        obtain ⟨t,rfl⟩:=Int.eq_ofNat_of_zero_le h2
        refine ⟨x,?_,List.mem_map.mpr ⟨t,List.mem_range.mpr (by have:(t:Int) < n:=h3; (exact Int.ofNat_lt.mp (by assumption))),rfl⟩⟩
        rw [<- jd (w:=w),show x=s.name from h1]
        exact List.mem_map.mpr ⟨s,hp.mem_iff.mp hs,rfl⟩
      · rintro ⟨x,hx,hk⟩
        obtain ⟨t,ht,rfl⟩:=List.mem_map.mp hk
        rw [<- jd (w:=w)] at hx
        obtain ⟨s,hs,rfl⟩:=List.mem_map.mp hx
        exact yx.mp (h t (List.mem_range.mp ht) s hs)
  have:=pm.length_eq
  rw [List.length_map] at this
  rw [this,List.length_flatMap]
  have c:∀ l:List Str,(l.map fun x=>((List.range n).map fun (t:Nat)=>(x,(t:Int))).length).sum=l.length * n:=by
    intro l
    induction l with
    | nil=>simp
    | cons a l ih=>rw [List.map_cons,List.sum_cons,ih,List.length_map,List.length_range,List.length_cons,Nat.succ_mul,Nat.add_comm]
  rw [c,List.length_map,List.length_range]
end
end Mine
namespace Mine
open PySem
theorem z0:((0:Nat):Int) <= 0:=Int.le_refl 0
theorem tS {α:Type} [DecidableEq α]:∀ (l k:List α),l.Nodup->(∀ x ∈ l,x ∈ k)->l.length <= k.length:=by
  intro l
  induction l with
  | nil=>intro k _ _; exact Nat.zero_le _
  | cons a l ih =>
    intro k hn hk
    rw [List.nodup_cons] at hn
    have ha:=hk a List.mem_cons_self
    have:=ih (k.erase a) hn.2 fun x hx=>(List.mem_erase_of_ne (fun e:x=a=>hn.1 (by rw [<- e]; exact hx))).mpr (hk x (List.mem_cons_of_mem _ hx))
    rw [List.length_erase_of_mem ha] at this
    have:=List.length_pos_of_mem ha
    rw [List.length_cons]; (grind)
theorem Gk.len {p:List ai} {n:Nat} {B:bH} (g:Gk p n B):B.gs.length <= p.length * n:=by
  have:=tS _ ((p.map (·.name)).flatMap fun x=>(List.range n).map fun (t:Nat)=>(x,(t:Int))) g.nodup fun k hk=>by
    obtain ⟨s,hs,h1,h2,h3⟩:=g.inn k hk
    obtain ⟨x,t⟩:=k
    obtain ⟨t,rfl⟩:=Int.eq_ofNat_of_zero_le h2
    rw [List.mem_flatMap]
    refine ⟨x,List.mem_map.mpr ⟨s,hs,Eq.symm h1⟩,List.mem_map.mpr ⟨t,List.mem_range.mpr (by have:(t:Int) < n:=h3; (exact Int.ofNat_lt.mp (by assumption))),rfl⟩⟩
  rw [List.length_map,List.length_flatMap] at this
  have c:∀ l:List Str,(l.map fun x=>((List.range n).map fun (t:Nat)=>(x,(t:Int))).length).sum=l.length * n:=by
    intro l
    induction l with
    | nil=>simp
    | cons a l ih=>rw [List.map_cons,List.sum_cons,ih,List.length_map,List.length_range,List.length_cons,Nat.succ_mul,Nat.add_comm]
  rw [c,List.length_map] at this
  exact this
theorem aeB {p:List ai} {x:Str} {j:Int} (h:∀ s ∈ p,x ∈ s.gives->da s.rule=true/\j <= 0):cB p x j=false:=by
  unfold cB
  cases hg:mE p x with
  | none=>rfl
  | some s =>
    have hs:=List.mem_of_find?_eq_some hg
    have hx:x ∈ s.gives:=of_decide_eq_true (List.find?_some (p:=fun s:ai=>decide (x ∈ s.gives)) hg)
    obtain ⟨h1,h2⟩:=h s hs hx
    show (!da s.rule || decide (j > 0))=false
    rw [h1,decide_eq_false (by (grind))]; rfl
noncomputable def mN (X:Ix) (w:Option (Nat × MO)) (σ:ab):Prop:=∀ j m,w=some (j,m)->j ≠ X.h/\j ≠ X.gn/\j ≠ X.od/\σ[j]?=some m
theorem mN.keep {X:Ix} {w:Option (Nat × MO)} {σ σ':ab} (h:mN X w σ) (k:bM X σ σ'):mN X w σ':=fun j m e=>by
  obtain ⟨h1,h2,h3,h4⟩:=h j m e
  exact ⟨h1,h2,h3,k.at_ j m h1 h2 h3 h4⟩
theorem mN.ok {X:Ix} {w:Option (Nat × MO)} {σ:ab} (h:mN X w σ):cK w σ:=by
  cases w with
  | none=>trivial
  | some q=>exact (h q.1 q.2 rfl).2.2.2
section
variable {names:List Str} {w:Str} {f:Int} {inc lat:List Int} {many n:Nat} {p:List ai} {X:Ix} {nv:PV} {rr:Nat} {B:bH} {σ:ab} {d:Nat}
theorem dc.kept {es gs:cD} {v:PV} {l:List Int} {σ':ab} (hl:1 <= l.length) (b:Bo p n es gs [] X σ) (h:dc σ v l):∀ σ',bM X σ σ'->dc σ' v l:=by
  intro σ' k
  cases h with
  | fl=>exact .fl l
  | ref j _ e =>
    refine .ref j l (k.at_ j _ ?_ ?_ ?_ e)
    · rintro rfl; rw [b.hr] at e; exact nomatch e
    · rintro rfl; rw [b.go] at e; exact nomatch e
    · rintro rfl
      rw [b.od] at e
      cases l with
      | nil=>exact absurd hl (by decide)
      | cons a l=>exact nomatch e
structure c6 (names:List Str) (w:Str) (f:Int) (inc lat:List Int) (many n:Nat) (p:List ai) (X:Ix) (nv:PV) (rr:Nat) (B:bH) (σ:ab):Prop where
  bo:nh p n B X σ
  jv:Jv names w f inc lat many n B
  gk:Gk p n B
  keep:∀ σ',bM X σ σ'->cW names σ' nv/\xp σ' rr (dI w f inc lat)
theorem c6.go {B':bH} {σ':ab} (h:c6 names w f inc lat many n p X nv rr B σ) (b:nh p n B' X σ') (j:Jv names w f inc lat many n B') (g:Gk p n B') (k:bM X σ σ'):c6 names w f inc lat many n p X nv rr B' σ':=⟨b,j,g,fun d7 k'=>h.keep d7 (k.trans k')⟩
theorem aaK (F:fJ names w inc lat many n) (hp:p.Perm (aD names w many)):∀ s ∈ p,g9 s:=fun s hs=>(qj (f:=0) F (hp.mem_iff.mp hs)).cho
theorem qi {i t:Nat} {v:Int} {c:Nat} (F:fJ names w inc lat many n) (hp:p.Perm (aD names w many)) (h:c6 names w f inc lat many n p X nv rr B σ) (hz:ck B (c + B.gs.length)) (hc:c < 1000) (hn:n <= 200) (hi:i < 24) (ht:t < n) (hpl:jz p (nm names i)=true) (hb:cB p (nm names i) t=false) (ha:ac (nm names i,(t:Int)) B.es=none) (hv:v=oS w f inc lat i t) (h0:0 <= v/\v <= 999999) :
    ∃ σ',aK PP topN (d + 4) fE [.inst af X.i,.str (nm names i),.int (t:Int),.int v] σ=.ok .none σ'/\c6 names w f inc lat many n p X nv rr (B.put (nm names i) t v) σ'/\ck (B.put (nm names i) t v) (c + 1 + B.gs.length)/\bM X σ σ':=by
  have po:=gB F.nm F.wd F.many hp
  have gl:B.gs.length <= 4000:=Nat.le_trans h.gk.len (Nat.mul_le_mul po.most hn)
  have:=hz.es
  refine ⟨_,afc (d:=d) po h.bo hpl (Int.natCast_nonneg t) (Int.ofNat_lt.mpr ht) hb h0 ha (by (grind)),h.go h.bo.here (h.jv.put F hi ha hv h0) ⟨h.gk.nodup,h.gk.inn,h.gk.os⟩ (.set (.inl rfl)),⟨?_,?_,?_⟩,.set (.inl rfl)⟩
  · show (B.es++[_]).length <= _
    rw [List.length_append]
    show B.es.length + 1 <= _
    (grind)
  · have:=hz.gs; show B.gs.length <= _; (grind)
  · have:=hz.os; show B.os.length <= _; (grind)
theorem wk {c:Nat} (F:fJ names w inc lat many n) (hp:p.Perm (aD names w many)) (h:c6 names w f inc lat many n p X nv rr B σ) (hz:ck B (c + B.gs.length)) (hc:c < 1000) (hn:n <= 200) :
    ∃ B' k σ',aK PP topN (d + 6) rL [.inst af X.i] σ=.ok (.int (k:Nat)) σ'/\c6 names w f inc lat many n p X nv rr B' σ'/\ck B' (c + B'.gs.length)/\bM X σ σ'/\B'.gs.length=B.gs.length + k/\(∀ x j,cB p x j=false->ac (x,j) B'.es=ac (x,j) B.es)/\∀ t:Int,0 <= t->t < n->∀ s ∈ p,B'.rdy s t=false:=by
  have po:=gB F.nm F.wd F.many hp
  have gl:B.gs.length <= 4000:=Nat.le_trans h.gk.len (Nat.mul_le_mul po.most hn)
  obtain ⟨B',l,σ',e,b,k,fs,_,nr⟩:=agL (d:=d) po (aaK F hp) hn h.bo h.jv.ok hz (by (grind))
  refine ⟨B',l.length,σ',e,h.go b (fs.jv F hp h.jv) (fs.gk h.gk) k,?_,k,fs.count,fun x j hb=>fs.free po hb,nr⟩
  have:=fs.sized po hz
  rw [fs.count,<- Nat.add_assoc]; exact this
theorem t7 (F:fJ names w inc lat many n) {s:ai} {i:Nat} (hi:i < 24) (hs:s ∈ aD names w many) (hx:nm names i ∈ s.gives):(i=1/\s=nH names w)\/(i=0/\s=nG names)\/∃ k,k < many/\i=2 + k/\s=tM names k:=by
  have hm:=F.many
  rcases cR.mp hs with rfl | rfl | ⟨k,hk,rfl⟩
  · exact .inl ⟨F.nm.inj hi (by decide) (List.mem_singleton.mp hx),rfl⟩
  · exact .inr (.inl ⟨F.nm.inj hi (by decide) (List.mem_singleton.mp hx),rfl⟩)
  · exact .inr (.inr ⟨k,hk,F.nm.inj hi (by (grind)) (List.mem_singleton.mp hx),rfl⟩)
theorem gh (F:fJ names w inc lat many n) (hp:p.Perm (aD names w many)) {i:Nat} {j:Int} (hi:i < 24) (h:i=23\/(i ≠ 1/\j <= 0)):cB p (nm names i) j=false:=by
  have hm:=F.many
  refine aeB fun s hs hx=>?_
  rcases t7 F hi (hp.mem_iff.mp hs) hx with ⟨q,rfl⟩ | ⟨q,rfl⟩ | ⟨k,hk,q,rfl⟩
  · (grind)
  · exact ⟨fA.2.2,by (grind)⟩
  · exact ⟨fA.2.2,by (grind)⟩
theorem nM (hp:p.Perm (aD names w many)) {s:ai} {x:Str} (hs:s ∈ aD names w many) (hx:x ∈ s.gives):jz p x=true:=by
  unfold jz
  rw [decide_eq_true (List.mem_flatMap.mpr ⟨s,hp.mem_iff.mpr hs,hx⟩)]; rfl
theorem afd (F:fJ names w inc lat many n) (hp:p.Perm (aD names w many)):jz p (nm names 23)=true:=by
  have hm:=F.many
  unfold jz
  have:nm names 23 ∈ kT p:=acn.mpr ⟨List.mem_flatMap.mpr ⟨nH names w,hp.mem_iff.mpr (cR.mpr (.inl rfl)),List.mem_cons_of_mem _ List.mem_cons_self⟩,fun q=>by
    obtain ⟨s,hs,hx⟩:=List.mem_flatMap.mp q
    rcases t7 F (by decide) (hp.mem_iff.mp hs) hx with ⟨q,_⟩ | ⟨q,_⟩ | ⟨k,hk,q,_⟩
    · (grind)
    · (grind)
    · (grind)⟩
  rw [decide_eq_true this,Bool.or_true]
theorem sK (F:fJ names w inc lat many n) (hp:p.Perm (aD names w many)) {i:Nat} (hi:i < 2 + many):jz p (nm names i)=true:=by
  match i,hi with
  | 0,_=>exact nM hp (cR.mpr (.inr (.inl rfl))) List.mem_cons_self
  | 1,_=>exact nM hp (cR.mpr (.inl rfl)) List.mem_cons_self
  | k + 2,hi =>
    refine nM hp (cR.mpr (.inr (.inr ⟨k,by (grind),rfl⟩))) ?_
    rw [Nat.add_comm]; exact List.mem_cons_self
theorem ey {i t:Nat} {v:Int} {x:Str} {j:Int} (ha:ac (nm names i,(t:Int)) B.es=none) (h:(x,j) ≠ (nm names i,(t:Int))):ac (x,j) (B.put (nm names i) t v).es=ac (x,j) B.es:=(gq ha).trans (if_neg h)
theorem mu {i t:Nat} {v:Int} (ha:ac (nm names i,(t:Int)) B.es=none):ac (nm names i,(t:Int)) (B.put (nm names i) t v).es=some (.int v):=(gq ha).trans (if_pos rfl)
end
end Mine
namespace Mine
open PySem
noncomputable def RL (sc nv:PV) (w:Str) (n many:Nat) (st:PV) (tr:Int) (bi:Nat) (k:Option PV) (inc lat:List Int) (f:Int) (rr told:Nat) (ag:Option PV):au:=
  some sc::some nv::some (.str w)::some (.int (n:Nat))::some (.int (many:Nat))::some st::some (.int tr)::some (.inst af bi)::k::some (.fl (inc.map .int))::some (.fl (lat.map .int))::some (.int f)::some (.ref rr)::some (.int (told:Nat))::ag::List.replicate 12 none
section
variable {names:List Str} {w:Str} {f:Int} {inc lat:List Int} {many n:Nat} {p:List ai} {X:Ix} {nv:PV} {rr:Nat} {d:Nat} {l:List Int} {st:PV} {tr:Int}
theorem wD {xs:List Int} {σ:ab} {t:Nat} (h:t < xs.length) (hl:xs.length <= 1000):dg (.fl (xs.map .int)) (.int (t:Nat)) σ=.ok (.int (xs.getD t 0)) σ:=by
  refine gA (by rw [List.length_map,aI]; (exact Nat.le_trans (by assumption) (by decide))) (Int.natCast_nonneg t) ?_
  rw [Int.toNat_natCast,List.getElem?_map,List.getElem?_eq_getElem h,List.getD_eq_getElem?_getD,List.getElem?_eq_getElem h]; rfl
theorem aaG {wt:Option (Nat × MO)} (F:fJ names w inc lat many n) (hp:p.Perm (aD names w many)) (hl:l.length <= 63) (hn:n <= 200) (hv:∀ y ∈ inc,0 <= y/\y <= 999999):∀ (xs:List Int) (B:bH) (σ:ab) (c:Nat) (z:Option PV),c6 names w f inc lat many n p X nv rr B σ->ck B (c + B.gs.length)->c + xs.length <= 200->xs.Nodup->(∀ x ∈ xs,(0 <= x/\x < n)/\ac (nm names 23,x) B.es=none)->mN X wt σ ->
    ∃ B' σ' z',aZ wt (bq 8) (fun ρ σ=>ex (CC 19) topN jh ρ σ) (xs.map .int) (RL (.fl (l.map .int)) nv w n many st tr X.i z inc lat f rr B.gs.length none) σ=.next (RL (.fl (l.map .int)) nv w n many st tr X.i z' inc lat f rr B'.gs.length none) σ'/\c6 names w f inc lat many n p X nv rr B' σ'/\ck B' (c + xs.length + B'.gs.length)/\(∀ x ∈ xs,(ac (nm names 23,x) B'.es).isSome=true) ∧
      (∀ x j,cB p x j=false->x ≠ nm names 23->ac (x,j) B'.es=ac (x,j) B.es)/\∀ j,(ac (nm names 23,j) B.es).isSome=true->(ac (nm names 23,j) B'.es).isSome=true:=by
  intro xs
  induction xs with
  | nil=>intro B σ c z h hz _ _ _ hw; exact ⟨B,σ,z,wE hw.ok,h,hz,(fun x hx=>absurd hx List.not_mem_nil),fun _ _ _ _=>rfl,fun _ h=>h⟩
  | cons x xs ih =>
    intro B σ c z h hz hc hd hx hw
    rw [List.length_cons] at hc
    rw [List.nodup_cons] at hd
    obtain ⟨⟨x0,x1⟩,xa⟩:=hx x List.mem_cons_self
    obtain ⟨t,rfl⟩:=Int.eq_ofNat_of_zero_le x0
    have ht:t < n:=Int.ofNat_lt.mp x1
    have hti:t < inc.length:=by rw [F.inc]; exact ht
    have mem:inc.getD t 0 ∈ inc:=by rw [List.getD_eq_getElem?_getD,List.getElem?_eq_getElem hti]; exact List.getElem_mem hti
    have fr:∀ j,cB p (nm names 23) j=false:=fun j=>gh F hp (by decide) (.inl rfl)
    obtain ⟨aC,e1,h1,z1,k1⟩:=qi (d:=15) F hp h hz (by (grind)) hn (by decide) ht (afd F hp) (fr _) xa (v:=inc.getD t 0) rfl (hv _ mem)
    have b0:ex (CC 19) topN pP (RL (.fl (l.map .int)) nv w n many st tr X.i (some (.int (t:Int))) inc lat f rr B.gs.length none) σ=.next (RL (.fl (l.map .int)) nv w n many st tr X.i (some (.int (t:Int))) inc lat f rr B.gs.length none) aC:=
      bR (cA (i:=X.i) (σ₁:=σ) (σ₂:=σ) (vs:=[.str (nm names 23),.int (t:Int),.int (inc.getD t 0)]) rfl h.bo.ns rfl (aX (bu (x:=nv) (σ₁:=σ) rfl (y:=.int ((23:Nat):Int)) (σ₂:=σ) rfl ((h.keep σ .refl).1.sub F.nm.len (by decide))) (aX (x:=.int (t:Int)) (σ₁:=σ) rfl (aX (bu (x:=.fl (inc.map .int)) (σ₁:=σ) rfl (y:=.int (t:Int)) (σ₂:=σ) rfl (wD hti (by rw [F.inc]; (exact Nat.le_trans (by assumption) (by decide))))) rfl))) e1)
    have fin:∀ (B2:bH) (aO:ab),ex (CC 19) topN pO (RL (.fl (l.map .int)) nv w n many st tr X.i (some (.int (t:Int))) inc lat f rr B.gs.length none) aC=.next (RL (.fl (l.map .int)) nv w n many st tr X.i (some (.int (t:Int))) inc lat f rr B2.gs.length none) aO->c6 names w f inc lat many n p X nv rr B2 aO->ck B2 (c + 1 + B2.gs.length)->bM X aC aO->(∀ x j,cB p x j=false->ac (x,j) B2.es=ac (x,j) (B.put (nm names 23) t (inc.getD t 0)).es) ->
        ∃ B' σ' z',aZ wt (bq 8) (fun ρ σ=>ex (CC 19) topN jh ρ σ) (((t:Int)::xs).map .int) (RL (.fl (l.map .int)) nv w n many st tr X.i z inc lat f rr B.gs.length none) σ=.next (RL (.fl (l.map .int)) nv w n many st tr X.i z' inc lat f rr B'.gs.length none) σ'/\c6 names w f inc lat many n p X nv rr B' σ'/\ck B' (c + ((t:Int)::xs).length + B'.gs.length)/\(∀ x ∈ (t:Int)::xs,(ac (nm names 23,x) B'.es).isSome=true) ∧
          (∀ x j,cB p x j=false->x ≠ nm names 23->ac (x,j) B'.es=ac (x,j) B.es)/\∀ j,(ac (nm names 23,j) B.es).isSome=true->(ac (nm names 23,j) B'.es).isSome=true:=fun B2 aO e2 h2 z2 k2 f2=>by
      obtain ⟨B',σ',z',e,h',hz',all,oth,mono⟩:=ih B2 aO (c + 1) (some (.int (t:Int))) h2 z2 (by (grind)) hd.2 (fun y hy=>⟨(hx y (List.mem_cons_of_mem _ hy)).1,by
        rw [f2 _ _ (fr y),ey xa fun q=>hd.1 ((Prod.mk.inj q).2 ▸ hy)]
        exact (hx y (List.mem_cons_of_mem _ hy)).2⟩) (hw.keep (k1.trans k2))
      have self:(ac (nm names 23,(t:Int)) B'.es).isSome=true:=mono _ (by rw [f2 _ _ (fr _),mu xa]; rfl)
      refine ⟨B',σ',z',(ub hw.ok (ρ₁:=RL (.fl (l.map .int)) nv w n many st tr X.i (some (.int (t:Int))) inc lat f rr B.gs.length none) rfl ((aa b0).trans ((aa e2).trans ah))).trans e,h',?_,fun y hy=>?_,fun y j hb hy=>?_,fun j hj=>?_⟩
      · rw [List.length_cons,Nat.add_comm xs.length,<- Nat.add_assoc]; exact hz'
      · rcases List.mem_cons.mp hy with rfl | hy
        · exact self
        · exact all y hy
      · rw [oth y j hb hy,f2 y j hb,ey xa fun q=>hy (Prod.mk.inj q).1]
      · refine mono j ?_
        rw [f2 _ _ (fr j)]
        by_cases q:j=(t:Int)
        · rw [q,mu xa]; rfl
        · rw [ey xa fun q2=>q (Prod.mk.inj q2).2]; exact hj
    have cell:ev (CC 19) (.call aA (.cons (.v 0) (.cons (.k (.int 1)) .nil))) (RL (.fl (l.map .int)) nv w n many st tr X.i (some (.int (t:Int))) inc lat f rr B.gs.length none) aC=.ok (.int (l.getD 1 0)) aC:=cw (x:=.fl (l.map .int)) (y:=.int ((1:Nat):Int)) (σ₁:=aC) (σ₂:=aC) rfl rfl (h12 (d:=18) hl)
    have tt:tst (CC 19) (.and (.cons (.cmp (.bin .mod (.bin .fdiv (.call aA (.cons (.v 0) (.cons (.k (.int 1)) .nil))) (.k (.int 12))) (.k (.int 2))) .eq (.k (.int 1))) (.cons (.cmp (.v 8) .lt (.k (.int 4))) .nil))) (RL (.fl (l.map .int)) nv w n many st tr X.i (some (.int (t:Int))) inc lat f rr B.gs.length none) aC=.ok ((l.getD 1 0 / 12 % 2 == 1) && decide ((t:Int) < 4)) aC:=
      o9 (o8 (bC (uc (by decide) (by decide) (by decide) cell) (y:=.int 1) (σ₂:=aC) rfl eI) fun _=>lh (bC (x:=.int (t:Int)) (y:=.int 4) (σ₁:=aC) (σ₂:=aC) rfl rfl lt_int))
    cases hq:((l.getD 1 0 / 12 % 2 == 1) && decide ((t:Int) < 4)) with
    | false =>
      rw [hq] at tt
      exact fin (B.put (nm names 23) t (inc.getD t 0)) aC ((aw tt).trans ah) h1 z1 .refl fun _ _ _=>rfl
    | true =>
      rw [hq] at tt
      obtain ⟨B2,k,aO,e2,h2,z2,k2,cnt,fr2,_⟩:=wk (d:=13) F hp h1 z1 (by (grind)) hn
      refine fin B2 aO ((aR tt).trans ((aa (a:=m8) (ρ':=RL (.fl (l.map .int)) nv w n many st tr X.i (some (.int (t:Int))) inc lat f rr B2.gs.length none) (σ':=aO) ?_).trans ah)) h2 z2 k2 fr2
      refine (aW (aH (x:=.int (B.gs.length:Nat)) (σ₁:=aC) rfl (bm (x:=.inst af X.i) (σ₁:=aC) rfl e2) add_int)).trans ?_
      rw [cnt]; rfl
theorem xR (F:fJ names w inc lat many n) (hp:p.Perm (aD names w many)) (hn1:1 <= n) (hn:n <= 200) (hv:∀ y ∈ lat,0 <= y/\y <= 999999) {sc:PV} {td:Nat}:∀ (k a:Nat) (B:bH) (σ:ab) (c:Nat) (z:Option PV),a + k=many->c6 names w f inc lat many n p X nv rr B σ->ck B (c + B.gs.length)->c + k <= 300->(∀ j,a <= j->j < many->ac (nm names (2 + j),((0:Nat):Int)) B.es=none) ->
    ∃ B' σ' z',aZ none (bq 8) (fun ρ σ=>ex (CC 19) topN r8 ρ σ) ((List.range' a k).map fun (i:Nat)=>PV.int (0 + (i:Int) * 1)) (RL sc nv w n many st tr X.i z inc lat f rr td none) σ=.next (RL sc nv w n many st tr X.i z' inc lat f rr td none) σ'/\c6 names w f inc lat many n p X nv rr B' σ'/\ck B' (c + k + B'.gs.length)/\B'.gs=B.gs/\(∀ j,a <= j->j < many->(ac (nm names (2 + j),((0:Nat):Int)) B'.es).isSome=true) ∧
      ∀ i t,i < 24->(i < 2 + a\/i=23)->ac (nm names i,t) B'.es=ac (nm names i,t) B.es:=by
  intro k
  have hm:=F.many
  induction k with
  | zero=>intro a B σ c z ha h hz _ _; exact ⟨B,σ,z,bJ,h,hz,rfl,fun j h1 h2=>by (grind),fun _ _ _ _=>rfl⟩
  | succ k ih =>
    intro a B σ c z ha h hz hc hx
    have hal:a < lat.length:=by rw [F.lat]; (grind)
    have la:lat[a]?=some (lat.getD a 0):=by rw [List.getD_eq_getElem?_getD,List.getElem?_eq_getElem hal]; rfl
    have xa:=hx a (Nat.le_refl _) (by (grind))
    obtain ⟨aC,e1,h1,z1,k1⟩:=qi (d:=15) F hp h hz (by (grind)) hn (i:=2 + a) (by (grind)) (t:=0) (by (assumption)) (sK F hp (by (grind))) (gh F hp (by (grind)) (.inr ⟨by (grind),z0⟩)) xa (v:=lat.getD a 0) (by
      unfold oS
      rw [if_neg (by (grind))]
      exact (af3 la).symm) (hv _ (List.mem_of_getElem? la))
    have b0:ex (CC 19) topN pN (RL sc nv w n many st tr X.i (some (.int (a:Int))) inc lat f rr td none) σ=.next (RL sc nv w n many st tr X.i (some (.int (a:Int))) inc lat f rr td none) aC:=
      bR (cA (i:=X.i) (σ₁:=σ) (σ₂:=σ) (vs:=[.str (nm names (2 + a)),.int ((0:Nat):Int),.int (lat.getD a 0)]) rfl h.bo.ns rfl (aX (bu (x:=nv) (σ₁:=σ) rfl (aH (x:=.int ((2:Nat):Int)) (σ₁:=σ) rfl (y:=.int (a:Int)) (σ₂:=σ) rfl add_int) (by rw [<- Int.natCast_add]; exact (h.keep σ .refl).1.sub F.nm.len (by (grind)))) (aX (x:=.int ((0:Nat):Int)) (σ₁:=σ) rfl (aX (bu (x:=.fl (lat.map .int)) (σ₁:=σ) rfl (y:=.int (a:Int)) (σ₂:=σ) rfl (wD hal (by rw [F.lat]; (grind)))) rfl))) e1)
    obtain ⟨B',σ',z',e,h',hz',gs,all,oth⟩:=ih (a + 1) (B.put (nm names (2 + a)) ((0:Nat):Int) (lat.getD a 0)) aC (c + 1) (some (.int (a:Int))) (by (grind)) h1 z1 (by (grind)) (fun j h2 h3=>by
      rw [ey xa fun q=>absurd (F.nm.inj (by (grind)) (by (grind)) (Prod.mk.inj q).1) (by (grind))]
      exact hx j (by (exact Nat.le_of_lt (by assumption))) h3)
    have hb:bq 8 (PV.int (0 + (a:Int) * 1)) (RL sc nv w n many st tr X.i z inc lat f rr td none)=some (RL sc nv w n many st tr X.i (some (.int (a:Int))) inc lat f rr td none):=by
      rw [show (0:Int) + (a:Int) * 1=a by (grind)]; rfl
    refine ⟨B',σ',z',?_,h',?_,gs,fun j h2 h3=>?_,fun i t hi hq=>?_⟩
    · rw [List.range'_succ,List.map_cons]
      exact (bg hb ((aa b0).trans ah)).trans e
    · rw [show c + (k + 1)=c + 1 + k by (grind)]; exact hz'
    · by_cases q:j=a
      · subst q
        rw [oth (2 + j) _ (by (grind)) (.inl (by (grind))),mu xa]; rfl
      · exact all j (by (grind)) h3
    · rw [oth i t hi (by (grind)),ey xa fun q=>absurd (F.nm.inj hi (by (grind)) (Prod.mk.inj q).1) (by (grind))]
end
end Mine
namespace Mine
open PySem
section
variable {names:List Str} {w:Str} {f:Int} {inc lat:List Int} {many n:Nat} {p:List ai} {X:Ix} {nv:PV} {rr:Nat} {st:PV} {tr:Int} {B:bH} {σ:ab} {sc:PV} {td:Nat}
noncomputable def rn (w:Str) (f:Int) (inc lat:List Int) (n i:Nat):List (Int × Int):=(List.range n).map fun (t:Nat)=>((t:Int),dz w f inc lat i t)
theorem abZ (F:fJ names w inc lat many n) (h:Jv names w f inc lat many n B) {i:Nat} (hi:i < 2 + many) (all:∀ t:Nat,t < n->(ac (nm names i,(t:Int)) B.es).isSome=true):rf (nm names i) n B.es=(rn w f inc lat n i).map eh:=by
  have hm:=F.many
  unfold rf rn
  rw [List.map_map]
  have:∀ l:List Nat,(∀ t ∈ l,t < n)->(l.filterMap fun (t:Nat)=>(ac (nm names i,(t:Int)) B.es).map fun v=>PV.tup [.int t,v])=l.map (eh ∘ fun (t:Nat)=>((t:Int),dz w f inc lat i t)):=by
    intro l
    induction l with
    | nil=>intro _; rfl
    | cons t l ih =>
      intro ht
      obtain ⟨v,hv⟩:=Option.isSome_iff_exists.mp (all t (ht t List.mem_cons_self))
      have e:=h.val i (by (grind)) t v hv
      unfold oS at e
      rw [if_neg (by (grind))] at e
      rw [List.filterMap_cons,hv,List.map_cons,<- ih fun u hu=>ht u (List.mem_cons_of_mem _ hu),e]; rfl
  exact this _ fun t ht=>List.mem_range.mp ht
theorem ad7 {i:Nat} (hi:i < 2 + lat.length):(dI w f inc lat)[i]?=some ((dI w f inc lat).getD i []):=by
  have:i < (dI w f inc lat).length:=by
    unfold dI
    rw [List.length_cons,List.length_cons,tQ]; (grind)
  rw [List.getD_eq_getElem?_getD,List.getElem?_eq_getElem this]; rfl
theorem aeI (F:fJ names w inc lat many n) (h:c6 names w f inc lat many n p X nv rr B σ) (hn1:1 <= n) (hn:n <= 200) {i:Nat} (hi:i < 2 + many) {ag:Option PV}:ev (CC 19) qC (RL sc nv w n many st tr X.i (some (.int (i:Int))) inc lat f rr td ag) σ=.ok (.fl ((rn w f inc lat n i).map eh)) σ:=by
  have hm:=F.many
  obtain ⟨vs,r1,r2,r3,r4⟩:=(h.keep σ .refl).2
  have ri:=ad7 (w:=w) (f:=f) (inc:=inc) (i:=i) (lat:=lat) (by rw [F.lat]; exact hi)
  have rl:((dI w f inc lat).getD i []).length=n:=by
    rw [<- F.inc]; exact nK (w:=w) (f:=f) (lat:=lat) (by rw [F.inc]; exact hn1) _ (List.mem_of_getElem? ri)
  have hvi:i < vs.length:=by rw [r2]; exact (List.getElem?_eq_some_iff.mp ri).1
  have lv:=r4 i _ _ (List.getElem?_eq_getElem hvi) ri
  have rng:evIt (CC 19) (.range1 (.v 3)) (RL sc nv w n many st tr X.i (some (.int (i:Int))) inc lat f rr td ag) σ=.ok (aq 0 1 n,none) σ:=by
    show (if 0 <= (n:Int)/\(n:Int) <= ao then ae.ok (aq 0 1 (n:Int).toNat,none) σ else .stuck)=_
    rw [if_pos ⟨by (exact Int.natCast_nonneg _),by rw [aI]; (grind)⟩]; rfl
  refine (iq (fun y=>match y with | .int t=>.tup [.int t,.int (dz w f inc lat i t.toNat)] | _=>.none) rng (by simp [aq,aI]; (exact Nat.le_trans (by assumption) (by decide))) (fun y hy=>?_)).trans ?_
  · obtain ⟨t,ht,rfl⟩:=List.mem_map.mp hy
    have ht:=List.mem_range.mp ht
    rw [show (0:Int) + (t:Int) * 1=t by (grind)]
    have e1:ev (CC 19) (.sub (.v 3) (.v 2)) ((aY [none,none,some 8,some 12] (RL sc nv w n many st tr X.i (some (.int (i:Int))) inc lat f rr td ag)).set 1 (some (.int (t:Int)))) σ=.ok vs[i] σ:=
      bu (x:=.ref rr) (σ₁:=σ) rfl (y:=.int (i:Int)) (σ₂:=σ) rfl (sH r1 (by rw [aI]; (exact Nat.le_trans (by assumption) (by decide))) (Int.natCast_nonneg i) (by rw [Int.toNat_natCast]; exact List.getElem?_eq_getElem hvi))
    have e2:ev (CC 19) (.sub (.sub (.v 3) (.v 2)) (.v 1)) ((aY [none,none,some 8,some 12] (RL sc nv w n many st tr X.i (some (.int (i:Int))) inc lat f rr td ag)).set 1 (some (.int (t:Int)))) σ=.ok (.int (dz w f inc lat i t)) σ:=
      bu e1 (y:=.int (t:Int)) (σ₂:=σ) rfl (lv.sub (by (grind)) (by
        unfold dz
        generalize (dI w f inc lat).getD i []=q at rl
        rw [List.getD_eq_getElem?_getD,List.getElem?_eq_getElem (show t < q.length by (grind))]; rfl))
    exact abx (a:=.int (t:Int)) rfl e2
  · refine congrArg (fun l=>ae.ok (PV.fl l) σ) ?_
    unfold aq rn
    rw [List.map_map,List.map_map]
    refine List.map_congr_left fun t _=>?_
    show PV.tup [.int (0 + (t:Int) * 1),.int (dz w f inc lat i (0 + (t:Int) * 1).toNat)]=PV.tup [.int (t:Int),.int (dz w f inc lat i t)]
    rw [show (0:Int) + (t:Int) * 1=t by (grind),Int.toNat_natCast]
theorem afL (F:fJ names w inc lat many n) (h:c6 names w f inc lat many n p X nv rr B σ) (hp:p.Perm (aD names w many)) (hn1:1 <= n) (hn:n <= 200) {i:Nat} (hi:i < 2 + many) (all:∀ t:Nat,t < n->(ac (nm names i,(t:Int)) B.es).isSome=true) {ag:Option PV} :
    ex (CC 19) topN mF (RL sc nv w n many st tr X.i (some (.int (i:Int))) inc lat f rr td ag) σ=.next (RL sc nv w n many st tr X.i (some (.int (i:Int))) inc lat f rr td (some (.int 1))) σ:=by
  have iM:∀ (ag:Option PV),ex (CC 19) topN oy (RL sc nv w n many st tr X.i (some (.int (i:Int))) inc lat f rr td ag) σ=.next (RL sc nv w n many st tr X.i (some (.int (i:Int))) inc lat f rr td ag) σ:=fun ag=>by
    have hm:=F.many
    have c1:ev (CC 19) (.meth af gI "told" (.v 7) (.cons (.sub (.v 1) (.v 8)) .nil)) (RL sc nv w n many st tr X.i (some (.int (i:Int))) inc lat f rr td ag) σ=.ok (.fl ((rn w f inc lat n i).map eh)) σ:=by
      rw [<- abZ F h.jv hi all]
      exact cA (i:=X.i) (σ₁:=σ) (σ₂:=σ) (vs:=[.str (nm names i)]) rfl h.bo.ns rfl (aX (bu (x:=nv) (σ₁:=σ) rfl (y:=.int (i:Int)) (σ₂:=σ) rfl ((h.keep σ .refl).1.sub F.nm.len (by (grind)))) rfl) (adV (d:=17) hn h.bo (sK F hp hi))
    have tt:tst (CC 19) (.not (.call kY (.cons (.meth af gI "told" (.v 7) (.cons (.sub (.v 1) (.v 8)) .nil)) (.cons qC .nil)))) (RL sc nv w n many st tr X.i (some (.int (i:Int))) inc lat f rr td ag) σ=.ok (!true) σ:=
      dm (dR (cw c1 (aeI F h hn1 hn hi) (zA (d:=18))))
    exact (aa (a:=m7) ((aw tt).trans ah)).trans ah
  refine (aa (a:=pM) (bU (ys:=[.int 0,.int 1]) (σ₁:=σ) rfl ?_)).trans ah
  exact (bg (ρ₁:=RL sc nv w n many st tr X.i (some (.int (i:Int))) inc lat f rr td (some (.int 0))) rfl (iM _)).trans ((bg (ρ₁:=RL sc nv w n many st tr X.i (some (.int (i:Int))) inc lat f rr td (some (.int 1))) rfl (iM _)).trans bJ)
theorem acT (F:fJ names w inc lat many n) (h:c6 names w f inc lat many n p X nv rr B σ) (hp:p.Perm (aD names w many)) (hn1:1 <= n) (hn:n <= 200) (all:∀ i,i < 2 + many->∀ t:Nat,t < n->(ac (nm names i,(t:Int)) B.es).isSome=true):∀ (k a:Nat) (z ag:Option PV),a + k=2 + many ->
    ∃ z' ag',aZ none (bq 8) (fun ρ σ=>ex (CC 19) topN mF ρ σ) ((List.range' a k).map fun (i:Nat)=>PV.int (0 + (i:Int) * 1)) (RL sc nv w n many st tr X.i z inc lat f rr td ag) σ=.next (RL sc nv w n many st tr X.i z' inc lat f rr td ag') σ:=by
  intro k
  induction k with
  | zero=>intro a z ag _; exact ⟨z,ag,bJ⟩
  | succ k ih =>
    intro a z ag ha
    obtain ⟨z',ag',e⟩:=ih (a + 1) (some (.int (a:Int))) (some (.int 1)) (by (grind))
    have hb:bq 8 (PV.int (0 + (a:Int) * 1)) (RL sc nv w n many st tr X.i z inc lat f rr td ag)=some (RL sc nv w n many st tr X.i (some (.int (a:Int))) inc lat f rr td ag):=by
      rw [show (0:Int) + (a:Int) * 1=a by (grind)]; rfl
    refine ⟨z',ag',?_⟩
    rw [List.range'_succ,List.map_cons]
    exact (bg hb (afL F h hp hn1 hn (by (grind)) (all a (by (grind))))).trans e
theorem acB {c:Nat} {z:Option PV} (F:fJ names w inc lat many n) (h:c6 names w f inc lat many n p X nv rr B σ) (hp:p.Perm (aD names w many)) (hn1:1 <= n) (hn:n <= 200) (hz:ck B (c + B.gs.length)) (hc:c < 1000)
    (h23:∀ t:Nat,t < n->(ac (nm names 23,(t:Int)) B.es).isSome=true) (h0:(ac (nm names 0,((0:Nat):Int)) B.es).isSome=true) (hl:∀ k,k < many->(ac (nm names (2 + k),((0:Nat):Int)) B.es).isSome=true) :
    ∃ ρ' σ',ex (CC 19) topN (.cons oA (.cons oz (.cons ou .nil))) (RL sc nv w n many st tr X.i z inc lat f rr B.gs.length none) σ=.ret (.bool true) ρ' σ':=by
  have hm:=F.many
  have po:=gB F.nm F.wd F.many hp
  obtain ⟨B2,k,aO,e2,h2,z2,k2,cnt,fr2,nr⟩:=wk (d:=13) F hp h hz hc hn
  have f23:∀ t:Nat,cB p (nm names 23) t=false:=fun t=>gh F hp (by decide) (.inl rfl)
  have at_:=abM F h2.jv (fun t t0 t1 s hs=>nr t t0 t1 s (hp.mem_iff.mpr hs)) (fun t ht=>by rw [fr2 _ _ (f23 t)]; exact h23 t ht) (by rw [fr2 _ _ (gh F hp (by decide) (.inr ⟨by decide,z0⟩))]; exact h0) (fun k hk=>by rw [fr2 _ _ (gh F hp (by (grind)) (.inr ⟨by (grind),z0⟩))]; exact hl k hk)
  have gl:B2.gs.length=(2 + many) * n:=abN F hp h2.gk fun t ht=>(at_ t ht).1
  have ol:B2.os.length=(2 + many) * n:=by rw [h2.gk.os,List.length_map]; exact gl
  have gb:(2 + many) * n <= 4000:=Nat.mul_le_mul (show 2 + many <= 20 by (grind)) hn
  have mul:∀ {σ:ab},ev (CC 19) (.bin .mul (.bin .add (.k (.int 2)) (.v 4)) (.v 3)) (RL sc nv w n many st tr X.i z inc lat f rr B.gs.length none) σ=.ok (.int (((2 + many) * n:Nat):Int)) σ:=fun {σ}=>by
    refine aH (x:=.int (2 + (many:Int))) (σ₁:=σ) rfl (y:=.int (n:Int)) (σ₂:=σ) rfl ((mul_int (.inl (by (grind)))).trans ?_)
    rw [Int.natCast_mul,Int.natCast_add]; rfl
  have t1:tst (CC 19) (.cmp (.bin .add (.v 13) (.call rL (.cons (.v 7) .nil))) .ne (.bin .mul (.bin .add (.k (.int 2)) (.v 4)) (.v 3))) (RL sc nv w n many st tr X.i z inc lat f rr B.gs.length none) σ=.ok false aO:=by
    refine bC (aH (x:=.int (B.gs.length:Nat)) (σ₁:=σ) rfl (bm (x:=.inst af X.i) (σ₁:=σ) rfl e2) add_int) mul ?_
    rw [<- Int.natCast_add,<- cnt,gl,aaO,beq_self_eq_true]; rfl
  have t2:tst (CC 19) (.cmp (.b1 .len (.meth af iW "fired" (.v 7) .nil)) .ne (.bin .mul (.bin .add (.k (.int 2)) (.v 4)) (.v 3))) (RL sc nv w n many st tr X.i z inc lat f rr B.gs.length none) aO=.ok false aO:=by
    refine bC (dk (cA (i:=X.i) (σ₁:=aO) (σ₂:=aO) (vs:=[]) rfl h2.bo.ns rfl rfl (afD (d:=18) h2.bo (by rw [ol]; (exact Nat.le_trans (by assumption) (by decide))))) (aa6 (by rw [ol,aI]; (exact Nat.le_trans (by assumption) (by decide))))) mul ?_
    rw [ol,aaO,beq_self_eq_true]; rfl
  have s17:ex (CC 19) topN oA (RL sc nv w n many st tr X.i z inc lat f rr B.gs.length none) σ=.next (RL sc nv w n many st tr X.i z inc lat f rr B.gs.length none) aO:=(aw (jx (eu t1 (gz t2)))).trans ah
  obtain ⟨z',ag',e⟩:=acT (sc:=sc) (st:=st) (tr:=tr) (td:=B.gs.length) F h2 hp hn1 hn (fun i hi t ht=>(at_ t ht).2 i hi) (2 + many) 0 z none (Nat.zero_add _)
  have it:evIt (CC 19) (.range1 (.bin .add (.k (.int 2)) (.v 4))) (RL sc nv w n many st tr X.i z inc lat f rr B.gs.length none) aO=.ok ((List.range' 0 (2 + many)).map fun (i:Nat)=>PV.int (0 + (i:Int) * 1),none) aO:=by
    show (if 0 <= 2 + (many:Int)/\2 + (many:Int) <= ao then ae.ok (aq 0 1 (2 + (many:Int)).toNat,none) aO else .stuck)=_
    rw [if_pos ⟨by (exact Int.natCast_nonneg _),by rw [aI]; (grind)⟩,<- List.range_eq_range',show (2 + (many:Int)).toNat=2 + many by (grind)]; rfl
  exact ⟨_,aO,(aa s17).trans ((aa (a:=oz) (bU it e)).trans (ak (a:=ou) (av rfl)))⟩
end
end Mine
namespace Mine
open PySem
theorem xF {α:Type} {xs:List α} {a:Nat} (h:a <= xs.length):bI xs (some (a:Int)) none=xs.drop a:=by
  have e:clipAt xs.length (a:Int)=a:=(clipAt_nat _ _).trans (Nat.min_eq_left h)
  unfold bI
  simp only [Option.elim,e]
  exact List.take_of_length_le (by simp)
theorem aas {α:Type} {xs:List α} {b:Nat} (h:b <= xs.length):bI xs none (some (b:Int))=xs.take b:=by
  have e:clipAt xs.length (b:Int)=b:=(clipAt_nat _ _).trans (Nat.min_eq_left h)
  unfold bI
  simp only [Option.elim,e,Nat.sub_zero,List.drop_zero]
theorem act (c:Int):∃ (names:List Str) (nv:PV) (σ:ab),dF names/\aK PP topN 19 fC [.int c] []=.ok nv σ/\cW names σ nv:=by
  obtain ⟨names,h1,h2,h3,_,h4⟩:=h14 c
  rcases h4 with h4 | h4
  · exact ⟨names,_,_,⟨h1,h2,h3⟩,h4 18,.fl⟩
  · exact ⟨names,_,_,⟨h1,h2,h3⟩,h4 18,.ref 0 rfl⟩
theorem adO (c:Int):∃ w:Str,Wd w/\∀ {σ:ab},dg (.fl [.str "sum",.str "times",.str "least",.str "most"]) (.int (c % 4)) σ=.ok (.str w) σ:=by
  have n0:=Int.emod_nonneg c (show (4:Int) ≠ 0 by decide)
  have n1:=Int.emod_lt_of_pos c (show (0:Int) < 4 by decide)
  generalize c % 4=q at n0 n1
  refine wm (n:=4) (P:=fun q=>∃ w:Str,Wd w/\∀ {σ:ab},dg (.fl [.str "sum",.str "times",.str "least",.str "most"]) (.int q) σ=.ok (.str w) σ) (lc (lc (lc (lc ac9 ?_) ?_) ?_) ?_) n0 n1
  · exact ⟨_,.sum,rfl⟩
  · exact ⟨_,.times,rfl⟩
  · exact ⟨_,.least,rfl⟩
  · exact ⟨_,.most,rfl⟩
section
variable {l:List Int} {σ:ab}
theorem cell_ {ρ:au} (hl:l.length <= 63) (k:Nat) (h:ev (CC 19) (.v 0) ρ σ=.ok (.fl (l.map .int)) σ):ev (CC 19) (.call aA (.cons (.v 0) (.cons (.k (.int ((k:Nat):Int))) .nil))) ρ σ=.ok (.int (l.getD k 0)) σ:=cw h (y:=.int ((k:Nat):Int)) (σ₂:=σ) rfl (h12 (d:=18) hl)
noncomputable def R0 (l:List Int) (nv:PV) (w:Str) (a b:Option PV):au:=some (.fl (l.map .int))::some nv::some (.str w)::a::b::List.replicate 22 none
theorem aeV {nv:PV} {w:Str} (hl:l.length <= 63):∃ n:Nat,1 <= n/\n <= 200/\ex (CC 19) topN wT (R0 l nv w (some (.int (1 + l.getD 2 0 % 12))) none) σ=.next (R0 l nv w (some (.int (n:Nat))) none) σ:=by
  have tt:tst (CC 19) (.cmp (.bin .mod (.bin .fdiv (.call aA (.cons (.v 0) (.cons (.k (.int ((2:Nat):Int))) .nil))) (.k (.int 12))) (.k (.int 8))) .eq (.k (.int 1))) (R0 l nv w (some (.int (1 + l.getD 2 0 % 12))) none) σ=.ok (l.getD 2 0 / 12 % 8 == 1) σ:=
    bC (uc (by decide) (by decide) (by decide) (cell_ hl 2 rfl)) (y:=.int 1) (σ₂:=σ) rfl eI
  cases hq:(l.getD 2 0 / 12 % 8 == 1) with
  | false =>
    rw [hq] at tt
    have n0:=Int.emod_nonneg (l.getD 2 0) (show (12:Int) ≠ 0 by decide)
    have n1:=Int.emod_lt_of_pos (l.getD 2 0) (show (0:Int) < 12 by decide)
    refine ⟨(1 + l.getD 2 0 % 12).toNat,by (grind),by (grind),?_⟩
    rw [Int.toNat_of_nonneg (by (grind))]
    exact (aw tt).trans ah
  | true =>
    rw [hq] at tt
    have n0:=Int.emod_nonneg (l.getD 2 0 / 96) (show (9:Int) ≠ 0 by decide)
    have n1:=Int.emod_lt_of_pos (l.getD 2 0 / 96) (show (0:Int) < 9 by decide)
    refine ⟨(200 - l.getD 2 0 / 96 % 9).toNat,by (grind),by (grind),?_⟩
    rw [Int.toNat_of_nonneg (by (grind))]
    exact (aR tt).trans ((aa (a:=r6) (aW (aH (x:=.int 200) (σ₁:=σ) rfl (uc (by decide) (by decide) (by decide) (cell_ hl 2 rfl)) sub_int))).trans ah)
theorem af8 {nv:PV} {w:Str} {n:Nat} (hl:l.length <= 63):∃ m:Nat,m <= 18/\ex (CC 19) topN wR (R0 l nv w (some (.int (n:Nat))) (some (.int (1 + l.getD 3 0 % 4)))) σ=.next (R0 l nv w (some (.int (n:Nat))) (some (.int (m:Nat)))) σ:=by
  have tt:tst (CC 19) (.and (.cons (.cmp (.bin .mod (.bin .fdiv (.call aA (.cons (.v 0) (.cons (.k (.int ((3:Nat):Int))) .nil))) (.k (.int 4))) (.k (.int 5))) .eq (.k (.int 1))) (.cons (.cmp (.v 3) .lt (.k (.int 100))) .nil))) (R0 l nv w (some (.int (n:Nat))) (some (.int (1 + l.getD 3 0 % 4)))) σ=.ok ((l.getD 3 0 / 4 % 5 == 1) && decide ((n:Int) < 100)) σ:=
    o9 (o8 (bC (uc (by decide) (by decide) (by decide) (cell_ hl 3 rfl)) (y:=.int 1) (σ₂:=σ) rfl eI) fun _=>lh (bC (x:=.int (n:Int)) (y:=.int 100) (σ₁:=σ) (σ₂:=σ) rfl rfl lt_int))
  cases hq:((l.getD 3 0 / 4 % 5 == 1) && decide ((n:Int) < 100)) with
  | false =>
    rw [hq] at tt
    have n0:=Int.emod_nonneg (l.getD 3 0) (show (4:Int) ≠ 0 by decide)
    have n1:=Int.emod_lt_of_pos (l.getD 3 0) (show (0:Int) < 4 by decide)
    refine ⟨(1 + l.getD 3 0 % 4).toNat,by (grind),?_⟩
    rw [Int.toNat_of_nonneg (by (grind))]
    exact (aw tt).trans ah
  | true =>
    rw [hq] at tt
    have n0:=Int.emod_nonneg (l.getD 3 0 / 20) (show (9:Int) ≠ 0 by decide)
    have n1:=Int.emod_lt_of_pos (l.getD 3 0 / 20) (show (0:Int) < 9 by decide)
    refine ⟨(18 - l.getD 3 0 / 20 % 9).toNat,by (grind),?_⟩
    rw [Int.toNat_of_nonneg (by (grind))]
    exact (aR tt).trans ((aa (a:=rZ) (aW (aH (x:=.int 18) (σ₁:=σ) rfl (uc (by decide) (by decide) (by decide) (cell_ hl 3 rfl)) sub_int))).trans ah)
theorem aea {r:Nat} {ss:List ai} {c:Int} {ρ:au} (hs:σ[r]?=some (.lst (ss.map ai.pv))) (h1:1 <= ss.length) (h2:ss.length <= 100) (h5:ev (CC 19) (.v 5) ρ σ=.ok (.ref r) σ) (h6:ev (CC 19) (.v 6) ρ σ=.ok (.int (c % (ss.length:Nat))) σ) :
    ∃ p:List ai,p.Perm ss/\ev (CC 19) (.b1 .tuple (.bin .add (.slice (.v 5) (.v 6) (.k .none)) (.slice (.v 5) (.k .none) (.v 6)))) ρ σ=.ok (a5 p) σ:=by
  have n0:=Int.emod_nonneg c (show (ss.length:Int) ≠ 0 by (exact Int.ofNat_ne_zero.mpr (Nat.ne_of_gt (by assumption))))
  have n1:=Int.emod_lt_of_pos c (show (0:Int) < ss.length by (exact Int.ofNat_lt.mpr (by assumption)))
  obtain ⟨k,hk⟩:=Int.eq_ofNat_of_zero_le n0
  rw [hk] at h6 n1
  have kl:k <= ss.length:=by (grind)
  have as:a7 σ (.ref r)=some (ss.map ai.pv):=by unfold a7; dsimp only; rw [hs]
  have sl:∀ {lo hi:PV} {a b:Option Int},gD lo=some a->gD hi=some b->dy (.ref r) lo hi σ=.ok (.fl (bI (ss.map ai.pv) a b)) σ:=fun {lo hi a b} e1 e2=>by
    refine vP e1 e2 ?_
    show (a7 σ (.ref r)).bind (fun xs=>if xs.length <= ao then some (PV.fl (bI xs a b)) else none)=_
    rw [as]
    exact if_pos (by rw [List.length_map,aI]; (exact Nat.le_trans (by assumption) (by decide)))
  refine ⟨ss.drop k++ss.take k,List.perm_append_comm.trans (by rw [List.take_append_drop]),?_⟩
  have e1:ev (CC 19) (.slice (.v 5) (.v 6) (.k .none)) ρ σ=.ok (.fl ((ss.drop k).map ai.pv)) σ:=by
    refine (pq h5 h6 (z:=.none) (σ₃:=σ) rfl (sl (a:=some (k:Int)) (b:=none) rfl rfl)).trans ?_
    rw [xF (by rw [List.length_map]; exact kl),List.map_drop]
  have e2:ev (CC 19) (.slice (.v 5) (.k .none) (.v 6)) ρ σ=.ok (.fl ((ss.take k).map ai.pv)) σ:=by
    refine (pq h5 (y:=.none) (σ₂:=σ) rfl h6 (sl (a:=none) (b:=some (k:Int)) rfl rfl)).trans ?_
    rw [aas (by rw [List.length_map]; exact kl),List.map_take]
  refine dk (aH e1 e2 (abR (by rw [List.length_map,List.length_map,List.length_drop,List.length_take,aI]; (grind)))) ?_
  rw [<- List.map_append]
  exact abU (by rw [List.length_map,List.length_append,List.length_drop,List.length_take,aI]; (grind))
theorem yd {elt it:X} {cap:List (Option Nat)} {ρ:au} {n:Nat} (hn:n <= 200) (hit:evIt (CC 19) it ρ σ=.ok (aq 0 1 n,none) σ) (he:∀ t:Nat,t < n->∃ v:Int,(0 <= v/\v <= 999999)/\ev (CC 19) elt ((aY cap ρ).set 1 (some (.int (t:Int)))) σ=.ok (.int v) σ) :
    ∃ vs:List Int,vs.length=n/\(∀ v ∈ vs,0 <= v/\v <= 999999)/\ev (CC 19) (.comp true 1 cap elt (.k (.bool true)) it) ρ σ=.ok (.fl (vs.map .int)) σ:=by
  have ch:∃ g:Nat->Int,∀ t:Nat,t < n->(0 <= g t/\g t <= 999999)/\ev (CC 19) elt ((aY cap ρ).set 1 (some (.int (t:Int)))) σ=.ok (.int (g t)) σ:=by
    refine ⟨fun t=>if h:t < n then (he t h).choose else 0,fun t ht=>?_⟩
    dsimp only
    rw [dif_pos ht]
    exact (he t ht).choose_spec
  obtain ⟨g,hg⟩:=ch
  refine ⟨(List.range n).map g,by rw [List.length_map,List.length_range],fun v hv=>?_,?_⟩
  · obtain ⟨t,ht,rfl⟩:=List.mem_map.mp hv
    exact (hg t (List.mem_range.mp ht)).1
  · refine (iq (fun y=>match y with | .int t=>.int (g t.toNat) | _=>.none) hit (by simp [aq,aI]; (exact Nat.le_trans (by assumption) (by decide))) (fun y hy=>?_)).trans ?_
    · obtain ⟨t,ht,rfl⟩:=List.mem_map.mp hy
      rw [show (0:Int) + (t:Int) * 1=t by (grind)]
      exact (hg t (List.mem_range.mp ht)).2
    · refine congrArg (fun l=>ae.ok (PV.fl l) σ) ?_
      unfold aq
      rw [List.map_map,List.map_map]
      refine List.map_congr_left fun t _=>?_
      show PV.int (g (0 + (t:Int) * 1).toNat)=PV.int (g t)
      rw [show (0:Int) + (t:Int) * 1=t by (grind),Int.toNat_natCast]
end
theorem zh {C:bc} {x:X} {ρ:au} {σ:ab} {n:Nat} (h:ev C x ρ σ=.ok (.int (n:Nat)) σ) (hn:n <= 1000):evIt C (.range1 x) ρ σ=.ok (aq 0 1 n,none) σ:=by
  rw [iH,h,az]
  show (if 0 <= (n:Int)/\(n:Int) <= ao then ae.ok (aq 0 1 (n:Int).toNat,none) σ else .stuck)=_
  rw [if_pos ⟨by (exact Int.natCast_nonneg _),by rw [aI]; (grind)⟩]; rfl
theorem runX {l:List Int} (hl:l.length <= 63):∃ σ,aK PP topN 20 agi [.fl (l.map .int)] []=.ok (.bool true) σ:=by
  obtain ⟨names,nv,aC,nok,cn,nv1⟩:=act (l.getD 0 0)
  obtain ⟨w,hw,hws⟩:=adO (l.getD 1 0)
  obtain ⟨n,hn1,hn,e3⟩:=aeV (σ:=aC) (nv:=nv) (w:=w) hl
  obtain ⟨many,hm,e5⟩:=af8 (σ:=aC) (nv:=nv) (w:=w) (n:=n) hl
  rw [ba (d:=19) (fn:=zJ) rfl rfl]
  have e0:ex (CC 19) topN wW (some (.fl (l.map .int))::List.replicate 26 none) []=.next (some (.fl (l.map .int))::some nv::List.replicate 25 none) aC:=
    aW (bm (cell_ hl 0 rfl) cn)
  have e1:ex (CC 19) topN wV (some (.fl (l.map .int))::some nv::List.replicate 25 none) aC=.next (R0 l nv w none none) aC:=
    aW (bu (x:=.fl [.str "sum",.str "times",.str "least",.str "most"]) (σ₁:=aC) rfl (aH (cell_ hl 1 rfl) (y:=.int 4) (σ₂:=aC) rfl (bE (by decide))) hws)
  have e2:ex (CC 19) topN wU (R0 l nv w none none) aC=.next (R0 l nv w (some (.int (1 + l.getD 2 0 % 12))) none) aC:=
    aW (aH (x:=.int 1) (σ₁:=aC) rfl (aH (cell_ hl 2 rfl) (y:=.int 12) (σ₂:=aC) rfl (bE (by decide))) add_int)
  have e4:ex (CC 19) topN wS (R0 l nv w (some (.int (n:Nat))) none) aC=.next (R0 l nv w (some (.int (n:Nat))) (some (.int (1 + l.getD 3 0 % 4)))) aC:=
    aW (aH (x:=.int 1) (σ₁:=aC) rfl (aH (cell_ hl 3 rfl) (y:=.int 4) (σ₂:=aC) rfl (bE (by decide))) add_int)
  have sl:(aD names w many).length=many + 2:=by unfold aD; rw [List.length_cons,List.length_cons,List.length_map,List.length_range]
  have e6:ex (CC 19) topN wQ (R0 l nv w (some (.int (n:Nat))) (some (.int (many:Nat)))) aC=.next (some (.fl (l.map .int))::some nv::some (.str w)::some (.int (n:Nat))::some (.int (many:Nat))::some (.ref aC.length)::List.replicate 21 none) (aC++[.lst ((aD names w many).map ai.pv)]):=
    aW (ju (x:=nv) (y:=.str w) (z:=.int (many:Nat)) (σ₁:=aC) (σ₂:=aC) (σ₃:=aC) rfl rfl rfl (zz (d:=18) nok.len nv1 hm))
  have nv2:cW names (aC++[.lst ((aD names w many).map ai.pv)]) nv:=nv1.app
  have at5:(aC++[MO.lst ((aD names w many).map ai.pv)])[aC.length]?=some (.lst ((aD names w many).map ai.pv)):=db
  generalize aC++[MO.lst ((aD names w many).map ai.pv)]=aO at e6 nv2 at5
  have ln:cC .len (.ref aC.length) aO=.ok (.int ((aD names w many).length:Nat)) aO:=by
    show j9 (fun xs=>if xs.length <= ao then ae.ok (PV.int xs.length) aO else .stuck) (.ref aC.length) aO=_
    rw [mv (show a8 aO (.ref aC.length)=some ((aD names w many).map ai.pv) by unfold a8; dsimp only; rw [at5]),List.length_map]
    exact if_pos (by rw [aI]; (grind))
  have e7:ex (CC 19) topN wP (some (.fl (l.map .int))::some nv::some (.str w)::some (.int (n:Nat))::some (.int (many:Nat))::some (.ref aC.length)::List.replicate 21 none) aO=.next (some (.fl (l.map .int))::some nv::some (.str w)::some (.int (n:Nat))::some (.int (many:Nat))::some (.ref aC.length)::some (.int (l.getD 4 0 % ((aD names w many).length:Nat)))::List.replicate 20 none) aO:=
    aW (aH (cell_ hl 4 rfl) (dk (x:=.ref aC.length) (σ₁:=aO) rfl ln) (bE (by (grind))))
  obtain ⟨p,hp,ep⟩:=aea (ρ:=some (.fl (l.map .int))::some nv::some (.str w)::some (.int (n:Nat))::some (.int (many:Nat))::some (.ref aC.length)::some (.int (l.getD 4 0 % ((aD names w many).length:Nat)))::List.replicate 20 none) (c:=l.getD 4 0) at5 (by (grind)) (by (grind)) rfl rfl
  generalize htr:l.getD 4 0 % ((aD names w many).length:Nat)=tr at e7 ep
  have po:=gB nok hw hm hp
  obtain ⟨υ,g,o,hr,gn,od,ib,bd,q1,q2,q3,lts,g1,g2⟩:=acJ (d:=14) (σ:=aO) po hn1 hn
  have e8:ex (CC 19) topN wO (some (.fl (l.map .int))::some nv::some (.str w)::some (.int (n:Nat))::some (.int (many:Nat))::some (.ref aC.length)::some (.int tr)::List.replicate 20 none) aO=.next (some (.fl (l.map .int))::some nv::some (.str w)::some (.int (n:Nat))::some (.int (many:Nat))::some (.ref aC.length)::some (.int tr)::some (.inst af aO.length)::List.replicate 19 none) (aO++υ):=by
    refine aW ?_
    have ib':(CC 19).call fU (.inst af aO.length::[a5 p,.int n]) (aO++[.ns []])=.ok .none (aO++υ):=ib
    rw [abu,aX ep (aX (x:=.int (n:Nat)) (σ₁:=aO) rfl cu),az]
    unfold mx
    rw [ib']; rfl
  have bo:Bo p n [] [] [] ⟨aO.length,g,o,hr,gn,od⟩ (aO++υ):=⟨bd.ns,bd.gv,bd.ot,bd.hr,g1,g2,⟨lts.1,lts.2.1,lts.2.2.1,lts.2.2.2.1,lts.2.2.2.2⟩⟩
  have nkeep:∀ σ',bM ⟨aO.length,g,o,hr,gn,od⟩ (aO++υ) σ'->cW names σ' nv:=fun σ' k=>by
    cases nv2 with
    | fl=>exact .fl
    | ref j e =>
      have jl:=(List.getElem?_eq_some_iff.mp e).1
      have:=lts.1
      have:=lts.2.1
      have:=lts.2.2.1
      have:=lts.2.2.2.1
      have:=lts.2.2.2.2
      exact .ref j (k.at_ j _ (show j ≠ hr by (grind)) (show j ≠ gn by (grind)) (show j ≠ od by (grind)) (d0 e))
  generalize aO++υ=cG at e8 bo nkeep
  generalize aO.length=bi at e8 bo nkeep
  generalize hX:(⟨bi,g,o,hr,gn,od⟩:Ix)=X at bo nkeep
  obtain rfl:bi=X.i:=by rw [<- hX]
  obtain ⟨inc,il,iv,e9⟩:=yd (σ:=cG) (n:=n) (ρ:=some (.fl (l.map .int))::some nv::some (.str w)::some (.int (n:Nat))::some (.int (many:Nat))::some (.ref aC.length)::some (.int tr)::some (.inst af X.i)::List.replicate 19 none) (it:=.range1 (.v 3)) (cap:=[none,none,none,none,none,some 0])
    (elt:=.call dh (.cons (.call gG (.cons (.bin .add (.call aA (.cons (.v 5) (.cons (.bin .add (.k (.int 6)) (.bin .mod (.v 1) (.k (.int 20)))) .nil))) (.v 1)) .nil)) .nil)) hn (zh rfl (by (exact Nat.le_trans (by assumption) (by decide)))) (fun t ht=>by
    obtain ⟨v,v0,v1,hv⟩:=h15 (p:=nxt (l.getD (6 + t % 20) 0 + (t:Int)))
    refine ⟨v,⟨v0,v1⟩,bm (bm (aH (cw (x:=.fl (l.map .int)) (y:=.int ((6 + t % 20:Nat):Int)) (σ₁:=cG) (σ₂:=cG) rfl (aH (x:=.int 6) (σ₁:=cG) rfl (aH (x:=.int (t:Int)) (y:=.int 20) (σ₁:=cG) (σ₂:=cG) rfl rfl (bE (by decide))) ?_) (h12 (d:=18) hl)) (y:=.int (t:Int)) (σ₂:=cG) rfl add_int) (h13 (d:=18))) hv⟩
    rw [add_int]; simp)
  obtain ⟨lat,ll,lv,e10⟩:=yd (σ:=cG) (n:=many) (ρ:=some (.fl (l.map .int))::some nv::some (.str w)::some (.int (n:Nat))::some (.int (many:Nat))::some (.ref aC.length)::some (.int tr)::some (.inst af X.i)::none::some (.fl (inc.map .int))::List.replicate 17 none) (it:=.range1 (.v 4)) (cap:=[none,none,none,none,none,some 0])
    (elt:=.call dh (.cons (.call gG (.cons (.bin .add (.call aA (.cons (.v 5) (.cons (.k (.int 5)) .nil))) (.v 1)) .nil)) .nil)) (by (exact Nat.le_trans (by assumption) (by decide))) (zh rfl (by (exact Nat.le_trans (by assumption) (by decide)))) (fun t ht=>by
    obtain ⟨v,v0,v1,hv⟩:=h15 (p:=nxt (l.getD 5 0 + (t:Int)))
    exact ⟨v,⟨v0,v1⟩,bm (bm (aH (cw (x:=.fl (l.map .int)) (y:=.int ((5:Nat):Int)) (σ₁:=cG) (σ₂:=cG) rfl rfl (h12 (d:=18) hl)) (y:=.int (t:Int)) (σ₂:=cG) rfl add_int) (h13 (d:=18))) hv⟩)
  obtain ⟨f,f0,f1,hf⟩:=h15 (p:=l.getD 5 0)
  have s9:ex (CC 19) topN wN (some (.fl (l.map .int))::some nv::some (.str w)::some (.int (n:Nat))::some (.int (many:Nat))::some (.ref aC.length)::some (.int tr)::some (.inst af X.i)::List.replicate 19 none) cG=.next (some (.fl (l.map .int))::some nv::some (.str w)::some (.int (n:Nat))::some (.int (many:Nat))::some (.ref aC.length)::some (.int tr)::some (.inst af X.i)::none::some (.fl (inc.map .int))::List.replicate 17 none) cG:=aW e9
  have s10:ex (CC 19) topN un (some (.fl (l.map .int))::some nv::some (.str w)::some (.int (n:Nat))::some (.int (many:Nat))::some (.ref aC.length)::some (.int tr)::some (.inst af X.i)::none::some (.fl (inc.map .int))::List.replicate 17 none) cG=.next (some (.fl (l.map .int))::some nv::some (.str w)::some (.int (n:Nat))::some (.int (many:Nat))::some (.ref aC.length)::some (.int tr)::some (.inst af X.i)::none::some (.fl (inc.map .int))::some (.fl (lat.map .int))::List.replicate 16 none) cG:=aW e10
  have s11:ex (CC 19) topN um (some (.fl (l.map .int))::some nv::some (.str w)::some (.int (n:Nat))::some (.int (many:Nat))::some (.ref aC.length)::some (.int tr)::some (.inst af X.i)::none::some (.fl (inc.map .int))::some (.fl (lat.map .int))::List.replicate 16 none) cG=.next (some (.fl (l.map .int))::some nv::some (.str w)::some (.int (n:Nat))::some (.int (many:Nat))::some (.ref aC.length)::some (.int tr)::some (.inst af X.i)::none::some (.fl (inc.map .int))::some (.fl (lat.map .int))::some (.int f)::List.replicate 15 none) cG:=
    aW (bm (cell_ hl 5 rfl) hf)
  have F:fJ names w inc lat many n:=⟨nok,hw,il,ll,hm⟩
  obtain ⟨yb,rr,cd,rl,rows⟩:=acC (d:=17) (σ:=cG) (w:=w) (f:=f) (inc:=inc) (lat:=lat) hw ⟨f0,f1⟩ iv (by (grind)) (by (grind))
  have s12:ex (CC 19) topN ul (some (.fl (l.map .int))::some nv::some (.str w)::some (.int (n:Nat))::some (.int (many:Nat))::some (.ref aC.length)::some (.int tr)::some (.inst af X.i)::none::some (.fl (inc.map .int))::some (.fl (lat.map .int))::some (.int f)::List.replicate 15 none) cG=.next (some (.fl (l.map .int))::some nv::some (.str w)::some (.int (n:Nat))::some (.int (many:Nat))::some (.ref aC.length)::some (.int tr)::some (.inst af X.i)::none::some (.fl (inc.map .int))::some (.fl (lat.map .int))::some (.int f)::some (.ref rr)::List.replicate 14 none) (cG++yb):=by
    refine aW ?_
    rw [pn,aX (x:=.str w) (σ₁:=cG) rfl (aX (x:=.int f) (σ₁:=cG) rfl (aX (x:=.fl (inc.map .int)) (σ₁:=cG) rfl (aX (x:=.fl (lat.map .int)) (σ₁:=cG) rfl cu)))]
    exact cd
  have s13:ex (CC 19) topN uk (some (.fl (l.map .int))::some nv::some (.str w)::some (.int (n:Nat))::some (.int (many:Nat))::some (.ref aC.length)::some (.int tr)::some (.inst af X.i)::none::some (.fl (inc.map .int))::some (.fl (lat.map .int))::some (.int f)::some (.ref rr)::List.replicate 14 none) (cG++yb)=.next (RL (.fl (l.map .int)) nv w n many (.ref aC.length) tr X.i none inc lat f rr 0 none) (cG++yb):=rfl
  have bo2:Bo p n [] [] [] X (cG++yb):=bo.more
  have odl:X.od < cG.length:=(List.getElem?_eq_some_iff.mp bo.od).1
  have hX5:=bo.lt
  have keep2:∀ σ',bM X (cG++yb) σ'->cW names σ' nv/\xp σ' rr (dI w f inc lat):=fun σ' k=>by
    refine ⟨nkeep σ' (bM.app.trans k),?_⟩
    obtain ⟨vs,r1,r2,r3,r4⟩:=rows
    have h1:=hX5.d
    have h2:=hX5.e
    refine ⟨vs,k.at_ rr _ (by (grind)) (by (grind)) (by (grind)) r1,r2,r3,fun i v q hv hq=>(r4 i v q hv hq).kept (σ':=σ') ?_ bo2 σ' k⟩
    rw [nK (w:=w) (f:=f) (lat:=lat) (by (grind)) q (List.mem_of_getElem? hq)]; (grind)
  generalize cG++yb=iZ at s12 s13 bo2 keep2
  have w0:=Int.emod_nonneg (l.getD 1 0 / 4) (show (3:Int) ≠ 0 by decide)
  have w1:=Int.emod_lt_of_pos (l.getD 1 0 / 4) (show (0:Int) < 3 by decide)
  obtain ⟨xs,ov,vm,ok,co,lo⟩:=zB (d:=18) (σ:=iZ) hn1 hn w0 w1
  have bo3:Bo p n [] [] [] X (iZ++vm):=bo2.more
  have L3:c6 names w f inc lat many n p X nv rr ⟨[],[],[]⟩ (iZ++vm):=by
    refine ⟨bo3,⟨(fun i _ t v hv=>nomatch hv),(fun s _ t hf=>nomatch hf),(fun k v hv=>nomatch hv)⟩,⟨List.nodup_nil,(fun k hk=>absurd hk List.not_mem_nil),rfl⟩,fun σ' k=>keep2 σ' (bM.app.trans k)⟩
  have xsl:1 <= xs.length:=List.length_pos_of_mem ((ok.mem 0).mpr ⟨Int.le_refl 0,by (exact Int.ofNat_lt.mpr (by assumption))⟩)
  have hxl:xs.length <= n:=by
    have:=tS xs ((List.range n).map fun (t:Nat)=>(t:Int)) ok.nodup fun x hx=>by
      obtain ⟨x0,x1⟩:=(ok.mem x).mp hx
      obtain ⟨t,rfl⟩:=Int.eq_ofNat_of_zero_le x0
      exact List.mem_map.mpr ⟨t,List.mem_range.mpr (by (exact Int.ofNat_lt.mp (by assumption))),rfl⟩
    rw [List.length_map,List.length_range] at this; exact this
  have it:∃ wt,mN X wt (iZ++vm)/\mR ov (iZ++vm)=.ok (xs.map .int,wt) (iZ++vm):=by
    generalize iZ++vm=σ5 at lo bo3
    cases lo with
    | fl=>exact ⟨none,fun j m q=>(nomatch q),rfl⟩
    | ref j _ e =>
      refine ⟨some (j,.lst (xs.map .int)),fun j' m q=>?_,?_⟩
      · obtain ⟨rfl,rfl⟩:=Prod.mk.inj (Option.some.inj q)
        refine ⟨?_,?_,?_,e⟩
        · rintro rfl; rw [bo3.hr] at e; exact nomatch e
        · rintro rfl; rw [bo3.go] at e; exact nomatch e
        · rintro rfl
          rw [bo3.od] at e
          cases xs with
          | nil=>exact absurd xsl (by decide)
          | cons a l=>exact nomatch e
      · unfold mR am sD
        dsimp only
        rw [e]
  obtain ⟨wt,hwt,hit⟩:=it
  generalize iZ++vm=σ5 at L3 hwt hit co
  obtain ⟨B6,σ6,z6,e14,L6,z6s,all6,oth6,_⟩:=aaG (l:=l) (st:=.ref aC.length) (tr:=tr) F hp hl hn iv xs ⟨[],[],[]⟩ σ5 0 none L3 ⟨Nat.zero_le _,Nat.zero_le _,Nat.zero_le _⟩ (by (grind)) ok.nodup (fun x hx=>⟨(ok.mem x).mp hx,rfl⟩) hwt
  have s14:ex (CC 19) topN uj (RL (.fl (l.map .int)) nv w n many (.ref aC.length) tr X.i none inc lat f rr 0 none) iZ=.next (RL (.fl (l.map .int)) nv w n many (.ref aC.length) tr X.i z6 inc lat f rr B6.gs.length none) σ6:=by
    have ec:evIt (CC 19) (.call dZ (.cons (.v 3) (.cons (.bin .mod (.bin .fdiv (.call aA (.cons (.v 0) (.cons (.k (.int ((1:Nat):Int))) .nil))) (.k (.int 4))) (.k (.int 3))) .nil))) (RL (.fl (l.map .int)) nv w n many (.ref aC.length) tr X.i none inc lat f rr 0 none) iZ=.ok (xs.map .int,wt) σ5:=by
      show (ev (CC 19) (.call dZ _) _ iZ).bind mR=_
      have em:ev (CC 19) (.bin .mod (.bin .fdiv (.call aA (.cons (.v 0) (.cons (.k (.int ((1:Nat):Int))) .nil))) (.k (.int 4))) (.k (.int 3))) (RL (.fl (l.map .int)) nv w n many (.ref aC.length) tr X.i none inc lat f rr 0 none) iZ=.ok (.int (l.getD 1 0 / 4 % 3)) iZ:=uc (by decide) (by decide) (by decide) (cell_ hl 1 rfl)
      have ec:ev (CC 19) (.call dZ (.cons (.v 3) (.cons (.bin .mod (.bin .fdiv (.call aA (.cons (.v 0) (.cons (.k (.int ((1:Nat):Int))) .nil))) (.k (.int 4))) (.k (.int 3))) .nil))) (RL (.fl (l.map .int)) nv w n many (.ref aC.length) tr X.i none inc lat f rr 0 none) iZ=.ok ov σ5:=cw (x:=.int (n:Nat)) (σ₁:=iZ) rfl em co
      rw [ec,az]
      exact hit
    show (evIt (CC 19) (.call dZ (.cons (.v 3) (.cons (.bin .mod (.bin .fdiv (.call aA (.cons (.v 0) (.cons (.k (.int ((1:Nat):Int))) .nil))) (.k (.int 4))) (.k (.int 3))) .nil))) (RL (.fl (l.map .int)) nv w n many (.ref aC.length) tr X.i none inc lat f rr 0 none) iZ).toS _ (fun q σ=>aZ q.2 (bq 8) (fun ρ σ=>ex (CC 19) topN jh ρ σ) q.1 _ σ)=_
    rw [ec,fw]
    exact e14
  obtain ⟨B7,qS,z7,e15,L7,z7s,g7,all7,oth7⟩:=xR (sc:=.fl (l.map .int)) (td:=B6.gs.length) (st:=.ref aC.length) (tr:=tr) F hp hn1 hn lv many 0 B6 σ6 (0 + xs.length) z6 (Nat.zero_add _) L6 z6s (by (grind)) (fun j _ hj=>by
    rw [oth6 _ _ (gh F hp (by (grind)) (.inr ⟨by (grind),z0⟩)) fun q=>absurd (nok.inj (by (grind)) (by decide) q) (by (grind))]; rfl)
  have s15:ex (CC 19) topN uh (RL (.fl (l.map .int)) nv w n many (.ref aC.length) tr X.i z6 inc lat f rr B6.gs.length none) σ6=.next (RL (.fl (l.map .int)) nv w n many (.ref aC.length) tr X.i z7 inc lat f rr B7.gs.length none) qS:=by
    rw [g7]
    refine bU (zh rfl (by (exact Nat.le_trans (by assumption) (by decide)))) ?_
    unfold aq
    rw [List.range_eq_range']
    exact e15
  have abs0:ac (nm names 0,((0:Nat):Int)) B7.es=none:=by
    rw [oth7 0 _ (by decide) (.inl (by (decide))),oth6 _ _ (gh F hp (by decide) (.inr ⟨by decide,z0⟩)) fun q=>absurd (nok.inj (by decide) (by decide) q) (by decide)]; rfl
  obtain ⟨σ8,e16,L8,z8s,_⟩:=qi (d:=15) F hp L7 z7s (by (grind)) hn (i:=0) (by decide) (t:=0) (by (assumption)) (sK F hp (by (grind))) (gh F hp (by decide) (.inr ⟨by decide,z0⟩)) abs0 (v:=f) (af5 (w:=w) (f:=f) (inc:=inc) (lat:=lat) (by (grind))).symm ⟨f0,f1⟩
  have s16:ex (CC 19) topN ug (RL (.fl (l.map .int)) nv w n many (.ref aC.length) tr X.i z7 inc lat f rr B7.gs.length none) qS=.next (RL (.fl (l.map .int)) nv w n many (.ref aC.length) tr X.i z7 inc lat f rr B7.gs.length none) σ8:=
    bR (cA (i:=X.i) (σ₁:=qS) (σ₂:=qS) (vs:=[.str (nm names 0),.int ((0:Nat):Int),.int f]) rfl L7.bo.ns rfl (aX (bu (x:=nv) (σ₁:=qS) rfl (y:=.int ((0:Nat):Int)) (σ₂:=qS) rfl ((L7.keep qS .refl).1.sub nok.len (by decide))) (aX (x:=.int ((0:Nat):Int)) (σ₁:=qS) rfl (aX (x:=.int f) (σ₁:=qS) rfl rfl))) e16)
  obtain ⟨ρ',σ9,e17⟩:=acB (sc:=.fl (l.map .int)) (st:=.ref aC.length) (tr:=tr) (z:=z7) F L8 hp hn1 hn z8s (by (grind)) (fun t ht=>by
    rw [ey abs0 fun q=>absurd (nok.inj (by decide) (by decide) (Prod.mk.inj q).1) (by decide),oth7 23 _ (by decide) (.inr rfl)]
    exact all6 _ ((ok.mem _).mpr ⟨Int.natCast_nonneg t,by (exact Int.ofNat_lt.mpr (by assumption))⟩)) (by rw [mu abs0]; rfl) (fun k hk=>by
    rw [ey abs0 fun q=>absurd (nok.inj (by (grind)) (by decide) (Prod.mk.inj q).1) (by (grind))]
    exact all7 k (Nat.zero_le _) hk)
  refine ⟨σ9,?_⟩
  have body:ex (CC 19) topN zJ.body (some (PV.fl (l.map .int))::List.replicate 26 none) []=.ret (.bool true) ρ' σ9:=
    (aa e0).trans ((aa e1).trans ((aa e2).trans ((aa e3).trans ((aa e4).trans ((aa e5).trans ((aa e6).trans ((aa e7).trans ((aa e8).trans ((aa s9).trans ((aa s10).trans ((aa s11).trans ((aa s12).trans ((aa s13).trans ((aa s14).trans ((aa s15).trans ((aa s16).trans e17))))))))))))))))
  exact (congrArg aM body).trans rfl
end Mine
namespace Mine
open PySem PySem.W PyProof.Rows
noncomputable abbrev u9 (w:World) (os:OsState):Option Shared:=rG PySem.Challenge.pw_uf020019_10 w os topN
set_option maxRecDepth 1000000 in
set_option maxHeartbeats 80000000 in
theorem agc:∀ w os,(u9 w os).map (fun s=>(PySem.W.Fast.tw4187177175401517315 (viewOf PySem.Challenge.pw_uf020019_10) [] (importedModules PySem.Challenge.pw_uf020019_10.main.body) (fun s=>xlAt (viewOf PySem.Challenge.pw_uf020019_10) [] s && recOk (RowW.records (OpenRow.toRowW PySem.Challenge.rw_uf020019_10.row)) s) true s))=some (openGood (viewOf PySem.Challenge.pw_uf020019_10) []):=fun w os=>by kernel_rfl
set_option maxRecDepth 1000000 in
set_option maxHeartbeats 80000000 in
theorem agb:∀ w os,(u9 w os).map (fun s=>(rd s.heap (cr s.heap) TT,si (cr s.heap) TT.cst,oU (cr s.heap) TT.bins))=some (true,true,true):=fun w os=>by kernel_rfl
set_option maxRecDepth 1000000 in
set_option maxHeartbeats 80000000 in
theorem aga:∀ w os,(u9 w os).map (vh TT (List.take 21))=some (some (PP.fns.take 21)):=fun w os=>by kernel_rfl
set_option maxRecDepth 1000000 in
set_option maxHeartbeats 80000000 in
theorem af9:∀ w os,(u9 w os).map (vh TT (List.drop 21))=some (some (PP.fns.drop 21)):=fun w os=>by kernel_rfl
theorem ad9 {α β γ δ ε:Type} {o:Option α} {f:α->β} {a:α->γ} {b:α->δ} {c:α->ε} {ζ:Type} {e:α->ζ} {x:β} {y:γ × δ × ε} {z:ζ} (h1:o.map f=some x) (h2:o.map (fun s=>(a s,b s,c s))=some y) (h3:o.map e=some z):o.map (fun s=>(f s,a s,b s,c s,e s))=some (x,y.1,y.2.1,y.2.2,z):=by
  cases o with
  | none=>exact nomatch h1
  | some s =>
    obtain rfl:=Option.some.inj h1
    obtain rfl:=Option.some.inj h2
    obtain rfl:=Option.some.inj h3
    rfl
theorem afo:∀ w os,(rG PySem.Challenge.pw_uf020019_10 w os topN).map (fun s=>(PySem.W.Fast.tw4187177175401517315 (viewOf PySem.Challenge.pw_uf020019_10) [] (importedModules PySem.Challenge.pw_uf020019_10.main.body) (fun s=>xlAt (viewOf PySem.Challenge.pw_uf020019_10) [] s && recOk (RowW.records (OpenRow.toRowW PySem.Challenge.rw_uf020019_10.row)) s) true s,Hook.obs (topHook TT 40 30 PP.fns) s))=some (openGood (viewOf PySem.Challenge.pw_uf020019_10) [],Hook.val (topHook TT 40 30 PP.fns) w):=fun w os =>
  ad9 (agc w os) (agb w os) ((aeC (aga w os) (af9 w os)).trans (congrArg (fun l=>some (some l)) (List.take_append_drop 21 PP.fns)))
theorem leftX:LeftO PySem.Challenge.pw_uf020019_10 (viewOf PySem.Challenge.pw_uf020019_10) [] (fun s=>xlAt (viewOf PySem.Challenge.pw_uf020019_10) [] s && recOk (RowW.records (OpenRow.toRowW PySem.Challenge.rw_uf020019_10.row)) s) (Hook.obs (topHook TT 40 30 PP.fns)) (Hook.val (topHook TT 40 30 PP.fns)) topN:=
  aem (by kernel_rfl) (by rfl) (fun s=>by kernel_rfl) afo
end Mine
open PySem PySem.W PyProof.Rows
set_option maxRecDepth 100000 in
set_option maxHeartbeats 8000000 in
theorem PySem.Challenge.cw_uf020019_10_holds : PySem.Challenge.rw_uf020019_10.Holds := by
  w_on
  refine holds_law (by decide +kernel) fun said=>?_
  refine holds_open (q:=Mine.viewOf PySem.Challenge.pw_uf020019_10) (loose:=[]) (Xt:=fun s=>xlAt (Mine.viewOf PySem.Challenge.pw_uf020019_10) [] s && recOk (RowW.records (OpenRow.toRowW PySem.Challenge.rw_uf020019_10.row)) s)
    (XP:=XL (Mine.viewOf PySem.Challenge.pw_uf020019_10) []) (Yf:=Hook.obs (Mine.topHook Mine.TT 40 30 Mine.PP.fns)) (Ya:=Hook.val (Mine.topHook Mine.TT 40 30 Mine.PP.fns)) (YP:=Hook.says (Mine.topHook Mine.TT 40 30 Mine.PP.fns)) (N:=Mine.topN)
    Mine.leftX (Hook.of (Mine.topHook Mine.TT 40 30 Mine.PP.fns)) (Hook.keeps (Mine.topHook Mine.TT 40 30 Mine.PP.fns)) (fun s e=>xl_of s (Bool.and_eq_true_iff.mp e).1) XL.keeps (by rfl) (by rfl) (by rfl) (fun s e=>recFacts_of (Bool.and_eq_true_iff.mp e).2)
    (by rfl) (by first | assumption | decide +kernel) (by decide +kernel) ⟨rfl,rfl,rfl,rfl,rfl,by decide +kernel⟩ ?hw ?hc
  (case hw=>w_witness2)
  intro w dH s₁ mg mb G Y fa o pm cd doc dV kV ho hd hcd hD hmg hg args vals as hpre hlay hrd hwl hlo
  obtain ⟨K,aQ,KX,afr,k0,k1,k2,k3⟩:=Mine.Says.ex Y
  refine Ground.open G ?_
  intro T B D TE TW
  clear hd hcd hD ho TE TW D B Y
  have hmg':mg (PySem.Str.ofString "law")=some (.ref fa):=hmg
  clear hmg
  wrow_args hpre hlay hrd hwl hlo
  rename_i xs q1 q2 q3 q4 q5 q6 q7 a q8 q9 q10 q11 W q12 q13 q14 hc q15
  obtain ⟨σ,hrun⟩:=Mine.runX (l:=xs) (by omega)
  have p:Mine.PrgOk ⟨⟨s₁.heap,[],PySem.Challenge.rw_uf020019_10.row.prog,w⟩,mg,mb,Mine.TT.repl,false⟩ Mine.TT Mine.PP:=
    Mine.prgOk (n1:=40) (n2:=30) (topRead_of T) KX afr k0 k1 k2 k3 fun q=>q
  refine Mine.law_end p (f:=25) rfl hmg' (by decide) rfl W hrun fun s' hk ho hg'=>?_
  refine GoodW.toG ⟨.inl ⟨_,_,[],rfl,fun cls=>rfl,.bool true,?_,fun _=>⟨List.nodup_nil,fun a h=>by simp at h⟩⟩,hk,ho,hg'.trans hg⟩
  first | rfl | wrow_post
