import PyProof.Rows.All
import Wide.All
import OpenK.AllK
import PySem.Challenge.RW_uf020019_05
set_option autoImplicit false
set_option linter.all false
set_option Elab.async false
set_option genInjectivity false
set_option genSizeOf false
set_option bootstrap.genMatcherCode false
set_option tactic.hygienic false
namespace Mine
theorem oi {α:Type _} {a b:α} (h:some a=some b):a=b:=Option.some.inj h
theorem aE {n m k:Nat} (h:n <= m) (h2:m <= k):n <= k:=Nat.le_trans h h2
theorem bG {α:Type _} {a:α} (y:α) {l:List α} (h:a ∈ l):a ∈ y::l:=List.mem_cons_of_mem y h
theorem cM {x y:Bool} (h:(x && y)=true):x=true/\y=true:=Bool.and_eq_true_iff.mp h
theorem cS {α:Type _} {l:List α} {i:Nat} {a:α} (h:l[i]?=some a):∃ h:i < l.length,l[i]=a:=List.getElem?_eq_some_iff.mp h
open PySem Classical
inductive PV where
 | none | bool (b:Bool) | int (i:Int) | str (s:Str)
 | tup (xs:List PV) | fl (xs:List PV) | ref (i:Nat)
 | exc (c:Nat)
 | inst (c i:Nat)
inductive MO where
 | lst (xs:List PV)
 | ds (es:List (Str × PV))
 | dp (es:List ((Str × Int) × PV))
 | ns (fs:List (Str × PV))
 | tp
 | no
noncomputable abbrev ab:=List MO
noncomputable abbrev aq:=List (Option PV)
inductive ac (α:Type) where
 | ok (a:α) (σ:ab)
 | exc (i:Nat) (σ:ab)
 | stuck
noncomputable def ac.bind {α β:Type}:ac α->(α->ab->ac β)->ac β
 | .ok a σ,f=>f a σ
 | .exc i σ,_=>.exc i σ
 | .stuck,_=>.stuck
noncomputable def ac.ofOpt {α:Type}:Option α->ab->ac α
 | some a,σ=>.ok a σ
 | none,_=>.stuck
inductive Op where | add | sub | mul | mod | fdiv | pow
inductive Cm where | eq | ne | lt | le | gt | ge | is | isNot | isin | notin
inductive Ty where | int | str | bool | tuple
 | list
inductive B1 where | len | list (fz:Bool) | tuple | all | int | str | lenset
 | sum
 | min | max
 | sorted
 | any
 | dict
inductive Me where | append | extend
 | pop
 | get
inductive M0 where
 | clear
inductive X where
 | nil | cons (a r:X)
 | k (v:PV)
 | v (i:Nat)
 | and (xs:X) | or (xs:X) | not (a:X) | neg (a:X)
 | bin (o:Op) (a b:X)
 | cmp (a:X) (o:Cm) (b:X)
 | cmp2 (a:X) (o:Cm) (b:X) (o2:Cm) (c:X)
 | lst (fz:Bool) (xs:X)
 | tup (xs:X)
 | fdget (ks:List Str) (vals:List PV) (key dflt:X)
 | comp (fz:Bool) (t:Nat) (cap:List (Option Nat)) (elt:X) (cond:X) (it:X)
 | range1 (a:X)
 | call (f:Nat) (args:X)
 | b1 (b:B1) (a:X)
 | min2 (a b:X)
 | isinst (a:X) (t:Ty)
 | me (m:Me) (o:X) (args:X)
 | me0 (m:M0) (o:X)
 | sub (o i:X)
 | slice (o lo hi:X)
 | enum (a:X)
 | zip (xs:X)
 | dnew (pk:Bool)
 | attr (c:Nat) (o:X) (n:Str)
 | meth (c f:Nat) (n:Str) (o args:X)
 | new (c f:Nat) (args:X)
noncomputable def ao:Nat:=1000000
noncomputable def a8 (σ:ab):PV->Option (List PV)
 | .fl xs=>some xs
 | .ref i=>match σ[i]? with
  | some (.lst xs)=>some xs
  | _=>none
 | _=>none
noncomputable def aW (σ:ab):PV->Option (List PV)
 | .fl xs=>some xs
 | .tup xs=>some xs
 | .ref i=>match σ[i]? with
  | some (.lst xs)=>some xs
  | _=>none
 | _=>none
noncomputable def vh (s:Str):List PV:=s.cps.toList.map fun n=>.str ⟨#[n]⟩
noncomputable def ak (σ:ab):PV->Option (List PV)
 | .str s=>some (vh s)
 | .fl xs=>some xs
 | .tup xs=>some xs
 | .ref i=>match σ[i]? with
  | some (.lst xs)=>some xs
  | _=>none
 | _=>none
noncomputable def bA:Nat->ab->PV->Option PyData
 | 0,_,_=>none
 | n + 1,σ,.tup xs=>(xs.mapM (bA n σ)).map .tuple
 | n + 1,σ,.fl xs=>(xs.mapM (bA n σ)).map .list
 | n + 1,σ,.ref i=>match σ[i]? with
  | some (.lst xs)=>(xs.mapM (bA n σ)).map .list
  | _=>none
 | _ + 1,_,.none=>some .none
 | _ + 1,_,.bool b=>some (.bool b)
 | _ + 1,_,.int i=>some (.int i)
 | _ + 1,_,.str s=>some (.str s)
 | _ + 1,_,.exc _=>none
 | _ + 1,_,.inst _ _=>none
noncomputable def eqv (σ:ab) (a b:PV):Option Bool:=
 match bA 16 σ a,bA 16 σ b with
 | some x,some y=>some (PyData.eqv x y)
 | _,_=>none
noncomputable def iL (σ:ab) (x:PV) (xs:List PV):Option Bool:=
 match bA 16 σ x,xs.mapM (bA 16 σ) with
 | some d,some ds=>some (ds.any fun y=>PyData.eqv y d)
 | _,_=>none
noncomputable def ai {κ:Type} [DecidableEq κ] (k:κ) (es:List (κ × PV)):Option PV:=(es.find? fun e=>decide (e.1=k)).map (·.2)
noncomputable def cq {κ:Type} [DecidableEq κ] (k:κ) (v:PV) (es:List (κ × PV)):List (κ × PV):=
 if (es.any fun e=>decide (e.1=k)) then es.map (fun e=>if e.1=k then (e.1,v) else e) else es++[(k,v)]
noncomputable def eR:PV->Option (Str × Int)
 | .tup [.str x,.int i]=>some (x,i)
 | _=>none
noncomputable def kh (k:Str):List (Str × PV)->Option PV
 | []=>none
 | (x,v)::r=>if x=k then some v else kh k r
noncomputable def b7 (i:Int) (n:Nat):Option Nat:=
 if 0 <= i then (if i.toNat < n then some i.toNat else none)
 else if 0 <= i + n then some (i + n).toNat else none
end Mine
namespace Mine
open PySem
noncomputable def dW (o:Obj):Prop:=∃ es n,o.data=.dict es n
noncomputable def jm (o:Obj):Prop:=(∃ xs n,o.data=.seq xs n)\/(∃ C vs,o.cls=.ref C/\o.data=.fields vs)\/∃ C,o.cls=.ref C/\o.data=.plain
theorem jm.seq {c:Value} {d:Option Addr} {xs:Array Value} {n:Nat} {sl:Array (Option Value)}:jm { cls:=c,dict:=d,data:=.seq xs n,slots:=sl }:=.inl ⟨xs,n,rfl⟩
theorem dW.notSolid {o:Obj} (d:dW o):¬ jm o:=by
 obtain ⟨es,n,d⟩:=d
 rintro (⟨xs,m,e⟩ | ⟨C,vs,_,e⟩ | ⟨C,_,e⟩) <;> rw [d] at e <;> contradiction
noncomputable def gE (fr:List Addr) (h':Heap) (b:Addr) (o:Obj):Prop:=h'.get? b=some o\/(b ∈ fr/\dW o/\∃ sl,h'.get? b=some { o with slots:=sl })
theorem gE.trans {fr:List Addr} {h' h'':Heap} {b:Addr} {o:Obj} (x:gE fr h' b o) (y:∀ o',h'.get? b=some o'->gE fr h'' b o'):gE fr h'' b o:=by
 rcases x with x | ⟨f,d,sl,x⟩
 ·rcases y o x with y | ⟨f,d,sl,y⟩
  ·exact .inl y
  ·exact .inr ⟨f,d,sl,y⟩
 ·rcases y _ x with y | ⟨_,_,sl',y⟩
  ·exact .inr ⟨f,d,sl,y⟩
  ·exact .inr ⟨f,d,sl',y⟩
theorem gE.ns {fr:List Addr} {h h':Heap} {b:Addr} {o:Obj} {m:Str->Option Value} (n:h.Ns b m) (e:h.get? b=some o) (x:gE fr h' b o):h'.Ns b m:=by
 obtain ⟨o',es,ep,e',r⟩:=n
 rw [e] at e'; obtain rfl:=oi e'
 rcases x with x | ⟨_,d,sl,x⟩
 ·exact ⟨o,es,ep,x,r⟩
 ·exact ⟨_,es,ep,x,r⟩
theorem gE.same {fr:List Addr} {h':Heap} {b:Addr} {o:Obj} (x:gE fr h' b o) (n:¬ dW o):h'.get? b=some o:=by
 rcases x with x | ⟨_,d,_⟩
 ·exact x
 ·exact absurd d n
theorem gE.not {fr:List Addr} {h':Heap} {b:Addr} {o:Obj} (x:gE fr h' b o) (n:b ∉ fr):h'.get? b=some o:=by
 rcases x with x | ⟨f,_⟩
 ·exact x
 ·exact absurd f n
structure AL where
 ix:List Addr
 hid:List Addr
 fr:List Addr
noncomputable def AL.all (α:AL):List Addr:=α.ix++α.hid
inductive VR (h:Heap) (α:AL):PV->Value->Prop where
 | none:VR h α .none .none
 | bool (b:Bool):VR h α (.bool b) (.bool b)
 | int (i:Int) (t:Tok):VR h α (.int i) (.int i t)
 | str (s:Str) (t:Tok):PyData.strOk s=true->VR h α (.str s) (.str s t)
 | tup {xs:List PV} {a:Addr} {ak:Array Value} {n:Nat}:h.get? a=some { cls:=.type "tuple",data:=.seq ak n }->a ∉ α.all->xs.length=ak.size ->
   (∀ (i:Nat) (x:PV) (v:Value),xs[i]?=some x->ak[i]?=some v->VR h α x v)->VR h α (.tup xs) (.ref a)
 | fl {xs:List PV} {a:Addr} {ak:Array Value} {n:Nat}:h.get? a=some { cls:=.type "list",data:=.seq ak n }->a ∉ α.all->xs.length=ak.size ->
   (∀ (i:Nat) (x:PV) (v:Value),xs[i]?=some x->ak[i]?=some v->VR h α x v)->VR h α (.fl xs) (.ref a)
 | ref {i:Nat} {a:Addr}:α.ix[i]?=some a->VR h α (.ref i) (.ref a)
 | exc {c:Nat} {a:Addr} {o:Obj} {vs:Array Value}:h.get? a=some o->o.cls=.ref c->o.data=.fields vs->a ∉ α.all->VR h α (.exc c) (.ref a)
 | inst {c i:Nat} {a D:Addr}:h.get? a=some { cls:=.ref c,dict:=some D,data:=.plain }->a ∉ α.all->α.ix[i]?=some D->VR h α (.inst c i) (.ref a)
structure aL (F:List Addr) (α:AL) (h:Heap) (α':AL) (h':Heap):Prop where
 hid:α'.hid=α.hid
 pre:∃ β,α'.ix=α.ix++β/\∀ x ∈ β,h.get? x=none/\x ∉ F
 seqs:∀ b o,b ∉ α.ix->h.get? b=some o->jm o->h'.get? b=some o
 rest:∀ b o,b ∉ α.ix->b ∉ F->h.get? b=some o->gE α.fr h' b o
 alive:∀ b o,b ∉ F->h.get? b=some o->∃ o',h'.get? b=some o'
 fre:α'.fr=α.fr
theorem aL.refl {F α h}:aL F α h α h:=
 ⟨rfl,⟨[],by simp,fun zz hx=>by simp at hx⟩,fun zz zz zz e zz=>e,fun zz zz zz zz e=>.inl e,fun zz o zz e=>⟨o,e⟩,rfl⟩
theorem aL.keeps {F α h h'} (k:∀ b o,h.get? b=some o->h'.get? b=some o):aL F α h α h':=
 ⟨rfl,⟨[],by simp,fun zz hx=>by simp at hx⟩,fun b o zz e zz=>k b o e,fun b o zz zz e=>.inl (k b o e),fun b o zz e=>⟨o,k b o e⟩,rfl⟩
theorem aL.notMem {F α h α' h'} (x:aL F α h α' h') {b:Addr} {o:Obj} (hb:b ∉ α.ix) (e:h.get? b=some o):b ∉ α'.ix:=by
 obtain ⟨β,q,hf⟩:=x.pre
 rw [q]
 intro hm
 rcases List.mem_append.mp hm with q | q
 ·exact hb q
 ·rw [(hf b q).1] at e; contradiction
theorem AL.not_ix {α:AL} {b:Addr} (h:b ∉ α.all):b ∉ α.ix:=fun q=>h (List.mem_append_left _ q)
theorem aL.notAll {F α h α' h'} (x:aL F α h α' h') {b:Addr} {o:Obj} (hb:b ∉ α.all) (e:h.get? b=some o):b ∉ α'.all:=by
 intro hm
 rcases List.mem_append.mp hm with q | q
 ·exact x.notMem (AL.not_ix hb) e q
 ·rw [x.hid] at q; exact hb (List.mem_append_right _ q)
theorem aL.mono {F F' α h α' h'} (x:aL F α h α' h') (hF:∀ b ∈ F,b ∈ F') (al:∀ b ∈ F',∃ o,h.get? b=some o):aL F' α h α' h':=by
 obtain ⟨β,e,hf⟩:=x.pre
 exact ⟨x.hid,⟨β,e,fun y hy=>⟨(hf y hy).1,fun q=>by obtain ⟨o,ho⟩:=al y q; rw [(hf y hy).1] at ho; cases ho⟩⟩,x.seqs,fun b o hb hbF e=>x.rest b o hb (fun q=>hbF (hF b q)) e,
  fun b o hb e=>x.alive b o (fun q=>hb (hF b q)) e,x.fre⟩
theorem aL.trans {F α h α' h' jx h''} (x:aL F α h α' h') (y:aL F α' h' jx h''):aL F α h jx h'':=by
 obtain ⟨β,q1,hf⟩:=x.pre
 obtain ⟨γ,q2,hg⟩:=y.pre
 refine ⟨y.hid.trans x.hid,⟨β++γ,by rw [q2,q1,List.append_assoc],fun a ha=>?_⟩,fun b o hb e hs=>?_,fun b o hb hF e=>?_,fun b o hb e=>?_,y.fre.trans x.fre⟩
 ·rcases List.mem_append.mp ha with q | q
  ·exact hf a q
  ·refine ⟨?_,(hg a q).2⟩
   cases hq:h.get? a with
   | none=>rfl
   | some o =>
    obtain ⟨o',ho'⟩:=x.alive a o (hg a q).2 hq
    rw [(hg a q).1] at ho'; contradiction
 ·exact y.seqs b o (x.notMem hb e) (x.seqs b o hb e hs) hs
 ·exact (x.rest b o hb hF e).trans fun o' e'=>x.fre ▸ y.rest b o' (x.notMem hb e) hF e'
 ·obtain ⟨o',e'⟩:=x.alive b o hb e
  exact y.alive b o' hb e'
theorem aL.drop {F own α h α' h' jx h''} (x:aL [] α h α' h') (hown:∀ b ∈ own,h.get? b=none) (al:∀ b ∈ F,∃ o,h.get? b=some o) (y:aL (own++F) α' h' jx h''):aL F α h jx h'':=by
 obtain ⟨β,q1,hf⟩:=x.pre
 obtain ⟨γ,q2,hg⟩:=y.pre
 have no:∀ b o,h.get? b=some o->b ∉ own:=fun b o e q=>by rw [hown b q] at e; contradiction
 refine ⟨y.hid.trans x.hid,⟨β++γ,by rw [q2,q1,List.append_assoc],fun a ha=>?_⟩,fun b o hb e hs=>?_,fun b o hb hF e=>?_,fun b o hb e=>?_,y.fre.trans x.fre⟩
 ·rcases List.mem_append.mp ha with q | q
  ·refine ⟨(hf a q).1,fun qF=>?_⟩
   obtain ⟨o,ho⟩:=al a qF
   rw [(hf a q).1] at ho; contradiction
  ·refine ⟨?_,fun qF=>(hg a q).2 (List.mem_append_right _ qF)⟩
   cases hq:h.get? a with
   | none=>rfl
   | some o =>
    obtain ⟨o',ho'⟩:=x.alive a o (by simp) hq
    rw [(hg a q).1] at ho'; contradiction
 ·exact y.seqs b o (x.notMem hb e) (x.seqs b o hb e hs) hs
 ·exact (x.rest b o hb (by simp) e).trans fun o' e'=>x.fre ▸ y.rest b o' (x.notMem hb e) (fun q=>by
   rcases List.mem_append.mp q with q | q
   ·exact no b o e q
   ·exact hF q) e'
 ·obtain ⟨o',e'⟩:=x.alive b o (by simp) e
  exact y.alive b o' (fun q=>by
   rcases List.mem_append.mp q with q | q
   ·exact no b o e q
   ·exact hb q) e'
theorem aL.get {F α h α' h'} (x:aL F α h α' h') {i:Nat} {a:Addr} (e:α.ix[i]?=some a):α'.ix[i]?=some a:=by
 obtain ⟨β,q,_⟩:=x.pre
 rw [q,List.getElem?_append_left (cS e).1]; exact e
section
variable {h:Heap} {α:AL} {v:Value}
theorem VR.noneE (r:VR h α .none v):v=.none:=by cases r; rfl
theorem VR.boolE {b:Bool} (r:VR h α (.bool b) v):v=.bool b:=by cases r; rfl
theorem VR.intE {i:Int} (r:VR h α (.int i) v):∃ t,v=.int i t:=by cases r; exact ⟨_,rfl⟩
theorem VR.strE {x:Str} (r:VR h α (.str x) v):∃ t,v=.str x t/\PyData.strOk x=true:=by
 cases r with
 | str _ t h=>exact ⟨_,rfl,h⟩
theorem VR.refE {i:Nat} (r:VR h α (.ref i) v):∃ a,v=.ref a/\α.ix[i]?=some a:=by
 cases r with
 | ref e=>exact ⟨_,rfl,e⟩
end
theorem VR.ext {F α h α' h'} (x:aL F α h α' h') {p:PV} {v:Value} (r:VR h α p v):VR h' α' p v:=by
 induction r with
 | none=>exact .none
 | bool b=>exact .bool b
 | int i t=>exact .int i t
 | str s t hs=>exact .str s t hs
 | tup e hn hl _ ih=>exact .tup (x.seqs _ _ (AL.not_ix hn) e .seq) (x.notAll hn e) hl ih
 | fl e hn hl _ ih=>exact .fl (x.seqs _ _ (AL.not_ix hn) e .seq) (x.notAll hn e) hl ih
 | ref e=>exact .ref (x.get e)
 | exc e hc hd hn=>exact .exc (x.seqs _ _ (AL.not_ix hn) e (.inr (.inl ⟨_,_,hc,hd⟩))) hc hd (x.notAll hn e)
 | inst e hn hi=>exact .inst (x.seqs _ _ (AL.not_ix hn) e (.inr (.inr ⟨_,rfl,rfl⟩))) (x.notAll hn e) (x.get hi)
noncomputable def aT (h:Heap) (α:AL) (xs:List PV) (vs:List Value):Prop:=
 xs.length=vs.length/\∀ (i:Nat) (x:PV) (v:Value),xs[i]?=some x->vs[i]?=some v->VR h α x v
theorem aT.nil {h α}:aT h α [] []:=⟨rfl,fun zz zz zz e=>by simp at e⟩
theorem aT.cons {h α x xs v vs} (a:VR h α x v) (b:aT h α xs vs):aT h α (x::xs) (v::vs):=by
 refine ⟨by simp [b.1],fun i y w e1 e2=>?_⟩
 cases i with
 | zero=>simp at e1 e2; subst e1 e2; exact a
 | succ i=>simp at e1 e2; exact b.2 i y w e1 e2
theorem aT.ext {F α h α' h'} (x:aL F α h α' h') {p:List PV} {v:List Value} (r:aT h α p v):aT h' α' p v:=
 ⟨r.1,fun i a b e1 e2=>(r.2 i a b e1 e2).ext x⟩
theorem aT.inv_cons {h α x xs vs} (r:aT h α (x::xs) vs):∃ v vs',vs=v::vs'/\VR h α x v/\aT h α xs vs':=by
 cases vs with
 | nil=>simp [aT] at r
 | cons v vs'=>exact ⟨v,vs',rfl,r.2 0 x v (by simp) (by simp),by have:=r.1; simp at this; exact this,fun i a b e1 e2=>r.2 (i + 1) a b (by simpa using e1) (by simpa using e2)⟩
theorem aT.append {h α xs vs ys ws} (a:aT h α xs vs) (b:aT h α ys ws):aT h α (xs++ys) (vs++ws):=by
 refine ⟨by simp [a.1,b.1],fun i y w e1 e2=>?_⟩
 by_cases hi:i < xs.length
 ·rw [List.getElem?_append_left hi] at e1
  rw [List.getElem?_append_left (by rw [<- a.1]; exact hi)] at e2
  exact a.2 i y w e1 e2
 ·rw [List.getElem?_append_right (by omega)] at e1
  rw [List.getElem?_append_right (by rw [<- a.1]; omega),<- a.1] at e2
  exact b.2 _ y w e1 e2
theorem VR.tupI {h:Heap} {α:AL} {xs:List PV} {a:Addr} {ak:List Value} {n:Nat} (e:h.get? a=some { cls:=.type "tuple",data:=.seq ak.toArray n }) (hn:a ∉ α.all) (r:aT h α xs ak):VR h α (.tup xs) (.ref a):=
 .tup e hn (by simpa using r.1) fun i x v e1 e2=>r.2 i x v e1 (by simpa using e2)
theorem VR.flI {h:Heap} {α:AL} {xs:List PV} {a:Addr} {ak:List Value} {n:Nat} (e:h.get? a=some { cls:=.type "list",data:=.seq ak.toArray n }) (hn:a ∉ α.all) (r:aT h α xs ak):VR h α (.fl xs) (.ref a):=
 .fl e hn (by simpa using r.1) fun i x v e1 e2=>r.2 i x v e1 (by simpa using e2)
inductive SeqAt (T:String) (h:Heap) (α:AL) (xs:List PV) (v:Value):Prop
 | mk (a:Addr) (ak:List Value) (n:Nat) (e:v=.ref a) (ht:h.get? a=some { cls:=.type T,data:=.seq (List.toArray ak) n }) (hn:a ∉ α.all) (vs:aT h α xs ak):SeqAt T h α xs v
theorem VR.tupE {h:Heap} {α:AL} {xs:List PV} {v:Value} (r:VR h α (.tup xs) v):SeqAt "tuple" h α xs v:=by
 cases r with
 | tup e hn hl hr=>exact ⟨_,_,_,rfl,by simpa using e,hn,by simpa using hl,fun i x v e1 e2=>hr i x v e1 (by simpa using e2)⟩
theorem VR.flE {h:Heap} {α:AL} {xs:List PV} {v:Value} (r:VR h α (.fl xs) v):SeqAt "list" h α xs v:=by
 cases r with
 | fl e hn hl hr=>exact ⟨_,_,_,rfl,by simpa using e,hn,by simpa using hl,fun i x v e1 e2=>hr i x v e1 (by simpa using e2)⟩
end Mine
namespace Mine
open PySem Classical
structure bn where
 calls:Nat->Nat->List PV->ab->ac PV
 md:Nat
noncomputable abbrev bn.call (C:bn):Nat->List PV->ab->ac PV:=C.calls C.md
noncomputable def bn.hd (C:bn):Bool:=C.md != 0
noncomputable def cJ (w:Option (Nat × MO)) (σ:ab):Prop:=
 match w with
 | none=>True
 | some (i,m)=>σ[i]?=some m
noncomputable def adg:Option PV->List PV->List PV
 | some v,ys=>v::ys
 | none,ys=>ys
noncomputable def bM (w:Option (Nat × MO)) (f:PV->ab->ac (Option PV)):List PV->ab->ac (List PV)
 | [],σ=>if cJ w σ then .ok [] σ else .stuck
 | x::xs,σ=>if cJ w σ then (f x σ).bind fun y σ=>(bM w f xs σ).bind fun ys σ=>.ok (adg y ys) σ else .stuck
noncomputable def eH (n:Nat) (c:ac (List PV)) (f:List PV->ab->ac PV):ac PV:=
 match c with
 | .ok ys σ=>f ys σ
 | _=>.stuck
noncomputable def ie (σ:ab):PV->Option (Nat × MO)
 | .ref i=>match σ[i]? with
  | some (.lst xs)=>some (i,.lst xs)
  | _=>none
 | _=>none
noncomputable def bU (fz:Bool) (xs:List PV) (σ:ab):ac PV:=
 if xs.length <= ao then (if fz then .ok (.fl xs) σ else .ok (.ref σ.length) (σ++[.lst xs])) else .stuck
noncomputable def aF (a c:Int) (n:Nat):List PV:=(List.range n).map fun (i:Nat)=>.int (a + (i:Int) * c)
noncomputable def sL (a b:Int):Bool:=decide (a.natAbs < 2 ^ 60\/b.natAbs < 2 ^ 60)
noncomputable def wC (f:Int->Int->ac PV) (a b:PV):ac PV:=
 match a with
 | .int x=>match b with
  | .int y=>f x y
  | _=>.stuck
 | _=>.stuck
noncomputable def agI (a b:PV) (σ:ab):ac PV:=
 match a with
 | .int x=>match b with
  | .int y=>.ok (.int (x + y)) σ
  | _=>.stuck
 | .str x=>match b with
  | .str y=>if x.length + y.length <= ao then .ok (.str (x++y)) σ else .stuck
  | _=>.stuck
 | .tup x=>match b with
  | .tup y=>if x.length + y.length <= ao then .ok (.tup (x++y)) σ else .stuck
  | _=>.stuck
 | a=>match a8 σ a with
  | some x=>match a8 σ b with
   | some y=>if x.length + y.length <= ao then .ok (.fl (x++y)) σ else .stuck
   | none=>.stuck
  | none=>.stuck
noncomputable def aiL (a b:PV) (σ:ab):ac PV:=
 match b with
 | .int y=>match a with
  | .int x=>if sL x y then .ok (.int (x * y)) σ else .stuck
  | .str x=>if x.length <= 100/\0 <= y/\y <= 100 then .ok (.str (Txt.mul x y)) σ else .stuck
  | _=>.stuck
 | _=>.stuck
noncomputable def g9 (o:Op) (a b:PV) (σ:ab):ac PV:=
 match o with
 | .add=>agI a b σ
 | .sub=>wC (fun x y=>.ok (.int (x - y)) σ) a b
 | .mul=>aiL a b σ
 | .mod=>wC (fun x y=>if y=0 then .stuck else .ok (.int (x.fmod y)) σ) a b
 | .fdiv=>wC (fun x y=>if y ≠ 0/\y.natAbs < 1073741824 then .ok (.int (x.fdiv y)) σ else .stuck) a b
 | .pow=>wC (fun x n=>if 0 <= n/\n <= 100/\x=10 then .ok (.int (x ^ n.toNat)) σ else .stuck) a b
noncomputable def zN (f:Int->Int->Bool) (a b:PV) (σ:ab):ac Bool:=
 match a with
 | .int x=>match b with
  | .int y=>.ok (f x y) σ
  | _=>.stuck
 | _=>.stuck
noncomputable def fh:PV->Bool
 | .none=>true
 | _=>false
noncomputable def isv (f:Bool->Bool) (a b:PV) (σ:ab):ac Bool:=
 match b with
 | .none=>.ok (f (fh a)) σ
 | .bool y=>match a with
  | .bool x=>.ok (f (decide (x=y))) σ
  | _=>.stuck
 | _=>.stuck
noncomputable def cj (a b:PV) (σ:ab):Option Bool:=
 match b with
 | .str y=>match a with
  | .str x=>match x.cps.toList with
   | [c]=>some (y.cps.toList.contains c)
   | _=>none
  | _=>none
 | .tup xs=>iL σ a xs
 | .fl xs=>iL σ a xs
 | .ref r=>match σ[r]? with
  | some (.lst xs)=>iL σ a xs
  | some (.ds es)=>match a with
   | .str k=>some (ai k es).isSome
   | _=>none
  | some (.dp es)=>(eR a).map fun k=>(ai k es).isSome
  | _=>none
 | _=>none
noncomputable def bp (o:Cm) (a b:PV) (σ:ab):ac Bool:=
 match o with
 | .eq=>ac.ofOpt (eqv σ a b) σ
 | .ne=>ac.ofOpt ((eqv σ a b).map (!·)) σ
 | .lt=>zN (fun x y=>decide (x < y)) a b σ
 | .le=>zN (fun x y=>decide (x <= y)) a b σ
 | .gt=>zN (fun x y=>decide (x > y)) a b σ
 | .ge=>zN (fun x y=>decide (x >= y)) a b σ
 | .is=>isv id a b σ
 | .isNot=>isv (!·) a b σ
 | .isin=>ac.ofOpt (cj a b σ) σ
 | .notin=>ac.ofOpt ((cj a b σ).map (!·)) σ
noncomputable def bS:List PV->Option (List Int)
 | []=>some []
 | .int i::r=>(bS r).map (i::·)
 | _::_=>none
noncomputable def cu:List PV->Option (List Bool)
 | []=>some []
 | .bool b::r=>(cu r).map (b::·)
 | _::_=>none
noncomputable def dS:List PV->Option (List Str)
 | []=>some []
 | .str s::r=>(dS r).map (s::·)
 | _::_=>none
noncomputable def cH (l:List Str):List Str:=l.foldl (fun a x=>if a.any (· == x) then a else a++[x]) []
noncomputable def be (l:List Int):List Int:=l.mergeSort (fun a b=>decide (a <= b))
noncomputable def sF (xs:List PV):Option (List PV):=
 match bS xs with
 | some l=>if l.length < 64 then some ((be l).map .int) else none
 | none=>none
noncomputable def gx (f:List PV->ac PV) (a:PV) (σ:ab):ac PV:=
 match aW σ a with
 | some xs=>f xs
 | none=>.stuck
noncomputable def cE {α:Type} (g:List PV->Option α) (f:α->ac PV) (a:PV) (σ:ab):ac PV:=
 match (a8 σ a).bind g with
 | some l=>f l
 | none=>.stuck
noncomputable def akl (a:PV) (σ:ab):ac PV:=
 match a with
 | .str s=>if s.length <= ao then .ok (.int s.length) σ else .stuck
 | a=>gx (fun xs=>if xs.length <= ao then .ok (.int xs.length) σ else .stuck) a σ
noncomputable def akm (a:PV) (σ:ab):ac PV:=
 match a with
 | .bool b=>.ok (.int (if b then 1 else 0)) σ
 | _=>.stuck
noncomputable def akj (a:PV) (σ:ab):ac PV:=
 match a with
 | .str s=>.ok (.str s) σ
 | .int i=>if 0 <= i/\i < 1000000000 then .ok (.str (Str.ofString (toString i))) σ else .stuck
 | _=>.stuck
noncomputable def ajg:List PV->List ((Str × Int) × PV)->Option (List ((Str × Int) × PV))
 | [],es=>some es
 | .tup [k,v]::r,es=>match eR k with
  | some k=>ajg r (cq k v es)
  | none=>none
 | _::_,_=>none
noncomputable def aj2 (a:PV) (σ:ab):ac PV:=
 match a with
 | .ref r=>match σ[r]? with
  | some (.dp es)=>if es.length <= ao then .ok (.ref σ.length) (σ++[.dp es]) else .stuck
  | _=>.stuck
 | .fl xs=>match ajg xs [] with
  | some es=>if xs.length <= ao then .ok (.ref σ.length) (σ++[.dp es]) else .stuck
  | none=>.stuck
 | _=>.stuck
noncomputable def cI (b:B1) (a:PV) (σ:ab):ac PV:=
 match b with
 | .dict=>aj2 a σ
 | .len=>akl a σ
 | .list fz=>gx (fun xs=>bU fz xs σ) a σ
 | .tuple=>gx (fun xs=>if xs.length <= ao then .ok (.tup xs) σ else .stuck) a σ
 | .sum=>cE bS (fun l=>if l.length <= 1000/\l.all (fun x=>decide (x.natAbs < 2 ^ 40)) then .ok (.int l.sum) σ else .stuck) a σ
 | .min=>cE bS (fun l=>match l with
  | x::l=>.ok (.int (l.foldl min x)) σ
  | []=>.stuck) a σ
 | .max=>cE bS (fun l=>match l with
  | x::l=>.ok (.int (l.foldl max x)) σ
  | []=>.stuck) a σ
 | .sorted=>cE sF (fun l=>.ok (.fl l) σ) a σ
 | .all=>cE cu (fun l=>.ok (.bool (l.all id)) σ) a σ
 | .any=>cE cu (fun l=>.ok (.bool (l.any id)) σ) a σ
 | .int=>akm a σ
 | .str=>akj a σ
 | .lenset=>match (aW σ a).bind dS with
  | some l=>if l.length <= 1000 then .ok (.int (cH l).length) σ else .stuck
  | none=>.stuck
noncomputable def y7:B1->Bool
 | .all | .lenset=>true
 | .sum=>true
 | .min | .max=>true
 | .any=>true
 | .dict=>true
 | _=>false
noncomputable def nH (hd:Bool) (b:B1) (a:PV) (σ:ab):ac PV:=bif hd && y7 b then .stuck else cI b a σ
noncomputable def eB (a:PV) (t:Ty) (σ:ab):ac Bool:=
 match t with
 | .int=>match a with
  | .int _=>.ok true σ
  | .bool _=>.ok true σ
  | .none=>.ok false σ
  | .str _=>.ok false σ
  | _=>.stuck
 | .bool=>match a with
  | .bool _=>.ok true σ
  | .int _=>.ok false σ
  | .none=>.ok false σ
  | .str _=>.ok false σ
  | _=>.stuck
 | .str=>match a with
  | .str _=>.ok true σ
  | .int _=>.ok false σ
  | .none=>.ok false σ
  | .bool _=>.ok false σ
  | .tup _=>.ok false σ
  | _=>.stuck
 | .tuple=>match a with
  | .tup _=>.ok true σ
  | .str _=>.ok false σ
  | .int _=>.ok false σ
  | _=>.stuck
 | .list=>match a with
  | .tup _=>.ok false σ
  | a=>match a8 σ a with
   | some _=>.ok true σ
   | none=>.stuck
noncomputable def iM (xs:List PV) (i:Int) (σ:ab):ac PV:=if xs.length <= ao then ac.ofOpt ((b7 i xs.length).bind (xs[·]?)) σ else .stuck
noncomputable def pP (o i:PV) (σ:ab):ac PV:=
 match o with
 | .ref r=>match σ[r]? with
  | some (.ds es)=>match i with
   | .str k=>ac.ofOpt (ai k es) σ
   | _=>.stuck
  | some (.dp es)=>ac.ofOpt ((eR i).bind fun k=>ai k es) σ
  | _=>.stuck
 | _=>.stuck
noncomputable def eP (o i:PV) (σ:ab):ac PV:=
 match i with
 | .int i=>match o with
  | .str s=>if s.cps.size <= ao then
    match (b7 i s.cps.size).bind (s.cps[·]?) with
    | some c=>.ok (.str ⟨#[c]⟩) σ
    | none=>.stuck
   else .stuck
  | .tup xs=>iM xs i σ
  | o=>match a8 σ o with
   | some xs=>iM xs i σ
   | none=>.stuck
 | i=>pP o i σ
noncomputable def lJ:PV->Option (Option Int)
 | .none=>some none
 | .int i=>some (some i)
 | _=>none
noncomputable def bI {α:Type} (xs:List α) (lo hi:Option Int):List α:=
 (xs.drop (lo.elim 0 (clipAt xs.length))).take (hi.elim xs.length (clipAt xs.length) - lo.elim 0 (clipAt xs.length))
noncomputable def slV (σ:ab) (o:PV) (lo hi:Option Int):Option PV:=
 match o with
 | .tup xs=>if xs.length <= ao then some (.tup (bI xs lo hi)) else none
 | o=>(a8 σ o).bind fun xs=>if xs.length <= ao then some (.fl (bI xs lo hi)) else none
noncomputable def iK (o lo hi:PV) (σ:ab):ac PV:=ac.ofOpt ((lJ lo).bind fun lo=>(lJ hi).bind fun hi=>slV σ o lo hi) σ
noncomputable def aiJ (a:PV) (σ:ab):ac PV:=
 match a with
 | .int i=>.ok (.int (-i)) σ
 | _=>.stuck
noncomputable def eh (o:PV) (σ:ab):Bool:=
 match o with
 | .ref r=>match σ[r]? with
  | some (.lst _)=>true
  | _=>false
 | _=>false
noncomputable def ajL:PV->Bool
 | .str _=>true
 | _=>false
noncomputable def vK (o:PV) (σ:ab):Bool:=
 match o with
 | .ref r=>match σ[r]? with
  | some (.ds _)=>true
  | some (.dp _)=>true
  | _=>false
 | _=>false
noncomputable def ub (m:Me) (o:PV) (σ:ab):Bool:=
 match m with
 | .append | .extend=>eh o σ
 | .pop=>eh o σ
 | .get=>vK o σ
noncomputable def eI (o v:PV) (σ:ab):ac PV:=
 match o with
 | .ref r=>match σ[r]? with
  | some (.lst xs)=>if xs.length < ao then .ok .none (σ.set r (.lst (xs++[v]))) else .stuck
  | _=>.stuck
 | _=>.stuck
noncomputable def gB (o v:PV) (σ:ab):ac PV:=
 match o with
 | .ref r=>match σ[r]? with
  | some (.lst xs)=>match v with
   | .tup ys=>if xs.length + ys.length <= ao then .ok .none (σ.set r (.lst (xs++ys))) else .stuck
   | .fl ys=>if xs.length + ys.length <= ao then .ok .none (σ.set r (.lst (xs++ys))) else .stuck
   | _=>.stuck
  | _=>.stuck
 | _=>.stuck
noncomputable def aal (o v:PV) (σ:ab):ac PV:=
 match o with
 | .ref r=>match σ[r]? with
  | some (.ds es)=>match v with
   | .str k=>.ok ((ai k es).getD .none) σ
   | _=>.stuck
  | some (.dp es)=>match eR v with
   | some k=>.ok ((ai k es).getD .none) σ
   | none=>.stuck
  | _=>.stuck
 | _=>.stuck
noncomputable def tW (o v:PV) (σ:ab):ac PV:=
 match o with
 | .ref r=>match σ[r]? with
  | some (.lst xs)=>match v with
   | .int i=>if 0 <= i/\xs.length <= ao then match xs[i.toNat]? with
     | some v=>.ok v (σ.set r (.lst (xs.eraseIdx i.toNat)))
     | none=>.stuck
    else .stuck
   | _=>.stuck
  | _=>.stuck
 | _=>.stuck
noncomputable def mU (m:Me) (o:PV) (args:List PV) (σ:ab):ac PV:=
 match args with
 | [v]=>match m with
  | .append=>eI o v σ
  | .extend=>gB o v σ
  | .pop=>tW o v σ
  | .get=>aal o v σ
 | _=>.stuck
noncomputable def sM (x y:PV) (σ:ab):ac PV:=
 match x,y with
 | .int x,.int y=>.ok (.int (min x y)) σ
 | _,_=>.stuck
noncomputable def lM (m:M0) (o:PV) (σ:ab):ac PV:=
 match m with
 | .clear=>match o with
  | .ref r=>match σ[r]? with
   | some (.lst xs)=>if xs.length <= ao then .ok .none (σ.set r (.lst [])) else .stuck
   | _=>.stuck
  | _=>.stuck
noncomputable def wB (c:Nat) (o:PV) (n:Str) (σ:ab):ac PV:=
 match o with
 | .inst c' i=>if c'=c then (match σ[i]? with
  | some (.ns fs)=>ac.ofOpt (ai n fs) σ
  | _=>.stuck) else .stuck
 | _=>.stuck
noncomputable def vY (ks:List Str) (vals:List PV) (key dflt:PV) (σ:ab):ac PV:=
 match key with
 | .str k=>.ok ((kh k (ks.zip vals)).getD dflt) σ
 | _=>.stuck
noncomputable def dA (v:PV) (σ:ab):ac Bool:=
 match v with
 | .bool b=>.ok b σ
 | _=>.stuck
noncomputable def kP (v:PV) (σ:ab):ac (List PV × Option (Nat × MO)):=
 match ak σ v with
 | some xs=>.ok (xs,ie σ v) σ
 | none=>.stuck
noncomputable def io (a:PV) (σ:ab):ac (List PV × Option (Nat × MO)):=
 match a with
 | .int n=>if 0 <= n/\n <= ao then .ok (aF 0 1 n.toNat,none) σ else .stuck
 | _=>.stuck
noncomputable def dC:Nat->List PV->List PV
 | _,[]=>[]
 | i,x::r=>.tup [.int i,x]::dC (i + 1) r
noncomputable def qc (a:PV) (σ:ab):ac (List PV × Option (Nat × MO)):=
 match a8 σ a with
 | some xs=>if xs.length <= ao then .ok (dC 0 xs,ie σ a) σ else .stuck
 | none=>.stuck
noncomputable def iF:List PV->List PV->List PV
 | x::r,y::q=>.tup [x,y]::iF r q
 | _,_=>[]
noncomputable def wH (a b:PV) (σ:ab):ac (List PV × Option (Nat × MO)):=
 match a,b with
 | .tup xs,.fl ys=>if xs.length=ys.length/\ys.length <= ao then .ok (iF xs ys,some (σ.length,.tp)) (σ++[.tp]) else .stuck
 | _,_=>.stuck
noncomputable def ab9 (vs:List PV) (σ:ab):ac (List PV × Option (Nat × MO)):=
 match vs with
 | [a,b]=>wH a b σ
 | _=>.stuck
noncomputable def bt (cap:List (Option Nat)) (ρ:aq):aq:=cap.map fun (o:Option Nat)=>match o with | some i=>(ρ[i]?).join | none=>none
noncomputable def ace (ρ:aq) (i:Nat) (σ:ab):ac PV:=
 match ρ[i]? with
 | some (some v)=>.ok v σ
 | _=>.stuck
structure lf where
 ev:aq->ab->ac PV
 tst:aq->ab->ac Bool
 evs:aq->ab->ac (List PV)
 evAnd:aq->ab->ac PV
 evOr:aq->ab->ac PV
 tstAnd:aq->ab->ac Bool
 tstOr:aq->ab->ac Bool
 evIt:aq->ab->ac (List PV × Option (Nat × MO))
noncomputable def lf.two (e:aq->ab->ac PV) (t:aq->ab->ac Bool):lf:=
 ⟨e,t,fun zz zz=>.stuck,fun zz zz=>.stuck,fun zz zz=>.stuck,fun zz zz=>.stuck,fun zz zz=>.stuck,fun ρ σ=>(e ρ σ).bind kP⟩
noncomputable def lf.val (e:aq->ab->ac PV):lf:=lf.two e fun ρ σ=>(e ρ σ).bind dA
noncomputable def lf.nil:lf:=
 ⟨fun zz zz=>.stuck,fun zz zz=>.stuck,fun zz σ=>.ok [] σ,fun zz zz=>.stuck,fun zz zz=>.stuck,fun zz σ=>.ok true σ,fun zz σ=>.ok false σ,fun zz zz=>.stuck⟩
noncomputable def lf.cons (a:lf) (last:Bool) (r:lf):lf:=
 ⟨fun zz zz=>.stuck,fun zz zz=>.stuck,fun ρ σ=>(a.ev ρ σ).bind fun v σ=>(r.evs ρ σ).bind fun vs σ=>.ok (v::vs) σ,
  fun ρ σ=>if last then a.ev ρ σ else (a.ev ρ σ).bind fun v σ=>(dA v σ).bind fun b σ=>if b then r.evAnd ρ σ else .ok v σ,
  fun ρ σ=>if last then a.ev ρ σ else (a.ev ρ σ).bind fun v σ=>(dA v σ).bind fun b σ=>if b then .ok v σ else r.evOr ρ σ,
  fun ρ σ=>(a.tst ρ σ).bind fun b σ=>if b then r.tstAnd ρ σ else .ok false σ,
  fun ρ σ=>(a.tst ρ σ).bind fun b σ=>if b then .ok true σ else r.tstOr ρ σ,
  fun zz zz=>.stuck⟩
noncomputable def lf.it (f:aq->ab->ac (List PV × Option (Nat × MO))):lf:=
 ⟨fun zz zz=>.stuck,fun zz zz=>.stuck,fun zz zz=>.stuck,fun zz zz=>.stuck,fun zz zz=>.stuck,fun zz zz=>.stuck,fun zz zz=>.stuck,f⟩
noncomputable def X.isNil:X->Bool
 | .nil=>true
 | _=>false
noncomputable def mV (C:bn) (c f:Nat) (n:Str) (x:PV) (args:ab->ac (List PV)) (σ:ab):ac PV:=
 match x with
 | .inst c' i=>if c'=c then (match σ[i]? with
  | some (.ns fs)=>(match ai n fs with
   | none=>(args σ).bind fun vs σ=>C.call f (.inst c' i::vs) σ
   | some _=>.stuck)
  | _=>.stuck) else .stuck
 | _=>.stuck
noncomputable def pU (C:bn) (c f:Nat) (vs:List PV) (σ:ab):ac PV:=
 (C.call f (.inst c σ.length::vs) (σ++[.ns []])).bind fun v σ'=>match v with
  | .none=>.ok (.inst c σ.length) σ'
  | _=>.stuck
noncomputable def bH (C:bn):X->lf
 | .nil=>lf.nil
 | .cons a r=>lf.cons (bH C a) r.isNil (bH C r)
 | .k v=>.val fun zz σ=>.ok v σ
 | .v i=>.val fun ρ σ=>ace ρ i σ
 | .and xs=>.two (bH C xs).evAnd (bH C xs).tstAnd
 | .or xs=>.two (bH C xs).evOr (bH C xs).tstOr
 | .not a=>.two (fun ρ σ=>((bH C a).ev ρ σ).bind fun v σ=>(dA v σ).bind fun b σ=>.ok (.bool (!b)) σ) (fun ρ σ=>((bH C a).tst ρ σ).bind fun b σ=>.ok (!b) σ)
 | .neg a=>.val fun ρ σ=>((bH C a).ev ρ σ).bind aiJ
 | .bin o a b=>.val fun ρ σ=>((bH C a).ev ρ σ).bind fun x σ=>((bH C b).ev ρ σ).bind fun y σ=>g9 o x y σ
 | .cmp a o b=>.two (fun ρ σ=>((bH C a).ev ρ σ).bind fun x σ=>((bH C b).ev ρ σ).bind fun y σ=>(bp o x y σ).bind fun r σ=>.ok (.bool r) σ)
   (fun ρ σ=>((bH C a).ev ρ σ).bind fun x σ=>((bH C b).ev ρ σ).bind fun y σ=>bp o x y σ)
 | .cmp2 a o b o2 c=>.two (fun ρ σ=>((bH C a).ev ρ σ).bind fun x σ=>((bH C b).ev ρ σ).bind fun y σ=>(bp o x y σ).bind fun r σ =>
   if r then ((bH C c).ev ρ σ).bind fun z σ=>(bp o2 y z σ).bind fun r σ=>.ok (.bool r) σ else .ok (.bool false) σ)
   (fun ρ σ=>((bH C a).ev ρ σ).bind fun x σ=>((bH C b).ev ρ σ).bind fun y σ=>(bp o x y σ).bind fun r σ =>
   if r then ((bH C c).ev ρ σ).bind fun z σ=>bp o2 y z σ else .ok false σ)
 | .lst fz xs=>.val fun ρ σ=>((bH C xs).evs ρ σ).bind fun vs σ=>bU fz vs σ
 | .tup xs=>.val fun ρ σ=>((bH C xs).evs ρ σ).bind fun vs σ=>if vs.length <= ao then .ok (.tup vs) σ else .stuck
 | .fdget ks vals key dflt=>.val fun ρ σ=>((bH C key).ev ρ σ).bind fun k σ=>((bH C dflt).ev ρ σ).bind fun d σ=>vY ks vals k d σ
 | .comp fz t cap elt cond it=>.val fun ρ σ=>bif C.hd then .stuck else ((bH C it).evIt ρ σ).bind fun (xs,w) σ =>
   eH xs.length (bM w (fun x σ =>
    ((bH C cond).tst ((bt cap ρ).set t (some x)) σ).bind fun b σ=>if b then ((bH C elt).ev ((bt cap ρ).set t (some x)) σ).bind fun v σ=>.ok (some v) σ else .ok none σ) xs σ) fun ys σ=>bU fz ys σ
 | .range1 a=>.it fun ρ σ=>((bH C a).ev ρ σ).bind io
 | .enum a=>.it fun ρ σ=>((bH C a).ev ρ σ).bind qc
 | .zip xs=>.it fun ρ σ=>((bH C xs).evs ρ σ).bind ab9
 | .dnew pk=>.val fun zz σ=>.ok (.ref σ.length) (σ++[bif pk then .dp [] else .ds []])
 | .attr c o n=>.val fun ρ σ=>((bH C o).ev ρ σ).bind fun x σ=>wB c x n σ
 | .meth c f n o args=>.val fun ρ σ=>((bH C o).ev ρ σ).bind fun x σ=>mV C c f n x (fun σ=>(bH C args).evs ρ σ) σ
 | .new c f args=>.val fun ρ σ=>((bH C args).evs ρ σ).bind fun vs σ=>pU C c f vs σ
 | .me0 m o=>.val fun ρ σ=>((bH C o).ev ρ σ).bind fun x σ=>lM m x σ
 | .call f args=>.val fun ρ σ=>((bH C args).evs ρ σ).bind fun vs σ=>C.call f vs σ
 | .b1 b a=>.val fun ρ σ=>((bH C a).ev ρ σ).bind fun v σ=>nH C.hd b v σ
 | .min2 a b=>.val fun ρ σ=>bif C.hd then .stuck else ((bH C a).ev ρ σ).bind fun x σ=>((bH C b).ev ρ σ).bind fun y σ=>sM x y σ
 | .isinst a t=>.val fun ρ σ=>((bH C a).ev ρ σ).bind fun v σ=>(eB v t σ).bind fun b σ=>.ok (.bool b) σ
 | .me m o args=>.val fun ρ σ=>((bH C o).ev ρ σ).bind fun r σ=>if ub m r σ then ((bH C args).evs ρ σ).bind fun vs σ=>mU m r vs σ else .stuck
 | .sub o i=>.val fun ρ σ=>((bH C o).ev ρ σ).bind fun x σ=>((bH C i).ev ρ σ).bind fun y σ=>eP x y σ
 | .slice o lo hi=>.val fun ρ σ=>((bH C o).ev ρ σ).bind fun x σ=>((bH C lo).ev ρ σ).bind fun a σ=>((bH C hi).ev ρ σ).bind fun b σ=>iK x a b σ
noncomputable def ev (C:bn) (x:X) (ρ:aq) (σ:ab):ac PV:=(bH C x).ev ρ σ
noncomputable def evs (C:bn) (x:X) (ρ:aq) (σ:ab):ac (List PV):=(bH C x).evs ρ σ
noncomputable def evAnd (C:bn) (x:X) (ρ:aq) (σ:ab):ac PV:=(bH C x).evAnd ρ σ
noncomputable def evOr (C:bn) (x:X) (ρ:aq) (σ:ab):ac PV:=(bH C x).evOr ρ σ
noncomputable def tst (C:bn) (x:X) (ρ:aq) (σ:ab):ac Bool:=(bH C x).tst ρ σ
noncomputable def tstAnd (C:bn) (x:X) (ρ:aq) (σ:ab):ac Bool:=(bH C x).tstAnd ρ σ
noncomputable def tstOr (C:bn) (x:X) (ρ:aq) (σ:ab):ac Bool:=(bH C x).tstOr ρ σ
noncomputable def evIt (C:bn) (x:X) (ρ:aq) (σ:ab):ac (List PV × Option (Nat × MO)):=(bH C x).evIt ρ σ
section
variable {C:bn} {ρ:aq} {σ:ab}
theorem akq {i:Nat}:ev C (.v i) ρ σ=ace ρ i σ:=rfl
theorem aj1 {xs:X}:ev C (.or xs) ρ σ=evOr C xs ρ σ:=rfl
theorem aja {a:X}:ev C (.not a) ρ σ=(ev C a ρ σ).bind fun v σ=>(dA v σ).bind fun b σ=>.ok (.bool (!b)) σ:=rfl
theorem ajd {o:Op} {a b:X}:ev C (.bin o a b) ρ σ=(ev C a ρ σ).bind fun x σ=>(ev C b ρ σ).bind fun y σ=>g9 o x y σ:=rfl
theorem ajc {o:Cm} {a b:X}:ev C (.cmp a o b) ρ σ=(ev C a ρ σ).bind fun x σ=>(ev C b ρ σ).bind fun y σ=>(bp o x y σ).bind fun r σ=>.ok (.bool r) σ:=rfl
theorem aid {o o2:Cm} {a b c:X}:ev C (.cmp2 a o b o2 c) ρ σ=(ev C a ρ σ).bind fun x σ=>(ev C b ρ σ).bind fun y σ=>(bp o x y σ).bind fun r σ =>
   if r then (ev C c ρ σ).bind fun z σ=>(bp o2 y z σ).bind fun r σ=>.ok (.bool r) σ else .ok (.bool false) σ:=rfl
theorem ajb {fz:Bool} {xs:X}:ev C (.lst fz xs) ρ σ=(evs C xs ρ σ).bind fun vs σ=>bU fz vs σ:=rfl
theorem ai8 {xs:X}:ev C (.tup xs) ρ σ=(evs C xs ρ σ).bind fun vs σ=>if vs.length <= ao then .ok (.tup vs) σ else .stuck:=rfl
theorem agq {ks:List Str} {vals:List PV} {key dflt:X}:ev C (.fdget ks vals key dflt) ρ σ=(ev C key ρ σ).bind fun k σ=>(ev C dflt ρ σ).bind fun d σ=>vY ks vals k d σ:=rfl
theorem iA {fz:Bool} {t:Nat} {cap:List (Option Nat)} {elt cond it:X}:ev C (.comp fz t cap elt cond it) ρ σ=bif C.hd then .stuck else (evIt C it ρ σ).bind fun (xs,w) σ =>
   eH xs.length (bM w (fun x σ =>
    (tst C cond ((bt cap ρ).set t (some x)) σ).bind fun b σ=>if b then (ev C elt ((bt cap ρ).set t (some x)) σ).bind fun v σ=>.ok (some v) σ else .ok none σ) xs σ) fun ys σ=>bU fz ys σ:=rfl
theorem sQ {f:Nat} {args:X}:ev C (.call f args) ρ σ=(evs C args ρ σ).bind fun vs σ=>C.call f vs σ:=rfl
theorem ahc {b:B1} {a:X}:ev C (.b1 b a) ρ σ=(ev C a ρ σ).bind fun v σ=>nH C.hd b v σ:=rfl
theorem abV {a b:X}:ev C (.min2 a b) ρ σ=bif C.hd then .stuck else (ev C a ρ σ).bind fun x σ=>(ev C b ρ σ).bind fun y σ=>sM x y σ:=rfl
theorem aeV {a:X} {t:Ty}:ev C (.isinst a t) ρ σ=(ev C a ρ σ).bind fun v σ=>(eB v t σ).bind fun b σ=>.ok (.bool b) σ:=rfl
theorem ahb {m:Me} {o args:X}:ev C (.me m o args) ρ σ=(ev C o ρ σ).bind fun r σ=>if ub m r σ then (evs C args ρ σ).bind fun vs σ=>mU m r vs σ else .stuck:=rfl
theorem ai9 {o i:X}:ev C (.sub o i) ρ σ=(ev C o ρ σ).bind fun x σ=>(ev C i ρ σ).bind fun y σ=>eP x y σ:=rfl
theorem aaC {o lo hi:X}:ev C (.slice o lo hi) ρ σ=(ev C o ρ σ).bind fun x σ=>(ev C lo ρ σ).bind fun a σ=>(ev C hi ρ σ).bind fun b σ=>iK x a b σ:=rfl
theorem b6:evs C .nil ρ σ=.ok [] σ:=rfl
theorem d6 {a r:X}:evs C (.cons a r) ρ σ=(ev C a ρ σ).bind fun v σ=>(evs C r ρ σ).bind fun vs σ=>.ok (v::vs) σ:=rfl
theorem sd:evAnd C .nil ρ σ=.stuck:=rfl
theorem sa {a:X}:evAnd C (.cons a .nil) ρ σ=ev C a ρ σ:=rfl
theorem jk {a b r:X}:evAnd C (.cons a (.cons b r)) ρ σ=(ev C a ρ σ).bind fun v σ=>(dA v σ).bind fun t σ=>if t then evAnd C (.cons b r) ρ σ else .ok v σ:=rfl
theorem uI:evOr C .nil ρ σ=.stuck:=rfl
theorem uH {a:X}:evOr C (.cons a .nil) ρ σ=ev C a ρ σ:=rfl
theorem nF {a b r:X}:evOr C (.cons a (.cons b r)) ρ σ=(ev C a ρ σ).bind fun v σ=>(dA v σ).bind fun t σ=>if t then .ok v σ else evOr C (.cons b r) ρ σ:=rfl
theorem ahl {a:X}:tst C (.not a) ρ σ=(tst C a ρ σ).bind fun b σ=>.ok (!b) σ:=rfl
theorem ahm {o:Cm} {a b:X}:tst C (.cmp a o b) ρ σ=(ev C a ρ σ).bind fun x σ=>(ev C b ρ σ).bind fun y σ=>bp o x y σ:=rfl
theorem afp {o o2:Cm} {a b c:X}:tst C (.cmp2 a o b o2 c) ρ σ=(ev C a ρ σ).bind fun x σ=>(ev C b ρ σ).bind fun y σ=>(bp o x y σ).bind fun r σ =>
   if r then (ev C c ρ σ).bind fun z σ=>bp o2 y z σ else .ok false σ:=rfl
theorem afq {f:Nat} {args:X}:tst C (.call f args) ρ σ=(ev C (.call f args) ρ σ).bind dA:=rfl
theorem air {b:B1} {a:X}:tst C (.b1 b a) ρ σ=(ev C (.b1 b a) ρ σ).bind dA:=rfl
theorem ach {a:X} {t:Ty}:tst C (.isinst a t) ρ σ=(ev C (.isinst a t) ρ σ).bind dA:=rfl
theorem u0:tstAnd C .nil ρ σ=.ok true σ:=rfl
theorem dn {a r:X}:tstAnd C (.cons a r) ρ σ=(tst C a ρ σ).bind fun b σ=>if b then tstAnd C r ρ σ else .ok false σ:=rfl
theorem xI:tstOr C .nil ρ σ=.ok false σ:=rfl
theorem dT {a r:X}:tstOr C (.cons a r) ρ σ=(tst C a ρ σ).bind fun b σ=>if b then .ok true σ else tstOr C r ρ σ:=rfl
theorem oc {a:X}:evIt C (.range1 a) ρ σ=(ev C a ρ σ).bind io:=rfl
theorem aeW {a:X}:evIt C (.enum a) ρ σ=(ev C a ρ σ).bind qc:=rfl
theorem agr {xs:X}:evIt C (.zip xs) ρ σ=(evs C xs ρ σ).bind ab9:=rfl
theorem abX {c:Nat} {o:X} {n:Str}:ev C (.attr c o n) ρ σ=(ev C o ρ σ).bind fun x σ=>wB c x n σ:=rfl
theorem abW {c f:Nat} {n:Str} {o args:X}:ev C (.meth c f n o args) ρ σ=(ev C o ρ σ).bind fun x σ=>mV C c f n x (fun σ=>evs C args ρ σ) σ:=rfl
theorem aeT {c f:Nat} {args:X}:ev C (.new c f args) ρ σ=(evs C args ρ σ).bind fun vs σ=>pU C c f vs σ:=rfl
theorem aeU {m:M0} {o:X}:ev C (.me0 m o) ρ σ=(ev C o ρ σ).bind fun x σ=>lM m x σ:=rfl
end
inductive S where
 | nil | cons (a r:S)
 | asg (i:Nat) (x:X)
 | asgSub (o i x:X)
 | expr (x:X)
 | ret (x:X)
 | ret0
 | ife (c:X) (a b:S)
 | for1 (i:Nat) (it:X) (body:S)
 | brk
 | asgAttr (c:Nat) (o:X) (n:Str) (x:X)
 | asgT (is:List Nat) (x:X)
 | forT (is:List Nat) (it:X) (body:S)
 | stk
inductive bT where
 | next (ρ:aq) (σ:ab)
 | brk (ρ:aq) (σ:ab)
 | cont (ρ:aq) (σ:ab)
 | ret (v:PV) (ρ:aq) (σ:ab)
 | exc (i:Nat) (ρ:aq) (σ:ab)
 | stuck
noncomputable def ac.toS {α:Type} (o:ac α) (ρ:aq) (f:α->ab->bT):bT:=
 match o with
 | .ok a σ=>f a σ
 | .exc i σ=>.exc i ρ σ
 | .stuck=>.stuck
noncomputable def oK (go:aq->ab->bT):bT->bT
 | .next ρ σ=>go ρ σ
 | .cont ρ σ=>go ρ σ
 | .brk ρ σ=>.next ρ σ
 | .ret v ρ σ=>.ret v ρ σ
 | _=>.stuck
noncomputable def ajk (f:aq->bT):Option aq->bT
 | none=>.stuck
 | some ρ=>f ρ
noncomputable def aV (w:Option (Nat × MO)) (bind:PV->aq->Option aq) (f:aq->ab->bT):List PV->aq->ab->bT
 | [],ρ,σ=>if cJ w σ then .next ρ σ else .stuck
 | x::xs,ρ,σ=>if cJ w σ then ajk (fun ρ=>oK (aV w bind f xs) (f ρ σ)) (bind x ρ) else .stuck
noncomputable def oH (m:MO) (i v:PV):Option MO:=
 match m with
 | .ds es=>match i with
  | .str k=>if es.length < ao then some (.ds (cq k v es)) else none
  | _=>none
 | .dp es=>(eR i).bind fun k=>if es.length < ao then some (.dp (cq k v es)) else none
 | _=>none
noncomputable def bV (o i v:PV) (ρ:aq) (σ:ab):bT:=
 match o with
 | .ref r=>match (σ[r]?).bind fun m=>oH m i v with
  | some m=>.next ρ (σ.set r m)
  | none=>.stuck
 | _=>.stuck
noncomputable def fM (c:Nat) (o:PV) (n:Str) (v:PV) (ρ:aq) (σ:ab):bT:=
 match o with
 | .inst c' i=>if c'=c then (match σ[i]? with
  | some (.ns fs)=>if fs.length < 100 then .next ρ (σ.set i (.ns (cq n v fs))) else .stuck
  | _=>.stuck) else .stuck
 | _=>.stuck
noncomputable def oI:List Nat->List PV->aq->Option aq
 | [],[],ρ=>some ρ
 | i::is,v::vs,ρ=>oI is vs (ρ.set i (some v))
 | _,_,_=>none
noncomputable def dX (is:List Nat) (v:PV) (ρ:aq):Option aq:=
 match v with
 | .tup xs=>if xs.length <= 100 then oI is xs ρ else none
 | _=>none
noncomputable def bw (i:Nat) (v:PV) (ρ:aq):Option aq:=some (ρ.set i (some v))
noncomputable def ex (C:bn) (N:Nat):S->aq->ab->bT
 | .nil,ρ,σ=>.next ρ σ
 | .cons a r,ρ,σ=>match ex C N a ρ σ with
  | .next ρ σ=>ex C N r ρ σ
  | o=>o
 | .asg i x,ρ,σ=>(ev C x ρ σ).toS ρ fun v σ=>.next (ρ.set i (some v)) σ
 | .asgSub o i x,ρ,σ=>(ev C x ρ σ).toS ρ fun v σ=>(ev C o ρ σ).toS ρ fun o σ=>(ev C i ρ σ).toS ρ fun i σ=>bV o i v ρ σ
 | .asgAttr c o n x,ρ,σ=>(ev C x ρ σ).toS ρ fun v σ=>(ev C o ρ σ).toS ρ fun o σ=>fM c o n v ρ σ
 | .asgT is x,ρ,σ=>bif C.hd then .stuck else (ev C x ρ σ).toS ρ fun v σ=>match dX is v ρ with
  | some ρ=>.next ρ σ
  | none=>.stuck
 | .forT is it body,ρ,σ=>bif C.hd then .stuck else (evIt C it ρ σ).toS ρ fun (xs,w) σ=>aV w (dX is) (fun ρ σ=>ex C N body ρ σ) xs ρ σ
 | .expr x,ρ,σ=>(ev C x ρ σ).toS ρ fun zz σ=>.next ρ σ
 | .ret x,ρ,σ=>(ev C x ρ σ).toS ρ fun v σ=>.ret v ρ σ
 | .ret0,ρ,σ=>.ret .none ρ σ
 | .ife c a b,ρ,σ=>(tst C c ρ σ).toS ρ fun t σ=>if t then ex C N a ρ σ else ex C N b ρ σ
 | .for1 i it body,ρ,σ=>bif C.hd then .stuck else (evIt C it ρ σ).toS ρ fun (xs,w) σ=>aV w (bw i) (fun ρ σ=>ex C N body ρ σ) xs ρ σ
 | .brk,ρ,σ=>.brk ρ σ
 | .stk,_,_=>.stuck
structure Fn where
 params:Nat
 slots:Nat
 body:S
structure mG where
 fns:List Fn
noncomputable def dN (P:mG) (N:Nat):Nat->Nat->Nat->List PV->ab->ac PV
 | _,0,_,_,_=>.stuck
 | m,d + 1,f,vs,σ=>match P.fns[f]? with
  | some fn=>if vs.length=fn.params then
    match ex ⟨fun m=>dN P N m d,m⟩ N fn.body (vs.map some++List.replicate (fn.slots - fn.params) none) σ with
    | .next _ σ=>.ok .none σ
    | .ret v _ σ=>.ok v σ
    | _=>.stuck
   else .stuck
  | none=>.stuck
noncomputable def aJ (P:mG) (N:Nat):Nat->Nat->List PV->ab->ac PV:=dN P N 0
noncomputable def lc (P:mG) (N:Nat) (m:Nat) (d:Nat):bn:=⟨fun m=>dN P N m d,m⟩
theorem uS {κ:Type} [DecidableEq κ] {k k':κ} {v:PV}:∀ {es:List (κ × PV)},ai k' (cq k v es)=if k'=k then some v else ai k' es:=by
 intro es
 have cons:∀ (e:κ × PV) (es:List (κ × PV)),ai k' (e::es)=if e.1=k' then some e.2 else ai k' es:=fun e es=>by
  unfold ai
  rw [List.find?_cons]
  by_cases q:e.1=k'
  ·rw [decide_eq_true q,if_pos q]; rfl
  ·rw [decide_eq_false q,if_neg q]
 unfold cq
 by_cases h:(es.any fun e=>decide (e.1=k))=true
 ·rw [if_pos h]
  induction es with
  | nil=>contradiction
  | cons e es ih =>
   rw [List.map_cons,cons,cons]
   by_cases q:e.1=k
   ·rw [if_pos q]
    by_cases q2:k'=k
    ·rw [if_pos (q.trans q2.symm),if_pos q2]
    ·rw [if_neg (fun z=>q2 (z.symm.trans q)),if_neg q2,if_neg (fun z=>q2 (z.symm.trans q))]
     by_cases h2:(es.any fun e=>decide (e.1=k))=true
     ·rw [ih h2,if_neg q2]
     ·congr 1
      rw [List.map_congr_left (g:=id) fun e he=>?_,List.map_id]
      rw [if_neg]; rfl
      intro z; exact h2 (List.any_eq_true.mpr ⟨e,he,decide_eq_true z⟩)
   ·rw [if_neg q]
    rw [List.any_cons,decide_eq_false q,Bool.false_or] at h
    rw [ih h]
    by_cases q2:k'=k
    ·rw [if_pos q2,if_neg (fun z=>q (z.trans q2)),if_pos q2]
    ·rw [if_neg q2,if_neg q2]
 ·rw [if_neg h]
  induction es with
  | nil =>
   show ai k' [(k,v)]=_
   rw [cons]
   by_cases q:k'=k
   ·rw [if_pos q.symm,if_pos q]
   ·rw [if_neg (fun z=>q z.symm),if_neg q]
  | cons e es ih =>
   rw [List.any_cons,Bool.or_eq_true,not_or] at h
   have h1:e.1 ≠ k:=fun z=>h.1 (decide_eq_true z)
   rw [List.cons_append,cons,cons,ih h.2]
   by_cases q2:k'=k
   ·rw [if_pos q2,if_neg (fun z=>h1 (z.trans q2)),if_pos q2]
   ·rw [if_neg q2,if_neg q2]
end Mine
namespace Mine
open PySem
section
variable {α β γ δ ε ζ:Type} {a:Option α} {b:Option β} {c:Option γ} {d:Option δ}
noncomputable def aH (q:Bool) (o:Option α):Option α:=bif q then o else none
theorem aK {q:Bool} {x:α} {P:Prop} (h:aH q a=some x) (k:q=true->a=some x->P):P:=by
 cases q with
 | true=>exact k rfl h
 | false=>exact nomatch h
noncomputable def kn (a:Option α) (f:α->Option β) (y:Option β):Option β:=match a with
 | some x=>f x
 | none=>y
theorem gP {f:α->Option β} {y:Option β} {z:β} {P:Prop} (h:kn a f y=some z) (k1:∀ x,a=some x->f x=some z->P) (k2:a=none->y=some z->P):P:=by
 cases a with
 | none=>exact k2 rfl h
 | some x=>exact k1 x rfl h
theorem ae1 {q:Bool} {o o':Option α} {x:α} {P:Prop} (h:(bif q then o else o')=some x) (k1:q=true->o=some x->P) (k2:o'=some x->P):P:=by
 cases q with
 | true=>exact k1 rfl h
 | false=>exact k2 h
theorem vI {q:Prop} [Decidable q] {x:α} {P:Prop} (h:(if q then a else none)=some x) (k:q->a=some x->P):P:=by
 by_cases hq:q
 ·exact k hq ((if_pos hq).symm.trans h)
 ·exact nomatch (if_neg hq).symm.trans h
theorem aS {f:α->Option β} {z:β} {P:Prop} (h:a.bind f=some z) (k:∀ x,a=some x->f x=some z->P):P:=by
 cases a with
 | none=>exact nomatch h
 | some x=>exact k x rfl h
theorem c7 {f:α->β} {M:β->Prop} {z:β} (h:a.map f=some z) (k:∀ x,a=some x->M (f x)):M z:=by
 cases a with
 | none=>exact nomatch h
 | some x=>obtain rfl:=oi h; exact k x rfl
noncomputable def o2 (a:Option α) (b:Option β) (f:α->β->ζ):Option ζ:=a.bind fun x=>b.map (f x)
theorem ez {f:α->β->ζ} {M:ζ->Prop} {z:ζ} (h:o2 a b f=some z) (k:∀ x y,a=some x->b=some y->M (f x y)):M z:=
 aS h fun x h1 h=>c7 h fun y h2=>k x y h1 h2
noncomputable def o3 (a:Option α) (b:Option β) (c:Option γ) (f:α->β->γ->ζ):Option ζ:=a.bind fun x=>o2 b c (f x)
theorem lK {f:α->β->γ->ζ} {M:ζ->Prop} {z:ζ} (h:o3 a b c f=some z) (k:∀ x y w,a=some x->b=some y->c=some w->M (f x y w)):M z:=
 aS h fun x h1 h=>ez h fun y w h2 h3=>k x y w h1 h2 h3
noncomputable def o4 (a:Option α) (b:Option β) (c:Option γ) (d:Option δ) (f:α->β->γ->δ->ζ):Option ζ:=a.bind fun x=>o3 b c d (f x)
theorem akk {f:α->β->γ->δ->ζ} {M:ζ->Prop} {z:ζ} (h:o4 a b c d f=some z) (k:∀ x y w u,a=some x->b=some y->c=some w->d=some u->M (f x y w u)):M z:=
 aS h fun x h1 h=>lK h fun y w u h2 h3 h4=>k x y w u h1 h2 h3 h4
noncomputable def one:List α->Option α
 | []=>none
 | x::r=>aH r.isEmpty (some x)
theorem vy {l:List α} {x:α} (h:one l=some x):l=[x]:=by
 cases l with
 | nil=>exact nomatch h
 | cons y r =>
  refine aK h fun h1 h2=>?_
  rw [List.isEmpty_iff.mp h1,oi h2]
end
noncomputable def br (N names:List (Str × NameKind)):List (Str × NameKind):=names.map fun (n,k)=>if (k == .free && N.lookup n == some .cell) then (n,.cell) else (n,k)
noncomputable def et (N N':List (Str × NameKind)):List (Option Nat):=N'.map fun (n,k)=>if k == .cell then N.findIdx? (·.1 == n) else none
structure bf where
 fns:List Str
 cst:List (Str × PV)
 bins:List Str
 muts:List (Nat × Nat)
 excs:List (Str × Nat × List Nat)
 brd:Option (Str × Nat)
 meths:List Str
 repl:Bool
 dstr:List (Nat × Nat)
noncomputable def sC:Const->Option PV
 | .none=>some .none
 | .bool b=>some (.bool b)
 | .int i=>some (.int i)
 | .str s=>aH (PyData.strOk s) (some (.str s))
 | _=>none
noncomputable def ais:Operator->Option Op
 | .Add=>some .add | .Sub=>some .sub | .Mult=>some .mul | .Mod=>some .mod | .FloorDiv=>some .fdiv | .Pow=>some .pow
 | _=>none
noncomputable def wK:CmpOp->Option Cm
 | .Eq=>some .eq | .NotEq=>some .ne | .Lt=>some .lt | .LtE=>some .le | .Gt=>some .gt | .GtE=>some .ge
 | .Is=>some .is | .IsNot=>some .isNot | .In=>some .isin | .NotIn=>some .notin
theorem fP {α:Type} {x:Str} {v:α}:∀ {l:List (Str × α)},l.lookup x=some v->(x,v) ∈ l
 | [],h=>by cases h
 | (y,u)::l,h=>by
  rw [List.lookup_cons] at h
  cases hb:x == y with
  | true=>rw [hb] at h; cases h; rw [eq_of_beq hb]; exact .head _
  | false=>rw [hb] at h; exact .tail _ (fP h)
noncomputable def adm (fz:Bool):List (Str × B1):=[("len",.len),("list",.list fz),("tuple",.tuple),("all",.all),("int",.int),("str",.str)
 ,("sum",.sum)
 ,("min",.min),("max",.max)
 ,("sorted",.sorted)
 ,("any",.any)
 ]
noncomputable def wA (fz:Bool) (x:Str):Option B1:=(adm fz).lookup x
noncomputable def agY:List (Str × Me):=[("append",.append),("extend",.extend)
 ,("pop",.pop)
 ,("get",.get)
 ]
noncomputable def zW (x:Str):Option Me:=agY.lookup x
noncomputable def ag0:List (Str × M0):=
 ("clear",.clear) ::
 []
noncomputable def zX (x:Str):Option M0:=ag0.lookup x
noncomputable def agO:List (Str × Ty):=[("int",.int),("str",.str),("bool",.bool),("tuple",.tuple)
 ,("list",.list)
 ]
noncomputable def zh (x:Str):Option Ty:=agO.lookup x
noncomputable def ahd:List (Str × Value):=[("len",.builtin "len"),("list",.type "list"),("tuple",.type "tuple"),("min",.builtin "min"),("all",.builtin "all"),("int",.type "int"),("str",.type "str"),("bool",.type "bool"),("ValueError",.type "ValueError"),("isinstance",.builtin "isinstance"),("range",.type "range"),("set",.type "set")
 ,("sum",.builtin "sum")
 ,("max",.builtin "max")
 ,("sorted",.builtin "sorted")
 ,("any",.builtin "any")
 ,("dict",.type "dict")
 ,("enumerate",.type "enumerate")
 ,("zip",.type "zip")
 ]
noncomputable def jY (x:Str):Option Value:=ahd.lookup x
noncomputable def dv:List Str:=["plan", "turns", "givers", "outer", "here", "gone", "order"]
noncomputable def pR:List (Str × NameKind)->Bool
 | []=>true
 | (x,k)::r=>!(r.any fun p=>p.1 == x) && !(x == ("__debug__" : Str)) && (k == .local || k == .cell || k == .globalImplicit) && pR r
noncomputable def agd:X->Bool
 | .range1 _=>true
 | .enum _=>true
 | .zip _=>true
 | _=>false
noncomputable def fB (f:Expr->Option X):List Expr->Option X
 | []=>some .nil
 | e::r=>o2 (f e) (fB f r) .cons
noncomputable def ajD (T:bf) (x:Str) (i:Nat):NameKind->Option X
 | .local=>some (.v i)
 | .cell=>some (.v i)
 | .globalImplicit=>(T.cst.lookup x).map .k
 | _=>none
noncomputable def zo (T:bf) (N:List (Str × NameKind)) (x:Str):Option X:=
 (N.findIdx? (·.1 == x)).bind fun i=>(N[i]?).bind fun q=>ajD T x i q.2
noncomputable def iq (N:List (Str × NameKind)) (x:Str):Bool:=N.lookup x == some .globalImplicit
noncomputable def isB (T:bf) (N:List (Str × NameKind)) (x:Str):Bool:=iq N x && T.bins.contains x
noncomputable def aiU:Expr->Option Str
 | .Constant c _ _=>match c with
  | .str x=>aH (PyData.strOk x) (some x)
  | _=>none
 | _=>none
noncomputable def aiV:Expr->Option PV
 | .Constant c _ _=>sC c
 | _=>none
noncomputable def qd:List (Option Expr)->Option (List Str)
 | []=>some []
 | k::r=>o2 (k.bind aiU) (qd r) fun s l=>s::l
noncomputable def acV:List Expr->Option (List PV)
 | []=>some []
 | e::r=>o2 (aiV e) (acV r) fun s l=>s::l
noncomputable def uK (n:Nat) (l:List Expr):Option (List PV):=aH (l.length == n) (acV l)
noncomputable def lN:Expr->Option (Str × Pos)
 | .Name x p=>some (x,p)
 | _=>none
structure adv where
 g:Str
 p:Pos
 a:Expr
 pos:Pos
noncomputable def y9:Expr->Option adv
 | .Call f as ks pos=>aH ks.isEmpty (o2 (lN f) (one as) fun n a=>⟨n.1,n.2,a,pos⟩)
 | _=>none
structure adu where
 g:Str
 p:Pos
 as:List Expr
 pos:Pos
noncomputable def callN?:Expr->Option adu
 | .Call f as ks pos=>aH ks.isEmpty ((lN f).map fun n=>⟨n.1,n.2,as,pos⟩)
 | _=>none
noncomputable def aft (T:bf) (N:List (Str × NameKind)) (f:Expr->Option X) (g:Str) (k:Nat) (e:Expr):Option X:=
 (callN? e).bind fun q=>aH (q.g == g && isB T N q.g && q.as.length == k) (fB f q.as)
noncomputable def aer (T:bf) (N:List (Str × NameKind)) (g:Str) (a:Expr):Option Expr:=
 (y9 a).bind fun q=>aH (g == "len" && q.g == "set" && isB T N q.g) (some q.a)
noncomputable def wJ (T:bf) (N:List (Str × NameKind)) (f:Expr->Option X) (e:Expr):Option X:=
 (y9 e).bind fun q=>aH (q.g == "range" && isB T N q.g) ((f q.a).map .range1)
noncomputable def afr (T:bf) (N:List (Str × NameKind)) (f:Expr->Option X) (e:Expr):Option X:=
 wJ T N f e
noncomputable def acl (T:bf) (N:List (Str × NameKind)) (f:Expr->Option X) (pos:Pos) (g:Str) (a:Expr):Option X:=
 kn (aer T N g a) (fun x=>(f x).map (.b1 .lenset)) <|
 (o2 (wA (!(T.muts.contains (pos.line,pos.col))) g) (f a) .b1)
noncomputable def aci (T:bf) (N:List (Str × NameKind)) (f:Expr->Option X) (g:Str) (a b:Expr):Option X:=
 bif g == "isinstance" then
  (lN b).bind fun q =>
  (aH (isB T N q.1) (o2 (f a) (zh q.1) .isinst))
 else aH (g == "min") (o2 (f a) (f b) .min2)
noncomputable def aiu (T:bf) (N:List (Str × NameKind)) (f:Expr->Option X) (pos:Pos) (g:Str):List Expr->Option X
 | []=>none
 | a::r=>match r with
  | []=>acl T N f pos g a
  | b::r=>aH r.isEmpty (aci T N f g a b)
noncomputable def acm (T:bf) (f:Expr->Option X) (g:Str) (args:List Expr):Option X:=
 T.brd.bind fun q=>aH (g == q.1 && !args.isEmpty) ((T.meths.findIdx? (· == ("__init__" : Str))).bind fun j=>(fB f args).map (.new q.2 (T.fns.length + j)))
noncomputable def zu (T:bf) (N:List (Str × NameKind)) (f:Expr->Option X) (pos:Pos) (g:Str) (args:List Expr):Option X:=
 aH (iq N g) (kn (T.fns.findIdx? (· == g)) (fun i=>aH (!args.isEmpty) ((fB f args).map (.call i))) (kn (acm T f g args) some (aH (T.bins.contains g) (aiu T N f pos g args))))
noncomputable def agQ (f:Expr->Option X) (e:Expr):Option X:=(f e).bind fun x=>aH (!agd x) (some x)
noncomputable def tR (T:bf) (N:List (Str × NameKind)) (f:Expr->Option X) (e:Expr):Option X:=
 kn (afr T N f e) some (agQ f e)
noncomputable def adB (T:bf) (N:List (Str × NameKind)) (f:Expr->Option X) (e:Expr):Option X:=
 (y9 e).bind fun q=>aH (q.g == "enumerate" && isB T N q.g) ((f q.a).map .enum)
noncomputable def afs (f:Expr->Option X):List Expr->Option X
 | []=>some (.k (.bool true))
 | c::r=>aH r.isEmpty (f c)
noncomputable def u7 (T:bf) (N:List (Str × NameKind)) (f:List (Str × NameKind)->Expr->Option X) (elt:Expr) (x:Str) (iter:Expr) (ifs:List Expr) (scope:Scope) (pos:Pos):Option X:=
 aH (scope.kind == .function && pR (br N scope.names) && scope.names.all (fun p=>p.2 != .cell))
  (((br N scope.names).findIdx? (·.1 == x)).bind fun t=>aH ((br N scope.names)[t]? == some (x,NameKind.local))
   (o3 (tR T N (f N) iter) (f (br N scope.names) elt) (afs (f (br N scope.names)) ifs) fun it elt c=>.comp (!(T.muts.contains (pos.line,pos.col))) t (et N (br N scope.names)) elt c it))
noncomputable def u5 (f:Expr->Option X):Option Expr->Option X
 | none=>some (.k .none)
 | some e=>f e
noncomputable def fO:Expr->Bool
 | .Call _ a _ _=>!a.isEmpty
 | _=>true
noncomputable def acp (f:Expr->Option X) (l:Expr) (os:List CmpOp) (rs:List Expr):Option X:=
 match os with
 | []=>none
 | o::os=>match rs with
  | []=>none
  | r::rs=>match os with
   | []=>aH rs.isEmpty (o3 (wK o) (f l) (f r) fun o a b=>.cmp a o b)
   | o2::os=>match rs with
    | []=>none
    | r2::rs=>aH (os.isEmpty && rs.isEmpty) ((wK o).bind fun o=>o4 (f l) (f r) (wK o2) (f r2) fun a b o2 c=>.cmp2 a o b o2 c)
noncomputable def aeB:Expr->Option (List (Option Expr) × List Expr × Pos)
 | .Dict ks vs p=>some (ks,vs,p)
 | _=>none
noncomputable def aco (f:Expr->Option X) (ks:List (Option Expr)) (vs:List Expr) (m:Str) (args:List Expr):Option X:=
 match args with
 | []=>none
 | k::r=>(one r).bind fun d=>aH (m == "get") ((qd ks).bind fun l=>aH (decide l.Nodup && decide (l.length <= 15) && !l.isEmpty) (o3 (uK ks.length vs) (f k) (f d) fun vs k d=>.fdget l vs k d))
noncomputable def akh (f:Expr->Option X) (o:Expr) (m:Str):Option X:=o2 (zX m) (f o) .me0
noncomputable def akg (f:Expr->Option X) (o:Expr) (m:Str) (a:Expr):Option X:=o3 (zW m) (f o) (f a) fun m o a=>.me m o (.cons a .nil)
noncomputable def akf (T:bf) (f:Expr->Option X) (o:Expr) (m:Str):List Expr->Option X
 | []=>akh f o m
 | a::r=>match r with
  | []=>akg f o m a
  | _::_=>none
noncomputable def ahn (T:bf) (f:Expr->Option X) (o:Expr) (m:Str) (args:List Expr):Option X:=
 T.brd.bind fun q=>(T.meths.findIdx? (· == m)).bind fun j=>aH (decide (args.length < 20)) (o2 (f o) (fB f args) fun o xs=>.meth q.2 (T.fns.length + j) m o xs)
noncomputable def ait (T:bf) (f:Expr->Option X) (o:Expr) (n:Str):Option X:=
 T.brd.bind fun q=>aH (fO o && dv.contains n) ((f o).map fun o=>.attr q.2 o n)
noncomputable def zq (T:bf) (f:Expr->Option X) (o:Expr) (m:Str) (args:List Expr):Option X:=
 kn (aeB o) (fun q=>aco f q.1 q.2.1 m args) (aH (fO o)
  (bif T.meths.contains m then ahn T f o m args else akf T f o m args))
noncomputable def aho (T:bf) (N:List (Str × NameKind)) (f:Expr->Option X) (fn:Expr) (args:List Expr) (pos:Pos):Option X:=
 match fn with
 | .Name g _=>zu T N f pos g args
 | .Attribute o m apos=>aH (apos.endLine == pos.line) (zq T f o m args)
 | _=>none
noncomputable def ake (f:Expr->Option X) (o:Expr) (lo hi:Option Expr):Option Expr->Option X
 | none=>o3 (f o) (u5 f lo) (u5 f hi) .slice
 | some _=>none
noncomputable def ab1:Expr->Option (Option Expr × Option Expr × Option Expr × Pos)
 | .Slice lo hi st p=>some (lo,hi,st,p)
 | _=>none
noncomputable def zl (f:Expr->Option X) (o i:Expr):Option X:=
 kn (ab1 i) (fun q=>ake f o q.1 q.2.1 q.2.2.1) (o2 (f o) (f i) .sub)
noncomputable def oE (T:bf) (N:List (Str × NameKind)) (f:List (Str × NameKind)->Expr->Option X) (elt:Expr) (gens:List Comprehension) (scope:Scope) (pos:Pos):Option X:=
 (one gens).bind fun g=>aH (g.is_async == 0) ((lN g.target).bind fun q=>u7 T N f elt q.1 g.iter g.ifs scope pos)
noncomputable def ady (T:bf) (f:List (Str × NameKind)->Expr->Option X) (N:List (Str × NameKind)) (e:Expr):Option X:=
  match e with
  | .Constant c _ _=>(sC c).map .k
  | .Name x _=>zo T N x
  | .BoolOp o es _=>match o with
   | .And=>(fB (f N) es).map .and
   | .Or=>(fB (f N) es).map .or
  | .UnaryOp o a _=>match o with
   | .Not=>(f N a).map .not
   | .USub=>(f N a).map .neg
   | _=>none
  | .BinOp l o r _=>o3 (ais o) (f N l) (f N r) .bin
  | .Compare l os rs _=>acp (f N) l os rs
  | .List es pos=>(fB (f N) es).map (.lst (!(T.muts.contains (pos.line,pos.col))))
  | .Tuple es _ _=>(fB (f N) es).map .tup
  | .Call fn args kws pos=>aH kws.isEmpty (aho T N (f N) fn args pos)
  | .Attribute o n _=>ait T (f N) o n
  | .Subscript o i _=>zl (f N) o i
  | .Dict ks vs pos=>aH (ks.isEmpty && vs.isEmpty) (some (.dnew (!(T.dstr.contains (pos.line,pos.col)))))
  | .ListComp elt gens scope pos=>oE T N f elt gens scope pos
  | _=>none
noncomputable def trE (T:bf):Nat->List (Str × NameKind)->Expr->Option X
 | 0,_,_=>none
 | n + 1,N,e=>ady T (trE T n) N e
noncomputable def iN:Expr->Bool
 | .ListComp .. | .SetComp .. | .DictComp ..=>true
 | _=>false
noncomputable def acE:NameKind->Bool
 | .local=>true
 | .cell=>true
 | _=>false
noncomputable def j2 (N:List (Str × NameKind)) (x:Str):Option Nat:=
 (N.findIdx? (·.1 == x)).bind fun i=>(N[i]?).bind fun q=>aH (acE q.2) (some i)
noncomputable def pN (g:Stmt->Option S):List Stmt->Option S
 | []=>some .nil
 | st::r=>o2 (g st) (pN g r) .cons
noncomputable def afb:Expr->Option (Expr × List Comprehension × Scope × Pos)
 | .ListComp elt gens scope pos=>some (elt,gens,scope,pos)
 | _=>none
noncomputable def ig (N:List (Str × NameKind)):List Expr->Option (List Nat)
 | []=>some []
 | e::r=>o2 ((lN e).bind fun q=>j2 N q.1) (ig N r) fun i l=>i::l
noncomputable def zJ:Expr->Bool
 | .Name _ _=>true
 | .Call _ _ _ _=>true
 | .Subscript _ _ _=>true
 | _=>false
noncomputable def agR (T:bf) (N:List (Str × NameKind)) (agk:List (Str × NameKind)->Expr->Option X) (f:Expr->Option X) (t v:Expr):Option S:=
 match t with
 | .Name z _=>kn (afb v) (fun q=>o2 (j2 N z) (oE T N agk q.1 q.2.1 q.2.2.1 q.2.2.2) .asg) (aH (!iN v) (o2 (j2 N z) (f v) .asg))
 | .Subscript o i _=>aH (!iN v) (o3 (f o) (f i) (f v) .asgSub)
 | .Attribute o n _=>T.brd.bind fun q=>aH (!iN v && dv.contains n) (o2 (f o) (f v) fun o v=>.asgAttr q.2 o n v)
 | .Tuple ts _ _=>aH (zJ v) (o2 (ig N ts) (f v) .asgT)
 | _=>none
noncomputable def aj5:Expr->Option (List Expr)
 | .Tuple ts _ _=>some ts
 | _=>none
noncomputable def ajw (T:bf) (N:List (Str × NameKind)) (f:Expr->Option X) (e:Expr):Option X:=(aft T N f "zip" 2 e).map .zip
noncomputable def yW (T:bf) (N:List (Str × NameKind)) (f:Expr->Option X) (e:Expr):Option X:=
 kn (adB T N f e) some <|
 kn (ajw T N f e) some <|
 (tR T N f e)
noncomputable def abq (T:bf) (N:List (Str × NameKind)) (agk:List (Str × NameKind)->Expr->Option X) (f:Expr->Option X) (g:Stmt->Option S) (st:Stmt):Option S:=
 match st with
 | .Assign ts v _=>(one ts).bind fun t=>agR T N agk f t v
 | .Expr e _=>aH (!iN e) ((f e).map .expr)
 | .Return v _=>match v with
  | some e=>(f e).map .ret
  | none=>some .ret0
 | .If t b o _=>o3 (f t) (pN g b) (pN g o) .ife
 | .For t it b o _=>aH o.isEmpty (kn (lN t) (fun q=>o3 (j2 N q.1) (tR T N f it) (pN g b) .for1) ((aj5 t).bind fun ts=>o3 (ig N ts) (yW T N f it) (pN g b) .forT))
 | .Break _=>some .brk
 | .Raise _ _ _=>some .stk
 | _=>none
noncomputable def trS (T:bf) (N:List (Str × NameKind)) (f:List (Str × NameKind)->Expr->Option X):Nat->Stmt->Option S
 | 0,_=>none
 | n + 1,st=>abq T N f (f N) (trS T N f n) st
end Mine
namespace Mine
open PySem
theorem rj {M:Model} {Γ:PySem.Ctx} {p:Pos} {t:Sem Fin} {fs:List Frame} {s:Shared} {e:End} {s':Shared} (h:PySem.Runs M Γ p t fs s e s'):s.toks <= s'.toks:=by
 induction h <;> first | exact Nat.le_refl _ | assumption | (try simp only [Shared.setGen] at *) <;> first | assumption | omega
theorem acd {M:Model} {Γ:PySem.Ctx} {p:Pos} {g:Nat} {r:Resume} {s:Shared} {res:GenResult} {s':Shared} (h:PySem.Wakes M Γ p g r s res s'):s.toks <= s'.toks:=by
 unfold PySem.Wakes at h
 split at h
 ·exact h.elim
 ·split at h
  ·obtain ⟨e,s₁,h1,_,_,rfl⟩:=h
   have:=rj h1; exact this
  ·rw [h.2]; exact Nat.le_refl _
  ·rw [h.2]; exact Nat.le_refl _
 ·obtain ⟨e,s₁,h1,_,_,rfl⟩:=h
  have:=rj h1; exact this
 ·rw [h.2]; exact Nat.le_refl _
 ·rw [h.2]; exact Nat.le_refl _
theorem sB {γ:Type} {M:Model} {Γ:PySem.Ctx} {n:Nat} (t:Sem γ):∀ {Q:γ->Pos->Shared->Prop} {E:Value->Pos->Shared->Prop} {p:Pos} {s:Shared},n <= s.toks->Sem.wp M Γ t Q E p s ->
  Sem.wp M Γ t (fun a p s=>Q a p s/\n <= s.toks) (fun e p s=>E e p s/\n <= s.toks) p s:=by
 induction t with
 | pure a=>intro Q E p s hn h; exact ⟨h,hn⟩
 | raise e=>intro Q E p s hn h; exact ⟨h,hn⟩
 | rule tag k ih=>intro Q E p s hn h; exact ih () hn h
 | «at» p' k ih=>intro Q E p s hn h; exact ih () hn h
 | load a part k ih=>intro Q E p s hn h; obtain ⟨o,h1,h2⟩:=h; exact ⟨o,h1,ih o hn h2⟩
 | update a part f k ih=>intro Q E p s hn h; exact ⟨h.1,ih () (s:={ s with heap:=s.heap.update a f }) hn h.2⟩
 | alloc o k ih=>intro Q E p s hn h; exact ih _ (s:={ s with heap:=s.heap.push o }) hn h
 | loadIfAlive a k ih=>intro Q E p s hn h; exact ih _ hn h
 | point l k ih=>intro Q E p s hn h; exact ih () hn h
 | fresh k ih=>intro Q E p s hn h; exact ih _ (s:={ s with toks:=s.toks + 1 }) (Nat.le_succ_of_le hn) h
 | ask k ih=>intro Q E p s hn h; exact ih _ hn h
 | choose src m k ih=>intro Q E p s hn h; exact ⟨h.1,ih _ (s:={ s with drawn:=s.drawn.bump src }) hn h.2⟩
 | os q l k ih=>intro Q E p s hn h; exact ih _ (s:={ s with os:=(Os.step s.os q).1 }) hn h
 | call c hd g l k ih =>
  intro Q E p s hn h
  obtain ⟨r,s',h1,h2⟩:=h
  exact ⟨r,s',h1,ih r (aE hn (rj h1)) h2⟩
 | handled own k ih=>intro Q E p s hn h; exact ih _ hn h
 | newGen c k ih=>intro Q E p s hn h; exact ih _ (s:={ s with gens:=s.gens.push (.fresh c) }) hn h
 | genState g k ih=>intro Q E p s hn h; obtain ⟨st,h1,h2⟩:=h; exact ⟨st,h1,ih _ hn h2⟩
 | resume g r l k ih=>intro Q E p s hn h; obtain ⟨res,s',h1,h2⟩:=h; exact ⟨res,s',h1,ih res (aE hn (acd h1)) h2⟩
 | stack k ih=>intro Q E p s hn h; exact ih _ hn h
 | thread k ih=>intro Q E p s hn h; exact ih _ hn h
 | _=>intro Q E p s hn h; exact h.elim
theorem dy {γ:Type} {M:Model} {A:Around} {t:Sem γ} {Q:γ->Shared->Prop} {E:Value->Shared->Prop} {s:Shared} (h:wpAny M A t Q E s) :
  wpAny M A t (fun v s'=>Q v s'/\s.toks <= s'.toks) (fun e s'=>E e s'/\s.toks <= s'.toks) s:=
 fun Γ p tz=>sB t (Nat.le_refl _) (h Γ p tz)
end Mine
namespace Mine
open PySem
noncomputable def ajM:Str ⊕ Int->Value->Bool
 | .inl x,v=>Value.isStrOf x v
 | .inr i,v=>Value.isInt i v
noncomputable def ah4 (w:World):Str ⊕ Int->Int
 | .inl x=>hashStr w x
 | .inr i=>hashInt i
noncomputable def lC (prog:Program) (w:World):KeyKind prog w (Str ⊕ Int) where
 is:=ajM
 hash:=ah4 w
 inj:=fun v a b ha hb=>by
  cases a with
  | inl x =>
   obtain ⟨t,rfl⟩:=Value.isStrOf_shape (show Value.isStrOf x v=true from ha)
   cases b with
   | inl y=>exact congrArg Sum.inl (Value.isStrOf_inj (.str x t) x y ha hb)
   | inr j=>cases hb
  | inr i =>
   obtain ⟨t,rfl⟩:=Value.isInt_shape (show Value.isInt i v=true from ha)
   cases b with
   | inl y=>cases hb
   | inr j=>exact congrArg Sum.inr (Value.isInt_inj (.int i t) i j ha hb)
 byValue:=fun k v h=>by
  cases k with
  | inl x=>obtain ⟨t,rfl⟩:=Value.isStrOf_shape (show Value.isStrOf x v=true from h); rfl
  | inr i=>obtain ⟨t,rfl⟩:=Value.isInt_shape (show Value.isInt i v=true from h); rfl
 pyHash:=fun {A E s k v Q} hv h=>by
  cases k with
  | inl x=>obtain ⟨t,rfl⟩:=Value.isStrOf_shape (show Value.isStrOf x v=true from hv); exact wpAny_pyHash_str h
  | inr i=>obtain ⟨t,rfl⟩:=Value.isInt_shape (show Value.isInt i v=true from hv); exact wpAny_pyHash_int h
 eqBool:=fun {A E s a b u v Q} hu hv h=>by
  cases a with
  | inl x =>
   obtain ⟨t,rfl⟩:=Value.isStrOf_shape (show Value.isStrOf x u=true from hu)
   cases b with
   | inl y =>
    obtain ⟨t',rfl⟩:=Value.isStrOf_shape (show Value.isStrOf y v=true from hv)
    refine wpAny_eqBool_str ?_
    have e:decide (Sum.inl (β:=Int) x=Sum.inl y)=decide (x=y):=by simp
    rw [<- e]; exact h
   | inr j =>
    obtain ⟨t',rfl⟩:=Value.isInt_shape (show Value.isInt j v=true from hv)
    exact SeqAt.EqAt.str_int x t j t' prog w E Q (by simpa using h)
  | inr i =>
   obtain ⟨t,rfl⟩:=Value.isInt_shape (show Value.isInt i u=true from hu)
   cases b with
   | inl y =>
    obtain ⟨t',rfl⟩:=Value.isStrOf_shape (show Value.isStrOf y v=true from hv)
    exact SeqAt.EqAt.int_str i t y t' prog w E Q (by simpa using h)
   | inr j =>
    obtain ⟨t',rfl⟩:=Value.isInt_shape (show Value.isInt j v=true from hv)
    refine wpAny_eqBool_int ?_
    have e:decide (Sum.inr (α:=Str) i=Sum.inr j)=(i == j):=by
     by_cases q:i=j <;> simp [q]
    rw [<- e]; exact h
 «strs»:=fun k x t v h=>by
  cases k with
  | inl y=>exact (strKind prog w).«strs» y x t v h
  | inr i=>cases h
end Mine
namespace Mine
open PySem
structure Bs where
 h:Heap
 fr:List Addr
 prog:Program
 w:World
noncomputable abbrev Bs.get? (b:Bs) (a:Addr):Option Obj:=b.h.get? a
structure Kt where
 hb:Bs
 mg:Str->Option Value
 mb:Str->Option Value
 pos:Bool
 ph:Bool
noncomputable abbrev Kt.prog (K:Kt):Program:=K.hb.prog
noncomputable abbrev Kt.w (K:Kt):World:=K.hb.w
noncomputable def Kt.Tk (K:Kt) (s:Shared):Prop:=K.pos=true->0 < s.toks
theorem Kt.Tk.up {K:Kt} {s s':Shared} (tk:K.Tk s) (tl:s.toks <= s'.toks):K.Tk s':=fun q=>Nat.lt_of_lt_of_le (tk q) tl
theorem fH {γ:Type} {K:Kt} {M:Model} {A:Around} {t:Sem γ} {Q:γ->Shared->Prop} {E:Value->Shared->Prop} {s:Shared} (tk:K.Tk s)
  (h:wpAny M A t (fun v s'=>K.Tk s'->Q v s') (fun e s'=>K.Tk s'->E e s') s):wpAny M A t Q E s:=
 wpAny_mono (dy h) (fun zz zz q=>q.1 (tk.up q.2)) fun zz zz q=>q.1 (tk.up q.2)
structure Kt.Ok (K:Kt):Prop where
 g:K.hb.h.Ns mainGlobals K.mg
 b:K.hb.h.Ns builtinsNs K.mb
 nolimit:K.hb.h.NoLimit
 mods:∃ o,K.hb.get? sysModules=some o
noncomputable def OR (B:Bs) (h:Heap) (α:AL):MO->Addr->Prop
 | .lst xs,a=>∃ ak n,h.get? a=some { cls:=.type "list",data:=.seq (List.toArray ak) n }/\aT h α xs ak
 | .ds es,a=>∃ kvs,h.DictOf (strKind B.prog B.w) a kvs/\kvs.map (·.1)=es.map (·.1)/\aT h α (es.map (·.2)) (kvs.map (·.2))
 | .dp es,a=>∃ xs,h.DictOfH (tupleKind (lC B.prog B.w)) a xs/\xs.map (·.1)=es.map (fun e=>[.inl e.1.1,.inr e.1.2])/\(∀ x ∈ xs,x.2.1 ∉ α.all)/\aT h α (es.map (·.2)) (xs.map (·.2.2))
 | .ns fs,a=>∃ m,h.Ns1 a m/\(∀ n v,ai n fs=some v->∃ u,m n=some u/\VR h α v u)/\(∀ n,ai n fs=none->m n=none)
 | .tp,a=>∃ x y,h.get? a=some { cls:=.type "tuple",data:=.seq #[x,y] }
 | .no,_=>False
theorem OR.live {B:Bs} {h:Heap} {α:AL} {m:MO} {a:Addr} (o:OR B h α m a):∃ o,h.get? a=some o:=by
 cases m with
 | lst xs=>obtain ⟨ak,n,e,_⟩:=o; exact ⟨_,e⟩
 | ds es=>obtain ⟨kvs,⟨o,_,_,e,_⟩,_⟩:=o; exact ⟨o,e⟩
 | dp es=>obtain ⟨kvs,⟨o,_,_,e,_⟩,_⟩:=o; exact ⟨o,e⟩
 | ns fs=>obtain ⟨m,⟨o,_,_,e,_⟩,_⟩:=o; exact ⟨o,e⟩
 | tp=>obtain ⟨x,y,e⟩:=o; exact ⟨_,e⟩
 | no=>exact o.elim
theorem OR.map {B:Bs} {h h':Heap} {α α':AL} {m:MO} {a:Addr} (v:∀ p u,VR h α p u->VR h' α' p u) (k:h'.get? a=h.get? a)
  (kk:∀ b o,b ∉ α.all->h.get? b=some o->jm o->h'.get? b=some o/\b ∉ α'.all) (o:OR B h α m a):OR B h' α' m a:=by
 have vs:∀ {p:List PV} {u:List Value},aT h α p u->aT h' α' p u:=fun r=>⟨r.1,fun i x y e1 e2=>v _ _ (r.2 i x y e1 e2)⟩
 cases m with
 | lst xs=>obtain ⟨ak,n,e,w⟩:=o; exact ⟨ak,n,k.trans e,vs w⟩
 | ds es =>
  obtain ⟨kvs,⟨o,es',ep,e,r⟩,q,w⟩:=o
  exact ⟨kvs,⟨o,es',ep,k.trans e,r⟩,q,vs w⟩
 | dp es =>
  obtain ⟨xs,⟨o,es',ep,e,r1,r2,r3,r4,r5⟩,q,hn,w⟩:=o
  have key:∀ x ∈ xs,IsTupleKey (lC B.prog B.w) h' x.1 x.2.1/\x.2.1 ∉ α'.all:=fun x hx=>by
   obtain ⟨o,ak,n,e1,e2,e3,e4⟩:=r4 x hx
   obtain ⟨z1,z2⟩:=kk _ o (hn x hx) e1 (.inl ⟨_,_,e3⟩)
   exact ⟨⟨o,ak,n,z1,e2,e3,e4⟩,z2⟩
  exact ⟨xs,⟨o,es',ep,k.trans e,r1,r2,r3,fun x hx=>(key x hx).1,r5⟩,q,fun x hx=>(key x hx).2,vs w⟩
 | ns fs =>
  obtain ⟨m,⟨o,es',ep,e,r⟩,q1,q2⟩:=o
  exact ⟨m,⟨o,es',ep,k.trans e,r⟩,fun n v' hn=>let ⟨u,z1,z2⟩:=q1 n v' hn; ⟨u,z1,v _ _ z2⟩,q2⟩
 | tp=>obtain ⟨x,y,e⟩:=o; exact ⟨x,y,k.trans e⟩
 | no=>exact o.elim
theorem OR.ext {F α h α' h'} {B:Bs} {m:MO} {a:Addr} (x:aL F α h α' h') (k:h'.get? a=h.get? a) (o:OR B h α m a):OR B h' α' m a:=
 o.map (fun zz zz r=>r.ext x) k fun b o hb e hs=>⟨x.seqs b o (AL.not_ix hb) e hs,x.notAll hb e⟩
structure R (hb:Bs) (h:Heap) (σ:ab) (α:AL):Prop where
 base:∀ b o,hb.get? b=some o->h.get? b=some o
 fresh:∀ a ∈ α.ix,hb.get? a=none
 nodup:α.ix.Nodup
 len:σ.length=α.ix.length
 hidden:∀ a ∈ α.hid,a ∉ α.ix/\∃ o,h.get? a=some o
 obj:∀ (i:Nat) (m:MO) (a:Addr),σ[i]?=some m->α.ix[i]?=some a->OR hb h α m a
 hfr:∀ a ∈ α.hid,hb.get? a=none
 fe:α.fr=hb.fr
 frs:∀ a ∈ hb.fr,hb.get? a=none/\∃ o,h.get? a=some o/\dW o
 frNot:∀ a ∈ hb.fr,a ∉ α.ix
structure Sm (s s':Shared):Prop where
 gens:s'.gens=s.gens
 os:s'.os=s.os
theorem Sm.refl (s:Shared):Sm s s:=⟨rfl,rfl⟩
theorem Sm.trans {a b c:Shared} (x:Sm a b) (y:Sm b c):Sm a c:=⟨y.gens.trans x.gens,y.os.trans x.os⟩
noncomputable def Up (fr:List Addr) (h h':Heap):Prop:=∀ b o,h.get? b=some o->h'.get? b=some o\/(b ∈ fr/\∃ sl,h'.get? b=some { o with slots:=sl })
theorem Up.keeps {fr:List Addr} {h h':Heap} (k:∀ b o,h.get? b=some o->h'.get? b=some o):Up fr h h':=fun b o e=>.inl (k b o e)
theorem Up.trans {fr:List Addr} {h h' h'':Heap} (x:Up fr h h') (y:Up fr h' h''):Up fr h h'':=fun b o e=>by
 rcases x b o e with x | ⟨m,sl,x⟩
 ·exact y b o x
 ·rcases y b _ x with y | ⟨_,sl',y⟩
  ·exact .inr ⟨m,sl,y⟩
  ·exact .inr ⟨m,sl',y⟩
inductive adt (cF h:Heap) (a:Addr) (noted:Bool) (x:Value):Prop
 | inl (hn:noted=false) (e:x=.none):adt cF h a noted x
 | inr (T:Addr) (oT:Obj) (ts:Array Value) (e:x=.ref T) (h0:cF.get? T=none) (hn:T ≠ a) (ht:h.get? T=some oT) (hc:oT.cls=.type "traceback") (hd:oT.data=.fields ts) (h3:3 < ts.size):adt cF h a noted x
inductive za (ph:Bool) (cF h:Heap) (c:Nat) (a:Addr) (noted:Bool):Prop
 | mk (new:cF.get? a=none) (oe:Obj) (vs:Array Value) (x:Value) (he:h.get? a=some oe) (hc:oe.cls=.ref c) (hd:oe.data=.fields vs) (h1:vs[1]?=some x) (tb:adt cF h a noted x) (cx:∃ y,vs[2]?=some y/\(ph=false->y=.none)):za ph cF h c a noted
theorem za.new {ph:Bool} {cF h:Heap} {c:Nat} {a:Addr} {noted:Bool} (x:za ph cF h c a noted):cF.get? a=none:=by cases x; assumption
inductive FX (K:Kt) (s:Shared) (α:AL) (i:Nat) (σ:ab) (noted:Bool) (e:Value) (s':Shared):Prop where
 | mk (a:Addr) (cF:Heap) (α':AL) (he:e=.ref a) (x:aL [] α s.heap α' cF) (r:R K.hb cF σ α') (u:Up K.hb.fr cF s'.heap) (ea:za K.ph cF s'.heap i a noted) (m:Sm s s'):FX K s α i σ noted e s'
section
variable (K:Kt) {β γ:Type} (Rel:Heap->AL->β->γ->Prop)
inductive bm (c:ac β) (s:Shared) (α:AL) (y:γ) (s':Shared):Prop where
 | mk (b:β) (σ':ab) (α':AL) (h:c=.ok b σ') (x:aL [] α s.heap α' s'.heap) (r:R K.hb s'.heap σ' α') (v:Rel s'.heap α' b y) (m:Sm s s'):bm c s α y s'
inductive bi (_A:Around) (c:ac β) (s:Shared) (α:AL) (e:Value) (s':Shared):Prop where
 | mk (i:Nat) (σ':ab) (h:c=.exc i σ') (fx:∃ nt,FX K s α i σ' nt e s'):bi _A c s α e s'
noncomputable def Runs (A:Around) (t:Sem γ) (c:ac β) (s:Shared) (α:AL):Prop:=
 c ≠ .stuck->K.Tk s->wpAny (model K.prog K.w) A t (bm K Rel c s α) (bi K A c s α) s
end
noncomputable def eZ {β:Type} (_h:Heap) (_α:AL) (b y:β):Prop:=y=b
theorem FX.lift {K:Kt} {s s₁:Shared} {α α₁:AL} {i:Nat} {σ:ab} {nt:Bool} {e:Value} {s':Shared} (x:aL [] α s.heap α₁ s₁.heap) (m:Sm s s₁) (f:FX K s₁ α₁ i σ nt e s'):FX K s α i σ nt e s':=by
 obtain ⟨a,cF,α',e,x',r,u,ea,m'⟩:=f
 exact ⟨a,cF,α',e,x.trans x',r,u,ea,m.trans m'⟩
theorem bi.lift {K:Kt} {A:Around} {β:Type} {s:Shared} {α:AL} {c:ac β} {s₁:Shared} {α₁:AL} {y:Value} {s':Shared} (x:aL [] α s.heap α₁ s₁.heap) (m:Sm s s₁) (p:bi K A c s₁ α₁ y s'):bi K A c s α y s':=by
 obtain ⟨i,σ',e,nt,fx⟩:=p
 exact ⟨i,σ',e,nt,fx.lift x m⟩
section
variable {K:Kt} {A:Around} {β γ td γ':Type} {Rel:Heap->AL->β->γ->Prop} {Rel':Heap->AL->td->γ'->Prop} {s:Shared} {α:AL}
theorem Runs.bind {t:Sem γ} {k:γ->Sem γ'} {c:ac β} {f:β->ab->ac td} (H:Runs K Rel A t c s α)
  (N:∀ b σ' α' y s',c=.ok b σ'->aL [] α s.heap α' s'.heap->R K.hb s'.heap σ' α'->Rel s'.heap α' b y->Sm s s'->Runs K Rel' A (k y) (f b σ') s' α') :
  Runs K Rel' A (t >>= k) (c.bind f) s α:=by
 intro hc tk
 have h1:c ≠ .stuck:=by rintro rfl; exact hc rfl
 refine wpAny_bind (wpAny_mono (dy (H h1 tk)) (fun y s' hp=>?_) fun e s' hx=>?_)
 ·obtain ⟨⟨b,σ',α',rfl,x,r,v,m⟩,tl⟩:=hp
  refine wpAny_mono (N b σ' α' y s' rfl x r v m hc (Kt.Tk.up tk tl)) (fun y' s'' hp'=>?_) fun e s'' hx=>?_
  ·obtain ⟨b',gG,jx,e',x',r',v',m'⟩:=hp'
   exact ⟨b',gG,jx,e',x.trans x',r',v',m.trans m'⟩
  ·exact hx.lift x m
 ·obtain ⟨⟨i,σ',rfl,fx⟩,_⟩:=hx
  exact ⟨i,σ',rfl,fx⟩
theorem Runs.pure {y:γ} {b:β} {σ:ab} (r:R K.hb s.heap σ α) (v:Rel s.heap α b y):Runs K Rel A (pure y) (.ok b σ) s α:=
 fun zz zz=>wpAny_pure ⟨b,σ,α,rfl,.refl,r,v,.refl s⟩
theorem Runs.standAt {pos:Pos} {t:Sem γ} {c:ac β} (H:Runs K Rel A t c s α):Runs K Rel A (do standAt pos; t) c s α:=
 fun h tk=>wpAny_bind (wpAny_standAt (H h tk))
theorem Runs.holding {vs:List Value} {t:Sem γ} {c:ac β} (H:Runs K Rel A t c s α):Runs K Rel A (holding vs t) c s α:=
 fun h tk=>wpAny_holding (H h tk)
theorem Runs.step {t:Sem γ} {b:β} {σ:ab} (r:R K.hb s.heap σ α)
  (H:∀ (Q:γ->Shared->Prop) (E:Value->Shared->Prop),(∀ y s',(∀ b o,s.heap.get? b=some o->s'.heap.get? b=some o)->R K.hb s'.heap σ α->Rel s'.heap α b y->Sm s s'->Q y s')->wpAny (model K.prog K.w) A t Q E s) :
  Runs K Rel A t (.ok b σ) s α:=
 fun zz zz=>H _ _ fun y s' k r' v m=>⟨b,σ,α,rfl,.keeps k,r',v,m⟩
end
theorem R.live {hb h σ α} (r:R hb h σ α) {a:Addr} (ha:a ∈ α.ix):∃ o,h.get? a=some o:=by
 obtain ⟨i,hi,rfl⟩:=List.mem_iff_getElem.mp ha
 have hs:i < σ.length:=by rw [r.len]; exact hi
 exact (r.obj i σ[i] α.ix[i] (by simp [hs]) (by simp [hi])).live
theorem R.keeps {hb h h' σ α} (r:R hb h σ α) (k:∀ b o,h.get? b=some o->h'.get? b=some o):R hb h' σ α:=
 ⟨fun b o e=>k b o (r.base b o e),r.fresh,r.nodup,r.len,fun a ha=>⟨(r.hidden a ha).1,let ⟨o,e⟩:=(r.hidden a ha).2; ⟨o,k a o e⟩⟩,fun i m a e1 e2=>(r.obj i m a e1 e2).ext (.keeps (F:=[]) k) (by
  obtain ⟨o,e⟩:=r.live (List.mem_of_getElem? e2)
  rw [e,k a o e]),r.hfr,r.fe,fun a ha=>⟨(r.frs a ha).1,let ⟨o,e,d⟩:=(r.frs a ha).2; ⟨o,k a o e,d⟩⟩,r.frNot⟩
theorem R.liveAll {hb h σ α} (r:R hb h σ α) {a:Addr} (ha:a ∈ α.all):∃ o,h.get? a=some o:=by
 rcases List.mem_append.mp ha with q | q
 ·exact r.live q
 ·exact (r.hidden a q).2
theorem R.upExt {hb h h' σ α} (r:R hb h σ α) (u:Up hb.fr h h'):aL [] α h α h':=by
 refine ⟨rfl,⟨[],by simp,fun zz hx=>by simp at hx⟩,fun b o hb e hs=>?_,fun b o hb zz e=>?_,fun b o zz e=>?_,rfl⟩
 ·rcases u b o e with u | ⟨m,_⟩
  ·exact u
  ·obtain ⟨_,o',e',d⟩:=r.frs b m
   rw [e] at e'; obtain rfl:=oi e'
   exact absurd hs d.notSolid
 ·rcases u b o e with u | ⟨m,sl,u⟩
  ·exact .inl u
  ·obtain ⟨_,o',e',d⟩:=r.frs b m
   rw [e] at e'; obtain rfl:=oi e'
   exact .inr ⟨r.fe ▸ m,d,sl,u⟩
 ·rcases u b o e with u | ⟨m,sl,u⟩
  ·exact ⟨_,u⟩
  ·exact ⟨_,u⟩
theorem R.up {hb h h' σ α} (r:R hb h σ α) (u:Up hb.fr h h'):R hb h' σ α:=by
 have x:=r.upExt u
 refine ⟨fun b o e=>?_,r.fresh,r.nodup,r.len,fun a ha=>⟨(r.hidden a ha).1,?_⟩,fun i m a e1 e2=>?_,r.hfr,r.fe,fun a ha=>⟨(r.frs a ha).1,?_⟩,r.frNot⟩
 ·rcases u b o (r.base b o e) with u | ⟨m,_⟩
  ·exact u
  ·rw [(r.frs b m).1] at e; contradiction
 ·obtain ⟨o,e⟩:=(r.hidden a ha).2
  exact x.alive a o (by simp) e
 ·refine (r.obj i m a e1 e2).ext x ?_
  obtain ⟨o,e⟩:=r.live (List.mem_of_getElem? e2)
  rcases u a o e with u | ⟨m,_⟩
  ·rw [e,u]
  ·exact absurd (List.mem_of_getElem? e2) (r.frNot a m)
 ·obtain ⟨_,o,e,d⟩:=r.frs a ha
  rcases u a o e with u | ⟨m,sl,u⟩
  ·exact ⟨o,u,d⟩
  ·exact ⟨_,u,d⟩
end Mine
namespace Mine
open PySem PyProof.Rows
noncomputable def AL.add (α:AL) (D:Addr):AL:=⟨α.ix++[D],α.hid,α.fr⟩
theorem aL.add {α:AL} {h h':Heap} {D:Addr} (k:∀ b o,h.get? b=some o->h'.get? b=some o) (hD:h.get? D=none):aL [] α h (α.add D) h':=
 ⟨rfl,⟨[D],rfl,fun y hy=>by simp at hy; rw [hy]; exact ⟨hD,by simp⟩⟩,fun b o zz e zz=>k b o e,fun b o zz zz e=>.inl (k b o e),fun b o zz e=>⟨o,k b o e⟩,rfl⟩
theorem R.add {hb h h' σ α} {D:Addr} {m:MO} (r:R hb h σ α) (k:∀ b o,h.get? b=some o->h'.get? b=some o) (hD:h.get? D=none)
  (o:OR hb h' (α.add D) m D):R hb h' (σ++[m]) (α.add D)/\aL [] α h (α.add D) h':=by
 have x:aL [] α h (α.add D) h':=.add k hD
 have hDa:D ∉ α.all:=fun hm=>by obtain ⟨o,e⟩:=r.liveAll hm; rw [hD] at e; contradiction
 refine ⟨⟨fun b o e=>k b o (r.base b o e),fun a ha=>?_,?_,by simp [AL.add,r.len],fun a ha=>?_,fun i m' a e1 e2=>?_,r.hfr,r.fe,fun a ha=>⟨(r.frs a ha).1,let ⟨o,e,d⟩:=(r.frs a ha).2; ⟨o,k a o e,d⟩⟩,fun a ha=>?_⟩,x⟩
 ·rcases List.mem_append.mp ha with q | q
  ·exact r.fresh a q
  ·simp at q; subst q
   cases hq:hb.get? a with
   | none=>rfl
   | some o=>rw [r.base _ _ hq] at hD; contradiction
 ·show (α.ix++[D]).Nodup
  rw [List.nodup_append]
  exact ⟨r.nodup,by simp,fun a ha b hb=>by simp at hb; subst hb; rintro rfl; exact AL.not_ix hDa ha⟩
 ·have ha':a ∈ α.hid:=ha
  refine ⟨fun q=>?_,let ⟨o,e⟩:=(r.hidden a ha').2; ⟨o,k a o e⟩⟩
  rcases List.mem_append.mp q with q | q
  ·exact (r.hidden a ha').1 q
  ·simp at q; subst q; exact hDa (List.mem_append_right _ ha')
 ·have e2':(α.ix++[D])[i]?=some a:=e2
  by_cases hi:i < σ.length
  ·rw [List.getElem?_append_left hi] at e1
   rw [List.getElem?_append_left (by rw [<- r.len]; exact hi)] at e2'
   have:=r.obj i m' a e1 e2'
   have hk:h'.get? a=h.get? a:=by
    obtain ⟨o,e⟩:=r.live (List.mem_of_getElem? e2')
    rw [e,k a o e]
   exact this.ext x hk
  ·have e3:i=σ.length:=by
    have:=(cS e1).1
    simp at this; (grind)
   subst e3
   rw [List.getElem?_append_right (Nat.le_refl _)] at e1
   rw [List.getElem?_append_right (by rw [r.len]; exact Nat.le_refl _)] at e2'
   simp [r.len] at e1 e2'
   subst e1 e2'
   exact o
 ·intro q
  rcases List.mem_append.mp q with q | q
  ·exact r.frNot a ha q
  ·simp at q; subst q
   obtain ⟨_,o,e,_⟩:=r.frs a ha
   rw [hD] at e; contradiction
section
variable {K:Kt} {A:Around} {s:Shared} {α:AL} {σ:ab}
theorem b8 {n:Nat} (h:n <= ao):n <= sizeLine:=aE h (by decide)
theorem yw {xs:List PV} {vs:List Value} {fz:Bool} (r:R K.hb s.heap σ α) (v:aT s.heap α xs vs) :
  Runs K VR A (newList vs) (bU fz xs σ) s α:=by
 intro hc tk
 unfold bU at hc ⊢
 by_cases hl:xs.length <= ao
 ·rw [if_pos hl]
  have hD:s.heap.get? s.heap.objs.size=none:=by
   cases hq:s.heap.get? s.heap.objs.size with
   | none=>rfl
   | some o=>exact absurd (Heap.lt_size hq) (Nat.lt_irrefl _)
  have k:∀ b o,s.heap.get? b=some o->(s.heap.push { cls:=.type "list",data:=.seq vs.toArray }).get? b=some o:=fun b o e=>Heap.get?_push_of_some _ e
  refine wpAny_newObj_type ?_ (by show vs.toArray.size <= sizeLine; rw [List.size_toArray,<- v.1]; exact b8 hl)
  cases fz with
  | true =>
   refine ⟨_,_,_,rfl,.keeps k,r.keeps k,?_,⟨rfl,rfl⟩⟩
   refine VR.flI (n:=0) (Heap.get?_push_size _ rfl) (fun hm=>?_) (v.ext (.keeps (F:=[]) k))
   obtain ⟨o,e⟩:=r.liveAll hm; rw [hD] at e; contradiction
  | false =>
   obtain ⟨r',x⟩:=r.add (D:=s.heap.objs.size) (m:=.lst xs) k hD ⟨vs,0,Heap.get?_push_size _ rfl,v.ext (.add k hD)⟩
   refine ⟨_,_,_,rfl,x,r',.ref ?_,⟨rfl,rfl⟩⟩
   rw [r.len]; simp [AL.add]
 ·rw [if_neg hl] at hc; exact absurd rfl hc
theorem wU {xs:List PV} {vs:List Value} (r:R K.hb s.heap σ α) (v:aT s.heap α xs vs) :
  Runs K VR A (newTuple vs) (if xs.length <= ao then .ok (.tup xs) σ else .stuck) s α:=by
 intro hc tk
 by_cases hl:xs.length <= ao
 ·rw [if_pos hl]
  have hD:s.heap.get? s.heap.objs.size=none:=by
   cases hq:s.heap.get? s.heap.objs.size with
   | none=>rfl
   | some o=>exact absurd (Heap.lt_size hq) (Nat.lt_irrefl _)
  have k:∀ b o,s.heap.get? b=some o->(s.heap.push { cls:=.type "tuple",data:=.seq vs.toArray }).get? b=some o:=fun b o e=>Heap.get?_push_of_some _ e
  refine wpAny_newObj_type ?_ (by show vs.toArray.size <= sizeLine; rw [List.size_toArray,<- v.1]; exact b8 hl)
  refine ⟨_,_,_,rfl,.keeps k,r.keeps k,?_,⟨rfl,rfl⟩⟩
  refine VR.tupI (n:=0) (Heap.get?_push_size _ rfl) (fun hm=>?_) (v.ext (.keeps (F:=[]) k))
  obtain ⟨o,e⟩:=r.liveAll hm; rw [hD] at e; contradiction
 ·rw [if_neg hl] at hc; exact absurd rfl hc
end
end Mine
namespace Mine
open PySem PyProof.Rows
theorem lm {h:Heap} {n:Nat} {f:PV->Option PyData}:∀ {xs:List PV} {vs:List Value} {ds:List PyData},xs.mapM f=some ds->xs.length=vs.length ->
  (∀ (i:Nat) (x:PV) (v:Value) (d:PyData),xs[i]?=some x->vs[i]?=some v->f x=some d->∃ as,Reads h v d as/\d.canLay0=true/\d.depth <= n) ->
  ∃ as,ReadsAll h vs ds as/\PyData.canLayAll0 ds=true/\PyData.depthAll ds <= n:=by
 intro xs
 induction xs with
 | nil =>
  intro vs ds e hl _
  obtain rfl:=List.eq_nil_of_length_eq_zero hl.symm
  obtain rfl:=oi e
  exact ⟨[],.nil,rfl,Nat.zero_le _⟩
 | cons x xs ih =>
  intro vs ds e hl H
  cases vs with
  | nil=>exact nomatch hl
  | cons v vs =>
   rw [List.mapM_cons] at e
   cases hx:f x with
   | none=>rw [hx] at e; contradiction
   | some d =>
    rw [hx] at e
    cases hr:xs.mapM f with
    | none=>rw [hr] at e; contradiction
    | some ds' =>
     rw [hr] at e
     obtain rfl:=oi e
     obtain ⟨as,r1,c1,d1⟩:=H 0 x v d rfl rfl hx
     obtain ⟨bs,r2,c2,d2⟩:=ih hr (Nat.succ.inj hl) fun i y w d' e1 e2 e3=>H (i + 1) y w d' e1 e2 e3
     exact ⟨as++bs,.cons r1 r2,Bool.and_eq_true_iff.mpr ⟨c1,c2⟩,Nat.max_le.mpr ⟨d1,d2⟩⟩
theorem jy {hb:Bs} {h:Heap} {σ:ab} {α:AL} (r:R hb h σ α):∀ (n:Nat) (p:PV) (v:Value) (d:PyData),VR h α p v->bA n σ p=some d->∃ as,Reads h v d as/\d.canLay0=true/\d.depth <= n:=by
 intro n
 induction n with
 | zero=>intro p v d _ e; simp [bA] at e
 | succ n ih =>
  intro p v d hv e
  cases p with
  | exc c=>simp [bA] at e
  | inst c i=>simp [bA] at e
  | none=>obtain rfl:=hv.noneE; simp [bA] at e; subst e; exact ⟨[],.none,rfl,by simp [PyData.depth]⟩
  | bool b=>obtain rfl:=hv.boolE; simp [bA] at e; subst e; exact ⟨[],.bool _,rfl,by simp [PyData.depth]⟩
  | int i=>obtain ⟨_,rfl⟩:=hv.intE; simp [bA] at e; subst e; exact ⟨[],.int _ _,rfl,by simp [PyData.depth]⟩
  | str x=>obtain ⟨_,rfl,hs⟩:=hv.strE; simp [bA] at e; subst e; exact ⟨[],.str _ _,hs,by simp [PyData.depth]⟩
  | tup xs =>
   obtain ⟨a,ak,k,rfl,e1,_,vs⟩:=hv.tupE
   simp only [bA] at e
   cases hm:xs.mapM (bA n σ) with
   | none=>rw [hm] at e; contradiction
   | some ds =>
    rw [hm] at e; obtain rfl:=oi e
    obtain ⟨as,r1,c1,d1⟩:=lm (n:=n) hm vs.1 fun i x v d e1 e2 e3=>ih x v d (vs.2 i x v e1 e2) e3
    exact ⟨as,.tuple e1 rfl rfl (by simpa using r1),by simpa [PyData.canLay0] using c1,by simp only [PyData.depth]; (exact Nat.lt_succ_of_le (by assumption))⟩
  | fl xs =>
   obtain ⟨a,ak,k,rfl,e1,_,vs⟩:=hv.flE
   simp only [bA] at e
   cases hm:xs.mapM (bA n σ) with
   | none=>rw [hm] at e; contradiction
   | some ds =>
    rw [hm] at e; obtain rfl:=oi e
    obtain ⟨as,r1,c1,d1⟩:=lm (n:=n) hm vs.1 fun i x v d e1 e2 e3=>ih x v d (vs.2 i x v e1 e2) e3
    exact ⟨a::as,.list e1 rfl rfl (by simpa using r1),by simpa [PyData.canLay0] using c1,by simp only [PyData.depth]; (exact Nat.lt_succ_of_le (by assumption))⟩
  | ref i =>
   obtain ⟨a,rfl,ea⟩:=hv.refE
   simp only [bA] at e
   cases hs:σ[i]? with
   | none=>rw [hs] at e; contradiction
   | some m =>
    rw [hs] at e
    cases m with
    | lst xs =>
     simp only at e
     cases hm:xs.mapM (bA n σ) with
     | none=>rw [hm] at e; contradiction
     | some ds =>
      rw [hm] at e; obtain rfl:=oi e
      obtain ⟨ak,k,e1,vs⟩:=r.obj i _ a hs ea
      obtain ⟨as,r1,c1,d1⟩:=lm (n:=n) hm vs.1 fun i x v d e1 e2 e3=>ih x v d (vs.2 i x v e1 e2) e3
      exact ⟨a::as,.list e1 rfl rfl (by simpa using r1),by simpa [PyData.canLay0] using c1,by simp only [PyData.depth]; (exact Nat.lt_succ_of_le (by assumption))⟩
    | _=>simp at e
theorem mO {d:PyData} (c:d.canLay0=true) (h:d.depth <= 16):SeqAt.shaped d=true:=by
 unfold SeqAt.shaped
 rw [c]; simp; (exact aE (by assumption) (by decide))
noncomputable def cR (_h:Heap) (_α:AL) (b:Bool) (y:Value):Prop:=y=.bool b
structure dO (A:Around):Prop where
 depth:A.depth + 200 < recursionLimit
 units:A.units + 200 < cLine
section
variable {K:Kt} {A:Around} {s:Shared} {α:AL} {σ:ab}
theorem abk {a b:PV} {x y:Value} (hA:dO A) (r:R K.hb s.heap σ α) (va:VR s.heap α a x) (vb:VR s.heap α b y) :
  Runs K cR A (compareOp .Eq x y) (ac.ofOpt (eqv σ a b) σ) s α:=by
 intro hc tk
 unfold eqv at hc ⊢
 cases h1:bA 16 σ a with
 | none=>rw [h1] at hc; exact absurd rfl hc
 | some d1 =>
  cases h2:bA 16 σ b with
  | none=>rw [h1,h2] at hc; exact absurd rfl hc
  | some d2 =>
   obtain ⟨as,r1,c1,p1⟩:=jy r 16 a x d1 va h1
   obtain ⟨bs,r2,c2,p2⟩:=jy r 16 b y d2 vb h2
   exact eq_dataH r1 r2 (mO c1 p1) (mO c2 p2) (by have:=hA.units; (grind)) ⟨_,σ,α,rfl,.refl,r,rfl,.refl s⟩
theorem abj {a b:PV} {x y:Value} (hA:dO A) (r:R K.hb s.heap σ α) (va:VR s.heap α a x) (vb:VR s.heap α b y) :
  Runs K cR A (compareOp .NotEq x y) (ac.ofOpt ((eqv σ a b).map (!·)) σ) s α:=by
 intro hc tk
 unfold eqv at hc ⊢
 cases h1:bA 16 σ a with
 | none=>rw [h1] at hc; exact absurd rfl hc
 | some d1 =>
  cases h2:bA 16 σ b with
  | none=>rw [h1,h2] at hc; exact absurd rfl hc
  | some d2 =>
   obtain ⟨as,r1,c1,p1⟩:=jy r 16 a x d1 va h1
   obtain ⟨bs,r2,c2,p2⟩:=jy r 16 b y d2 vb h2
   exact ne_dataH r1 r2 (mO c1 p1) (mO c2 p2) (by have:=hA.units; (grind)) ⟨_,σ,α,rfl,.refl,r,rfl,.refl s⟩
end
end Mine
namespace Mine
open PySem PyProof.Rows
section
variable {h:Heap} {α:AL} {κ uX:Type} [DecidableEq κ] [DecidableEq uX] {g:κ->uX}
theorem afg {e:κ × PV} {es:List (κ × PV)} {k:κ}:ai k (e::es)=if e.1=k then some e.2 else ai k es:=by
 unfold ai
 rw [List.find?_cons]
 by_cases q:e.1=k
 ·simp [q]
 ·simp [q]
theorem qZ {e:uX × Value} {es:List (uX × Value)} {k:uX}:valueAt (e::es) k=if e.1=k then some e.2 else valueAt es k:=by
 unfold valueAt
 rw [List.find?_cons]
 by_cases q:e.1=k
 ·simp [q]
 ·simp [q]
theorem jL (hg:∀ a b,g a=g b->a=b):∀ {es:List (κ × PV)} {ys:List (uX × Value)},ys.map (·.1)=es.map (fun e=>g e.1)->aT h α (es.map (·.2)) (ys.map (·.2))->∀ k,
  (∀ v,ai k es=some v->∃ u,valueAt ys (g k)=some u/\VR h α v u)/\(ai k es=none->valueAt ys (g k)=none):=by
 intro es
 induction es with
 | nil =>
  intro ys h1 _ k
  obtain rfl:=List.map_eq_nil_iff.mp h1
  exact ⟨fun v e=>(by contradiction),fun zz=>rfl⟩
 | cons e es ih =>
  intro ys h1 h2 k
  cases ys with
  | nil=>exact nomatch h1
  | cons y ys =>
  obtain ⟨h1a,h1b⟩:=List.cons.inj h1
  obtain ⟨u,us,q,v1,v2⟩:=h2.inv_cons
  cases q
  rw [afg,qZ,show y.1=g e.1 from h1a]
  by_cases q:e.1=k
  ·rw [if_pos q,if_pos (by rw [q])]
   exact ⟨fun v e'=>(by obtain rfl:=oi e'; exact ⟨_,rfl,v1⟩),fun e'=>(by contradiction)⟩
  ·rw [if_neg q,if_neg (fun z=>q (hg _ _ z))]
   exact ih h1b v2 k
theorem ab3 (hg:∀ a b,g a=g b->a=b):∀ {es:List (κ × PV)} {ys:List (uX × Value)},ys.map (·.1)=es.map (fun e=>g e.1)->∀ k,(ys.any fun y=>decide (y.1=g k))=es.any fun e=>decide (e.1=k)
 | [],ys,h1,k=>by
  have:ys=[]:=by simpa using h1
  subst this; rfl
 | e::es,[],h1,k=>by simp at h1
 | e::es,y::ys,h1,k=>by
  simp only [List.map_cons,List.cons.injEq] at h1
  rw [List.any_cons,List.any_cons,ab3 hg h1.2 k,h1.1]
  congr 1
  by_cases q:e.1=k
  ·simp [q]
  ·rw [decide_eq_false q,decide_eq_false (fun z=>q (hg _ _ z))]
theorem ahz (hg:∀ a b,g a=g b->a=b) {k:κ} {v:PV} {u:Value} (vu:VR h α v u):∀ {es:List (κ × PV)} {ys:List (uX × Value)},ys.map (·.1)=es.map (fun e=>g e.1)->aT h α (es.map (·.2)) (ys.map (·.2)) ->
  (ys.map fun y=>if y.1=g k then (y.1,u) else y).map (·.1)=(es.map fun e=>if e.1=k then (e.1,v) else e).map (fun e=>g e.1) ∧
  aT h α ((es.map fun e=>if e.1=k then (e.1,v) else e).map (·.2)) ((ys.map fun y=>if y.1=g k then (y.1,u) else y).map (·.2)):=by
 intro es
 induction es with
 | nil =>
  intro ys h1 h2
  obtain rfl:=List.map_eq_nil_iff.mp h1
  exact ⟨rfl,.nil⟩
 | cons e es ih =>
  intro ys h1 h2
  cases ys with
  | nil=>exact nomatch h1
  | cons y ys =>
  obtain ⟨h1a,h1b⟩:=List.cons.inj h1
  obtain ⟨w,ws,q,v1,v2⟩:=h2.inv_cons
  cases q
  obtain ⟨i1,i2⟩:=ih h1b v2
  rw [List.map_cons,List.map_cons,List.map_cons,List.map_cons,List.map_cons,List.map_cons,i1]
  by_cases q:e.1=k
  ·rw [if_pos q,if_pos (by rw [show y.1=g e.1 from h1a,q])]
   exact ⟨by rw [show y.1=g e.1 from h1a],.cons vu i2⟩
  ·rw [if_neg q,if_neg (fun z=>q (hg _ _ ((show y.1=g e.1 from h1a).symm.trans z)))]
   exact ⟨by rw [show y.1=g e.1 from h1a],.cons v1 i2⟩
theorem aaJ (hg:∀ a b,g a=g b->a=b) {k:κ} {v:PV} {u:Value} {es:List (κ × PV)} {ys:List (uX × Value)} (h1:ys.map (·.1)=es.map (fun e=>g e.1)) (h2:aT h α (es.map (·.2)) (ys.map (·.2))) (vu:VR h α v u) :
  (stored ys (g k) u).map (·.1)=(cq k v es).map (fun e=>g e.1)/\aT h α ((cq k v es).map (·.2)) ((stored ys (g k) u).map (·.2)):=by
 unfold stored cq
 rw [ab3 hg h1 k]
 split
 ·exact ahz hg vu h1 h2
 ·rw [List.map_append,List.map_append,List.map_append,List.map_append,h1]
  exact ⟨rfl,h2.append (.cons vu .nil)⟩
end
noncomputable def nQ (k:Str × Int):List (Str ⊕ Int):=[.inl k.1,.inr k.2]
theorem p0 (a b:Str × Int) (h:nQ a=nQ b):a=b:=by
 unfold nQ at h
 simp only [List.cons.injEq,Sum.inl.injEq,Sum.inr.injEq,and_true] at h
 exact Prod.ext h.1 h.2
theorem ahS {p:PV} {k:Str × Int} (h:eR p=some k):p=.tup [.str k.1,.int k.2]:=by
 unfold eR at h
 split at h
 ·obtain rfl:=oi h; rfl
 ·contradiction
section
variable {K:Kt} {A:Around} {s:Shared} {α:AL} {σ:ab}
theorem vG {p:PV} {k:Str × Int} {x:Value} (h:eR p=some k) (v:VR s.heap α p x):∃ a,x=.ref a/\IsTupleKey (lC K.prog K.w) s.heap (nQ k) a/\a ∉ α.all:=by
 rw [ahS h] at v
 obtain ⟨a,ak,n,rfl,e,hn,w⟩:=v.tupE
 obtain ⟨u1,us,rfl,w1,w2⟩:=w.inv_cons
 obtain ⟨u2,us,rfl,w3,w4⟩:=w2.inv_cons
 have:us=[]:=List.eq_nil_of_length_eq_zero w4.1.symm
 subst this
 cases w1 with | str _ t1 _ =>
 cases w3 with | int _ t2 =>
 refine ⟨a,rfl,⟨_,_,n,e,rfl,rfl,?_⟩,hn⟩
 refine .cons ?_ (.cons ?_ .nil)
 ·show Value.isStrOf k.1 (.str k.1 t1)=true
  simp [Value.isStrOf]
 ·show Value.isInt k.2 (.int k.2 t2)=true
  simp [Value.isInt]
theorem pT (hK:K.Ok) (r:R K.hb s.heap σ α) {a:Addr} (ha:a ∈ α.ix):(a == sysModules)=false:=by
 obtain ⟨o,e⟩:=hK.mods
 rw [beq_eq_false_iff_ne]
 rintro rfl
 rw [r.fresh _ ha] at e; contradiction
theorem vm (hA:dO A):(tupleKind (lC K.prog K.w)).room A.in1:=by
 have:=hA.units
 show A.units + 1 < cLine
 (grind)
theorem sT {i:Nat} {a:Addr} {es:List ((Str × Int) × PV)} (r:R K.hb s.heap σ α) (hs:σ[i]?=some (.dp es)) (ea:α.ix[i]?=some a) :
  ∃ xs,s.heap.DictOfH (tupleKind (lC K.prog K.w)) a xs/\(kvsOf xs).map (·.1)=es.map (fun e=>nQ e.1)/\(∀ x ∈ xs,x.2.1 ∉ α.all)/\aT s.heap α (es.map (·.2)) ((kvsOf xs).map (·.2)):=by
 obtain ⟨xs,h1,h2,h3,h4⟩:=r.obj i _ a hs ea
 refine ⟨xs,h1,?_,h3,?_⟩
 ·rw [kvsOf,List.map_map]; exact h2
 ·rw [kvsOf,List.map_map]; exact h4
theorem sS {i:Nat} {a:Addr} {es:List (Str × PV)} (r:R K.hb s.heap σ α) (hs:σ[i]?=some (.ds es)) (ea:α.ix[i]?=some a) :
  ∃ kvs,s.heap.DictOf (strKind K.prog K.w) a kvs/\kvs.map (·.1)=es.map (fun e=>id e.1)/\aT s.heap α (es.map (·.2)) (kvs.map (·.2)):=r.obj i _ a hs ea
theorem rd {k:Str} {t:Tok}:(strKind K.prog K.w).is k (.str k t)=true:=by
 show Value.isStrOf k (.str k t)=true
 simp [Value.isStrOf]
theorem ajO {i:Nat} {a:Addr} {es:List ((Str × Int) × PV)} {p:PV} {k:Str × Int} {x:Value} (hK:K.Ok) (hA:dO A) (r:R K.hb s.heap σ α) (hs:σ[i]?=some (.dp es)) (ea:α.ix[i]?=some a) (hk:eR p=some k) (vp:VR s.heap α p x) :
  Runs K cR A (compareOp .In x (.ref a)) (.ok (ai k es).isSome σ) s α/\Runs K cR A (compareOp .NotIn x (.ref a)) (.ok (!(ai k es).isSome) σ) s α:=by
 obtain ⟨xs,h1,h2,_,h4⟩:=sT r hs ea
 obtain ⟨b,rfl,hb,_⟩:=vG (K:=K) hk vp
 have e:(atKey xs (nQ k)).isSome=(ai k es).isSome:=by
  have:=jL p0 h2 h4 k
  rw [valueAt_kvsOf] at this
  cases hq:ai k es with
  | none=>have:=this.2 hq; cases hz:atKey xs (nQ k) with | none=>rfl | some z=>rw [hz] at this; contradiction
  | some v=>obtain ⟨u,z,_⟩:=this.1 v hq; cases hz:atKey xs (nQ k) with | none=>rw [hz] at z; cases z | some z=>rfl
 have hm:=pT hK r (List.mem_of_getElem? ea)
 exact ⟨fun zz zz=>wpAny_in_heap (vm hA) hb hm h1 (by rw [e]; exact ⟨_,σ,α,rfl,.refl,r,rfl,⟨rfl,rfl⟩⟩),fun zz zz=>wpAny_notIn_heap (vm hA) hb hm h1 (by rw [e]; exact ⟨_,σ,α,rfl,.refl,r,rfl,⟨rfl,rfl⟩⟩)⟩
theorem ajN {i:Nat} {a:Addr} {es:List (Str × PV)} {k:Str} {t:Tok} (hK:K.Ok) (r:R K.hb s.heap σ α) (hs:σ[i]?=some (.ds es)) (ea:α.ix[i]?=some a) :
  Runs K cR A (compareOp .In (.str k t) (.ref a)) (.ok (ai k es).isSome σ) s α/\Runs K cR A (compareOp .NotIn (.str k t) (.ref a)) (.ok (!(ai k es).isSome) σ) s α:=by
 obtain ⟨kvs,h1,h2,h4⟩:=sS r hs ea
 have e:(valueAt kvs k).isSome=(ai k es).isSome:=by
  have:=jL (g:=id) (fun zz zz h=>h) h2 h4 k
  cases hq:ai k es with
  | none=>have:=this.2 hq; simp only [id] at this; rw [this]; rfl
  | some v=>obtain ⟨u,z,_⟩:=this.1 v hq; simp only [id] at z; rw [z]; rfl
 have hm:=pT hK r (List.mem_of_getElem? ea)
 exact ⟨fun zz zz=>wpAny_in_of rd hm h1.mapOf (by rw [e]; exact ⟨_,σ,α,rfl,.refl,r,rfl,⟨rfl,rfl⟩⟩),fun zz zz=>wpAny_notIn_of rd hm h1.mapOf (by rw [e]; exact ⟨_,σ,α,rfl,.refl,r,rfl,⟨rfl,rfl⟩⟩)⟩
theorem ahV {i:Nat} {a:Addr} {es:List ((Str × Int) × PV)} {p v:PV} {k:Str × Int} {x:Value} {E:Value->Shared->Prop} (hA:dO A) (r:R K.hb s.heap σ α) (hs:σ[i]?=some (.dp es)) (ea:α.ix[i]?=some a) (hk:eR p=some k) (vp:VR s.heap α p x) (hv:ai k es=some v) :
  wpAny (model K.prog K.w) A (getItem (.ref a) x) (bm K VR (.ok v σ) s α) E s:=by
 obtain ⟨xs,h1,h2,_,h4⟩:=sT r hs ea
 obtain ⟨b,rfl,hb,_⟩:=vG (K:=K) hk vp
 obtain ⟨u,z,vu⟩:=(jL p0 h2 h4 k).1 v hv
 rw [valueAt_kvsOf] at z
 obtain ⟨q,hq,rfl⟩:=Option.map_eq_some_iff.mp z
 exact wpAny_getItem_heap (vm hA) hb h1 hq ⟨_,σ,α,rfl,.refl,r,vu,⟨rfl,rfl⟩⟩
theorem ahU {i:Nat} {a:Addr} {es:List (Str × PV)} {v:PV} {k:Str} {t:Tok} {E:Value->Shared->Prop} (r:R K.hb s.heap σ α) (hs:σ[i]?=some (.ds es)) (ea:α.ix[i]?=some a) (hv:ai k es=some v) :
  wpAny (model K.prog K.w) A (getItem (.ref a) (.str k t)) (bm K VR (.ok v σ) s α) E s:=by
 obtain ⟨kvs,h1,h2,h4⟩:=sS r hs ea
 obtain ⟨u,z,vu⟩:=(jL (g:=id) (fun zz zz h=>h) h2 h4 k).1 v hv
 exact wpAny_getItem_of rd h1.mapOf z ⟨_,σ,α,rfl,.refl,r,vu,⟨rfl,rfl⟩⟩
theorem ai7 {i:Nat} {a:Addr} {es:List ((Str × Int) × PV)} {p:PV} {k:Str × Int} {x:Value} {E:Value->Shared->Prop} (hK:K.Ok) (hA:dO A) (r:R K.hb s.heap σ α) (hs:σ[i]?=some (.dp es)) (ea:α.ix[i]?=some a) (hk:eR p=some k) (vp:VR s.heap α p x) :
  wpAny (model K.prog K.w) A (call (.builtin "dict.get") [.ref a,x]) (bm K VR (.ok ((ai k es).getD .none) σ) s α) E s:=by
 obtain ⟨xs,h1,h2,_,h4⟩:=sT r hs ea
 obtain ⟨b,rfl,hb,_⟩:=vG (K:=K) hk vp
 refine call_meetsIn F.slot_dict_get h1.typeIs F.entry_dict_get (F.args_dict_get_2 _ _) (meetsH_dict_get (tupleKind (lC K.prog K.w)) a b (pT hK r (List.mem_of_getElem? ea))) ⟨vm hA,nQ k,xs,hb,h1,?_⟩
 rw [<- valueAt_kvsOf]
 have:=jL p0 h2 h4 k
 cases hq:ai k es with
 | none=>rw [this.2 hq]; exact ⟨_,σ,α,rfl,.refl,r,.none,⟨rfl,rfl⟩⟩
 | some v=>obtain ⟨u,z,vu⟩:=this.1 v hq; rw [z]; exact ⟨_,σ,α,rfl,.refl,r,vu,⟨rfl,rfl⟩⟩
theorem ai6 {i:Nat} {a:Addr} {es:List (Str × PV)} {k:Str} {t:Tok} {E:Value->Shared->Prop} (hK:K.Ok) (r:R K.hb s.heap σ α) (hs:σ[i]?=some (.ds es)) (ea:α.ix[i]?=some a) :
  wpAny (model K.prog K.w) A (call (.builtin "dict.get") [.ref a,.str k t]) (bm K VR (.ok ((ai k es).getD .none) σ) s α) E s:=by
 obtain ⟨kvs,h1,h2,h4⟩:=sS r hs ea
 refine call_meetsIn F.slot_dict_get h1.typeIs F.entry_dict_get (F.args_dict_get_2 _ _) (meets_dict_get (strKind K.prog K.w) a rd (pT hK r (List.mem_of_getElem? ea))) ⟨_,h1.mapOf,?_⟩
 have:=jL (g:=id) (fun zz zz h=>h) h2 h4 k
 cases hq:ai k es with
 | none=>have z:=this.2 hq; simp only [id] at z; rw [z]; exact ⟨_,σ,α,rfl,.refl,r,.none,⟨rfl,rfl⟩⟩
 | some v=>obtain ⟨u,z,vu⟩:=this.1 v hq; simp only [id] at z; rw [z]; exact ⟨_,σ,α,rfl,.refl,r,vu,⟨rfl,rfl⟩⟩
end
end Mine
namespace Mine
open PySem PyProof.Rows
noncomputable def aiG:Op->Operator
 | .add=>.Add | .sub=>.Sub | .mul=>.Mult | .mod=>.Mod | .fdiv=>.FloorDiv | .pow=>.Pow
noncomputable def gK:Cm->CmpOp
 | .eq=>.Eq | .ne=>.NotEq | .lt=>.Lt | .le=>.LtE | .gt=>.Gt | .ge=>.GtE | .is=>.Is | .isNot=>.IsNot | .isin=>.In | .notin=>.NotIn
theorem rf {x y:Str} (a:PyData.strOk x=true) (b:PyData.strOk y=true):PyData.strOk (x++y)=true:=by
 unfold PyData.strOk at *
 rw [Str.cps_append]
 simp only [Array.all_eq_true',Array.mem_append] at *
 rintro c (h | h)
 ·exact a c h
 ·exact b c h
theorem adJ {x:Str} {n:Int} (h:PyData.strOk x=true):PyData.strOk (Txt.mul x n)=true:=by
 unfold Txt.mul
 split
 ·simp [PyData.strOk,Str.empty]
 ·split
  ·exact h
  ·have key:∀ (k:Nat) (acc:Array Nat),PyData.strOk ⟨acc⟩=true->PyData.strOk ⟨(List.replicate k x.cps).foldl (·++·) acc⟩=true:=by
    intro k
    induction k with
    | zero=>intro acc h2; exact h2
    | succ k ih =>
     intro acc h2
     rw [List.replicate_succ,List.foldl_cons]
     exact ih _ (rf (x:=⟨acc⟩) (y:=x) h2 h)
   exact key _ _ (by simp [PyData.strOk])
theorem aa9 {x:Str} {n:Int} (h:x.length <= 100/\0 <= n/\n <= 100):MulOk x n:=
 mulOk_of 100 100 h.1 h.2.2 (by grind) (by decide) (by decide)
theorem wz {a:Int} (h:a.natAbs < 2 ^ 60):Builtin.Int.intBits a <= 64:=by
 unfold Builtin.Int.intBits
 by_cases h0:a.natAbs=0
 ·have:a=0:=by grind
  subst this; decide
 ·have:=(Nat.log2_lt h0).mpr h
  split <;> (grind)
inductive ahg (h:Heap) (α:AL) (xs:List PV) (v:Value):Prop
 | mk (a:Addr) (ak:List Value) (n:Nat) (e:v=.ref a) (ht:h.get? a=some { cls:=.type "list",data:=.seq (List.toArray ak) n }) (vs:aT h α xs ak):ahg h α xs v
theorem d7 {h:Heap} {hb:Bs} {σ:ab} {α:AL} {a:PV} {x:Value} {xs:List PV} (r:R hb h σ α) (v:VR h α a x) (e:a8 σ a=some xs) :
  ahg h α xs x:=by
 cases a with
 | fl ys=>obtain rfl:=oi e; obtain ⟨l,ak,n,rfl,e1,_,vs⟩:=v.flE; exact ⟨l,ak,n,rfl,e1,vs⟩
 | ref i =>
  obtain ⟨l,rfl,el⟩:=v.refE
  simp only [a8] at e
  cases hs:σ[i]? with
  | none=>rw [hs] at e; contradiction
  | some m =>
   rw [hs] at e
   cases m with
   | lst ys=>obtain rfl:=oi e; obtain ⟨ak,n,e1,vs⟩:=r.obj i _ l hs el; exact ⟨l,ak,n,rfl,e1,vs⟩
   | _=>contradiction
 | _=>contradiction
section
variable {K:Kt} {A:Around} {s:Shared} {α:AL} {σ:ab}
theorem eA (s:Shared):s.heap.get? s.heap.objs.size=none:=by
 cases hq:s.heap.get? s.heap.objs.size with
 | none=>rfl
 | some o=>exact absurd (Heap.lt_size hq) (Nat.lt_irrefl _)
theorem bm.fl {xs:List PV} {vs:List Value} (r:R K.hb s.heap σ α) (v:aT s.heap α xs vs) :
  bm K VR (.ok (.fl xs) σ) s α (.ref s.heap.objs.size) { s with heap:=s.heap.push { cls:=.type "list",data:=.seq vs.toArray } }:=by
 have k:∀ b o,s.heap.get? b=some o->(s.heap.push { cls:=.type "list",data:=.seq vs.toArray }).get? b=some o:=fun b o e=>Heap.get?_push_of_some _ e
 refine ⟨_,_,_,rfl,.keeps k,r.keeps k,?_,⟨rfl,rfl⟩⟩
 refine VR.flI (n:=0) (Heap.get?_push_size _ rfl) (fun hm=>?_) (v.ext (.keeps (F:=[]) k))
 obtain ⟨o,e⟩:=r.liveAll hm; rw [eA] at e; contradiction
theorem bm.tup {xs:List PV} {vs:List Value} (r:R K.hb s.heap σ α) (v:aT s.heap α xs vs) :
  bm K VR (.ok (.tup xs) σ) s α (.ref s.heap.objs.size) { s with heap:=s.heap.push { cls:=.type "tuple",data:=.seq vs.toArray } }:=by
 have k:∀ b o,s.heap.get? b=some o->(s.heap.push { cls:=.type "tuple",data:=.seq vs.toArray }).get? b=some o:=fun b o e=>Heap.get?_push_of_some _ e
 refine ⟨_,_,_,rfl,.keeps k,r.keeps k,?_,⟨rfl,rfl⟩⟩
 refine VR.tupI (n:=0) (Heap.get?_push_size _ rfl) (fun hm=>?_) (v.ext (.keeps (F:=[]) k))
 obtain ⟨o,e⟩:=r.liveAll hm; rw [eA] at e; contradiction
theorem bm.here {β γ:Type} {Rel:Heap->AL->β->γ->Prop} {b:β} {y:γ} {tk:Nat} (r:R K.hb s.heap σ α) (v:Rel s.heap α b y):bm K Rel (.ok b σ) s α y { s with toks:=tk }:=
 ⟨_,_,_,rfl,.refl,r,v,⟨rfl,rfl⟩⟩
theorem aaM {l b:Addr} {vs ws:List Value} {n n2:Nat} {Q:Value->Shared->Prop} {E:Value->Shared->Prop} (ho:s.heap.get? l=some { cls:=.type "list",data:=.seq vs.toArray n })
  (ho2:s.heap.get? b=some { cls:=.type "list",data:=.seq ws.toArray n2 }) (hsz:vs.length + ws.length <= sizeLine)
  (h:Q (.ref s.heap.objs.size) { s with heap:=s.heap.push { cls:=.type "list",data:=.seq (vs++ws).toArray } }):wpAny (model K.prog K.w) A (binaryOp .Add (.ref l) (.ref b)) Q E s:=by
 have e:vs.toArray++ws.toArray=(vs++ws).toArray:=by simp
 refine concat_meets ⟨_,ho,rfl⟩ ⟨_,ho2,rfl⟩ noFill_list_add seq_list_add PySem.F.slot_list_add PySem.F.entry_list_add (PySem.F.args_list_add_2 _ _) (list_addW l b vs.toArray ws.toArray n n2 none none #[] #[] (by simpa using hsz)) ⟨ho,ho2,?_⟩
 rw [e]; exact h
theorem yO {t b:Addr} {vs ws:List Value} {n n2:Nat} {Q:Value->Shared->Prop} {E:Value->Shared->Prop} (ho:s.heap.get? t=some { cls:=.type "tuple",data:=.seq vs.toArray n })
  (ho2:s.heap.get? b=some { cls:=.type "tuple",data:=.seq ws.toArray n2 }) (hsz:vs.length + ws.length <= sizeLine)
  (h0:vs=[]->Q (.ref b) s) (h1:vs ≠ []->ws=[]->Q (.ref t) s)
  (h2:Q (.ref s.heap.objs.size) { s with heap:=s.heap.push { cls:=.type "tuple",data:=.seq (vs++ws).toArray } }):wpAny (model K.prog K.w) A (binaryOp .Add (.ref t) (.ref b)) Q E s:=by
 have e:vs.toArray++ws.toArray=(vs++ws).toArray:=by simp
 by_cases hv:vs=[]
 ·exact concat_meets ⟨_,ho,rfl⟩ ⟨_,ho2,rfl⟩ noFill_tuple_add seq_tuple_add PySem.F.slot_tuple_add PySem.F.entry_tuple_add (PySem.F.args_tuple_add_2 _ _)
   (tuple_addW0 t b vs.toArray ws.toArray n n2 none none #[] #[] (by simp [hv])) ⟨ho,ho2,h0 hv⟩
 ·by_cases hw:ws=[]
  ·exact concat_meets ⟨_,ho,rfl⟩ ⟨_,ho2,rfl⟩ noFill_tuple_add seq_tuple_add PySem.F.slot_tuple_add PySem.F.entry_tuple_add (PySem.F.args_tuple_add_2 _ _)
    (tuple_addW1 t b vs.toArray ws.toArray n n2 none none #[] #[] (by simpa using hv) (by simp [hw])) ⟨ho,ho2,h1 hv hw⟩
  ·refine concat_meets ⟨_,ho,rfl⟩ ⟨_,ho2,rfl⟩ noFill_tuple_add seq_tuple_add PySem.F.slot_tuple_add PySem.F.entry_tuple_add (PySem.F.args_tuple_add_2 _ _)
    (tuple_addW2 t b vs.toArray ws.toArray n n2 none none #[] #[] (by simpa using hv) (by simpa using hw) (by rw [List.size_toArray,List.size_toArray]; exact hsz)) ⟨ho,ho2,?_⟩
   rw [e]; exact h2
theorem jZ {f:Int->Int->ac PV} {o:Operator} {a b:PV} {x y:Value} (va:VR s.heap α a x) (vb:VR s.heap α b y)
  (H:∀ i j t u,f i j ≠ .stuck->wpAny (model K.prog K.w) A (binaryOp o (.int i t) (.int j u)) (bm K VR (f i j) s α) (bi K A (f i j) s α) s):Runs K VR A (binaryOp o x y) (wC f a b) s α:=by
 intro hc tk
 cases a with
 | int i =>
  cases b with
  | int j=>obtain ⟨_,rfl⟩:=va.intE; obtain ⟨_,rfl⟩:=vb.intE; exact H i j _ _ hc
  | _=>exact absurd rfl hc
 | _=>exact absurd rfl hc
theorem ajn {σ:ab} {P:PV->PV->ac PV->Prop} (h0:∀ a b,P a b .stuck) (h1:∀ i j,P (.int i) (.int j) (.ok (.int (i + j)) σ)) (h2:∀ p q,p.length + q.length <= ao->P (.str p) (.str q) (.ok (.str (p++q)) σ)) (h3:∀ p q,p.length + q.length <= ao->P (.tup p) (.tup q) (.ok (.tup (p++q)) σ)) (h4:∀ a b xs ys,a8 σ a=some xs->a8 σ b=some ys->xs.length + ys.length <= ao->P a b (.ok (.fl (xs++ys)) σ)):∀ a b,P a b (agI a b σ):=by
 intro a b
 have ls:P a b (match a8 σ a with
  | some x=>match a8 σ b with
   | some y=>if x.length + y.length <= ao then .ok (.fl (x++y)) σ else .stuck
   | none=>.stuck
  | none=>.stuck):=by
  cases e1:a8 σ a with
  | none=>exact h0 _ _
  | some xs =>
   cases e2:a8 σ b with
   | none=>exact h0 _ _
   | some ys =>
    dsimp only
    by_cases hl:xs.length + ys.length <= ao
    ·rw [if_pos hl]; exact h4 a b xs ys e1 e2 hl
    ·rw [if_neg hl]; exact h0 _ _
 cases a with
 | int i =>
  cases b with
  | int j=>exact h1 i j
  | _=>exact h0 _ _
 | str p =>
  cases b with
  | str q =>
   show P _ _ (if p.length + q.length <= ao then ac.ok (PV.str (p++q)) σ else .stuck)
   by_cases hl:p.length + q.length <= ao
   ·rw [if_pos hl]; exact h2 p q hl
   ·rw [if_neg hl]; exact h0 _ _
  | _=>exact h0 _ _
 | tup p =>
  cases b with
  | tup q =>
   show P _ _ (if p.length + q.length <= ao then ac.ok (PV.tup (p++q)) σ else .stuck)
   by_cases hl:p.length + q.length <= ao
   ·rw [if_pos hl]; exact h3 p q hl
   ·rw [if_neg hl]; exact h0 _ _
  | _=>exact h0 _ _
 | _=>exact ls
theorem adq {a b:PV} {x y:Value} (r:R K.hb s.heap σ α) (va:VR s.heap α a x) (vb:VR s.heap α b y):Runs K VR A (binaryOp .Add x y) (agI a b σ) s α:=by
 refine ajn (P:=fun a b c=>VR s.heap α a x->VR s.heap α b y->Runs K VR A (binaryOp .Add x y) c s α) (fun zz zz zz zz hc=>absurd rfl hc) (fun i j va vb zz zz=>?_) (fun p q hl va vb zz zz=>?_) (fun p q hl va vb zz zz=>?_) (fun a b xs ys h1 h2 hl va vb zz zz=>?_) a b va vb
 ·obtain ⟨_,rfl⟩:=va.intE; obtain ⟨_,rfl⟩:=vb.intE; exact P.add_int (.here r (.int _ _))
 ·obtain ⟨_,rfl,h1⟩:=va.strE; obtain ⟨_,rfl,h2⟩:=vb.strE
  exact PyProof.Rows.add_str (fun t' tk=>.here r (.str _ _ (rf h1 h2))) (b8 hl)
 ·obtain ⟨t,vs,n,rfl,e1,n1,v1⟩:=va.tupE
  obtain ⟨u,ws,m,rfl,e2,n2,v2⟩:=vb.tupE
  refine yO e1 e2 (by rw [<- v1.1,<- v2.1]; exact b8 hl) (fun h=>?_) (fun zz h=>?_) (.tup r (v1.append v2))
  ·refine ⟨_,_,_,rfl,.refl,r,?_,.refl _⟩
   have:_=0:=v1.1.trans (by rw [h]; rfl)
   rw [List.eq_nil_of_length_eq_zero this]; exact vb
  ·refine ⟨_,_,_,rfl,.refl,r,?_,.refl _⟩
   have:_=0:=v2.1.trans (by rw [h]; rfl)
   rw [List.eq_nil_of_length_eq_zero this,List.append_nil]; exact va
 ·obtain ⟨l,vs,n,rfl,e1,v1⟩:=d7 r va h1
  obtain ⟨l2,ws,m,rfl,e2,v2⟩:=d7 r vb h2
  exact aaM e1 e2 (by rw [<- v1.1,<- v2.1]; exact b8 hl) (.fl r (v1.append v2))
theorem acQ {a b:PV} {x y:Value} (r:R K.hb s.heap σ α) (va:VR s.heap α a x) (vb:VR s.heap α b y):Runs K VR A (binaryOp .Mult x y) (aiL a b σ) s α:=by
 intro hc tk
 cases b with
 | int j =>
  obtain ⟨_,rfl⟩:=vb.intE
  cases a with
  | int i =>
   obtain ⟨_,rfl⟩:=va.intE
   change (if sL i j=true then ac.ok (PV.int (i * j)) σ else .stuck) ≠ .stuck at hc
   show wpAny _ _ _ (bm K VR (if sL i j=true then ac.ok (PV.int (i * j)) σ else .stuck) s α) (bi K A (if sL i j=true then ac.ok (PV.int (i * j)) σ else .stuck) s α) s
   by_cases hm:sL i j=true
   ·rw [if_pos hm]
    refine P.mul_int (.here r (.int _ _)) ?_
    exact (of_decide_eq_true hm).elim (fun h=>.of_left (wz h)) fun h=>.of_right (wz h)
   ·rw [if_neg hm] at hc; exact absurd rfl hc
  | str p =>
   obtain ⟨_,rfl,hx⟩:=va.strE
   change (if p.length <= 100/\0 <= j/\j <= 100 then ac.ok (PV.str (Txt.mul p j)) σ else .stuck) ≠ .stuck at hc
   show wpAny _ _ _ (bm K VR (if p.length <= 100/\0 <= j/\j <= 100 then ac.ok (PV.str (Txt.mul p j)) σ else .stuck) s α) (bi K A (if p.length <= 100/\0 <= j/\j <= 100 then ac.ok (PV.str (Txt.mul p j)) σ else .stuck) s α) s
   by_cases h0:p.length <= 100/\0 <= j/\j <= 100
   ·rw [if_pos h0]; exact SB.mul (aa9 h0) fun t' tk=>.here r (.str _ _ (adJ hx))
   ·rw [if_neg h0] at hc; exact absurd rfl hc
  | _=>exact absurd rfl hc
 | _=>exact absurd rfl hc
theorem abm {o:Op} {a b:PV} {x y:Value} (hA:dO A) (r:R K.hb s.heap σ α) (va:VR s.heap α a x) (vb:VR s.heap α b y) :
  Runs K VR A (binaryOp (aiG o) x y) (g9 o a b σ) s α:=by
 cases o with
 | add=>exact adq r va vb
 | mul=>exact acQ r va vb
 | sub=>exact jZ va vb fun i j t u zz=>P.sub_int (.here r (.int _ _))
 | mod =>
  refine jZ va vb fun i j t u hc=>?_
  by_cases h0:j=0
  ·rw [if_pos h0] at hc; exact absurd rfl hc
  ·rw [if_neg h0]; exact mod_int' h0 (.here r (.int _ _))
 | fdiv =>
  refine jZ va vb fun i j t u hc=>?_
  by_cases h0:j ≠ 0/\j.natAbs < 1073741824
  ·rw [if_pos h0]; exact floordiv_int h0.1 (.here r (.int _ _)) (.inl (PyProof.noPylong_small h0.2))
  ·rw [if_neg h0] at hc; exact absurd rfl hc
 | pow =>
  refine jZ va vb fun i j t u hc=>?_
  by_cases h0:0 <= j/\j <= 100/\i=10
  ·rw [if_pos h0]
   obtain ⟨h1,h2,rfl⟩:=h0
   refine pow_int h1 ?_ (.here r (.int _ _))
   have:Builtin.Int.intBits 10=4:=by decide +kernel
   rw [this]; (grind)
  ·rw [if_neg h0] at hc; exact absurd rfl hc
end
end Mine
namespace Mine
open PySem PyProof.Rows
section
variable {K:Kt} {A:Around} {s:Shared} {α:AL} {σ:ab}
theorem VR.ne_none {h:Heap} {a:PV} {x:Value} (v:VR h α a x) (hn:a ≠ .none):x ≠ .none:=by
 cases v <;> first | exact absurd rfl hn | (intro e; contradiction)
theorem pX {a:PV} {x:Value} {xs:List PV} {l:Addr} {ak:List Value} {n:Nat} {T:String} (hT:T = "list" \/ T = "tuple") (hA:dO A) (r:R K.hb s.heap σ α) (va:VR s.heap α a x)
  (e1:s.heap.get? l=some { cls:=.type T,data:=.seq ak.toArray n }) (vs:aT s.heap α xs ak) :
  Runs K cR A (compareOp .In x (.ref l)) (ac.ofOpt (iL σ a xs) σ) s α ∧
  Runs K cR A (compareOp .NotIn x (.ref l)) (ac.ofOpt ((iL σ a xs).map (!·)) σ) s α:=by
 unfold iL
 cases h1:bA 16 σ a with
 | none=>exact ⟨fun hc=>absurd rfl hc,fun hc=>absurd rfl hc⟩
 | some d =>
  cases h2:xs.mapM (bA 16 σ) with
  | none=>exact ⟨fun hc=>absurd rfl hc,fun hc=>absurd rfl hc⟩
  | some ds =>
   obtain ⟨as,r1,c1,p1⟩:=jy r 16 a x d va h1
   obtain ⟨bs,r2,c2,p2⟩:=lm (n:=16) h2 vs.1 fun i x v d e1 e2 e3=>jy r 16 x v d (vs.2 i x v e1 e2) e3
   have hu:A.units + 1 + min (PyData.depthAll ds) d.depth < cLine:=by have:=hA.units; (grind)
   rcases hT with rfl | rfl
   ·have rc:Reads s.heap (.ref l) (.list ds) (l::bs):=.list e1 rfl rfl (by simpa using r2)
    exact ⟨fun zz zz=>SeqAt.in_list_reads rc r1 (by simpa [PyData.canLay0] using c2) c1 hu ⟨_,σ,α,rfl,.refl,r,rfl,.refl s⟩,
     fun zz zz=>SeqAt.notIn_list_reads rc r1 (by simpa [PyData.canLay0] using c2) c1 hu ⟨_,σ,α,rfl,.refl,r,rfl,.refl s⟩⟩
   ·have rc:Reads s.heap (.ref l) (.tuple ds) bs:=.tuple e1 rfl rfl (by simpa using r2)
    exact ⟨fun zz zz=>SeqAt.in_tuple_reads rc r1 (by simpa [PyData.canLay0] using c2) c1 hu ⟨_,σ,α,rfl,.refl,r,rfl,.refl s⟩,
     fun zz zz=>SeqAt.notIn_tuple_reads rc r1 (by simpa [PyData.canLay0] using c2) c1 hu ⟨_,σ,α,rfl,.refl,r,rfl,.refl s⟩⟩
theorem abA (x:Str) (c:Nat):(!(Builtin.Str.occurrences x ⟨#[c]⟩ 0 x.length 1).isEmpty)=x.cps.toList.contains c:=by
 rw [StrLaws.found_one]; simp
theorem mS {f:Int->Int->Bool} {o:CmpOp} {a b:PV} {x y:Value} (r:R K.hb s.heap σ α) (va:VR s.heap α a x) (vb:VR s.heap α b y)
  (H:∀ i j t u (Q:Value->Shared->Prop) (E:Value->Shared->Prop),Q (.bool (f i j)) s->wpAny (model K.prog K.w) A (compareOp o (.int i t) (.int j u)) Q E s):Runs K cR A (compareOp o x y) (zN f a b σ) s α:=by
 intro hc tk
 cases a with
 | int i =>
  cases b with
  | int j=>obtain ⟨_,rfl⟩:=va.intE; obtain ⟨_,rfl⟩:=vb.intE; exact H i j _ _ _ _ ⟨_,σ,α,rfl,.refl,r,rfl,.refl s⟩
  | _=>exact absurd rfl hc
 | _=>exact absurd rfl hc
theorem xU {f:Bool->Bool} {o:CmpOp} {a b:PV} {x y:Value} (r:R K.hb s.heap σ α) (va:VR s.heap α a x) (vb:VR s.heap α b y)
  (H1:∀ (Q:Value->Shared->Prop) (E:Value->Shared->Prop),Q (.bool (f true)) s->wpAny (model K.prog K.w) A (compareOp o .none .none) Q E s)
  (H2:∀ (x:Value) (Q:Value->Shared->Prop) (E:Value->Shared->Prop),x ≠ .none->Q (.bool (f false)) s->wpAny (model K.prog K.w) A (compareOp o x .none) Q E s)
  (H3:∀ (p q:Bool) (Q:Value->Shared->Prop) (E:Value->Shared->Prop),Q (.bool (f (decide (p=q)))) s->wpAny (model K.prog K.w) A (compareOp o (.bool p) (.bool q)) Q E s):Runs K cR A (compareOp o x y) (isv f a b σ) s α:=by
 intro hc tk
 cases b with
 | none =>
  obtain rfl:=vb.noneE
  show wpAny _ _ _ (bm K cR (.ok (f (fh a)) σ) s α) _ _
  by_cases hn:a=.none
  ·subst hn; obtain rfl:=va.noneE; exact H1 _ _ ⟨_,σ,α,rfl,.refl,r,rfl,.refl s⟩
  ·have:fh a=false:=by cases a <;> first | rfl | exact absurd rfl hn
   rw [this]
   exact H2 _ _ _ (va.ne_none hn) ⟨_,σ,α,rfl,.refl,r,rfl,.refl s⟩
 | bool q =>
  cases a with
  | bool p=>obtain rfl:=va.boolE; obtain rfl:=vb.boolE; exact H3 _ _ _ _ ⟨_,σ,α,rfl,.refl,r,rfl,.refl s⟩
  | _=>exact absurd rfl hc
 | _=>exact absurd rfl hc
theorem aey {a:PV} {i:Nat}:cj a (.ref i) σ=match σ[i]? with
   | some (.lst xs)=>iL σ a xs
   | some (.ds es)=>(match a with
    | .str k=>some (ai k es).isSome
    | _=>none)
   | some (.dp es)=>(eR a).map fun k=>(ai k es).isSome
   | _=>none:=rfl
theorem ahX {σ:ab} {P:PV->PV->Option Bool->Prop} (h0:∀ a b,P a b none) (h1:∀ a xs,P a (.tup xs) (iL σ a xs)) (h2:∀ a xs,P a (.fl xs) (iL σ a xs)) (h3:∀ a i xs,σ[i]?=some (.lst xs)->P a (.ref i) (iL σ a xs)) (h4:∀ c z,P (.str ⟨#[c]⟩) (.str z) (some (z.cps.toList.contains c)))
  (h5:∀ k i es,σ[i]?=some (.ds es)->P (.str k) (.ref i) (some (ai k es).isSome)) (h6:∀ a i es k,σ[i]?=some (.dp es)->eR a=some k->P a (.ref i) (some (ai k es).isSome))
  : ∀ a b,P a b (cj a b σ):=by
 intro a b
 cases b with
 | tup xs=>exact h1 a xs
 | fl xs=>exact h2 a xs
 | str z =>
  cases a with
  | str w =>
   unfold cj
   dsimp only
   cases hcs:w.cps.toList with
   | nil=>exact h0 _ _
   | cons c rr =>
    cases rr with
    | cons _ _=>exact h0 _ _
    | nil =>
     obtain rfl:w=⟨#[c]⟩:=by cases w; simp at hcs; simp [<- hcs]
     exact h4 c z
  | _=>exact h0 _ _
 | ref i =>
  rw [aey]
  cases hs:σ[i]? with
  | none=>exact h0 _ _
  | some m =>
   cases m with
   | lst xs=>exact h3 a i xs hs
   | ds es =>
    cases a with
    | str k=>exact h5 k i es hs
    | _=>exact h0 _ _
   | dp es =>
    dsimp only
    cases hk:eR a with
    | none=>exact h0 _ _
    | some k=>exact h6 a i es k hs hk
   | _=>exact h0 _ _
 | _=>exact h0 _ _
theorem vJ {a b:PV} {x y:Value} (hK:K.Ok) (hA:dO A) (r:R K.hb s.heap σ α) (va:VR s.heap α a x) (vb:VR s.heap α b y):Runs K cR A (compareOp .In x y) (ac.ofOpt (cj a b σ) σ) s α/\Runs K cR A (compareOp .NotIn x y) (ac.ofOpt ((cj a b σ).map (!·)) σ) s α:=by
 refine ahX (P:=fun a b o=>VR s.heap α a x->VR s.heap α b y->Runs K cR A (compareOp .In x y) (ac.ofOpt o σ) s α/\Runs K cR A (compareOp .NotIn x y) (ac.ofOpt (o.map (!·)) σ) s α) (fun zz zz zz zz=>⟨fun hc=>absurd rfl hc,fun hc=>absurd rfl hc⟩) (fun a xs va vb=>?_) (fun a xs va vb=>?_) (fun a i xs hs va vb=>?_) (fun c z va vb=>?_)
  (fun k i es hs va vb=>?_) (fun a i es k hs hk va vb=>?_)
  a b va vb
 ·obtain ⟨l,ak,n,rfl,e1,_,vs⟩:=vb.tupE; exact pX (.inr rfl) hA r va e1 vs
 ·obtain ⟨l,ak,n,rfl,e1,_,vs⟩:=vb.flE; exact pX (.inl rfl) hA r va e1 vs
 ·obtain ⟨l,rfl,el⟩:=vb.refE
  obtain ⟨ak,n,e1,vs⟩:=r.obj i _ l hs el; exact pX (.inl rfl) hA r va e1 vs
 ·obtain ⟨_,rfl,_⟩:=vb.strE
  obtain ⟨_,rfl,_⟩:=va.strE
  exact ⟨fun zz zz=>PyProof.Rows.in_str (by rw [abA]; exact ⟨_,σ,α,rfl,.refl,r,rfl,.refl s⟩),fun zz zz=>PyProof.Rows.notIn_str (by rw [abA]; exact ⟨_,σ,α,rfl,.refl,r,rfl,.refl s⟩)⟩
 ·obtain ⟨l,rfl,el⟩:=vb.refE
  obtain ⟨_,rfl,_⟩:=va.strE; exact ajN hK r hs el
 ·obtain ⟨l,rfl,el⟩:=vb.refE
  exact ajO hK hA r hs el hk va
theorem fk {o:Cm} {a b:PV} {x y:Value} (hK:K.Ok) (hA:dO A) (r:R K.hb s.heap σ α) (va:VR s.heap α a x) (vb:VR s.heap α b y) :
  Runs K cR A (compareOp (gK o) x y) (bp o a b σ) s α:=by
 cases o with
 | eq=>exact abk hA r va vb
 | ne=>exact abj hA r va vb
 | lt=>exact mS r va vb fun i j t u Q E h=>P.lt_int h
 | le=>exact mS r va vb fun i j t u Q E h=>P.le_int h
 | gt=>exact mS r va vb fun i j t u Q E h=>P.gt_int h
 | ge=>exact mS r va vb fun i j t u Q E h=>P.ge_int h
 | is=>exact xU (f:=id) r va vb (fun Q E h=>is_none_none h) (fun x Q E hn h=>is_none_ne hn h) fun p q Q E h=>is_bool h
 | isNot=>exact xU (f:=(!·)) r va vb (fun Q E h=>isnot_none_none h) (fun x Q E hn h=>isnot_none_ne hn h) fun p q Q E h=>isnot_bool h
 | isin=>exact (vJ hK hA r va vb).1
 | notin=>exact (vJ hK hA r va vb).2
end
end Mine
namespace Mine
open PySem PyProof.Rows
noncomputable def dP (ys:List Str) (i:Nat):List Str:=cH (ys.take i)
noncomputable def tU (a:List Str) (x:Str):List Str:=if a.any (· == x) then a else a++[x]
theorem xS {ys:List Str} {i:Nat} {y:Str} (h:ys[i]?=some y):dP ys (i + 1)=tU (dP ys i) y:=by
 unfold dP cH
 rw [List.take_add_one,h,Option.toList_some,List.foldl_append]; rfl
theorem afM (a:List Str) (v k:Str):(tU a v).any (· == k)=(a.any (· == k) || decide (k=v)):=by
 unfold tU
 by_cases h:a.any (· == v)=true
 ·rw [if_pos h]
  by_cases e:k=v
  ·subst e; rw [h]; rfl
  ·simp [e]
 ·rw [if_neg h,List.any_append]
  congr 1
  by_cases e:k=v
  ·subst e; simp
  ·have:(v == k)=false:=by simpa using fun q:v=k=>e q.symm
   simp [e,this]
theorem tj (a:List Str) (v:Str):(tU a v).length=if a.any (· == v) then a.length else a.length + 1:=by
 unfold tU; split <;> simp
theorem ae0 (l:List Str):(cH l).length <= l.length:=by
 unfold cH
 have:∀ (l a:List Str),(l.foldl tU a).length <= a.length + l.length:=by
  intro l
  induction l with
  | nil=>intro a; simp
  | cons x l ih =>
   intro a
   have h1:=ih (tU a x)
   have h2:=tj a x
   rw [List.foldl_cons,List.length_cons]
   split at h2 <;> (grind)
 have h:=this l []
 rw [List.length_nil,Nat.zero_add] at h
 exact h
theorem ahH (ys:List Str) (i:Nat):(dP ys i).length <= i:=aE (ae0 _) (by rw [List.length_take]; exact Nat.min_le_left _ _)
theorem abw:∀ {vs:List Value} {ys:List Str},StrsAre vs ys->∀ (i:Nat) (v:Value),vs[i]?=some v->∃ y t,ys[i]?=some y/\v=.str y t
 | _,_,.nil,i,v,h=>by simp at h
 | _,_,.cons y t r,0,v,h=>by simp at h; exact ⟨y,t,rfl,h.symm⟩
 | _,_,.cons y t r,i + 1,v,h=>by simpa using abw r i v (by simpa using h)
theorem tS:∀ {vs:List Value} {ys:List Str},StrsAre vs ys->vs.length=ys.length
 | _,_,.nil=>rfl
 | _,_,.cons _ _ r=>by simp [tS r]
section
variable {prog:Program} {w:World} {A:Around} {R:Result->Shared->Prop} {I:Addr} {fp wr:List Addr} {G:Array GenState->Array GenState->Prop} {n:Nat} {P:Nat->Value->Prop} {St:Nat->Shared->Prop}
theorem zF (W:WalksS prog w A.in1 I fp wr G n P St) (S:Addr) (hSf:S ∉ fp) (ys:List Str) (hval:∀ i v,P i v->∃ y t,ys[i]?=some y/\v=.str y t) (hb:n + 1 < scanBound) :
  ∀ (k i:Nat) (s:Shared),n - i=k->i <= n->St i s->s.heap.SetOf (strKind prog w) S (fun z=>(dP ys i).any (· == z)) (dP ys i).length ->
   (∀ s',Moved (S::wr) G s s'->s'.heap.SetOf (strKind prog w) S (fun z=>(dP ys n).any (· == z)) (dP ys n).length->R (.ok (.ret .none)) s') ->
   codeAny (model prog w) A (.builtin "set.update.loop" ⟨[.ref S,.ref I],[]⟩) R s:=by
 have hSw:S ∉ wr:=fun h=>hSf (W.sub _ h)
 have hsub:∀ b ∈ wr,b ∈ S::wr:=fun b hb=>bG _ hb
 have stay:∀ {s s':Shared} {i:Nat},Moved wr G s s'->s.heap.SetOf (strKind prog w) S (fun z=>(dP ys i).any (· == z)) (dP ys i).length->s'.heap.SetOf (strKind prog w) S (fun z=>(dP ys i).any (· == z)) (dP ys i).length:=by
  intro s s' i hm hS
  obtain ⟨o,es,ep,t,ho,rest⟩:=hS
  exact ⟨o,es,ep,t,hm.heap S _ hSw ho,rest⟩
 intro k
 induction k with
 | zero =>
  intro i s hk hi hst hS hR
  have:i=n:=by grind
  subst this
  refine codeAny_builtin F.entry_set_update_loop ?_
  rw [Around.under_plainId F.plain_set_update_loop _]
  show wpAny _ A.in1 (pyNext (.ref I) >>= _) _ _ s
  refine wpAny_bind (W.done s _ _ hst fun s' hm=>?_)
  exact wpAny_pure (hR s' (hm.mono hsub) (stay hm hS))
 | succ k ih =>
  intro i s hk hi hst hS hR
  have hlt:i < n:=by grind
  refine codeAny_builtin F.entry_set_update_loop ?_
  rw [Around.under_plainId F.plain_set_update_loop _]
  show wpAny _ A.in1 (pyNext (.ref I) >>= _) _ _ s
  refine wpAny_bind (W.item i s _ _ hlt hst fun v s' hP hst' hm=>?_)
  obtain ⟨y,t,hy,rfl⟩:=hval i v hP
  show wpAny _ A.in1 (holding [Value.str y t] (setAdd S (.str y t)) >>= _) _ _ s'
  refine wpAny_bind (wpAny_holding ?_)
  unfold setAdd
  refine wpAny_holding (wpAny_bind ((strKind prog w).pyHash (k:=y) (strKind_is _ _ _ _) ?_))
  have hS':s'.heap.SetOf (strKind prog w) S (fun z=>(dP ys i).any (· == z)) (dP ys i).length:=stay hm hS
  refine wpAny_setAddHashed_of (knd:=strKind prog w) (s:={ s' with toks:=s'.toks + 1 }) (strKind_is _ _ _ _) rfl hS' (by have:=ahH ys i; (grind)) fun h' hsb hS2=>?_
  have hSi:h'.SetOf (strKind prog w) S (fun z=>(dP ys (i + 1)).any (· == z)) (dP ys (i + 1)).length:=
   SetOf_congr hS2 (fun z=>by rw [xS hy,afM]) (by rw [xS hy,tj])
  refine wpAny_pure ⟨plainId_quiet F.plain_set_update_loop _,ih (i + 1) _ (by grind) hlt (W.frame _ s' _ _ hst' (Nat.le_succ _) fun b hb o e=>?_) hSi fun s'' hm'' hS''=>?_⟩
  ·rw [hsb.2 b (fun h:b=S=>hSf (h ▸ hb))]; exact e
  ·refine hR s'' (Moved.trans W.gtrans ((hm.mono hsub).then_heap (Nat.le_succ _) fun b o hb e=>?_) hm'') hS''
   rw [hsb.2 b (fun h:b=S=>hb (by rw [h]; exact List.mem_cons_self))]; exact e
end
theorem yu:isSubtype (.type "tuple") (.type "set")=pure false:=by rw [isSubtype_type]; kernel_rfl
theorem qQ:isSubtype (.type "tuple") (.type "frozenset")=pure false:=by rw [isSubtype_type]; kernel_rfl
section
variable {prog:Program} {w:World} {A:Around} {E:Value->Shared->Prop} {s:Shared}
set_option maxHeartbeats 1600000 in
theorem afD {l:Addr} {T:String} {ak:Array Value} {n:Nat} {ys:List Str} {led:Bool} {Q:Value->Shared->Prop} (hh:A.handled=none) (hT:T = "list" \/ T = "tuple")
  (ho:s.heap.get? l=some { cls:=.type T,data:=.seq ak n }) (hi:StrsAre ak.toList ys) (hb:ak.size + 1 < scanBound)
  (h:∀ (h':Heap) (tk:Nat),h'.SetOf (strKind prog w) s.heap.objs.size (fun z=>(cH ys).any (· == z)) (cH ys).length->(∀ b o,b < s.heap.objs.size->s.heap.get? b=some o->h'.get? b=some o)->Q .none { s with heap:=h',toks:=tk }) :
  codeAny (model prog w) A (.call (.builtin "set.__init__") ⟨[.ref s.heap.objs.size,.ref l],[]⟩) (wants Q E) { s with heap:=s.heap.push { cls:=.type "set",dict:=none,data:=.set #[] 0 (.fresh 0 0 led) } }:=by
 have hS:(s.heap.push { cls:=.type "set",dict:=none,data:=.set #[] 0 (.fresh 0 0 led) }).get? s.heap.objs.size=some { cls:=.type "set",dict:=none,data:=.set #[] 0 (.fresh 0 0 led) }:=Heap.get?_push_size _ rfl
 have hTs:Shared.TypeIs { s with heap:=s.heap.push { cls:=.type "set",dict:=none,data:=.set #[] 0 (.fresh 0 0 led) } } (.ref s.heap.objs.size) "set" := ⟨_,hS,rfl⟩
 have hlS:l < s.heap.objs.size:=Heap.lt_size ho
 have hol:(s.heap.push { cls:=.type "set",dict:=none,data:=.set #[] 0 (.fresh 0 0 led) }).get? l=some { cls:=.type T,data:=.seq ak n }:=Heap.get?_push_of_some _ ho
 have hlen:(ys.take ak.size)=ys:=List.take_of_length_le (by rw [<- tS hi]; simp)
 have hmet:dP ys ak.size=cH ys:=by unfold dP; rw [hlen]
 have hh3:A.in1.in1.handled=none:=by simp [hh]
 have hneI:l ≠ (s.heap.push { cls:=.type "set",dict:=none,data:=.set #[] 0 (.fresh 0 0 led) }).objs.size:=by
  rw [Heap.size_push]; exact Nat.ne_of_lt (Nat.lt_succ_of_lt hlS)
 have hSf:s.heap.objs.size ∉ [(s.heap.push { cls:=.type "set",dict:=none,data:=.set #[] 0 (.fresh 0 0 led) }).objs.size,l]:=by
  rw [Heap.size_push]; simp only [List.mem_cons,List.not_mem_nil,or_false,not_or]
  exact ⟨Nat.ne_of_lt (Nat.lt_succ_self _),Nat.ne_of_gt hlS⟩
 have hval:∀ (i:Nat) (v:Value),ak[i]?=some v->∃ y t,ys[i]?=some y/\v=.str y t:=fun i v hv=>abw hi i v (by rw [Array.getElem?_toList]; exact hv)
 have fin:∀ (s':Shared) (wr:List Addr),(∀ b ∈ wr,b=s.heap.objs.size\/b=(s.heap.push { cls:=.type "set",dict:=none,data:=.set #[] 0 (.fresh 0 0 led) }).objs.size)->∀ (h1:Heap),(∀ b o,s.heap.get? b=some o->h1.get? b=some o) ->
   Moved wr (fun a b=>b=a) { s with heap:=h1 } s'->s'.heap.SetOf (strKind prog w) s.heap.objs.size (fun z=>(dP ys ak.size).any (· == z)) (dP ys ak.size).length->Q .none s':=by
  intro s' wr hwr h1 hk hm hS'
  obtain ⟨h',g',d',tk',os'⟩:=s'
  have eg:g'=s.gens:=hm.gens
  have ed:d'=s.drawn:=hm.drawn
  have eo:os'=s.os:=hm.os
  subst eg; subst ed; subst eo
  refine h h' tk' (hmet ▸ hS') fun b o hb e=>hm.heap b o (fun q=>?_) (hk b o e)
  rcases hwr b q with q | q
  ·exact absurd q (Nat.ne_of_lt hb)
  ·rw [Heap.size_push] at q
   exact absurd q (Nat.ne_of_lt (Nat.lt_succ_of_lt hb))
 have start:∀ (c:String),Heap.SetOf (strKind prog w) ((s.heap.push { cls:=.type "set",dict:=none,data:=.set #[] 0 (.fresh 0 0 led) }).push { cls:=.type c,data:=.fields #[.ref l,.int 0 0] }) s.heap.objs.size (fun z=>(dP ys 0).any (· == z)) (dP ys 0).length:=fun c =>
  SetOf_congr ((setObjOf_fresh (knd:=strKind prog w) led).setOf (Heap.get?_push_of_some _ hS) (by unfold scanBound; (decide))) (fun zz=>rfl) rfl
 refine codeAny_call_builtin F.called_set.init.plain F.entry_set_init (check_set_init_1 hTs ?_)
 rcases hT with rfl | rfl
 ·have hsls:=F.sub_list_set
  have hslf:=F.sub_list_frozenset
  have hne:(Value.type "list" == Value.type "dict")=false:=by decide
  have hl1:(s.heap.push { cls:=.type "set",dict:=none,data:=.set #[] 0 (.fresh 0 0 led) }).IsList l ak:=⟨_,hol,rfl,n,rfl⟩
  unfold Builtin.«set.__init__» noKeywords Builtin.Frozenset.updateFrom
  generalize hPI:pyIter=PI
  wp_walk
  subst hPI
  refine wpAny_pyIter_list hl1 (wpAny_bind (wpAny_runValue ?_))
  refine zF ((Walks.list hh3 _ l hneI ak).toS) s.heap.objs.size hSf ys hval hb (ak.size - 0) 0 _ (by grind) (Nat.zero_le _) ?hst ?hS0 ?hR
  case hst=>exact ⟨⟨_,Heap.get?_push_size _ rfl,rfl,rfl⟩,hl1.push _⟩
  case hS0=>exact start _
  case hR =>
  intro s' hm hS'
  show wpAny _ _ _ _ _ _
  refine wpAny_pure ?_
  show wpAny _ _ (ret Value.none) _ _ _
  refine wpAny_pure ?_
  refine fin s' _ ?_ _ (fun b o e=>Heap.get?_push_of_some _ (Heap.get?_push_of_some _ e)) hm hS'
  intro b hb
  rcases List.mem_cons.mp hb with q | q
  ·exact .inl q
  ·exact .inr (List.mem_singleton.mp q)
 ·have hsls:=yu
  have hslf:=qQ
  have hne:(Value.type "tuple" == Value.type "dict")=false:=by decide
  have hl1:(s.heap.push { cls:=.type "set",dict:=none,data:=.set #[] 0 (.fresh 0 0 led) }).IsTuple l ak:=⟨_,hol,rfl,n,rfl⟩
  unfold Builtin.«set.__init__» noKeywords Builtin.Frozenset.updateFrom
  generalize hPI:pyIter=PI
  wp_walk
  subst hPI
  refine wpAny_pyIter_tuple hl1 (wpAny_bind (wpAny_runValue ?_))
  refine zF ((Walks.tuple hh3 _ l hneI ak).toS) s.heap.objs.size hSf ys hval hb (ak.size - 0) 0 _ (by grind) (Nat.zero_le _) ?hst2 ?hS2 ?hR2
  case hst2=>exact ⟨⟨_,Heap.get?_push_size _ rfl,rfl,rfl⟩,⟨_,Heap.get?_push_of_some _ hol,rfl,n,rfl⟩⟩
  case hS2=>exact start _
  case hR2 =>
  intro s' hm hS'
  show wpAny _ _ _ _ _ _
  refine wpAny_pure ?_
  show wpAny _ _ (ret Value.none) _ _ _
  refine wpAny_pure ?_
  refine fin s' _ ?_ _ (fun b o e=>Heap.get?_push_of_some _ (Heap.get?_push_of_some _ e)) hm hS'
  intro b hb
  rcases List.mem_cons.mp hb with q | q
  ·exact .inl q
  ·exact .inr (List.mem_singleton.mp q)
set_option maxRecDepth 100000 in
set_option maxHeartbeats 3200000 in
theorem yK {l:Addr} {T:String} {ak:Array Value} {n:Nat} {ys:List Str} {Q:Value->Shared->Prop} (hh:A.handled=none) (hT:T = "list" \/ T = "tuple")
  (ho:s.heap.get? l=some { cls:=.type T,data:=.seq ak n }) (hi:StrsAre ak.toList ys) (hb:ak.size + 1 < scanBound)
  (h:∀ (h':Heap) (tk:Nat),h'.SetOf (strKind prog w) s.heap.objs.size (fun z=>(cH ys).any (· == z)) (cH ys).length->(∀ b o,b < s.heap.objs.size->s.heap.get? b=some o->h'.get? b=some o)->Q (.ref s.heap.objs.size) { s with heap:=h',toks:=tk }) :
  wpAny (model prog w) A (call (.type "set") [.ref l]) Q E s:=by
 obtain ⟨c,tl,hmro⟩:=F.called_set.mro
 have hmade:=F.called_set.made
 have hsub:=F.called_set.sub
 refine wpAny_call (codeAny_of_tree ?_)
 show wpAny _ _ (callAny (.type "set") _) _ _ _
 refine wpAny_pure ⟨Code.quiet_builtin _ (by decide +kernel),codeAny_builtin F.entry_type_call ?_⟩
 rw [Around.under_plain (weight_type_call_type "set" [.ref l] []) rfl]
 have h1:=F.called_set.notType
 have h2:=F.called_set.canCreate
 have hct:=F.typeCall_set_1 (.ref l)
 repeat (any_goals (first | assumption | wp_step))
 refine codeAny_mono (code_set_new_1 (.ref l) (E:=E) (Q₁:=fun obj s₁=>∃ led:Bool,obj=.ref s.heap.objs.size/\s₁={ s with heap:=s.heap.push { cls:=.type "set",dict:=none,data:=.set #[] 0 (.fresh 0 0 led) } }) fun led=>⟨led,rfl,rfl⟩) fun r s₁ hr=>?_
 cases r with
 | error e=>exact hr
 | ok fl =>
  cases fl with
  | ret obj =>
   obtain ⟨led,rfl,rfl⟩:=hr
   have hS:(s.heap.push { cls:=.type "set",dict:=none,data:=.set #[] 0 (.fresh 0 0 led) }).get? s.heap.objs.size=some { cls:=.type "set",dict:=none,data:=.set #[] 0 (.fresh 0 0 led) }:=Heap.get?_push_size _ rfl
   have hTy:Shared.TypeIs { s with heap:=s.heap.push { cls:=.type "set",dict:=none,data:=.set #[] 0 (.fresh 0 0 led) } } (.ref s.heap.objs.size) "set" := ⟨_,hS,rfl⟩
   have hli:=F.called_set.init.lookup
   have hbi:=F.called_set.init.bind (.ref s.heap.objs.size)
   repeat (any_goals (first | assumption | wp_step))
   refine codeAny_mono (afD (led:=led) (E:=E) (Q:=fun r aD=>r=.none/\∃ h' tk,aD={ s with heap:=h',toks:=tk } ∧
     h'.SetOf (strKind prog w) s.heap.objs.size (fun z=>(cH ys).any (· == z)) (cH ys).length/\(∀ b o,b < s.heap.objs.size->s.heap.get? b=some o->h'.get? b=some o)) (by simp [hh]) hT ho hi hb fun h' tk hS' hk=>⟨rfl,h',tk,rfl,hS',hk⟩) fun cg aD ac2=>?_
   cases cg with
   | error e=>exact ac2
   | ok ajZ =>
    cases ajZ with
    | ret r =>
     obtain ⟨rfl,h',tk,rfl,hS',hk'⟩:=ac2
     repeat (any_goals (first | assumption | wp_step))
     exact h _ _ hS' hk'
    | _=>exact ac2.elim
  | _=>exact hr.elim
end
end Mine
namespace Mine
open PySem PyProof.Rows
theorem ou {h:Heap} {α:AL}:∀ {xs:List PV} {l:List Int} {ak:List Value},bS xs=some l->aT h α xs ak->IntsAre ak l
 | [],l,ak,e,v=>by
  obtain rfl:=oi e
  have:ak=[]:=List.eq_nil_of_length_eq_zero v.1.symm
  rw [this]; exact .nil
 | x::xs,l,ak,e,v=>by
  obtain ⟨u,us,rfl,v1,v2⟩:=v.inv_cons
  cases x with
  | int i =>
   obtain ⟨_,rfl⟩:=v1.intE
   simp only [bS] at e
   cases hr:bS xs with
   | none=>rw [hr] at e; contradiction
   | some l'=>rw [hr] at e; obtain rfl:=oi e; exact .cons _ _ (ou hr v2)
  | _=>simp [bS] at e
theorem tN {h:Heap} {α:AL}:∀ {xs:List PV} {l:List Str} {ak:List Value},dS xs=some l->aT h α xs ak->StrsAre ak l
 | [],l,ak,e,v=>by
  obtain rfl:=oi e
  have:ak=[]:=List.eq_nil_of_length_eq_zero v.1.symm
  rw [this]; exact .nil
 | x::xs,l,ak,e,v=>by
  obtain ⟨u,us,rfl,v1,v2⟩:=v.inv_cons
  cases x with
  | str i =>
   obtain ⟨_,rfl,_⟩:=v1.strE
   simp only [dS] at e
   cases hr:dS xs with
   | none=>rw [hr] at e; contradiction
   | some l'=>rw [hr] at e; obtain rfl:=oi e; exact .cons _ _ (tN hr v2)
  | _=>simp [dS] at e
theorem wN (x:String):PyData.strOk (Str.ofString x)=true:=by
 rw [Str.ofString_eq_toList]
 unfold PyData.strOk
 rw [Array.all_eq_true']
 intro c hc
 simp at hc
 obtain ⟨d,_,rfl⟩:=hc
 have:=d.valid
 simp only [decide_eq_true_eq]
 rcases this with h | ⟨_,h⟩
 ·exact Nat.lt_trans h (by decide)
 ·exact h
theorem adN {i:Int} (h:0 <= i/\i < 1000000000):i.natAbs.log2 < 1920:=by
 by_cases h0:i.natAbs=0
 ·rw [h0]; decide
 ·rw [Nat.log2_lt h0]
  exact Nat.lt_of_lt_of_le (show i.natAbs < 1000000000 by grind) (aE (show 1000000000 <= 2 ^ 30 by decide) (Nat.pow_le_pow_right (by decide) (by decide)))
theorem qn:∀ {ak:List Value} {l:List Int},IntsAre ak l->∃ xs:Array (Int × Tok),ak.toArray=intItems xs/\xs.toList.map (·.1)=l
 | _,_,.nil=>⟨#[],by simp [intItems],rfl⟩
 | _,_,.cons n t r=>by
  obtain ⟨xs,e1,e2⟩:=qn r
  refine ⟨⟨(n,t)::xs.toList⟩,?_,by simp [e2]⟩
  have:intItems xs=⟨_⟩:=e1.symm
  simp only [intItems] at e1 ⊢
  rw [<- Array.toList_inj] at e1 ⊢
  simp at e1 ⊢
  exact e1
section
variable {K:Kt} {A:Around} {s:Shared} {α:AL} {σ:ab}
theorem ip {a:Addr} {ak:List Value} {n:Nat} (e:s.heap.get? a=some { cls:=.type "list",data:=.seq ak.toArray n }):s.heap.IsList a ak.toArray:=⟨_,e,rfl,n,rfl⟩
theorem isT {a:Addr} {ak:List Value} {n:Nat} (e:s.heap.get? a=some { cls:=.type "tuple",data:=.seq ak.toArray n }):IsTup s.heap a ak.toArray:=⟨_,e,rfl,n,rfl⟩
noncomputable def qh:B1->Value
 | .len=>.builtin "len" | .list _=>.type "list" | .tuple=>.type "tuple" | .all=>.builtin "all" | .int=>.type "int" | .str=>.type "str" | .lenset=>.none
 | .sum=>.builtin "sum"
 | .min=>.builtin "min" | .max=>.builtin "max"
 | .sorted=>.builtin "sorted"
 | .any=>.builtin "any"
 | .dict=>.none
theorem vX {f:Int->Int->Int} {R:Int->Int->Prop} (rfl':∀ a,R a a) (tr:∀ {a b c},R a b->R b c->R a c) (h1:∀ x y,R (f x y) x) (h2:∀ x y,R (f x y) y) (h3:∀ x y,f x y=x\/f x y=y) (l:List Int):∀ x,(∀ a ∈ x::l,R (l.foldl f x) a)/\l.foldl f x ∈ x::l:=by
 induction l with
 | nil=>exact fun x=>⟨fun a ha=>List.mem_singleton.mp ha ▸ rfl' x,List.mem_cons_self⟩
 | cons y l ih =>
  intro x
  obtain ⟨q1,q2⟩:=ih (f x y)
  have q0:=q1 _ List.mem_cons_self
  refine ⟨fun a ha=>?_,?_⟩
  ·rcases List.mem_cons.mp ha with e | ha
   ·rw [e]; exact tr q0 (h1 x y)
   ·rcases List.mem_cons.mp ha with e | ha
    ·rw [e]; exact tr q0 (h2 x y)
    ·exact q1 a (bG _ ha)
  ·rcases List.mem_cons.mp q2 with e | q
   ·rcases h3 x y with z | z
    ·rw [List.foldl_cons,e.trans z]; exact List.mem_cons_self
    ·rw [List.foldl_cons,e.trans z]; exact bG _ List.mem_cons_self
   ·exact bG _ (bG _ q)
theorem aam (l:List Int) (x:Int):(∀ a ∈ x::l,l.foldl min x <= a)/\l.foldl min x ∈ x::l:=
 vX (R:=(· <= ·)) Int.le_refl Int.le_trans Int.min_le_left Int.min_le_right (fun x y=>by rcases Int.le_total x y with h | h; exact .inl (Int.min_eq_left h); exact .inr (Int.min_eq_right h)) l x
theorem aan (l:List Int) (x:Int):(∀ a ∈ x::l,a <= l.foldl max x)/\l.foldl max x ∈ x::l:=
 vX (R:=fun a b=>b <= a) Int.le_refl (fun p q=>Int.le_trans q p) Int.le_max_left Int.le_max_right (fun x y=>by rcases Int.le_total x y with h | h; exact .inr (Int.max_eq_right h); exact .inl (Int.max_eq_left h)) l x
theorem xV {x:Int} (h:x.natAbs <= 1000 * 2 ^ 40):InLong x:=by unfold InLong; omega
theorem acs {l:List Int} (h1:l.length <= 1000) (h2:l.all (fun x=>decide (x.natAbs < 2 ^ 40))=true):∀ j,j < l.length->InLong (l.getD j 0)/\InLong ((l.take (j + 1)).sum):=by
 have key:∀ (m:List Int),(∀ x ∈ m,x.natAbs < 2 ^ 40)->m.sum.natAbs <= m.length * 2 ^ 40:=by
  intro m
  induction m with
  | nil=>intro _; exact Nat.zero_le _
  | cons x m ih =>
   intro h
   rw [List.sum_cons,List.length_cons,Nat.succ_mul,Nat.add_comm]
   exact aE (Int.natAbs_add_le x m.sum) (Nat.add_le_add (Nat.le_of_lt (h x List.mem_cons_self)) (ih fun y hy=>h y (bG _ hy)))
 intro j hj
 have hall:∀ x ∈ l,x.natAbs < 2 ^ 40:=fun x hx=>of_decide_eq_true (List.all_eq_true.mp h2 x hx)
 refine ⟨xV (aE (Nat.le_of_lt (hall _ (getD_mem hj))) (by decide)),xV (aE (key (l.take (j + 1)) fun x hx=>hall x (List.mem_of_mem_take hx)) (Nat.mul_le_mul_right _ (aE ?_ h1)))⟩
 rw [List.length_take]; exact Nat.min_le_right _ _
inductive ahf (h:Heap) (α:AL) (a:PV) (xs:List PV) (x:Value):Prop
 | mk (l:Addr) (T:String) (vs:List Value) (n:Nat) (e:x=.ref l) (hT:T = "list" \/ T = "tuple") (ht:h.get? l=some { cls:=.type T,data:=.seq (List.toArray vs) n }) (v:aT h α xs vs) (ha:T = "tuple" -> a=.tup xs):ahf h α a xs x
theorem vk {a:PV} {x:Value} {xs:List PV} (r:R K.hb s.heap σ α) (va:VR s.heap α a x) (e:aW σ a=some xs) :
  ahf s.heap α a xs x:=by
 cases a with
 | fl ys=>obtain rfl:=oi e; obtain ⟨l,vs,n,rfl,e1,_,v⟩:=va.flE; exact ⟨l,_,vs,n,rfl,.inl rfl,e1,v,fun h=>by simp at h⟩
 | tup ys=>obtain rfl:=oi e; obtain ⟨l,vs,n,rfl,e1,_,v⟩:=va.tupE; exact ⟨l,_,vs,n,rfl,.inr rfl,e1,v,fun zz=>rfl⟩
 | ref i =>
  obtain ⟨l,rfl,el⟩:=va.refE
  simp only [aW] at e
  cases hs:σ[i]? with
  | none=>rw [hs] at e; contradiction
  | some m =>
   rw [hs] at e
   cases m with
   | lst ys=>obtain rfl:=oi e; obtain ⟨vs,n,e1,v⟩:=r.obj i _ l hs el; exact ⟨l,_,vs,n,rfl,.inl rfl,e1,v,fun h=>by simp at h⟩
   | _=>contradiction
 | _=>contradiction
theorem bm.list {fz:Bool} {xs:List PV} {vs:List Value} {D:Addr} {h':Heap} {n tk:Nat} (hl:xs.length <= ao) (r:R K.hb s.heap σ α) (v:aT s.heap α xs vs) (k:∀ b o,s.heap.get? b=some o->h'.get? b=some o)
  (hD:s.heap.get? D=none) (e:h'.get? D=some { cls:=.type "list",data:=.seq vs.toArray n }):bm K VR (bU fz xs σ) s α (.ref D) { s with heap:=h',toks:=tk }:=by
 unfold bU
 rw [if_pos hl]
 cases fz with
 | true =>
  refine ⟨_,_,_,rfl,.keeps k,r.keeps k,?_,⟨rfl,rfl⟩⟩
  refine VR.flI e (fun hm=>?_) (v.ext (.keeps (F:=[]) k))
  obtain ⟨o,e⟩:=r.liveAll hm; rw [hD] at e; contradiction
 | false =>
  obtain ⟨r',x⟩:=r.add (D:=D) (m:=.lst xs) k hD ⟨vs,n,e,v.ext (.add k hD)⟩
  refine ⟨_,_,_,rfl,x,r',.ref ?_,⟨rfl,rfl⟩⟩
  rw [r.len]; simp [AL.add]
theorem aec {fz:Bool} {xs:List PV} (h:bU fz xs σ ≠ .stuck):xs.length <= ao:=by
 unfold bU at h
 by_cases hl:xs.length <= ao
 ·exact hl
 ·rw [if_neg hl] at h; exact absurd rfl h
theorem vD {fz:Bool} {a:PV} {x:Value} (r:R K.hb s.heap σ α) (va:VR s.heap α a x) :
  Runs K VR A (call (.type "list") [x]) (cI (.list fz) a σ) s α:=by
 intro hc tk
 cases he:aW σ a with
 | none=>exact absurd (show (match aW σ a with | some xs=>bU fz xs σ | none=>.stuck)=.stuck by rw [he]) hc
 | some xs =>
  have e0:cI (.list fz) a σ=bU fz xs σ:=show (match aW σ a with | some xs=>bU fz xs σ | none=>.stuck)=_ by rw [he]
  rw [e0] at hc ⊢
  have hl:=aec hc
  obtain ⟨l,T,vs,n,rfl,hT,e1,v,_⟩:=vk r va he
  refine call_list_seq l hT e1 rfl rfl (fun h' c' k e=>?_) (by simpa [<- v.1] using b8 hl)
  exact bm.list (tk:=s.toks) hl r v k (eA s) e
theorem aaZ {l m:List Int} (h1:m.Perm l) (h2:m.Pairwise (· <= ·)):m=be l:=by
 unfold be
 refine List.Perm.eq_of_pairwise (le:=fun a b=>decide (a <= b)) (fun a b zz zz h1 h2=>?_) (h2.imp fun h=>by simpa using h) (List.pairwise_mergeSort (fun a b c h1 h2=>?_) (fun a b=>?_) l) (h1.trans (List.mergeSort_perm l _).symm)
 ·simp at h1 h2; (grind)
 ·simp at h1 h2 ⊢; (grind)
 ·simp; (grind)
theorem tw {h:Heap}:∀ {vs:List Value} {l:List Int},IntsAre vs l->aT h α (l.map .int) vs
 | _,_,.nil=>.nil
 | _,_,.cons n t r=>.cons (.int n t) (tw r)
theorem pZ {n:Nat} (h:n <= ao):((n:Nat):Int) < 2 ^ 63:=by
 have:ao=1000000:=rfl
 (grind)
theorem oy {h:Heap}:∀ {xs:List PV} {l:List Bool} {vs:List Value},cu xs=some l->aT h α xs vs->vs=l.map .bool
 | [],l,vs,e,v=>by obtain rfl:=oi e; exact List.eq_nil_of_length_eq_zero v.1.symm
 | x::xs,l,vs,e,v=>by
  obtain ⟨u,us,rfl,v1,v2⟩:=v.inv_cons
  cases x with
  | bool b =>
   obtain rfl:=v1.boolE
   simp only [cu] at e
   cases hr:cu xs with
   | none=>rw [hr] at e; contradiction
   | some l'=>rw [hr] at e; obtain rfl:=oi e; rw [oy hr v2]; rfl
  | _=>simp [cu] at e
theorem adY (l:List Bool):(List.range l.length).all (fun i=>l.getD i false)=l.all id:=by
 induction l with
 | nil=>rfl
 | cons b l ih=>rw [List.length_cons,List.range_succ_eq_map,List.all_cons,List.all_map,List.all_cons,<- ih]; rfl
theorem adX (l:List Bool):(List.range l.length).any (fun i=>l.getD i false)=l.any id:=by
 induction l with
 | nil=>rfl
 | cons b l ih=>rw [List.length_cons,List.range_succ_eq_map,List.any_cons,List.any_map,List.any_cons,<- ih]; rfl
theorem vH {o:Obj} {h':Heap} (hk:∀ b o',b ∉ [s.heap.objs.size]->(s.heap.push o).get? b=some o'->h'.get? b=some o'):∀ b o',s.heap.get? b=some o'->h'.get? b=some o':=
 fun b o' e=>hk b o' (by simp; exact Nat.ne_of_lt (Heap.lt_size e)) (Heap.get?_push_of_some _ e)
theorem tI (bs:List Bool):TruthOf K.prog K.w A.in1 (fun i v=>(bs.map Value.bool).toArray[i]?=some v) (fun i=>bs.getD i false):=fun i v s' Q' E' hP hQ=>by
 simp only [List.getElem?_toArray,List.getElem?_map] at hP
 obtain ⟨b,hb,rfl⟩:=Option.map_eq_some_iff.mp hP
 refine wpAny_truthy_bool ?_
 have:bs.getD i false=b:=by simp [List.getD,hb]
 rw [<- this]; exact hQ
theorem tJ {l:Addr} {bs:List Bool} {n:Nat} (e1:s.heap.get? l=some { cls:=.type "list",data:=.seq (bs.map Value.bool).toArray n }) :
  (s.heap.push { cls:=.type "list_iterator",data:=.fields #[.ref l,.int 0 0] }).IsListIter s.heap.objs.size l 0/\(s.heap.push { cls:=.type "list_iterator",data:=.fields #[.ref l,.int 0 0] }).IsList l (bs.map Value.bool).toArray:=
 ⟨⟨_,Heap.get?_push_size _ rfl,rfl,rfl⟩,⟨_,Heap.get?_push_of_some _ e1,rfl,n,rfl⟩⟩
theorem aik {l:Addr} {bs:List Bool} {n:Nat} {Q:Value->Shared->Prop} {E:Value->Shared->Prop} (hA:dO A) (hh:A.handled=none) (e1:s.heap.get? l=some { cls:=.type "list",data:=.seq (bs.map Value.bool).toArray n })
  (h:∀ h' tk,(∀ b o',s.heap.get? b=some o'->h'.get? b=some o')->Q (.bool (bs.all id)) { s with heap:=h',toks:=tk }):wpAny (model K.prog K.w) A (call (.builtin "all") [.ref l]) Q E s:=by
 refine call_all_walk (wpAny_pyIter_list (ip e1) ⟨_,_,_,_,_,_,_,rfl,Walks.list (A:=A.in1) hh _ l (Nat.ne_of_lt (Heap.lt_size e1)) (bs.map Value.bool).toArray,tJ e1,tI bs,fun h' tk hk=>?_⟩)
 have:=h h' tk (vH hk)
 rw [show (bs.map Value.bool).toArray.size=bs.length by simp,adY]; exact this
theorem aij {l:Addr} {bs:List Bool} {n:Nat} {Q:Value->Shared->Prop} {E:Value->Shared->Prop} (hA:dO A) (hh:A.handled=none) (e1:s.heap.get? l=some { cls:=.type "list",data:=.seq (bs.map Value.bool).toArray n })
  (h:∀ h' tk,(∀ b o',s.heap.get? b=some o'->h'.get? b=some o')->Q (.bool (bs.any id)) { s with heap:=h',toks:=tk }):wpAny (model K.prog K.w) A (call (.builtin "any") [.ref l]) Q E s:=by
 refine call_any_walk (wpAny_pyIter_list (ip e1) ⟨_,_,_,_,_,_,_,rfl,Walks.list (A:=A.in1) hh _ l (Nat.ne_of_lt (Heap.lt_size e1)) (bs.map Value.bool).toArray,tJ e1,tI bs,fun h' tk hk=>?_⟩)
 have:=h h' tk (vH hk)
 rw [show (bs.map Value.bool).toArray.size=bs.length by simp,adX]; exact this
theorem acW {a:PV} {x:Value} {l:List Str} {Q:Value->Shared->Prop} {E:Value->Shared->Prop} (hA:dO A) (hh:A.handled=none) (r:R K.hb s.heap σ α) (va:VR s.heap α a x) (hl:(aW σ a).bind dS=some l) (hn:l.length <= 1000)
  (h:∀ D h' tk,(∀ b o,s.heap.get? b=some o->h'.get? b=some o)->(∀ (Q':Value->Shared->Prop) (E':Value->Shared->Prop),(∀ t tk',Q' (.int (cH l).length t) { s with heap:=h',toks:=tk' })->wpAny (model K.prog K.w) A (call (.builtin "len") [.ref D]) Q' E' { s with heap:=h',toks:=tk })->Q (.ref D) { s with heap:=h',toks:=tk }) :
  wpAny (model K.prog K.w) A (call (.type "set") [x]) Q E s:=by
 obtain ⟨xs,h1,h2⟩:=Option.bind_eq_some_iff.mp hl
 obtain ⟨ad,T,vs,n,rfl,hT,e1,v,_⟩:=vk r va h1
 have hS:=tN h2 v
 have hlen:vs.length=l.length:=tS hS
 refine yK hh hT e1 (by simpa using hS) (by rw [List.size_toArray,hlen]; unfold scanBound; (grind)) fun h' tk hset hk=>?_
 refine h _ h' tk (fun b o e=>hk b o (Heap.lt_size e) e) fun Q' E' hq=>?_
 obtain ⟨o,es,ep,t,ho,hex,hd,hel,hmem,hb,hf,hn'⟩:=hset
 refine call_len_set (s:={ s with heap:=h',toks:=tk }) ho hex hd hf (by unfold scanBound at hb; (grind)) ?_
 rw [hn']; exact hq _ _
theorem lB {β:Type} {g:List PV->Option β} {f:β->ac PV} {a:PV} {P:Prop} (h:cE g f a σ ≠ .stuck) (k:∀ xs l,a8 σ a=some xs->g xs=some l->f l ≠ .stuck->cE g f a σ=f l->P):P:=by
 cases he:(a8 σ a).bind g with
 | none=>exact absurd (by unfold cE; rw [he]) h
 | some l =>
  have e:cE g f a σ=f l:=by unfold cE; rw [he]
  exact aS he fun xs h1 h2=>k xs l h1 h2 (e ▸ h) e
theorem w9 {a:PV} {x:Value} {xs:List PV} {l:List Int} (r:R K.hb s.heap σ α) (va:VR s.heap α a x) (h1:a8 σ a=some xs) (h2:bS xs=some l):∃ ad ys,x=.ref ad/\s.heap.IsList ad (intItems ys)/\ys.toList.map (·.1)=l:=by
 obtain ⟨ad,vs,n,rfl,e1,v⟩:=d7 r va h1
 obtain ⟨ys,h3,h4⟩:=qn (ou h2 v)
 exact ⟨ad,ys,rfl,h3 ▸ ip e1,h4⟩
theorem adH {a:PV} {x:Value} (hh:A.handled=none) (r:R K.hb s.heap σ α) (va:VR s.heap α a x):Runs K VR A (call (.builtin "sum") [x]) (cI .sum a σ) s α:=by
 show Runs K VR A _ (cE bS _ a σ) s α
 intro hc tk
 refine lB hc fun xs l h1 h2 hc e=>?_
 rw [e]
 obtain ⟨ad,ys,rfl,hL,h4⟩:=w9 r va h1 h2
 by_cases hl:l.length <= 1000/\l.all (fun x=>decide (x.natAbs < 2 ^ 40))
 ·rw [if_pos hl]
  refine sum_intList hh hL (fun j hj=>?_) fun h' tk t' k=>?_
  ·rw [numAt_eq,preSum_eq,h4]
   exact acs hl.1 hl.2 j (by rw [<- h4]; simpa using hj)
  ·rw [preSum_eq,h4,List.take_of_length_le (by rw [<- h4]; simp)]
   exact ⟨_,_,_,rfl,.keeps k,r.keeps k,.int _ _,⟨rfl,rfl⟩⟩
 ·exact absurd (if_neg hl) hc
theorem aef {a:PV} {x:Value} (hh:A.handled=none) (r:R K.hb s.heap σ α) (va:VR s.heap α a x):Runs K VR A (call (.builtin "min") [x]) (cI .min a σ) s α:=by
 show Runs K VR A _ (cE bS _ a σ) s α
 intro hc tk
 refine lB hc fun xs l h1 h2 hc e=>?_
 rw [e]
 obtain ⟨ad,ys,rfl,hL,h4⟩:=w9 r va h1 h2
 cases l with
 | nil=>exact absurd rfl hc
 | cons x0 l =>
  have hlen:ys.size=l.length + 1:=by have:=congrArg List.length h4; simpa using this
  refine min_intList hh hL (hlen ▸ Nat.succ_pos _) fun u h' tk hv k=>?_
  obtain ⟨t,rfl⟩:=intItems_at hv
  obtain ⟨q1,q2⟩:=argBest_lt (numAt ys) (ys.size - 1)
  rw [hlen] at q1 q2 ⊢
  obtain ⟨m1,m2⟩:=aam l x0
  have hm:numAt ys (argBest (fun i j=>decide (numAt ys i < numAt ys j)) l.length)=l.foldl min x0:=by
   refine Int.le_antisymm ?_ (m1 _ ?_)
   ·obtain ⟨j,hj,e⟩:=mem_getD m2
    have:=q2 j (Nat.le_of_lt_succ hj)
    rw [numAt_eq ys j,h4,e] at this; exact this
   ·rw [numAt_eq,h4]; exact getD_mem (Nat.lt_succ_of_le q1)
  refine ⟨_,_,_,rfl,.keeps k,r.keeps k,?_,⟨rfl,rfl⟩⟩
  rw [show l.length + 1 - 1=l.length from rfl,hm]
  exact .int _ _
theorem aem {a:PV} {x:Value} (hh:A.handled=none) (r:R K.hb s.heap σ α) (va:VR s.heap α a x):Runs K VR A (call (.builtin "max") [x]) (cI .max a σ) s α:=by
 show Runs K VR A _ (cE bS _ a σ) s α
 intro hc tk
 refine lB hc fun xs l h1 h2 hc e=>?_
 rw [e]
 obtain ⟨ad,ys,rfl,hL,h4⟩:=w9 r va h1 h2
 cases l with
 | nil=>exact absurd rfl hc
 | cons x0 l =>
  have hlen:ys.size=l.length + 1:=by have:=congrArg List.length h4; simpa using this
  refine max_intList hh hL (hlen ▸ Nat.succ_pos _) fun u h' tk hv k=>?_
  obtain ⟨t,rfl⟩:=intItems_at hv
  obtain ⟨q1,q2⟩:=argBest_gt (numAt ys) (ys.size - 1)
  rw [hlen] at q1 q2 ⊢
  obtain ⟨m1,m2⟩:=aan l x0
  have hm:numAt ys (argBest (fun i j=>decide (numAt ys i > numAt ys j)) l.length)=l.foldl max x0:=by
   refine Int.le_antisymm (m1 _ ?_) ?_
   ·rw [numAt_eq,h4]; exact getD_mem (Nat.lt_succ_of_le q1)
   ·obtain ⟨j,hj,e⟩:=mem_getD m2
    have:=q2 j (Nat.le_of_lt_succ hj)
    rw [numAt_eq ys j,h4,e] at this; exact this
  refine ⟨_,_,_,rfl,.keeps k,r.keeps k,?_,⟨rfl,rfl⟩⟩
  rw [show l.length + 1 - 1=l.length from rfl,hm]
  exact .int _ _
theorem zA {a:PV} {x:Value} (r:R K.hb s.heap σ α) (va:VR s.heap α a x):Runs K VR A (call (.builtin "sorted") [x]) (cI .sorted a σ) s α:=by
 show Runs K VR A _ (cE sF _ a σ) s α
 intro hc tk
 refine lB hc fun xs l h1 h2 hc e=>?_
 rw [e]
 obtain ⟨ad,vs,n,rfl,e1,v⟩:=d7 r va h1
 unfold sF at h2
 cases h5:bS xs with
 | none=>rw [h5] at h2; contradiction
 | some m =>
  rw [h5] at h2
  dsimp only at h2
  refine vI h2 fun h64 h2=>?_
  obtain rfl:=oi h2
  have hI:=ou h5 v
  refine sorted_ints (ip e1) hI (by rw [hI.length]; exact h64) fun out ns' a1 a2 a3=>?_
  obtain ⟨e,he'⟩:=sortedAll_at s.heap vs out
  have k:∀ b o,s.heap.get? b=some o->(sortedAll s.heap vs out).get? b=some o:=fun b o q=>sortedAll_old q
  rw [aaZ a2 a3] at a1
  refine ⟨_,_,_,rfl,.keeps k,r.keeps k,?_,⟨rfl,rfl⟩⟩
  refine VR.flI (ak:=out.toList) (n:=e) (by simpa using he') (fun hm=>?_) (tw a1)
  obtain ⟨o,q⟩:=r.liveAll hm
  exact absurd (Heap.lt_size q) (Nat.not_lt.mpr (Nat.le_succ _))
theorem ajF {σ:ab} {P:PV->ac PV->Prop} (h0:∀ a,P a .stuck) (h1:∀ z,z.length <= ao->P (.str z) (.ok (.int z.length) σ)) (h2:∀ a xs,aW σ a=some xs->xs.length <= ao->P a (.ok (.int xs.length) σ)):∀ a,P a (cI .len a σ):=by
 intro a
 have ls:P a (gx (fun xs=>if xs.length <= ao then ac.ok (PV.int xs.length) σ else .stuck) a σ):=by
  unfold gx
  cases e:aW σ a with
  | none=>exact h0 _
  | some xs =>
   dsimp only
   by_cases hl:xs.length <= ao
   ·rw [if_pos hl]; exact h2 a xs e hl
   ·rw [if_neg hl]; exact h0 _
 cases a with
 | str z =>
  show P _ (if z.length <= ao then ac.ok (PV.int z.length) σ else .stuck)
  by_cases hl:z.length <= ao
  ·rw [if_pos hl]; exact h1 z hl
  ·rw [if_neg hl]; exact h0 _
 | _=>exact ls
theorem ahk {σ:ab} {P:PV->ac PV->Prop} (h0:∀ a,P a .stuck) (h2:∀ a xs,aW σ a=some xs->xs.length <= ao->P a (.ok (.tup xs) σ)) (a:PV):P a (cI .tuple a σ):=by
 show P a (gx (fun xs=>if xs.length <= ao then ac.ok (PV.tup xs) σ else .stuck) a σ)
 unfold gx
 cases e:aW σ a with
 | none=>exact h0 _
 | some xs =>
  dsimp only
  by_cases hl:xs.length <= ao
  ·rw [if_pos hl]; exact h2 a xs e hl
  ·rw [if_neg hl]; exact h0 _
theorem ae7 {b:B1} {a:PV} {x:Value} (hb:qh b ≠ .none) (hA:dO A) (hh:y7 b=true->A.handled=none) (r:R K.hb s.heap σ α) (va:VR s.heap α a x) :
  Runs K VR A (call (qh b) [x]) (cI b a σ) s α:=by
 cases b with
 | len =>
  refine ajF (P:=fun a c=>VR s.heap α a x->Runs K VR A (call (.builtin "len") [x]) c s α) (fun zz zz hc=>absurd rfl hc) (fun z hl va zz zz=>?_) (fun a xs he hl va zz zz=>?_) a va
  ·obtain ⟨_,rfl,_⟩:=va.strE
   exact P.len_str (by have:=pZ hl; (grind)) (.here r (.int _ _))
  ·obtain ⟨l,T,vs,n,rfl,hT,e1,v,_⟩:=vk r va he
   have hs:(vs.toArray.size:Int) < 2 ^ 63:=by rw [List.size_toArray,<- v.1]; exact pZ hl
   rcases hT with rfl | rfl
   ·refine PyProof.Rows.len_list (ip e1) hs ?_
    simp only [List.size_toArray,<- v.1]; exact .here r (.int _ _)
   ·refine PyProof.Rows.len_tuple (isT e1) hs ?_
    simp only [List.size_toArray,<- v.1]; exact .here r (.int _ _)
 | list fz=>exact vD r va
 | tuple =>
  refine ahk (P:=fun a c=>VR s.heap α a x->Runs K VR A (call (.type "tuple") [x]) c s α) (fun zz zz hc=>absurd rfl hc) (fun a xs he hl va zz zz=>?_) a va
  obtain ⟨l,T,vs,n,rfl,hT,e1,v,ht⟩:=vk r va he
  rcases hT with rfl | rfl
  ·refine call_tuple_list (ip e1) (fun h' k=>?_) (by simpa [<- v.1] using b8 hl)
   have k':∀ b o,s.heap.get? b=some o->(h'.push { cls:=.type "tuple",data:=.seq vs.toArray }).get? b=some o:=fun b o e=>Heap.get?_push_of_some _ (k b o e)
   refine ⟨_,_,_,rfl,.keeps k',r.keeps k',?_,⟨rfl,rfl⟩⟩
   refine VR.tupI (n:=0) (Heap.get?_push_size _ rfl) (fun hm=>?_) (v.ext (.keeps (F:=[]) k'))
   obtain ⟨o,e⟩:=r.liveAll hm
   exact absurd (Heap.lt_size (k _ _ e)) (Nat.lt_irrefl _)
  ·rw [ht rfl] at va
   exact call_tuple_tup (isT e1) ⟨_,_,_,rfl,.refl,r,va,.refl s⟩
 | sum=>exact adH (hh rfl) r va
 | min=>exact aef (hh rfl) r va
 | max=>exact aem (hh rfl) r va
 | sorted=>exact zA r va
 | all =>
  show Runs K VR A _ (cE cu _ a σ) s α
  intro hc tk
  refine lB hc fun xs l h1 h2 zz e=>?_
  rw [e]
  obtain ⟨ad,vs,n,rfl,e1,v⟩:=d7 r va h1
  rw [oy h2 v] at e1
  exact aik hA (hh rfl) e1 fun h' tk k=>⟨_,_,_,rfl,.keeps k,r.keeps k,.bool _,⟨rfl,rfl⟩⟩
 | any =>
  show Runs K VR A _ (cE cu _ a σ) s α
  intro hc tk
  refine lB hc fun xs l h1 h2 zz e=>?_
  rw [e]
  obtain ⟨ad,vs,n,rfl,e1,v⟩:=d7 r va h1
  rw [oy h2 v] at e1
  exact aij hA (hh rfl) e1 fun h' tk k=>⟨_,_,_,rfl,.keeps k,r.keeps k,.bool _,⟨rfl,rfl⟩⟩
 | int =>
  intro hc tk
  cases a with
  | bool b=>obtain rfl:=va.boolE; exact call_int_bool (.here r (.int _ _))
  | _=>exact absurd rfl hc
 | str =>
  intro hc tk
  cases a with
  | str z=>obtain ⟨_,rfl,hz⟩:=va.strE; exact P.str_of_str ⟨_,_,_,rfl,.refl,r,.str _ _ hz,.refl s⟩
  | int i =>
   obtain ⟨_,rfl⟩:=va.intE
   have e0:cI .str (.int i) σ=if 0 <= i/\i < 1000000000 then .ok (.str (Str.ofString (toString i))) σ else .stuck:=rfl
   rw [e0] at hc ⊢
   by_cases hl:0 <= i/\i < 1000000000
   ·rw [if_pos hl]
    exact P.str_of_int (adN hl) (.here r (.str _ _ (wN _)))
   ·rw [if_neg hl] at hc; exact absurd rfl hc
  | _=>exact absurd rfl hc
 | lenset=>exact absurd rfl hb
 | dict=>exact absurd rfl hb
end
end Mine
namespace Mine
open PySem PyProof.Rows
theorem R.set {hb h h' σ α} {i:Nat} {a:Addr} {m:MO} {oa:Obj} (r:R hb h σ α) (ea:α.ix[i]?=some a) (k:∀ b o,b ≠ a->h.get? b=some o->h'.get? b=some o) (al:h'.get? a=some oa)
  (o:aL [] α h α h'->OR hb h' α m a):R hb h' (σ.set i m) α/\aL [] α h α h':=by
 have ha:a ∈ α.ix:=List.mem_of_getElem? ea
 have x:aL [] α h α h':=⟨rfl,⟨[],by simp,fun zz hx=>by simp at hx⟩,fun b o hb e zz=>k b o (fun q=>hb (q ▸ ha)) e,fun b o hb zz e=>.inl (k b o (fun q=>hb (q ▸ ha)) e),
  fun b o zz e=>by
   by_cases q:b=a
   ·subst q; exact ⟨oa,al⟩
   ·exact ⟨o,k b o q e⟩,rfl⟩
 refine ⟨⟨fun b o e=>k b o (fun q=>?_) (r.base b o e),r.fresh,r.nodup,by simp [r.len],fun b hb=>⟨(r.hidden b hb).1,let ⟨o,e⟩:=(r.hidden b hb).2; ⟨o,k b o (fun q=>(r.hidden b hb).1 (q ▸ ha)) e⟩⟩,fun j m' a' e1 e2=>?_,r.hfr,r.fe,fun b hb=>⟨(r.frs b hb).1,let ⟨o,e,d⟩:=(r.frs b hb).2; ⟨o,k b o (fun q=>r.frNot b hb (q ▸ ha)) e,d⟩⟩,r.frNot⟩,x⟩
 ·rw [q,r.fresh a ha] at e; contradiction
 ·by_cases hj:j=i
  ·subst hj
   rw [ea] at e2; obtain rfl:=oi e2
   rw [List.getElem?_set_self (by rw [r.len]; exact (cS ea).1)] at e1
   obtain rfl:=oi e1; exact o x
  ·rw [List.getElem?_set_ne (Ne.symm hj)] at e1
   have hne:a' ≠ a:=fun q=>by
    subst q
    exact hj ((List.getElem?_inj (cS e2).1 r.nodup).mp (e2.trans ea.symm))
   obtain ⟨o',e'⟩:=r.live (List.mem_of_getElem? e2)
   exact (r.obj j m' a' e1 e2).ext x (by rw [e',k a' o' hne e'])
section
variable {K:Kt} {A:Around} {s:Shared} {α:AL} {σ:ab}
theorem ad8 {a:PV} {x:Value} (r:R K.hb s.heap σ α) (va:VR s.heap α a x):Runs K VR A (unaryOp .USub x) (aiJ a σ) s α:=by
 intro hc tk
 cases a with
 | int i=>obtain ⟨_,rfl⟩:=va.intE; exact P.neg_int (.here r (.int _ _))
 | _=>exact absurd rfl hc
theorem jN {a:PV} {x:Value} (r:R K.hb s.heap σ α) (va:VR s.heap α a x):Runs K eZ A (truthy x) (dA a σ) s α:=by
 intro hc tk
 cases a with
 | bool b=>obtain rfl:=va.boolE; exact wpAny_truthy_bool ⟨_,_,_,rfl,.refl,r,rfl,.refl s⟩
 | _=>exact absurd rfl hc
noncomputable def acf:Ty->Option Value
 | .int=>some (.type "int") | .str=>some (.type "str") | .bool=>some (.type "bool") | .tuple=>some (.type "tuple")
 | .list=>some (.type "list")
section
variable {σ:ab} {P:PV->ac Bool->Prop}
theorem ah1 (h0:∀ a,P a .stuck) (h1:∀ i,P (.int i) (.ok true σ)) (h2:∀ b,P (.bool b) (.ok true σ)) (h3:P .none (.ok false σ)) (h4:∀ z,P (.str z) (.ok false σ)):∀ a,P a (eB a .int σ):=by
 intro a
 cases a with
 | int i=>exact h1 i
 | bool b=>exact h2 b
 | none=>exact h3
 | str z=>exact h4 z
 | _=>exact h0 _
theorem agc (h0:∀ a,P a .stuck) (h1:∀ i,P (.int i) (.ok false σ)) (h2:∀ b,P (.bool b) (.ok true σ)) (h3:P .none (.ok false σ)) (h4:∀ z,P (.str z) (.ok false σ)):∀ a,P a (eB a .bool σ):=by
 intro a
 cases a with
 | int i=>exact h1 i
 | bool b=>exact h2 b
 | none=>exact h3
 | str z=>exact h4 z
 | _=>exact h0 _
theorem ah0 (h0:∀ a,P a .stuck) (h1:∀ i,P (.int i) (.ok false σ)) (h2:∀ b,P (.bool b) (.ok false σ)) (h3:P .none (.ok false σ)) (h4:∀ z,P (.str z) (.ok true σ)) (h5:∀ xs,P (.tup xs) (.ok false σ)):∀ a,P a (eB a .str σ):=by
 intro a
 cases a with
 | int i=>exact h1 i
 | bool b=>exact h2 b
 | none=>exact h3
 | str z=>exact h4 z
 | tup xs=>exact h5 xs
 | _=>exact h0 _
theorem ahZ (h0:∀ a,P a .stuck) (h1:∀ i,P (.int i) (.ok false σ)) (h4:∀ z,P (.str z) (.ok false σ)) (h5:∀ xs,P (.tup xs) (.ok true σ)):∀ a,P a (eB a .tuple σ):=by
 intro a
 cases a with
 | int i=>exact h1 i
 | str z=>exact h4 z
 | tup xs=>exact h5 xs
 | _=>exact h0 _
theorem agb (h0:∀ a,P a .stuck) (h1:∀ xs,P (.tup xs) (.ok false σ)) (h2:∀ a xs,a8 σ a=some xs->P a (.ok true σ)):∀ a,P a (eB a .list σ):=by
 intro a
 have ls:P a (match a8 σ a with | some _=>.ok true σ | none=>.stuck):=by
  cases e:a8 σ a with
  | none=>exact h0 _
  | some xs=>exact h2 a xs e
 cases a with
 | tup xs=>exact h1 xs
 | _=>exact ls
end
theorem z7 {t:Ty} {tv:Value} {a:PV} {x:Value} (ht:acf t=some tv) (r:R K.hb s.heap σ α) (va:VR s.heap α a x) :
  Runs K cR A (call (.builtin "isinstance") [x,tv]) (eB a t σ) s α:=by
 have ok:∀ {b:Bool} {tk:Nat},bm K cR (.ok b σ) s α (.bool b) { s with toks:=tk }:=⟨_,_,_,rfl,.refl,r,rfl,⟨rfl,rfl⟩⟩
 have st:∀ (tv:Value) (a:PV),VR s.heap α a x->Runs K cR A (call (.builtin "isinstance") [x,tv]) .stuck s α:=fun zz zz zz hc=>absurd rfl hc
 cases t with
 | int =>
  obtain rfl:=oi ht
  exact ah1 (P:=fun a c=>VR s.heap α a x->Runs K cR A (call (.builtin "isinstance") [x,.type "int"]) c s α) (st _)
   (fun i va zz zz=>by obtain ⟨_,rfl⟩:=va.intE; exact IsiPair.int_int (ok (tk:=s.toks))) (fun b va zz zz=>by obtain rfl:=va.boolE; exact IsiPair.bool_int (ok (tk:=s.toks)))
   (fun va zz zz=>by obtain rfl:=va.noneE; exact IsiPair.NoneType_int ok) (fun z va zz zz=>by obtain ⟨_,rfl,_⟩:=va.strE; exact IsiPair.str_int ok) a va
 | bool =>
  obtain rfl:=oi ht
  exact agc (P:=fun a c=>VR s.heap α a x->Runs K cR A (call (.builtin "isinstance") [x,.type "bool"]) c s α) (st _)
   (fun i va zz zz=>by obtain ⟨_,rfl⟩:=va.intE; exact IsiPair.int_bool ok) (fun b va zz zz=>by obtain rfl:=va.boolE; exact IsiPair.bool_bool (ok (tk:=s.toks)))
   (fun va zz zz=>by obtain rfl:=va.noneE; exact IsiPair.NoneType_bool ok) (fun z va zz zz=>by obtain ⟨_,rfl,_⟩:=va.strE; exact IsiPair.str_bool ok) a va
 | str =>
  obtain rfl:=oi ht
  exact ah0 (P:=fun a c=>VR s.heap α a x->Runs K cR A (call (.builtin "isinstance") [x,.type "str"]) c s α) (st _)
   (fun i va zz zz=>by obtain ⟨_,rfl⟩:=va.intE; exact IsiPair.int_str ok) (fun b va zz zz=>by obtain rfl:=va.boolE; exact IsiPair.bool_str ok)
   (fun va zz zz=>by obtain rfl:=va.noneE; exact IsiPair.NoneType_str ok) (fun z va zz zz=>by obtain ⟨_,rfl,_⟩:=va.strE; exact IsiPair.str_str (ok (tk:=s.toks)))
   (fun xs va zz zz=>by obtain ⟨l,vs,n,rfl,e1,_,v⟩:=va.tupE; exact IsiPair.tuple_str e1 rfl ok) a va
 | tuple =>
  obtain rfl:=oi ht
  exact ahZ (P:=fun a c=>VR s.heap α a x->Runs K cR A (call (.builtin "isinstance") [x,.type "tuple"]) c s α) (st _)
   (fun i va zz zz=>by obtain ⟨_,rfl⟩:=va.intE; exact IsiPair.int_tuple ok) (fun z va zz zz=>by obtain ⟨_,rfl,_⟩:=va.strE; exact IsiPair.str_tuple ok)
   (fun xs va zz zz=>by obtain ⟨l,vs,n,rfl,e1,_,v⟩:=va.tupE; exact IsiPair.tuple_tuple e1 rfl (ok (tk:=s.toks))) a va
 | list =>
  obtain rfl:=oi ht
  exact agb (P:=fun a c=>VR s.heap α a x->Runs K cR A (call (.builtin "isinstance") [x,.type "list"]) c s α) (st _)
   (fun xs va zz zz=>by obtain ⟨l,vs,n,rfl,e1,_,v⟩:=va.tupE; exact IsiPair.tuple_list e1 rfl ok)
   (fun a xs e va zz zz=>by obtain ⟨l,vs,n,rfl,e1,v⟩:=d7 r va e; exact IsiPair.list_list e1 rfl (ok (tk:=s.toks))) a va
theorem ri (i:Int) (n:Nat):b7 i n=seqIndex? i n:=by
 unfold b7 seqIndex?
 by_cases h:0 <= i
 ·have h':¬ i < 0:=by grind
  rw [if_pos h,if_neg h']
  by_cases h2:i.toNat < n
  ·rw [if_pos h2,if_pos (by simp; (grind))]
  ·rw [if_neg h2,if_neg (by simp; (grind))]
 ·have h':i < 0:=by grind
  rw [if_neg h,if_pos h']
  by_cases h2:0 <= i + n
  ·rw [if_pos h2,if_pos (by simp; (grind))]
  ·rw [if_neg h2,if_neg (by simp; (grind))]
theorem rh {i:Int} {n j:Nat} (h:b7 i n=some j):-(n:Int) <= i/\i < n:=by
 unfold b7 at h
 split at h
 ·split at h
  ·(grind)
  ·contradiction
 ·split at h
  ·(grind)
  ·contradiction
theorem ue {l:Addr} {vs:List Value} {n j:Nat} {i:Int} {t:Tok} {u:Value} {Q:Value->Shared->Prop} {E:Value->Shared->Prop} (e1:s.heap.get? l=some { cls:=.type "list",data:=.seq vs.toArray n })
  (hsz:vs.length <= ao) (hj:b7 i vs.length=some j) (hu:vs[j]?=some u) (h:Q u s):wpAny (model K.prog K.w) A (getItem (.ref l) (.int i t)) Q E s:=by
 have hl:=pZ hsz
 unfold b7 at hj
 by_cases h0:0 <= i
 ·rw [if_pos h0] at hj
  split at hj
  ·cases hj; exact wpAny_getItem_list (ip e1) h0 (by grind) (by simpa using hu) h
  ·cases hj
 ·rw [if_neg h0] at hj
  split at hj
  ·cases hj; exact wpAny_getItem_list_neg (ip e1) (by grind) (by simp; grind) (by grind) (by simpa using hu) h
  ·cases hj
theorem aT.get {h:Heap} {xs:List PV} {vs:List Value} {j:Nat} {p:PV} (v:aT h α xs vs) (e:xs[j]?=some p):∃ u,vs[j]?=some u/\VR h α p u:=by
 have hj:=(cS e).1
 have hv:j < vs.length:=by rw [<- v.1]; exact hj
 exact ⟨vs[j],by simp [hv],v.2 j p vs[j] e (by simp [hv])⟩
theorem ry {value slice:Expr} {xs:List PV} {l:Addr} {vs:List Value} {n:Nat} {i:Int} {t:Tok} {T:String} (hT:T = "list" \/ T = "tuple") (hs:∀ o i:Value,subscripted slice false o i=operate [o,i] (getItem o i))
  (r:R K.hb s.heap σ α) (e1:s.heap.get? l=some { cls:=.type T,data:=.seq vs.toArray n }) (v:aT s.heap α xs vs):Runs K VR A (subscriptTail value slice (.ref l) (.int i t)) (iM xs i σ) s α:=by
 intro hc tk
 unfold iM at hc ⊢
 by_cases hl:xs.length <= ao
 ·rw [if_pos hl] at hc ⊢
  cases hj:(b7 i xs.length).bind (xs[·]?) with
  | none=>rw [hj] at hc; exact absurd rfl hc
  | some p =>
   obtain ⟨j,h1,h2⟩:=Option.bind_eq_some_iff.mp hj
   obtain ⟨u,hu,hv⟩:=v.get h2
   have hl':vs.length <= ao:=by rw [<- v.1]; exact hl
   rcases hT with rfl | rfl
   ·refine tail_any (ip e1).typeIs slot_list_getitem.lookup ?_ (hs _ _)
    exact ue e1 hl' (by rw [<- v.1]; exact h1) hu ⟨_,_,_,rfl,.refl,r,hv,.refl s⟩
   ·have hl3:=pZ hl'
    have hr:=rh h1
    have hlen:=v.1
    exact item_tupleT (isT e1) (by grind) (by grind) (by rw [<- ri,<- v.1]; exact h1) hu ⟨_,_,_,rfl,.refl,r,hv,.refl s⟩ (hs _ _)
 ·rw [if_neg hl] at hc; exact absurd rfl hc
theorem aiy {σ:ab} {P:PV->PV->ac PV->Prop} (h0:∀ a b,P a b .stuck) (h1:∀ i es k v,σ[i]?=some (.ds es)->ai k es=some v->P (.ref i) (.str k) (.ok v σ)) (h2:∀ i b es k v,σ[i]?=some (.dp es)->eR b=some k->ai k es=some v->P (.ref i) b (.ok v σ)):∀ a b,P a b (pP a b σ):=by
 intro a b
 cases a with
 | ref i =>
  unfold pP
  dsimp only
  cases hq:σ[i]? with
  | none=>exact h0 _ _
  | some m =>
   cases m with
   | ds es =>
    cases b with
    | str k =>
     dsimp only
     cases hv:ai k es with
     | none=>exact h0 _ _
     | some v=>exact h1 i es k v hq hv
    | _=>exact h0 _ _
   | dp es =>
    dsimp only
    cases hk:eR b with
    | none=>exact h0 _ _
    | some k =>
     show P _ _ (ac.ofOpt (ai k es) σ)
     cases hv:ai k es with
     | none=>exact h0 _ _
     | some v=>exact h2 i b es k v hq hk hv
   | _=>exact h0 _ _
 | _=>exact h0 _ _
theorem acv {value slice:Expr} {a b:PV} {x y:Value} (hA:dO A) (hs:∀ o i:Value,subscripted slice false o i=operate [o,i] (getItem o i)) (r:R K.hb s.heap σ α) (va:VR s.heap α a x) (vb:VR s.heap α b y) :
  Runs K VR A (subscriptTail value slice x y) (pP a b σ) s α:=
 aiy (P:=fun a b c=>VR s.heap α a x->VR s.heap α b y->Runs K VR A (subscriptTail value slice x y) c s α) (fun zz zz zz zz hc=>absurd rfl hc)
  (fun i es k v hq hv va vb zz zz=>by
   obtain ⟨l,rfl,el⟩:=va.refE
   obtain ⟨_,rfl,_⟩:=vb.strE
   obtain ⟨kvs,h1,_⟩:=sS r hq el
   exact tail_any h1.typeIs slot_dict_getitem.lookup (ahU r hq el hv) (hs _ _))
  (fun i b es k v hq hk hv va vb zz zz=>by
   obtain ⟨l,rfl,el⟩:=va.refE
   obtain ⟨xs,h1,_⟩:=sT r hq el
   exact tail_any h1.typeIs slot_dict_getitem.lookup (ahV hA r hq el hk vb hv) (hs _ _)) a b va vb
theorem aiv {σ:ab} {P:PV->PV->ac PV->Prop} (h0:∀ a b,P a b .stuck) (h1:∀ z i c,z.cps.size <= ao->(b7 i z.cps.size).bind (z.cps[·]?)=some c->P (.str z) (.int i) (.ok (.str ⟨#[c]⟩) σ)) (h2:∀ xs i,P (.tup xs) (.int i) (iM xs i σ)) (h3:∀ a xs i,a8 σ a=some xs->P a (.int i) (iM xs i σ))
  (h4:∀ a b,P a b (pP a b σ))
  : ∀ a b,P a b (eP a b σ):=by
 intro a b
 cases b with
 | int i =>
  have ls:P a (.int i) (match a8 σ a with | some xs=>iM xs i σ | none=>.stuck):=by
   cases e:a8 σ a with
   | none=>exact h0 _ _
   | some xs=>exact h3 a xs i e
  cases a with
  | tup xs=>exact h2 xs i
  | str z =>
   show P _ _ (if z.cps.size <= ao then (match (b7 i z.cps.size).bind (z.cps[·]?) with | some c=>ac.ok (.str ⟨#[c]⟩) σ | none=>.stuck) else .stuck)
   by_cases hl:z.cps.size <= ao
   ·rw [if_pos hl]
    cases hj:(b7 i z.cps.size).bind (z.cps[·]?) with
    | none=>exact h0 _ _
    | some c=>exact h1 z i c hl hj
   ·rw [if_neg hl]; exact h0 _ _
  | _=>exact ls
 | _=>exact h4 a _
set_option tactic.hygienic true in
theorem act {value slice:Expr} {a b:PV} {x y:Value} (hA:dO A) (hns:∀ l u p,slice ≠ .Slice l u none p) (r:R K.hb s.heap σ α) (va:VR s.heap α a x) (vb:VR s.heap α b y) :
  Runs K VR A (subscriptTail value slice x y) (eP a b σ) s α:=by
 have hs:∀ o i:Value,subscripted slice false o i=operate [o,i] (getItem o i):=fun o i=>by
  unfold subscripted
  split
  ·rename_i q; exact absurd rfl (hns _ _ _)
  ·rename_i q; contradiction
  ·rfl
 refine aiv (P:=fun a b c=>VR s.heap α a x->VR s.heap α b y->Runs K VR A (subscriptTail value slice x y) c s α) (fun zz zz zz zz hc=>absurd rfl hc) (fun z i c hl hj va vb hc tk=>?_) (fun xs i va vb=>?_) (fun a xs i h1 va vb=>?_)
  (fun a b va vb=>acv hA hs r va vb)
  a b va vb
 ·obtain ⟨_,rfl,hz⟩:=va.strE
  obtain ⟨t,rfl⟩:=vb.intE
  have hl3:=pZ hl
  obtain ⟨j,h1,h2⟩:=Option.bind_eq_some_iff.mp hj
  have hr:=rh h1
  refine tail_any (typeIs_str s z _) F.slot_str_getitem.lookup ?_ (hs _ _)
  refine P.getItem_str (c:=c) (by simp; (grind)) (by rw [<- ri]; exact hj) (.here r (.str _ _ ?_))
  unfold PyData.strOk at hz ⊢
  simp only [Array.all_eq_true'] at hz ⊢
  intro d hd
  simp at hd
  subst hd
  exact hz _ (Array.mem_of_getElem? h2)
 ·obtain ⟨l,vs,n,rfl,e1,_,v⟩:=va.tupE
  obtain ⟨t,rfl⟩:=vb.intE
  exact ry (.inr rfl) hs r e1 v
 ·obtain ⟨l,vs,n,rfl,e1,v⟩:=d7 r va h1
  obtain ⟨t,rfl⟩:=vb.intE
  exact ry (.inl rfl) hs r e1 v
end
end Mine
namespace Mine
open PySem PyProof.Rows
structure zb (env:Env):Prop where
 kind:env.scope.kind=.function
 glob:env.globals=mainGlobals
 bins:env.builtins=builtinsNs
 ws:∀ (i:Nat) (x:Str) (k:NameKind),env.scope.names[i]?=some (x,k)->env.kindOf x=some k
 nodbg:∀ (i:Nat) (x:Str) (k:NameKind),env.scope.names[i]?=some (x,k)->(x == ("__debug__" : Str))=false
structure am (env:Env) (ρ:aq) (h:Heap) (α:AL):Prop where
 ok:zb env
 la:env.locals ∉ α.all
 ns:∃ m,h.Ns env.locals m/\∀ (i:Nat) (x:Str) (v:PV),env.scope.names[i]?=some (x,.local)->ρ[i]?=some (some v)->∃ u,m x=some u/\VR h α v u
 ca:∀ x c,env.cells.lookup x=some c->c ∉ α.all/\c ≠ env.locals/\∃ v,h.IsCell c v
 cd:∀ x y c,env.cells.lookup x=some c->env.cells.lookup y=some c->x=y
 cv:∀ (i:Nat) (x:Str),env.scope.names[i]?=some (x,.cell)->∃ c,env.cells.lookup x=some c/\∀ v,ρ[i]?=some (some v)->∃ u,h.IsCell c (some u)/\VR h α v u
 inb:∀ (i:Nat) (v:PV),ρ[i]?=some (some v)->∃ x k,env.scope.names[i]?=some (x,k)/\(k=.local\/k=.cell)
theorem adj {h h':Heap} {fr:List Addr} {c:Addr} {o:Obj} {v:Option Value} (_e:h.get? c=some o) (_d:o.data=.cell v) (x:gE fr h' c o):h'.get? c=some o:=x.same (by rintro ⟨es,n,q⟩; rw [_d] at q; cases q)
theorem gz {F α h α' h'} {c:Addr} {v:Option Value} (x:aL F α h α' h') (hc:c ∉ α.ix) (hF:c ∉ F) (i:h.IsCell c v):h'.IsCell c v:=by
 obtain ⟨o,e,d⟩:=i
 exact ⟨o,adj e d (x.rest c o hc hF e),d⟩
theorem zP {F α h α' h'} {a:Addr} {m:Str->Option Value} (x:aL F α h α' h') (ha:a ∉ α.ix) (hF:a ∉ F) (n:h.Ns a m):h'.Ns a m:=by
 obtain ⟨o,es,ep,e,r⟩:=id n
 exact (x.rest a o ha hF e).ns n e
noncomputable def qk (env:Env) (F:List Addr):Prop:=env.locals ∉ F/\∀ x c,env.cells.lookup x=some c->c ∉ F
theorem qk.nil {env:Env}:qk env []:=⟨by simp,fun zz zz zz=>by simp⟩
theorem am.ext {F α h α' h'} {env:Env} {ρ:aq} (x:aL F α h α' h') (ap:qk env F) (E:am env ρ h α):am env ρ h' α':=by
 obtain ⟨m,n,hm⟩:=E.ns
 obtain ⟨oL,_,_,eL,_⟩:=id n
 refine ⟨E.ok,x.notAll E.la eL,⟨m,zP x (AL.not_ix E.la) ap.1 n,fun i y v e1 e2=>?_⟩,fun y c hc=>?_,E.cd,fun i y e1=>?_,E.inb⟩
 ·obtain ⟨u,h1,h2⟩:=hm i y v e1 e2
  exact ⟨u,h1,h2.ext x⟩
 ·obtain ⟨h1,h2,v,h3⟩:=E.ca y c hc
  obtain ⟨o,e,d⟩:=id h3
  exact ⟨x.notAll h1 e,h2,v,gz x (AL.not_ix h1) (ap.2 y c hc) h3⟩
 ·obtain ⟨c,hc,hv⟩:=E.cv i y e1
  refine ⟨c,hc,fun v e2=>?_⟩
  obtain ⟨u,h1,h2⟩:=hv v e2
  exact ⟨u,gz x (AL.not_ix (E.ca y c hc).1) (ap.2 y c hc) h1,h2.ext x⟩
section
variable {K:Kt} {A:Around} {s:Shared} {α:AL} {σ:ab} {env:Env} {ρ:aq}
set_option tactic.hygienic true in
theorem vB {C:bn} {i:Nat} {x:Str} {k:NameKind} {p:Pos} (r:R K.hb s.heap σ α) (E:am env ρ s.heap α) (hn:env.scope.names[i]?=some (x,k)) :
  Runs K VR A (eval (.Name x p) env) (ev C (.v i) ρ σ) s α:=by
 intro hc tk
 simp only [akq,ace] at hc ⊢
 split at hc
 ·rename_i v hv
  obtain ⟨x',k',h1,h2⟩:=E.inb i v hv
  rw [hn] at h1; cases h1
  have hk:=E.ok.ws i x k hn
  refine wpAny_Name ?_ (E.ok.nodbg i x k hn)
  rcases h2 with rfl | rfl
  ·obtain ⟨m,n,hm⟩:=E.ns
   obtain ⟨u,h3,h4⟩:=hm i x v hn hv
   exact wpAny_loadName_local E.ok.kind hk n h3 ⟨_,_,_,rfl,.refl,r,h4,.refl s⟩
  ·obtain ⟨c,h3,h4⟩:=E.cv i x hn
   obtain ⟨u,h5,h6⟩:=h4 v hv
   exact wpAny_loadName_cell E.ok.kind hk h3 h5 ⟨_,_,_,rfl,.refl,r,h6,.refl s⟩
 ·exact absurd rfl hc
theorem rn {i:Nat} {x:Str} {p:Pos} {v:Value} {Q:Value->Shared->Prop} {X:Value->Shared->Prop} (hK:K.Ok) (r:R K.hb s.heap σ α) (E:zb env) (hn:env.scope.names[i]?=some (x,.globalImplicit))
  (hv:K.mg x=some v) (h:Q v s):wpAny (model K.prog K.w) A (eval (.Name x p) env) Q X s:=
 Calls.Name_function_global E.kind (E.ws i x _ hn) (Calls.loadGlobal_global (by rw [E.glob]; exact hK.g.keeps r.base) hv h) (E.nodbg i x _ hn)
theorem afZ {i:Nat} {x:Str} {p:Pos} {v:Value} {Q:Value->Shared->Prop} {X:Value->Shared->Prop} (hK:K.Ok) (r:R K.hb s.heap σ α) (E:zb env) (hn:env.scope.names[i]?=some (x,.globalImplicit))
  (hm:K.mg x=none) (hv:K.mb x=some v) (h:Q v s):wpAny (model K.prog K.w) A (eval (.Name x p) env) Q X s:=
 Calls.Name_function_global E.kind (E.ws i x _ hn) (Calls.loadGlobal_builtin (by rw [E.glob]; exact hK.g.keeps r.base) hm (by rw [E.bins]; exact hK.b.keeps r.base) hv h) (E.nodbg i x _ hn)
end
end Mine
namespace Mine
open PySem PyProof.Rows
theorem VR.re {h:Heap} {α α':AL} (h1:∀ (i:Nat) (a:Addr),α.ix[i]?=some a->α'.ix[i]?=some a) (h2:∀ a,a ∈ α'.all->a ∈ α.all) {p:PV} {v:Value} (r:VR h α p v):VR h α' p v:=by
 induction r with
 | none=>exact .none
 | bool b=>exact .bool b
 | int i t=>exact .int i t
 | str s t hs=>exact .str s t hs
 | tup e hn hl _ ih=>exact .tup e (fun q=>hn (h2 _ q)) hl ih
 | fl e hn hl _ ih=>exact .fl e (fun q=>hn (h2 _ q)) hl ih
 | exc e hc hd hn=>exact .exc e hc hd (fun q=>hn (h2 _ q))
 | inst e hn hi=>exact .inst e (fun q=>hn (h2 _ q)) (h1 _ _ hi)
 | ref e=>exact .ref (h1 _ _ e)
theorem VR.hide {h:Heap} {α:AL} {D:Addr} (hD:h.get? D=Option.none) {p:PV} {v:Value} (r:VR h α p v):VR h ⟨α.ix,D::α.hid,α.fr⟩ p v:=by
 have key:∀ {a:Addr} {o:Obj},h.get? a=some o->a ∉ α.all->a ∉ (⟨α.ix,D::α.hid,α.fr⟩:AL).all:=fun {a o} e hn q=>by
  rcases List.mem_append.mp q with q | q
  ·exact hn (List.mem_append_left _ q)
  ·rcases List.mem_cons.mp q with q | q
   ·subst q; rw [hD] at e; contradiction
   ·exact hn (List.mem_append_right _ q)
 induction r with
 | none=>exact .none
 | bool b=>exact .bool b
 | int i t=>exact .int i t
 | str s t hs=>exact .str s t hs
 | tup e hn hl _ ih=>exact .tup e (key e hn) hl ih
 | fl e hn hl _ ih=>exact .fl e (key e hn) hl ih
 | exc e hc hd hn=>exact .exc e hc hd (key e hn)
 | inst e hn hi=>exact .inst e (key e hn) hi
 | ref e=>exact .ref e
theorem aT.re {h:Heap} {α α':AL} (h1:∀ (i:Nat) (a:Addr),α.ix[i]?=some a->α'.ix[i]?=some a) (h2:∀ a,a ∈ α'.all->a ∈ α.all) {p:List PV} {v:List Value} (r:aT h α p v):aT h α' p v:=
 ⟨r.1,fun i x y e1 e2=>(r.2 i x y e1 e2).re h1 h2⟩
theorem aT.hide {h:Heap} {α:AL} {D:Addr} (hD:h.get? D=none) {p:List PV} {v:List Value} (r:aT h α p v):aT h ⟨α.ix,D::α.hid,α.fr⟩ p v:=
 ⟨r.1,fun i x y e1 e2=>(r.2 i x y e1 e2).hide hD⟩
theorem AL.not_hide {h:Heap} {α:AL} {D a:Addr} {o:Obj} (hD:h.get? D=none) (e:h.get? a=some o) (hn:a ∉ α.all):a ∉ (⟨α.ix,D::α.hid,α.fr⟩:AL).all:=fun q=>by
 rcases List.mem_append.mp q with q | q
 ·exact hn (List.mem_append_left _ q)
 ·rcases List.mem_cons.mp q with q | q
  ·subst q; rw [hD] at e; contradiction
  ·exact hn (List.mem_append_right _ q)
theorem VR.sameBut {h h':Heap} {α:AL} {D:Addr} (hD:D ∈ α.all) (k:∀ b,b ≠ D->h'.get? b=h.get? b) {p:PV} {v:Value} (r:VR h α p v):VR h' α p v:=by
 induction r with
 | none=>exact .none
 | bool b=>exact .bool b
 | int i t=>exact .int i t
 | str s t hs=>exact .str s t hs
 | tup e hn hl _ ih=>exact .tup ((k _ (by rintro rfl; exact hn hD)).trans e) hn hl ih
 | fl e hn hl _ ih=>exact .fl ((k _ (by rintro rfl; exact hn hD)).trans e) hn hl ih
 | exc e hc hd hn=>exact .exc ((k _ (by rintro rfl; exact hn hD)).trans e) hc hd hn
 | inst e hn hi=>exact .inst ((k _ (by rintro rfl; exact hn hD)).trans e) hn hi
 | ref e=>exact .ref e
theorem aT.sameBut {h h':Heap} {α:AL} {D:Addr} (hD:D ∈ α.all) (k:∀ b,b ≠ D->h'.get? b=h.get? b) {p:List PV} {v:List Value} (r:aT h α p v):aT h' α p v:=
 ⟨r.1,fun i x y e1 e2=>(r.2 i x y e1 e2).sameBut hD k⟩
noncomputable def ajp (K:Kt) (A:Around) (it v:Value) (P:Shared->Prop) (s:Shared):Prop:=
 ∀ (elts:List Expr) (k:Nat) (pos:Pos) (Q:Unit->Shared->Prop) (E:Value->Shared->Prop),(∀ s',P s'->Q () s')->wpAny (model K.prog K.w) A (letOwnedTupleGo (.Tuple elts k pos) it v) Q E s
noncomputable def zK:List String:=["enumerate", "zip", "dict_itemiterator", "dict_reverseitemiterator", "odict_iterator", "itertools.zip_longest", "itertools.pairwise"]
theorem lI {K:Kt} {A:Around} {I:Addr} {o:Obj} {n:String} {v:Value} {s:Shared} {P:Shared->Prop} (e:s.heap.get? I=some o) (hc:o.cls=.type n) (hn:zK.contains n=false) (h:P s):ajp K A (.ref I) v P s:=by
 intro elts k pos Q E hQ
 have hq:=hQ s h
 unfold letOwnedTupleGo
 cases v with
 | ref a =>
  refine wpAny_bind (wpAny_load e ?_)
  obtain ⟨c,d,dt,sl⟩:=o
  dsimp only at hc
  subst hc
  cases dt with
  | fields vs =>
   show wpAny _ A (if (zK.contains n && vs[0]? == some (rawInt a))=true then _ else _) Q E s
   rw [hn]
   exact wpAny_pure hq
  | _=>exact wpAny_pure hq
 | _=>exact wpAny_pure hq
structure gj (K:Kt) (A:Around) (en:Bool) (own:List Addr) (it:Value) (xs:List PV) (wt:Option (Nat × MO)) (St:Nat->Heap->AL->Prop):Prop where
 live:∀ i h α,St i h α->∀ b ∈ own,∃ o,h.get? b=some o
 apart:∀ i h α,St i h α->∀ b ∈ own,b ∉ α.all
 frame:∀ i F α h α' h',St i h α->aL F α h α' h'->(∀ b ∈ own,b ∉ F)->St i h' α'
 but:∀ i D α h h',St i h α->D ∈ α.all->(∀ b,b ≠ D->h'.get? b=h.get? b)->St i h' α
 hide:∀ i D α h,St i h α->h.get? D=none->St i h ⟨α.ix,D::α.hid,α.fr⟩
 item:∀ (i:Nat) (s:Shared) (σ:ab) (α:AL) (p:PV),xs[i]?=some p->St i s.heap α->R K.hb s.heap σ α->cJ wt σ->∀ (Q:Option Value->Shared->Prop) (E:Value->Shared->Prop),
  (∀ v s',VR s'.heap α p v->(en=false->St (i + 1) s'.heap α)->ajp K A it v (fun aD=>VR aD.heap α p v/\St (i + 1) aD.heap α/\aL own α s'.heap α aD.heap/\R K.hb aD.heap σ α/\Sm s' aD) s'->aL own α s.heap α s'.heap->R K.hb s'.heap σ α->Sm s s'->Q (some v) s')->wpAny (model K.prog K.w) A (pyNext it) Q E s
 done:∀ (s:Shared) (σ:ab) (α:AL),St xs.length s.heap α->R K.hb s.heap σ α->cJ wt σ->∀ (Q:Option Value->Shared->Prop) (E:Value->Shared->Prop),
  (∀ s',aL own α s.heap α s'.heap->R K.hb s'.heap σ α->Sm s s'->Q none s')->wpAny (model K.prog K.w) A (pyNext it) Q E s
 self:∀ (i:Nat) (s:Shared) (α:AL),St i s.heap α->∀ (Q:Value->Shared->Prop) (E:Value->Shared->Prop),Q it s->wpAny (model K.prog K.w) A (pyIter it) Q E s
theorem R.but {hb h h' σ α} {I:Addr} (r:R hb h σ α) (hI':I ∉ α.all) (hbI:hb.get? I=none) (k:∀ b o,b ≠ I->h.get? b=some o->h'.get? b=some o)
  (hs:∀ o,h.get? I=some o->¬ jm o) (hd:I ∈ hb.fr->∀ o,h.get? I=some o->dW o->∃ o',h'.get? I=some o'/\dW o'):R hb h' σ α/\aL [I] α h α h':=by
 have hI:I ∉ α.ix:=AL.not_ix hI'
 have hI2:I ∉ α.hid:=fun q=>hI' (List.mem_append_right _ q)
 have x:aL [I] α h α h':=⟨rfl,⟨[],by simp,fun zz hx=>by simp at hx⟩,fun b o hb e q=>k b o (fun z=>by subst z; exact hs o e q) e,fun b o hb hF e=>.inl (k b o (by simpa using hF) e),fun b o hF e=>⟨o,k b o (by simpa using hF) e⟩,rfl⟩
 refine ⟨⟨fun b o e=>k b o (fun q=>by rw [q,hbI] at e; contradiction) (r.base b o e),r.fresh,r.nodup,r.len,fun b hb=>⟨(r.hidden b hb).1,?_⟩,fun j m a e1 e2=>?_,r.hfr,r.fe,fun b hb=>⟨(r.frs b hb).1,?_⟩,r.frNot⟩,x⟩
 ·obtain ⟨o,e⟩:=(r.hidden b hb).2
  exact ⟨o,k b o (fun q=>hI2 (q ▸ hb)) e⟩
 ·obtain ⟨o',e'⟩:=r.live (List.mem_of_getElem? e2)
  exact (r.obj j m a e1 e2).ext x (by rw [e',k a o' (fun q=>hI (q ▸ List.mem_of_getElem? e2)) e'])
 ·obtain ⟨_,o,e,d⟩:=r.frs b hb
  by_cases q:b=I
  ·subst q; exact hd hb o e d
  ·exact ⟨o,k b o q e,d⟩
theorem ch {h h':Heap} {fr:List Addr} {c:Addr} {o:Obj} {v:Array Value} (_e:h.get? c=some o) (_d:o.data=.fields v) (x:gE fr h' c o):h'.get? c=some o:=x.same (by rintro ⟨es,n,q⟩; rw [_d] at q; contradiction)
theorem bj {o:Obj} {v:Array Value} {T:String} (d:o.data=.fields v) (hc:o.cls=.type T):¬ jm o:=by
 rintro (⟨xs,n,e⟩ | ⟨C,vs,e,_⟩ | ⟨C,e,_⟩)
 ·rw [d] at e; contradiction
 ·rw [hc] at e; contradiction
 ·rw [hc] at e; contradiction
theorem bk {o:Obj} {v:Array Value} (d:o.data=.fields v):¬ dW o:=by
 rintro ⟨xs,n,e⟩; rw [d] at e; contradiction
section
variable {K:Kt} {A:Around} {en:Bool}
theorem gj.list (hA:dO A) (hh:A.handled=none) {I:Addr} {l:Addr} {xs:List PV} (hbI:K.hb.get? I=none) :
  gj K A en [I] (.ref I) xs none (fun i h α=>h.IsListIter I l i/\I ∉ α.all/\VR h α (.fl xs) (.ref l)) where
 live:=fun i h α st b hb=>by simp at hb; subst hb; obtain ⟨⟨o,e,_⟩,_⟩:=st; exact ⟨o,e⟩
 apart:=fun i h α st b hb=>by simp at hb; subst hb; exact st.2.1
 frame:=fun i F α h α' h' st x hF=>by
  obtain ⟨⟨o,e,hc,hd⟩,hI,v⟩:=st
  exact ⟨⟨o,ch e hd (x.rest I o (AL.not_ix hI) (hF I (by simp)) e),hc,hd⟩,x.notAll hI e,v.ext x⟩
 but:=fun i D α h h' st hD k=>by
  obtain ⟨⟨o,e,hc,hd⟩,hI,v⟩:=st
  exact ⟨⟨o,(k I (fun q=>hI (q ▸ hD))).trans e,hc,hd⟩,hI,v.sameBut hD k⟩
 hide:=fun i D α h st hD=>by
  obtain ⟨⟨o,e,hc,hd⟩,hI,v⟩:=st
  exact ⟨⟨o,e,hc,hd⟩,AL.not_hide hD e hI,v.hide hD⟩
 item:=fun i s σ α p hp st r zz Q E hQ=>by
  obtain ⟨hit,hI,v⟩:=st
  obtain ⟨l',vs,n,hl,e1,hn,w⟩:=v.flE
  cases hl
  obtain ⟨u,hu,hv⟩:=w.get hp
  obtain ⟨o,e,hc,hd⟩:=id hit
  refine wpAny_pyNext_list_item hit (ip e1) (by simpa using hu) fun h' hit' hs'=>?_
  obtain ⟨r',x⟩:=r.but hI hbI (fun b o hb e=>(hs'.2 b hb).trans e) (fun o' e'=>by rw [e] at e'; obtain rfl:=oi e'; exact bj hd hc) fun zz o' e' d'=>by rw [e] at e'; obtain rfl:=oi e'; exact absurd d' (bk hd)
  obtain ⟨o',e',hc',_⟩:=id hit'
  exact hQ u _ (hv.ext x) (fun zz=>⟨hit',hI,v.ext x⟩) (lI (s:={ s with heap:=h' }) e' hc' (by decide) ⟨hv.ext x,⟨hit',hI,v.ext x⟩,.refl,r',.refl _⟩) x r' ⟨rfl,rfl⟩
 done:=fun s σ α st r zz Q E hQ=>by
  obtain ⟨hit,hI,v⟩:=st
  obtain ⟨l',vs,n,hl,e1,hn,w⟩:=v.flE
  cases hl
  obtain ⟨o,e,hc,hd⟩:=id hit
  refine wpAny_pyNext_list_end hh hit (ip e1) (by simp [w.1]) fun h' he'=>?_
  obtain ⟨r',x⟩:=r.but hI hbI (fun b o hb e=>he' b o hb e) (fun o' e'=>by rw [e] at e'; obtain rfl:=oi e'; exact bj hd hc) fun zz o' e' d'=>by rw [e] at e'; obtain rfl:=oi e'; exact absurd d' (bk hd)
  exact hQ _ x r' ⟨rfl,rfl⟩
 self:=fun i s α st Q E hQ=>wpAny_pyIter_listiter st.1 hQ
theorem gj.mlist (hA:dO A) (hh:A.handled=none) {I:Addr} {l:Addr} {j:Nat} {xs:List PV} (hbI:K.hb.get? I=none) :
  gj K A en [I] (.ref I) xs (some (j,.lst xs)) (fun i h α=>h.IsListIter I l i/\I ∉ α.all/\α.ix[j]?=some l) where
 live:=fun i h α st b hb=>by simp at hb; subst hb; obtain ⟨⟨o,e,_⟩,_⟩:=st; exact ⟨o,e⟩
 apart:=fun i h α st b hb=>by simp at hb; subst hb; exact st.2.1
 frame:=fun i F α h α' h' st x hF=>by
  obtain ⟨⟨o,e,hc,hd⟩,hI,v⟩:=st
  exact ⟨⟨o,ch e hd (x.rest I o (AL.not_ix hI) (hF I (by simp)) e),hc,hd⟩,x.notAll hI e,x.get v⟩
 but:=fun i D α h h' st hD k=>by
  obtain ⟨⟨o,e,hc,hd⟩,hI,v⟩:=st
  exact ⟨⟨o,(k I (fun q=>hI (q ▸ hD))).trans e,hc,hd⟩,hI,v⟩
 hide:=fun i D α h st hD=>by
  obtain ⟨⟨o,e,hc,hd⟩,hI,v⟩:=st
  exact ⟨⟨o,e,hc,hd⟩,AL.not_hide hD e hI,v⟩
 item:=fun i s σ α p hp st r wt Q E hQ=>by
  obtain ⟨hit,hI,v⟩:=st
  obtain ⟨vs,n,e1,w⟩:=r.obj j _ l wt v
  obtain ⟨u,hu,hv⟩:=w.get hp
  obtain ⟨o,e,hc,hd⟩:=id hit
  refine wpAny_pyNext_list_item hit (ip e1) (by simpa using hu) fun h' hit' hs'=>?_
  obtain ⟨r',x⟩:=r.but hI hbI (fun b o hb e=>(hs'.2 b hb).trans e) (fun o' e'=>by rw [e] at e'; obtain rfl:=oi e'; exact bj hd hc) fun zz o' e' d'=>by rw [e] at e'; obtain rfl:=oi e'; exact absurd d' (bk hd)
  obtain ⟨o',e',hc',_⟩:=id hit'
  exact hQ u _ (hv.ext x) (fun zz=>⟨hit',hI,v⟩) (lI (s:={ s with heap:=h' }) e' hc' (by decide) ⟨hv.ext x,⟨hit',hI,v⟩,.refl,r',.refl _⟩) x r' ⟨rfl,rfl⟩
 done:=fun s σ α st r wt Q E hQ=>by
  obtain ⟨hit,hI,v⟩:=st
  obtain ⟨vs,n,e1,w⟩:=r.obj j _ l wt v
  obtain ⟨o,e,hc,hd⟩:=id hit
  refine wpAny_pyNext_list_end hh hit (ip e1) (by simp [w.1]) fun h' he'=>?_
  obtain ⟨r',x⟩:=r.but hI hbI (fun b o hb e=>he' b o hb e) (fun o' e'=>by rw [e] at e'; obtain rfl:=oi e'; exact bj hd hc) fun zz o' e' d'=>by rw [e] at e'; obtain rfl:=oi e'; exact absurd d' (bk hd)
  exact hQ _ x r' ⟨rfl,rfl⟩
 self:=fun i s α st Q E hQ=>wpAny_pyIter_listiter st.1 hQ
theorem gj.signs {I:Addr} {x:Str} {t:Tok} {ty:String} (hbI:K.hb.get? I=none) (hx:PyData.strOk x=true) (hty:zK.contains ty=false)
  (it1:∀ (s:Shared) (i c:Nat) (Q:Option Value->Shared->Prop) (E:Value->Shared->Prop),s.heap.IsStrIter I ty x t i->x.cps[i]?=some c ->
   (∀ h',h'.IsStrIter I ty x t (i + 1)->Heap.SameBut I s.heap h'->Q (some (.str ⟨#[c]⟩ s.toks)) { s with heap:=h',toks:=s.toks + 1 })->wpAny (model K.prog K.w) A (pyNext (.ref I)) Q E s)
  (it2:∀ (s:Shared) (i:Nat) (Q:Option Value->Shared->Prop) (E:Value->Shared->Prop),s.heap.IsStrIter I ty x t i->x.cps[i]?=none->(∀ h',Heap.ExtBut I s.heap h'->Q none { s with heap:=h' })->wpAny (model K.prog K.w) A (pyNext (.ref I)) Q E s)
  (it3:∀ (s:Shared) (i:Nat) (Q:Value->Shared->Prop) (E:Value->Shared->Prop),s.heap.IsStrIter I ty x t i->Q (.ref I) s->wpAny (model K.prog K.w) A (pyIter (.ref I)) Q E s) :
  gj K A en [I] (.ref I) (vh x) none (fun i h α=>h.IsStrIter I ty x t i/\I ∉ α.all) where
 live:=fun i h α st b hb=>by simp at hb; subst hb; obtain ⟨⟨o,e,_⟩,_⟩:=st; exact ⟨o,e⟩
 apart:=fun i h α st b hb=>by simp at hb; subst hb; exact st.2
 frame:=fun i F α h α' h' st x hF=>by
  obtain ⟨⟨o,e,hc,hd⟩,hI⟩:=st
  exact ⟨⟨o,ch e hd (x.rest I o (AL.not_ix hI) (hF I (by simp)) e),hc,hd⟩,x.notAll hI e⟩
 but:=fun i D α h h' st hD k=>by
  obtain ⟨⟨o,e,hc,hd⟩,hI⟩:=st
  exact ⟨⟨o,(k I (fun q=>hI (q ▸ hD))).trans e,hc,hd⟩,hI⟩
 hide:=fun i D α h st hD=>by
  obtain ⟨⟨o,e,hc,hd⟩,hI⟩:=st
  exact ⟨⟨o,e,hc,hd⟩,AL.not_hide hD e hI⟩
 item:=fun i s σ α p hp st r zz Q E hQ=>by
  obtain ⟨hit,hI⟩:=st
  obtain ⟨o,e,hc,hd⟩:=id hit
  simp only [vh,List.getElem?_map] at hp
  obtain ⟨c,hcq,rfl⟩:=Option.map_eq_some_iff.mp hp
  have hcx:x.cps[i]?=some c:=by rw [<- Array.getElem?_toList]; exact hcq
  refine it1 s i c Q E hit hcx fun h' hit' hs'=>?_
  obtain ⟨r',x'⟩:=r.but hI hbI (fun b o hb e=>(hs'.2 b hb).trans e) (fun o' e'=>by rw [e] at e'; obtain rfl:=oi e'; exact bj hd hc) fun zz o' e' d'=>by rw [e] at e'; obtain rfl:=oi e'; exact absurd d' (bk hd)
  obtain ⟨o',e',hc',_⟩:=id hit'
  have hok:PyData.strOk ⟨#[c]⟩=true:=by
   unfold PyData.strOk at hx ⊢
   simp only [Array.all_eq_true'] at hx ⊢
   intro d hd'
   simp at hd'
   subst hd'
   exact hx _ (Array.mem_of_getElem? hcx)
  exact hQ _ _ (.str _ _ hok) (fun zz=>⟨hit',hI⟩) (lI (s:={ s with heap:=h',toks:=s.toks + 1 }) e' hc' hty ⟨.str _ _ hok,⟨hit',hI⟩,.refl,r',.refl _⟩) x' r' ⟨rfl,rfl⟩
 done:=fun s σ α st r zz Q E hQ=>by
  obtain ⟨hit,hI⟩:=st
  obtain ⟨o,e,hc,hd⟩:=id hit
  refine it2 s _ Q E hit (by simp [vh]) fun h' he'=>?_
  obtain ⟨r',x'⟩:=r.but hI hbI (fun b o hb e=>he' b o hb e) (fun o' e'=>by rw [e] at e'; obtain rfl:=oi e'; exact bj hd hc) fun zz o' e' d'=>by rw [e] at e'; obtain rfl:=oi e'; exact absurd d' (bk hd)
  exact hQ _ x' r' ⟨rfl,rfl⟩
 self:=fun i s α st Q E hQ=>it3 s i Q E st.1 hQ
theorem w7 {s:Shared} {a:Addr} {ak:List Value} {n:Nat} (e:s.heap.get? a=some { cls:=.type "tuple",data:=.seq ak.toArray n }):s.heap.IsTuple a ak.toArray:=⟨_,e,rfl,n,rfl⟩
theorem gj.tuple (hA:dO A) (hh:A.handled=none) {I:Addr} {l:Addr} {xs:List PV} (hbI:K.hb.get? I=none) :
  gj K A en [I] (.ref I) xs none (fun i h α=>h.IsTupleIter I l i/\I ∉ α.all/\VR h α (.tup xs) (.ref l)) where
 live:=fun i h α st b hb=>by simp at hb; subst hb; obtain ⟨⟨o,e,_⟩,_⟩:=st; exact ⟨o,e⟩
 apart:=fun i h α st b hb=>by simp at hb; subst hb; exact st.2.1
 frame:=fun i F α h α' h' st x hF=>by
  obtain ⟨⟨o,e,hc,hd⟩,hI,v⟩:=st
  exact ⟨⟨o,ch e hd (x.rest I o (AL.not_ix hI) (hF I (by simp)) e),hc,hd⟩,x.notAll hI e,v.ext x⟩
 but:=fun i D α h h' st hD k=>by
  obtain ⟨⟨o,e,hc,hd⟩,hI,v⟩:=st
  exact ⟨⟨o,(k I (fun q=>hI (q ▸ hD))).trans e,hc,hd⟩,hI,v.sameBut hD k⟩
 hide:=fun i D α h st hD=>by
  obtain ⟨⟨o,e,hc,hd⟩,hI,v⟩:=st
  exact ⟨⟨o,e,hc,hd⟩,AL.not_hide hD e hI,v.hide hD⟩
 item:=fun i s σ α p hp st r zz Q E hQ=>by
  obtain ⟨hit,hI,v⟩:=st
  obtain ⟨l',vs,n,hl,e1,hn,w⟩:=v.tupE
  cases hl
  obtain ⟨u,hu,hv⟩:=w.get hp
  obtain ⟨o,e,hc,hd⟩:=id hit
  refine wpAny_pyNext_tuple_item hit (w7 e1) (by simpa using hu) fun h' hit' hs'=>?_
  obtain ⟨r',x⟩:=r.but hI hbI (fun b o hb e=>(hs'.2 b hb).trans e) (fun o' e'=>by rw [e] at e'; obtain rfl:=oi e'; exact bj hd hc) fun zz o' e' d'=>by rw [e] at e'; obtain rfl:=oi e'; exact absurd d' (bk hd)
  obtain ⟨o',e',hc',_⟩:=id hit'
  exact hQ u _ (hv.ext x) (fun zz=>⟨hit',hI,v.ext x⟩) (lI (s:={ s with heap:=h' }) e' hc' (by decide) ⟨hv.ext x,⟨hit',hI,v.ext x⟩,.refl,r',.refl _⟩) x r' ⟨rfl,rfl⟩
 done:=fun s σ α st r zz Q E hQ=>by
  obtain ⟨hit,hI,v⟩:=st
  obtain ⟨l',vs,n,hl,e1,hn,w⟩:=v.tupE
  cases hl
  obtain ⟨o,e,hc,hd⟩:=id hit
  refine wpAny_pyNext_tuple_end hh hit (w7 e1) (by simp [w.1]) fun h' he'=>?_
  obtain ⟨r',x⟩:=r.but hI hbI (fun b o hb e=>he' b o hb e) (fun o' e'=>by rw [e] at e'; obtain rfl:=oi e'; exact bj hd hc) fun zz o' e' d'=>by rw [e] at e'; obtain rfl:=oi e'; exact absurd d' (bk hd)
  exact hQ _ x r' ⟨rfl,rfl⟩
 self:=fun i s α st Q E hQ=>wpAny_pyIter_tupleiter st.1 hQ
theorem gj.range (hA:dO A) (hh:A.handled=none) {I:Addr} {a c:Int} {n:Nat} (hbI:K.hb.get? I=none) :
  gj K A en [I] (.ref I) (aF a c n) none (fun i h α=>IsRangeIter h I (a + (i:Nat) * c) ((n:Int) - (i:Nat)) c/\I ∉ α.all) where
 live:=fun i h α st b hb=>by simp at hb; subst hb; exact ⟨_,st.1⟩
 apart:=fun i h α st b hb=>by simp at hb; subst hb; exact st.2
 frame:=fun i F α h α' h' st x hF=>by
  obtain ⟨e,hI⟩:=st
  exact ⟨ch e rfl (x.rest I _ (AL.not_ix hI) (hF I (by simp)) e),x.notAll hI e⟩
 but:=fun i D α h h' st hD k=>by
  obtain ⟨e,hI⟩:=st
  exact ⟨(k I (fun q=>hI (q ▸ hD))).trans e,hI⟩
 hide:=fun i D α h st hD=>by
  obtain ⟨e,hI⟩:=st
  exact ⟨e,AL.not_hide hD e hI⟩
 item:=fun i s σ α p hp st r zz Q E hQ=>by
  obtain ⟨hit,hI⟩:=st
  have hi:i < n:=by have:=(cS hp).1; simpa [aF] using this
  have hp':p=.int (a + (i:Int) * c):=by
   simp only [aF,List.getElem?_map,List.getElem?_range hi,Option.map_some,Option.some.injEq] at hp
   exact hp.symm
  subst hp'
  refine wpAny_pyNext_range_item hit (by grind) fun h' hit' hs'=>?_
  obtain ⟨r',x⟩:=r.but hI hbI (fun b o hb e=>(hs'.2 b hb).trans e) (fun o' e'=>by rw [show s.heap.get? I=_ from hit] at e'; obtain rfl:=oi e'; exact bj rfl rfl) fun zz o' e' d'=>by rw [show s.heap.get? I=_ from hit] at e'; obtain rfl:=oi e'; exact absurd d' (bk rfl)
  have e1:a + ((i + 1:Nat):Int) * c=a + (i:Int) * c + c:=by push_cast; rw [Int.add_mul,Int.one_mul,Int.add_assoc]
  have e2:(n:Int) - ((i + 1:Nat):Int)=(n:Int) - (i:Int) - 1:=by push_cast; (grind)
  have st':IsRangeIter h' I (a + ((i + 1:Nat):Int) * c) ((n:Int) - ((i + 1:Nat):Int)) c:=by rw [e1,e2]; exact hit'
  exact hQ _ _ (.int _ _) (fun zz=>⟨st',hI⟩) (lI (s:={ s with heap:=h',toks:=s.toks + 1 }) hit' rfl (by decide) ⟨.int _ _,⟨st',hI⟩,.refl,r',.refl _⟩) x r' ⟨rfl,rfl⟩
 done:=fun s σ α st r zz Q E hQ=>by
  obtain ⟨hit,hI⟩:=st
  refine wpAny_pyNext_range_end hh hit (by simp [aF]) fun h' he'=>?_
  obtain ⟨r',x⟩:=r.but hI hbI (fun b o hb e=>he' b o hb e) (fun o' e'=>by rw [show s.heap.get? I=_ from hit] at e'; obtain rfl:=oi e'; exact bj rfl rfl) fun zz o' e' d'=>by rw [show s.heap.get? I=_ from hit] at e'; obtain rfl:=oi e'; exact absurd d' (bk rfl)
  exact hQ _ x r' ⟨rfl,rfl⟩
 self:=fun i s α st Q E hQ=>wpAny_pyIter_rangeiter st.1 hQ
end
end Mine
namespace Mine
open PySem PyProof.Rows
theorem OR.hide {B:Bs} {h:Heap} {α:AL} {D:Addr} {m:MO} {a:Addr} (hD:h.get? D=none) (r:OR B h α m a):OR B h ⟨α.ix,D::α.hid,α.fr⟩ m a:=
 r.map (fun zz zz v=>v.hide hD) rfl fun b o hb e zz=>⟨e,AL.not_hide hD e hb⟩
theorem OR.re {B:Bs} {h:Heap} {α α':AL} {m:MO} {a:Addr} (h1:∀ (i:Nat) (a:Addr),α.ix[i]?=some a->α'.ix[i]?=some a) (h2:∀ a,a ∈ α'.all->a ∈ α.all) (r:OR B h α m a):OR B h α' m a:=
 r.map (fun zz zz v=>v.re h1 h2) rfl fun b o hb e zz=>⟨e,fun q=>hb (h2 b q)⟩
theorem am.hide {h:Heap} {α:AL} {D:Addr} {env:Env} {ρ:aq} (hD:h.get? D=none) (E:am env ρ h α):am env ρ h ⟨α.ix,D::α.hid,α.fr⟩:=by
 obtain ⟨m,n,hm⟩:=E.ns
 obtain ⟨oL,_,_,eL,_⟩:=id n
 refine ⟨E.ok,AL.not_hide hD eL E.la,⟨m,n,fun i x v e1 e2=>let ⟨u,a,b⟩:=hm i x v e1 e2; ⟨u,a,b.hide hD⟩⟩,fun x c hc=>?_,E.cd,fun i x e1=>?_,E.inb⟩
 ·obtain ⟨h1,h2,v,h3⟩:=E.ca x c hc
  obtain ⟨o,e,d⟩:=id h3
  exact ⟨AL.not_hide hD e h1,h2,v,h3⟩
 ·obtain ⟨c,hc,hv⟩:=E.cv i x e1
  exact ⟨c,hc,fun v e2=>let ⟨u,a,b⟩:=hv v e2; ⟨u,a,b.hide hD⟩⟩
theorem R.hide {hb h h' σ α} {D:Addr} {o:Obj} (r:R hb h σ α) (hD:h.get? D=none) (k:∀ b o,h.get? b=some o->h'.get? b=some o) (e:h'.get? D=some o):R hb h' σ ⟨α.ix,D::α.hid,α.fr⟩:=by
 have r':=r.keeps k
 have hDi:D ∉ α.ix:=fun q=>by obtain ⟨o,e⟩:=r.live q; rw [hD] at e; cases e
 refine ⟨r'.base,r'.fresh,r'.nodup,r'.len,fun a ha=>?_,fun i m a e1 e2=>?_,fun a ha=>?_,r'.fe,r'.frs,r'.frNot⟩
 ·rcases List.mem_cons.mp ha with q | q
  ·subst q; exact ⟨hDi,_,e⟩
  ·exact r'.hidden a q
 ·have x:aL [] (⟨α.ix,D::α.hid,α.fr⟩:AL) h ⟨α.ix,D::α.hid,α.fr⟩ h':=.keeps k
  obtain ⟨o',e'⟩:=r.live (List.mem_of_getElem? e2)
  exact ((r.obj i m a e1 e2).hide hD).ext x (by rw [e',k a o' e'])
 ·rcases List.mem_cons.mp ha with q | q
  ·subst q
   cases hq:hb.get? a with
   | none=>rfl
   | some o=>rw [r.base _ _ hq] at hD; cases hD
  ·exact r.hfr a q
section
variable {K:Kt} {A:Around} {s:Shared} {α:AL} {σ:ab} {en:Bool}
inductive bK (K:Kt) (A:Around) (en:Bool) (c:ac (List PV × Option (Nat × MO))) (s:Shared) (α:AL) (it:Value) (s':Shared):Prop where
 | mk (xs:List PV) (wt:Option (Nat × MO)) (σ':ab) (α':AL) (own:List Addr) (St:Nat->Heap->AL->Prop) (h:c=.ok (xs,wt) σ') (x:aL [] α s.heap α' s'.heap) (r:R K.hb s'.heap σ' α') (m:Sm s s') (I:gj K A en own it xs wt St) (st:St 0 s'.heap α') (ho:∀ b ∈ own,s.heap.get? b=none/\K.hb.get? b=none):bK K A en c s α it s'
theorem bK.lift {c:ac (List PV × Option (Nat × MO))} {s₁:Shared} {α₁:AL} {it:Value} {s':Shared} (x:aL [] α s.heap α₁ s₁.heap) (m:Sm s s₁) (p:bK K A en c s₁ α₁ it s'):bK K A en c s α it s':=by
 obtain ⟨xs,wt,σ',α',own,St,e,x',r,m',I,st,ho⟩:=p
 refine ⟨xs,wt,σ',α',own,St,e,x.trans x',r,m.trans m',I,st,fun b hb=>⟨?_,(ho b hb).2⟩⟩
 cases hq:s.heap.get? b with
 | none=>rfl
 | some o=>obtain ⟨o',e'⟩:=x.alive b o (by simp) hq; rw [(ho b hb).1] at e'; cases e'
noncomputable def eJ (K:Kt) (A:Around) (en:Bool) (t:Sem Value) (c:ac (List PV × Option (Nat × MO))) (s:Shared) (α:AL):Prop:=
 c ≠ .stuck->K.Tk s->wpAny (model K.prog K.w) A t (fun x s₁=>wpAny (model K.prog K.w) A (pyIter x) (bK K A en c s α) (bi K A c s α) s₁) (bi K A c s α) s
theorem jB (r:R K.hb s.heap σ α):K.hb.get? s.heap.objs.size=none:=by
 cases hq:K.hb.get? s.heap.objs.size with
 | none=>rfl
 | some o=>exact absurd (Heap.lt_size (r.base _ _ hq)) (Nat.lt_irrefl _)
theorem bK.new {I:Addr} {o:Obj} {xs:List PV} {wt:Option (Nat × MO)} {St:Nat->Heap->AL->Prop} {tk:Nat} (hI:I=s.heap.objs.size) (r:R K.hb s.heap σ α) (it:gj K A en [I] (.ref I) xs wt St)
  (st:∀ h',h'=s.heap.push o->(∀ b o',s.heap.get? b=some o'->h'.get? b=some o')->I ∉ α.all->St 0 h' α):bK K A en (.ok (xs,wt) σ) s α (.ref I) { s with heap:=s.heap.push o,toks:=tk }:=by
 subst hI
 have k:∀ b o',s.heap.get? b=some o'->(s.heap.push o).get? b=some o':=fun b o' e=>Heap.get?_push_of_some _ e
 refine ⟨xs,wt,σ,α,_,St,rfl,.keeps k,r.keeps k,⟨rfl,rfl⟩,it,st _ rfl k (fun hm=>?_),fun b hb=>?_⟩
 ·obtain ⟨o,e⟩:=r.liveAll hm; rw [eA] at e; cases e
 ·simp at hb; subst hb; exact ⟨eA s,jB r⟩
theorem af9 {a:PV} {x:Value} (hA:dO A) (hh:A.handled=none) (r:R K.hb s.heap σ α) (va:VR s.heap α a x) {E:Value->Shared->Prop}
  (hc:kP a σ ≠ .stuck) :
  wpAny (model K.prog K.w) A (pyIter x) (bK K A en (kP a σ) s α) E s:=by
 unfold kP at hc ⊢
 cases a with
 | fl xs =>
  obtain ⟨l,vs,n,rfl,e1,hn,v⟩:=va.flE
  refine wpAny_pyIter_list (ip e1) (bK.new (tk:=s.toks) rfl r (.list hA hh (l:=l) (jB r)) fun h' hh k hI=>?_)
  exact ⟨⟨_,by rw [hh]; exact Heap.get?_push_size _ rfl,rfl,rfl⟩,hI,va.ext (.keeps (F:=[]) k)⟩
 | tup xs =>
  obtain ⟨l,vs,n,rfl,e1,hn,v⟩:=va.tupE
  refine wpAny_pyIter_tuple (w7 e1) (bK.new (tk:=s.toks) rfl r (.tuple hA hh (l:=l) (jB r)) fun h' hh k hI=>?_)
  exact ⟨⟨_,by rw [hh]; exact Heap.get?_push_size _ rfl,rfl,rfl⟩,hI,va.ext (.keeps (F:=[]) k)⟩
 | ref i =>
  obtain ⟨l,rfl,el⟩:=va.refE
  simp only [ak,ie] at hc ⊢
  cases hs:σ[i]? with
  | none=>rw [hs] at hc; exact absurd rfl hc
  | some m =>
   cases m with
   | lst xs =>
    obtain ⟨vs,n,e1,v⟩:=r.obj i _ l hs el
    refine wpAny_pyIter_list (ip e1) (bK.new (tk:=s.toks) rfl r (.mlist hA hh (l:=l) (j:=i) (jB r)) fun h' hh k hI=>?_)
    exact ⟨⟨_,by rw [hh]; exact Heap.get?_push_size _ rfl,rfl,rfl⟩,hI,el⟩
   | _=>rw [hs] at hc; exact absurd rfl hc
 | str z =>
  obtain ⟨t,rfl,hz⟩:=va.strE
  cases ha:z.cps.all (· < 128)
  ·refine wpAny_pyIter_wide ha (bK.new (tk:=s.toks) rfl r (.signs (t:=t) (ty := "str_iterator") (jB r) hz (by decide) (fun s i c Q E h1 h2 h3=>wpAny_pyNext_wide_item h1 h2 h3) (fun s i Q E h1 h2 h3=>wpAny_pyNext_wide_end hh h1 h2 h3) fun s i Q E h1 h2=>wpAny_pyIter_striter_wide h1 h2) fun h' hh k hI=>?_)
   exact ⟨⟨_,by rw [hh]; exact Heap.get?_push_size _ rfl,rfl,rfl⟩,hI⟩
  ·refine wpAny_pyIter_ascii ha (bK.new (tk:=s.toks) rfl r (.signs (t:=t) (ty := "str_ascii_iterator") (jB r) hz (by decide) (fun s i c Q E h1 h2 h3=>wpAny_pyNext_ascii_item h1 h2 h3) (fun s i Q E h1 h2 h3=>wpAny_pyNext_ascii_end hh h1 h2 h3) fun s i Q E h1 h2=>wpAny_pyIter_striter_ascii h1 h2) fun h' hh k hI=>?_)
   exact ⟨⟨_,by rw [hh]; exact Heap.get?_push_size _ rfl,rfl,rfl⟩,hI⟩
 | _=>exact absurd rfl hc
theorem aiA {n:Int} (h0:0 <= n):Builtin.Range.rangeSize 0 n 1=n:=by
 unfold Builtin.Range.rangeSize
 simp; (grind)
theorem aht {n:Int} (h0:0 <= n) (h1:n <= (ao:Int)):Builtin.Range.small 0 n 1=true:=
 small_one (by decide) (by decide) (Int.le_trans (by decide) h0) (Int.lt_of_le_of_lt h1 (by decide))
noncomputable def j0 (s:Shared) (a b c:Int) (t u v tk:Nat):Shared:={ s with heap:=s.heap.push { cls:=.type "range",data:=.fields #[.int a t,.int b u,.int c v] },toks:=tk }
theorem uZ {a b c:Int} {t u v tk:Nat} {x:Addr} {o:Obj} (e:s.heap.get? x=some o):(j0 s a b c t u v tk).heap.get? x=some o:=Heap.get?_push_of_some _ e
inductive kf (K:Kt) (c:ac (List PV × Option (Nat × MO))) (s:Shared) (α:AL) (y:Value) (s':Shared):Prop
 | mk (s₁:Shared) (σ₁:ab) (α₁:AL) (a b d:Int) (t u v tk n:Nat) (hy:y=.ref s₁.heap.objs.size) (hs:s'=j0 s₁ a b d t u v tk) (hc:c=.ok (aF a d n,none) σ₁) (x:aL [] α s.heap α₁ s₁.heap) (r:R K.hb s₁.heap σ₁ α₁) (m:Sm s s₁) (sm:Builtin.Range.small a b d=true) (hn:Builtin.Range.rangeSize a b d=n) (hl:n <= 2000000):kf K c s α y s'
theorem kf.lift {c:ac (List PV × Option (Nat × MO))} {iI:Shared} {jM:AL} {y:Value} {s':Shared} (x:aL [] jM iI.heap α s.heap) (m:Sm iI s) (p:kf K c s α y s'):kf K c iI jM y s':=by
 obtain ⟨s₁,σ₁,α₁,a,b,d,t,u,v,tk,n,hy,hs,hc,x',r,m',sm,hn,hl⟩:=p
 exact ⟨s₁,σ₁,α₁,a,b,d,t,u,v,tk,n,hy,hs,hc,x.trans x',r,m.trans m',sm,hn,hl⟩
theorem ahT {a b c:Int} {t u v tk n:Nat} {E:Value->Shared->Prop} (hA:dO A) (hh:A.handled=none) (r:R K.hb s.heap σ α) (hs:Builtin.Range.small a b c=true) (hn:Builtin.Range.rangeSize a b c=n) :
  wpAny (model K.prog K.w) A (pyIter (.ref s.heap.objs.size)) (bK K A en (.ok (aF a c n,none) σ) s α) E (j0 s a b c t u v tk):=by
 have r':R K.hb (j0 s a b c t u v tk).heap σ α:=r.keeps fun zz zz=>uZ
 refine wpAny_pyIter_range (s:=j0 s a b c t u v tk) (IsRange.new _ _ _ _ _ _ _) hs (bK.lift (s₁:=j0 s a b c t u v tk) (.keeps fun zz zz=>uZ) ⟨rfl,rfl⟩ ?_)
 refine bK.new (s:=j0 s a b c t u v tk) (tk:=tk) rfl r' (.range hA hh (a:=a) (c:=c) (n:=n) (jB (s:=j0 s a b c t u v tk) r')) fun h' hh k' hI=>⟨?_,hI⟩
 rw [hh,hn]
 unfold IsRangeIter
 simp only [Int.ofNat_zero,Int.zero_mul,Int.add_zero,Int.sub_zero]
 exact Heap.get?_push_size _ rfl
theorem afK {a:PV} {P:Prop} (h:io a σ ≠ .stuck) (k:∀ n:Nat,a=.int n->n <= ao->io a σ=.ok (aF 0 1 n,none) σ->P):P:=by
 cases a with
 | int i =>
  have e0:io (.int i) σ=if 0 <= i/\i <= ao then .ok (aF 0 1 i.toNat,none) σ else .stuck:=rfl
  by_cases hl:0 <= i/\i <= ao
  ·obtain ⟨n,rfl⟩:=Int.eq_ofNat_of_zero_le hl.1
   exact k n rfl (Int.ofNat_le.mp hl.2) (e0.trans (if_pos hl))
  ·exact absurd (e0.trans (if_neg hl)) h
 | _=>exact absurd rfl h
theorem kf.iter {c:ac (List PV × Option (Nat × MO))} {y:Value} {s':Shared} {E:Value->Shared->Prop} (hA:dO A) (hh:A.handled=none) (p:kf K c s α y s'):wpAny (model K.prog K.w) A (pyIter y) (bK K A en c s α) E s':=by
 obtain ⟨s₁,σ₁,α₁,a,b,d,t,u,v,tk,n,rfl,rfl,rfl,x,r,m,sm,hn,hl⟩:=p
 exact wpAny_mono (ahT hA hh r sm hn) (fun it aD hp=>hp.lift x m) fun zz zz e=>e
theorem agy {a:PV} {x:Value} (r:R K.hb s.heap σ α) (va:VR s.heap α a x) {E:Value->Shared->Prop} (hc:io a σ ≠ .stuck):wpAny (model K.prog K.w) A (call (.type "range") [x]) (kf K (io a σ) s α) E s:=by
 refine afK hc fun n ha hl e=>?_
 subst ha
 obtain ⟨t,rfl⟩:=va.intE
 rw [e]
 exact call_range_1 ⟨s,σ,α,0,n,1,_,_,_,s.toks + 1 + 1,n,rfl,rfl,rfl,.refl,r,.refl s,aht (Int.natCast_nonneg n) (Int.ofNat_le.mpr hl),aiA (Int.natCast_nonneg n),aE hl (by decide)⟩
end
end Mine
namespace Mine
open PySem PyProof.Rows
section
variable {prog:Program} {w:World} {A:Around} {E:Value->Shared->Prop} {s:Shared}
theorem sY {it t:Addr} {i:Nat} {ak:Array Value} {x:Value} {Q:Value->Shared->Prop} (hit:s.heap.IsTupleIter it t i) (ht:s.heap.IsTuple t ak) (hx:ak[i]?=some x)
  (hQ:∀ h',h'.IsTupleIter it t (i + 1)->Heap.SameBut it s.heap h'->Q x { s with heap:=h' }):wpAny (model prog w) A (Builtin.SmallTypes.nextOf (.ref it)) Q E s:=by
 obtain ⟨o,ho,hc,hd⟩:=id hit
 obtain ⟨ol,hol,_,nl,hdl⟩:=ht
 unfold Builtin.SmallTypes.nextOf
 refine wpAny_bind (wpAny_callSpecial?_slot (name:=Str.ofString "__next__") hit.typeIs F.slot_tuple_iterator_next
  (wpAny_call_entry F.slot_tuple_iterator_next hit.typeIs F.entry_tuple_iterator_next ?_ (F.args_tuple_iterator_next_1 _)))
 show wpAny _ _ (field (.ref it) 0 >>= _) _ _ s
 refine wpAny_bind (wpAny_field ho hd (x:=.ref t) rfl ?_)
 show wpAny _ _ (if (Value.ref t == Value.none)=true then _ else _) _ _ s
 rw [if_neg (show ¬ ((Value.ref t == Value.none)=true) from Bool.false_ne_true)]
 show wpAny _ _ (field (.ref it) 1 >>= _) _ _ s
 refine wpAny_bind (wpAny_field ho hd (x:=.int i 0) rfl ?_)
 show wpAny _ _ (seqItems? (.ref t) >>= _) _ _ s
 refine wpAny_bind (wpAny_seqItems hol hdl ?_)
 simp only [Int.toNat_natCast,hx]
 refine wpAny_bind (wpAny_setField ho hd (by simp) (wpAny_pure ⟨x,rfl,wpAny_pure (hQ _ ?_ (Heap.SameBut.update ..))⟩))
 exact ⟨_,Heap.get?_update_self _ ho (Obj.isFreed_of_fields (Obj.data_mapFields hd _)),(Obj.cls_mapFields ..).trans hc,by
  rw [Obj.data_mapFields hd]; simp [rawInt]⟩
theorem t7 {it t:Addr} {i:Nat} {ak:Array Value} {Q:Value->Shared->Prop} (hh:A.handled=none) (hit:s.heap.IsTupleIter it t i) (ht:s.heap.IsTuple t ak) (hx:ak[i]?=none)
  (hE:∀ h' e,Heap.ExtBut it s.heap h'->(∃ o,h'.get? e=some o/\o.cls=.type "StopIteration")->E (.ref e) { s with heap:=h' }):wpAny (model prog w) A (Builtin.SmallTypes.nextOf (.ref it)) Q E s:=by
 obtain ⟨o,ho,hc,hd⟩:=id hit
 obtain ⟨ol,hol,_,nl,hdl⟩:=ht
 unfold Builtin.SmallTypes.nextOf
 refine wpAny_bind (wpAny_callSpecial?_slot (name:=Str.ofString "__next__") hit.typeIs F.slot_tuple_iterator_next
  (wpAny_call_entry F.slot_tuple_iterator_next hit.typeIs F.entry_tuple_iterator_next ?_ (F.args_tuple_iterator_next_1 _)))
 show wpAny _ _ (field (.ref it) 0 >>= _) _ _ s
 refine wpAny_bind (wpAny_field ho hd (x:=.ref t) rfl ?_)
 show wpAny _ _ (if (Value.ref t == Value.none)=true then _ else _) _ _ s
 rw [if_neg (show ¬ ((Value.ref t == Value.none)=true) from Bool.false_ne_true)]
 show wpAny _ _ (field (.ref it) 1 >>= _) _ _ s
 refine wpAny_bind (wpAny_field ho hd (x:=.int i 0) rfl ?_)
 show wpAny _ _ (seqItems? (.ref t) >>= _) _ _ s
 refine wpAny_bind (wpAny_seqItems hol hdl ?_)
 simp only [Int.toNat_natCast,hx]
 refine wpAny_bind (wpAny_rule (wpAny_bind (wpAny_setField ho hd (by simp) ?_)))
 show wpAny _ _ (newExc (.type "StopIteration") [] >>= _) _ _ _
 refine wpAny_bind ?_
 simp only [newExc,newTuple]
 refine wpAny_bind (wpAny_newObj_type ?_ (by size_fits))
 refine wpAny_bind (m:=firstArgMember _ _) (wpAny_of_eq (a:=Value.none) (by first | rfl | (simp only [firstArgMember]; rfl)) ?_)
 refine wpAny_newObj_type ?_ (by size_fits)
 simp only [raiseNew]
 refine wpAny_bind (wpAny_handled ?_)
 first | rw [show A.in1.handled=none from hh] | rw [hh]
 refine wpAny_bind (wpAny_pure (wpAny_throw ?_))
 exact hE _ _ (((Heap.SameBut.update ..).extBut.push _).push _) ⟨_,Heap.get?_push_size _ rfl,rfl⟩
structure gD (h:Heap) (z TI TO i1 i2 t l:Addr) (k:Nat) (f0:Value):Prop where
 z:IsZip h z TI TO f0
 ti:IsPair h TI (.ref i1) (.ref i2)
 it:h.IsTupleIter i1 t k
 il:h.IsListIter i2 l k
structure sX (z TI TO i1 i2:Addr):Prop where
 a:TI ≠ z
 b:TO ≠ z
 c:i1 ≠ z
 d:i2 ≠ z
 e:TI ≠ TO
 f:TI ≠ i1
 g:TI ≠ i2
 h:TO ≠ i1
 i:TO ≠ i2
 j:i1 ≠ i2
theorem nJ {h h':Heap} {I t:Addr} {k:Nat} (x:h.IsTupleIter I t k) (g:∀ o,h.get? I=some o->h'.get? I=some o):h'.IsTupleIter I t k:=by
 obtain ⟨o,e,c,d⟩:=x; exact ⟨o,g o e,c,d⟩
theorem nP {h h':Heap} {I t:Addr} {k:Nat} (x:h.IsListIter I t k) (g:∀ o,h.get? I=some o->h'.get? I=some o):h'.IsListIter I t k:=by
 obtain ⟨o,e,c,d⟩:=x; exact ⟨o,g o e,c,d⟩
theorem gD.keep {h h':Heap} {z TI TO i1 i2 t l:Addr} {k:Nat} {f0:Value} (Z:gD h z TI TO i1 i2 t l k f0) (g:∀ b,b=z\/b=TI\/b=i1\/b=i2->∀ o,h.get? b=some o->h'.get? b=some o):gD h' z TI TO i1 i2 t l k f0:=
 ⟨g z (.inl rfl) _ Z.z,g TI (.inr (.inl rfl)) _ Z.ti,nJ Z.it (g i1 (.inr (.inr (.inl rfl)))),nP Z.il (g i2 (.inr (.inr (.inr rfl))))⟩
theorem yq {z TI TO i1 i2 t l:Addr} {k:Nat} {xs ys:Array Value} {x y a b:Value} {Q:Value->Shared->Prop} (D:sX z TI TO i1 i2) (Z:gD s.heap z TI TO i1 i2 t l k .none) (hTO:IsPair s.heap TO a b)
  (ht:∀ h':Heap,(∀ c o,c ≠ z->c ≠ TO->c ≠ i1->c ≠ i2->s.heap.get? c=some o->h'.get? c=some o)->h'.IsTuple t xs/\h'.IsList l ys) (hx:xs[k]?=some x) (hy:ys[k]?=some y)
  (hQ:∀ h',gD h' z TI TO i1 i2 t l (k + 1) (rawInt s.heap.objs.size)->IsPair h' TO x y->IsPair h' s.heap.objs.size x y ->
   (∀ c o,c ≠ z->c ≠ TO->c ≠ i1->c ≠ i2->s.heap.get? c=some o->h'.get? c=some o)->Q (.ref s.heap.objs.size) { s with heap:=h' }) :
  wpAny (model prog w) A (Builtin.«zip.__next__» ⟨[.ref z],[]⟩) (fun fin s'=>∃ v,fin=.done (.ret v)/\Q v s') E s:=by
 obtain ⟨hz,hTI,h1,h2⟩:=Z
 show wpAny _ _ (field (.ref z) 2 >>= _) _ _ _
 refine wpAny_bind (wpAny_field hz rfl (x:=.bool false) rfl ?_)
 show wpAny _ _ (field (.ref z) 3 >>= _) _ _ _
 refine wpAny_bind (wpAny_field hz rfl (x:=.ref TI) rfl ?_)
 refine wpAny_bind (wpAny_seqItems hTI rfl ?_)
 show wpAny _ _ (Builtin.SmallTypes.ownedTupleIsFree (.ref z) >>= _) _ _ _
 refine wpAny_bind ?_
 unfold Builtin.SmallTypes.ownedTupleIsFree
 refine wpAny_bind (wpAny_field hz rfl (x:=.none) rfl (wpAny_pure ?_))
 simp only [if_true]
 refine wpAny_bind (wpAny_rule ?_)
 refine wpAny_bind (wpAny_field hz rfl (x:=.ref TO) rfl ?_)
 refine wpAny_bind (wpAny_setField_rec hz (by simp) fun dk p5 ln=>?_)
 replace p5:IsZip dk z TI TO .ellipsis:=p5
 refine wpAny_bind ?_
 simp only [List.zipIdx_cons,List.zipIdx_nil,List.forIn_cons,List.forIn_nil]
 refine wpAny_bind (wpAny_bind (wpAny_onRaise ?_))
 show wpAny _ _ (Builtin.SmallTypes.nextOf (.ref i1) >>= _) _ _ _
 have aiY:∀ c o,c ≠ z->s.heap.get? c=some o->dk.get? c=some o:=fun c o c1 e=>ln.extBut _ _ c1 e
 refine wpAny_bind (sY (h1.extBut ln.extBut D.c) (ht dk fun c o c1 zz zz zz e=>aiY c o c1 e).1 hx fun ft ajX m5=>wpAny_pure ?_)
 have aeH:IsPair ft TO a b:=m5.extBut _ _ D.h (ln.extBut _ _ D.b hTO)
 refine wpAny_bind (wpAny_seqItems aeH rfl ?_)
 refine wpAny_bind (wpAny_updateSeq_pair aeH fun aaf aai mZ=>?_)
 replace aai:IsPair aaf TO x b:=aai
 refine wpAny_bind (wpAny_letGo (wpAny_pure ?_))
 refine wpAny_bind (wpAny_bind (wpAny_onRaise ?_))
 show wpAny _ _ (Builtin.SmallTypes.nextOf (.ref i2) >>= _) _ _ _
 have aiX:∀ c o,c ≠ z->c ≠ TO->c ≠ i1->s.heap.get? c=some o->aaf.get? c=some o:=fun c o c1 c2 c3 e=>mZ.extBut _ _ c2 (m5.extBut _ _ c3 (aiY c o c1 e))
 refine wpAny_bind (wpAny_nextOf_list_item (((h2.extBut ln.extBut D.d).extBut m5.extBut D.j.symm).extBut mZ.extBut D.i.symm)
  (ht aaf fun c o c1 c2 c3 zz e=>aiX c o c1 c2 c3 e).2 hy fun akp ajV vP=>wpAny_pure ?_)
 have aeG:IsPair akp TO x b:=vP.extBut _ _ D.i aai
 refine wpAny_bind (wpAny_seqItems aeG rfl ?_)
 refine wpAny_bind (wpAny_updateSeq_pair aeG fun iQ vS vO=>?_)
 replace vS:IsPair iQ TO x y:=vS
 refine wpAny_bind (wpAny_letGo (wpAny_pure (wpAny_pure ?_)))
 refine wpAny_bind (wpAny_seqItems vS rfl ?_)
 refine wpAny_bind (wpAny_newTuple ?_)
 have hsz:iQ.objs.size=s.heap.objs.size:=by rw [vO.1,vP.1,mZ.1,m5.1,ln.1]
 have ag4:IsZip iQ z TI TO .ellipsis:=vO.extBut _ _ D.b.symm (vP.extBut _ _ D.d.symm (mZ.extBut _ _ D.b.symm (m5.extBut _ _ D.c.symm p5)))
 have ajS:∀ c o,c ≠ z->c ≠ TO->c ≠ i1->c ≠ i2->s.heap.get? c=some o->iQ.get? c=some o:=fun c o c1 c2 c3 c4 e =>
  vO.extBut _ _ c2 (vP.extBut _ _ c4 (aiX c o c1 c2 c3 e))
 have ajW:iQ.IsTupleIter i1 t (k + 1):=((ajX.extBut mZ.extBut D.h.symm).extBut vP.extBut D.j).extBut vO.extBut D.h.symm
 have ajU:iQ.IsListIter i2 l (k + 1):=ajV.extBut vO.extBut D.i.symm
 have hzlt:z < iQ.objs.size:=Heap.lt_size ag4
 show wpAny _ _ (Builtin.SmallTypes.ownedTupleHandOut (.ref z) (.ref iQ.objs.size) >>= _) _ _ _
 refine wpAny_bind ?_
 unfold Builtin.SmallTypes.ownedTupleHandOut
 have ajQ:IsZip (iQ.push { cls:=.type "tuple",data:=.seq #[x,y] }) z TI TO .ellipsis:=Heap.get?_push_of_some _ ag4
 refine wpAny_bind (wpAny_setField_rec ajQ (by simp) fun akn ac1 ag7=>?_)
 replace ac1:IsZip akn z TI TO (rawInt iQ.objs.size):=ac1
 refine wpAny_setField_rec ac1 (by simp) fun aae y5 ag6=>?_
 replace y5:IsZip aae z TI TO (rawInt iQ.objs.size):=y5
 have up:∀ c o,c ≠ z->iQ.get? c=some o->aae.get? c=some o:=fun c o c1 e=>ag6.extBut _ _ c1 (ag7.extBut _ _ c1 (Heap.get?_push_of_some _ e))
 have aha:IsPair aae iQ.objs.size x y:=ag6.extBut _ _ (Nat.ne_of_gt hzlt) (ag7.extBut _ _ (Nat.ne_of_gt hzlt) (Heap.get?_push_size _ rfl))
 rw [hsz] at y5 aha
 refine wpAny_pure ⟨_,rfl,?_⟩
 show Q (.ref iQ.objs.size) _
 rw [hsz]
 have kk:∀ c o,c ≠ z->c ≠ TO->c ≠ i1->c ≠ i2->s.heap.get? c=some o->aae.get? c=some o:=fun c o c1 c2 c3 c4 e=>up c o c1 (ajS c o c1 c2 c3 c4 e)
 exact hQ aae ⟨y5,kk _ _ D.a D.e D.f D.g hTI,nJ ajW fun o e=>up _ o D.c e,nP ajU fun o e=>up _ o D.d e⟩ (up _ _ D.b vS) aha kk
theorem zd {z TI TO i1 i2 t l:Addr} {k:Nat} {xs:Array Value} {Q:Fin->Shared->Prop} (hh:A.handled=none) (D:sX z TI TO i1 i2) (Z:gD s.heap z TI TO i1 i2 t l k .none)
  (ht:∀ h':Heap,(∀ c o,c ≠ z->c ≠ i1->s.heap.get? c=some o->h'.get? c=some o)->h'.IsTuple t xs) (hx:xs[k]?=none)
  (hE:∀ (h':Heap) (e:Addr),(∀ c o,c ≠ z->c ≠ i1->s.heap.get? c=some o->h'.get? c=some o)->(∃ o,h'.get? e=some o/\o.cls=.type "StopIteration")->E (.ref e) { s with heap:=h' }) :
  wpAny (model prog w) A (Builtin.«zip.__next__» ⟨[.ref z],[]⟩) Q E s:=by
 obtain ⟨hz,hTI,h1,h2⟩:=Z
 show wpAny _ _ (field (.ref z) 2 >>= _) _ _ _
 refine wpAny_bind (wpAny_field hz rfl (x:=.bool false) rfl ?_)
 show wpAny _ _ (field (.ref z) 3 >>= _) _ _ _
 refine wpAny_bind (wpAny_field hz rfl (x:=.ref TI) rfl ?_)
 refine wpAny_bind (wpAny_seqItems hTI rfl ?_)
 show wpAny _ _ (Builtin.SmallTypes.ownedTupleIsFree (.ref z) >>= _) _ _ _
 refine wpAny_bind ?_
 unfold Builtin.SmallTypes.ownedTupleIsFree
 refine wpAny_bind (wpAny_field hz rfl (x:=.none) rfl (wpAny_pure ?_))
 simp only [if_true]
 refine wpAny_bind (wpAny_rule ?_)
 refine wpAny_bind (wpAny_field hz rfl (x:=.ref TO) rfl ?_)
 refine wpAny_bind (wpAny_setField_rec hz (by simp) fun dk p5 ln=>?_)
 replace p5:IsZip dk z TI TO .ellipsis:=p5
 refine wpAny_bind ?_
 simp only [List.zipIdx_cons,List.zipIdx_nil,List.forIn_cons,List.forIn_nil]
 refine wpAny_bind (wpAny_bind (wpAny_onRaise ?_))
 show wpAny _ _ (Builtin.SmallTypes.nextOf (.ref i1) >>= _) _ _ _
 refine wpAny_bind (t7 hh (h1.extBut ln.extBut D.c) (ht dk fun c o c1 zz e=>ln.extBut _ _ c1 e) hx fun ft e m5 he=>?_)
 obtain ⟨oe,hoe,hce⟩:=he
 have ag5:IsZip ft z TI TO .ellipsis:=m5 _ _ D.c.symm p5
 have hez:e ≠ z:=fun x=>by subst x; rw [ag5] at hoe; cases hoe; simp at hce
 exact wpAny_setField_rec ag5 (by simp) fun aaf zz mZ=>hE aaf e (fun c o c1 c3 x=>mZ.extBut _ _ c1 (m5 _ _ c3 (ln.extBut _ _ c1 x))) ⟨oe,mZ.extBut _ _ hez hoe,hce⟩
theorem uY {z TI TO i1 i2 t l:Addr} {k:Nat} {xs ys:Array Value} {x y a b:Value} {Q:Option Value->Shared->Prop} (D:sX z TI TO i1 i2) (Z:gD s.heap z TI TO i1 i2 t l k .none) (hTO:IsPair s.heap TO a b)
  (ht:∀ h':Heap,(∀ c o,c ≠ z->c ≠ TO->c ≠ i1->c ≠ i2->s.heap.get? c=some o->h'.get? c=some o)->h'.IsTuple t xs/\h'.IsList l ys) (hx:xs[k]?=some x) (hy:ys[k]?=some y)
  (hQ:∀ h',gD h' z TI TO i1 i2 t l (k + 1) (rawInt s.heap.objs.size)->IsPair h' TO x y->IsPair h' s.heap.objs.size x y ->
   (∀ c o,c ≠ z->c ≠ TO->c ≠ i1->c ≠ i2->s.heap.get? c=some o->h'.get? c=some o)->Q (some (.ref s.heap.objs.size)) { s with heap:=h' }) :
  wpAny (model prog w) A (pyNext (.ref z)) Q E s:=by
 have hT:s.TypeIs (.ref z) "zip" := ⟨_,Z.z,rfl⟩
 unfold pyNext
 exact wpAny_bind (wpAny_attempt (wpAny_callSpecial?_slot (name:=Str.ofString "__next__") hT F.slot_zip_next
  (wpAny_call_entry F.slot_zip_next hT F.entry_zip_next
   (yq D Z hTO ht hx hy fun h' a1 a2 a3 a4=>wpAny_pure (hQ h' a1 a2 a3 a4)) (F.args_zip_next_1 _))))
theorem wG {z TI TO i1 i2 t l:Addr} {k:Nat} {xs:Array Value} {Q:Option Value->Shared->Prop} (hh:A.handled=none) (D:sX z TI TO i1 i2) (Z:gD s.heap z TI TO i1 i2 t l k .none)
  (ht:∀ h':Heap,(∀ c o,c ≠ z->c ≠ i1->s.heap.get? c=some o->h'.get? c=some o)->h'.IsTuple t xs) (hx:xs[k]?=none)
  (hQ:∀ h':Heap,(∀ c o,c ≠ z->c ≠ i1->s.heap.get? c=some o->h'.get? c=some o)->Q none { s with heap:=h' }):wpAny (model prog w) A (pyNext (.ref z)) Q E s:=by
 have hT:s.TypeIs (.ref z) "zip" := ⟨_,Z.z,rfl⟩
 unfold pyNext
 refine wpAny_bind (wpAny_attempt (wpAny_callSpecial?_slot (name:=Str.ofString "__next__") hT F.slot_zip_next
  (wpAny_call_entry F.slot_zip_next hT F.entry_zip_next (zd hh D Z ht hx fun h' e hk he=>?_) (F.args_zip_next_1 _))))
 obtain ⟨o,ho,hc⟩:=he
 refine wpAny_bind (wpAny_isInstance (T := "StopIteration") (b:=true) ⟨o,ho,hc⟩ isSubtype_stop ?_)
 exact wpAny_pure (hQ _ hk)
noncomputable abbrev yU (h:Heap) (t:Addr):Heap:=h.push { cls:=.type "tuple_iterator",data:=.fields #[.ref t,.int 0 0] }
noncomputable abbrev yT (h:Heap) (t l:Addr):Heap:=(yU h t).push { cls:=.type "list_iterator",data:=.fields #[.ref l,.int 0 0] }
noncomputable abbrev yS (h:Heap) (t l:Addr):Heap:=(yT h t l).push { cls:=.type "tuple",data:=.seq #[.ref h.objs.size,.ref (yU h t).objs.size] }
noncomputable abbrev yR (h:Heap) (t l:Addr):Heap:=(yS h t l).push { cls:=.type "tuple",data:=.seq #[.none,.none] }
noncomputable abbrev sA (h:Heap) (t l:Addr):Heap:=(yR h t l).push { cls:=.type "zip",data:=.fields #[.none,.bool false,.bool false,.ref (yT h t l).objs.size,.ref (yS h t l).objs.size] }
theorem yx (t l:Addr) (xs ys:Array Value) :
  Meets (Builtin.«zip.__new__» ⟨[.type "zip",.ref t,.ref l],[]⟩) (fun zz R s=>s.heap.IsTuple t xs/\s.heap.IsList l ys ∧
   R (.ok (.ret (.ref (yR s.heap t l).objs.size))) { s with heap:=sA s.heap t l }):=
 .of_wp fun prog w A R s h=>by
  obtain ⟨hp,g,d,tk,os⟩:=s; obtain ⟨hl1,hl2,h⟩:=h
  have hsub:=sub_zip
  have hL1:Heap.IsTuple (Shared.heap ⟨hp,g,d,tk,os⟩) t xs:=hl1
  have hL2:Heap.IsList (Shared.heap ⟨hp.push { cls:=.type "tuple_iterator",data:=.fields #[.ref t,.int 0 0] },g,d,tk,os⟩) l ys:=Heap.IsList.push hl2 _
  wp_walk using wpAny_pyIter_tuple hL1,wpAny_pyIter_list hL2
  exact ⟨_,rfl,h⟩
theorem agx {t l:Addr} {xs ys:Array Value} {Q:Value->Shared->Prop} (hl1:s.heap.IsTuple t xs) (hl2:s.heap.IsList l ys)
  (h:∀ h',gD h' (s.heap.objs.size + 4) (s.heap.objs.size + 2) (s.heap.objs.size + 3) s.heap.objs.size (s.heap.objs.size + 1) t l 0 .none->IsPair h' (s.heap.objs.size + 3) .none .none ->
   (∀ c o,s.heap.get? c=some o->h'.get? c=some o)->Q (.ref (s.heap.objs.size + 4)) { s with heap:=h' }) :
  wpAny (model prog w) A (call (.type "zip") [.ref t,.ref l]) Q E s:=by
 refine callType_new F.called_zip (by decide) (F.typeCall_zip_2 _ _) (F.newCall_zip_2 _ _) (fun obj=>F.args_object_init_3 obj _ _) F.entry_zip_new
  (yx t l xs ys) ⟨hl1,hl2,?_⟩
 have z1:(yU s.heap t).objs.size=s.heap.objs.size + 1:=Heap.size_push ..
 have z2:(yT s.heap t l).objs.size=s.heap.objs.size + 2:=by rw [Heap.size_push,z1]
 have z3:(yS s.heap t l).objs.size=s.heap.objs.size + 3:=by rw [Heap.size_push,z2]
 have z4:(yR s.heap t l).objs.size=s.heap.objs.size + 4:=by rw [Heap.size_push,z3]
 have g5:(sA s.heap t l).get? (yR s.heap t l).objs.size=some _:=Heap.get?_push_size _ rfl
 have g4:(sA s.heap t l).get? (yS s.heap t l).objs.size=some _:=Heap.get?_push_of_some _ (Heap.get?_push_size _ rfl)
 have g3:(sA s.heap t l).get? (yT s.heap t l).objs.size=some _:=Heap.get?_push_of_some _ (Heap.get?_push_of_some _ (Heap.get?_push_size _ rfl))
 have g2:(sA s.heap t l).get? (yU s.heap t).objs.size=some _:=Heap.get?_push_of_some _ (Heap.get?_push_of_some _ (Heap.get?_push_of_some _ (Heap.get?_push_size _ rfl)))
 have g1:(sA s.heap t l).get? s.heap.objs.size=some _:=Heap.get?_push_of_some _ (Heap.get?_push_of_some _ (Heap.get?_push_of_some _ (Heap.get?_push_of_some _ (Heap.get?_push_size _ rfl))))
 show _/\_
 rw [z2,z3,z4] at g5
 rw [z1,z2] at g3
 rw [z3] at g4
 rw [z1] at g2
 rw [z4]
 exact ⟨⟨_,g5,rfl⟩,h _ ⟨g5,g3,⟨_,g1,rfl,rfl⟩,⟨_,g2,rfl,rfl⟩⟩ g4 fun c o x =>
  Heap.get?_push_of_some _ (Heap.get?_push_of_some _ (Heap.get?_push_of_some _ (Heap.get?_push_of_some _ (Heap.get?_push_of_some _ x))))⟩
end
theorem zG {h:Heap} {a b:Addr} {o:Obj} {v xs:Array Value} {n:Nat} {c:Value} (e1:h.get? a=some { cls:=c,data:=.seq xs n }) (e2:h.get? b=some o) (hd:o.data=.fields v):a ≠ b:=fun q=>by
 rw [q,e2] at e1
 rw [oi e1] at hd
 contradiction
theorem R.but2 {hb:Bs} {h h':Heap} {σ:ab} {α:AL} {own:List Addr} {TO:Addr} {j:Nat} {x y:Value} (r:R hb h σ α) (hj:σ[j]?=some .tp) (eT:α.ix[j]?=some TO) (e':IsPair h' TO x y) (hI:∀ b ∈ own,b ∉ α.all) (hbI:∀ b ∈ own,hb.get? b=none)
  (k:∀ b o,b ∉ own->b ≠ TO->h.get? b=some o->h'.get? b=some o) (hs:∀ b ∈ own,∀ o,h.get? b=some o->¬ jm o/\¬ dW o):R hb h' σ α/\aL own α h α h':=by
 have mT:TO ∈ α.ix:=List.mem_of_getElem? eT
 have al:∀ b o,b ∉ own->h.get? b=some o->∃ o',h'.get? b=some o':=fun b o hF e=>by
  by_cases q:b=TO
  ·subst q; exact ⟨_,e'⟩
  ·exact ⟨o,k b o hF q e⟩
 have z:aL own α h α h':=⟨rfl,⟨[],by simp,fun zz hx=>by simp at hx⟩,fun b o hb e q=>k b o (fun z=>(hs b z o e).1 q) (fun z=>hb (z ▸ mT)) e,fun b o hb hF e=>.inl (k b o hF (fun z=>hb (z ▸ mT)) e),al,rfl⟩
 refine ⟨⟨fun b o e=>k b o (fun q=>by rw [hbI b q] at e; contradiction) (fun q=>by rw [q,r.fresh _ mT] at e; contradiction) (r.base b o e),r.fresh,r.nodup,r.len,fun b hb=>⟨(r.hidden b hb).1,?_⟩,fun i m a e1 e2=>?_,r.hfr,r.fe,fun b hb=>⟨(r.frs b hb).1,?_⟩,r.frNot⟩,z⟩
 ·obtain ⟨o,e⟩:=(r.hidden b hb).2
  exact al b o (fun q=>hI b q (List.mem_append_right _ hb)) e
 ·by_cases q:a=TO
  ·subst q
   obtain rfl:=(List.getElem?_inj (cS e2).1 r.nodup).mp (e2.trans eT.symm)
   obtain rfl:=oi (hj.symm.trans e1)
   exact ⟨x,y,e'⟩
  ·obtain ⟨o',q'⟩:=r.live (List.mem_of_getElem? e2)
   exact (r.obj i m a e1 e2).ext z (by rw [q',k a o' (fun q=>AL.not_ix (hI a q) (List.mem_of_getElem? e2)) q q'])
 ·obtain ⟨_,o,e,d⟩:=r.frs b hb
  exact ⟨o,k b o (fun q=>(hs b q o e).2 d) (fun q=>r.frNot b hb (q ▸ mT)) e,d⟩
theorem adw:∀ {xs ys:List PV} {i:Nat} {p:PV},(iF xs ys)[i]?=some p->∃ a b,xs[i]?=some a/\ys[i]?=some b/\p=.tup [a,b]:=by
 intro xs
 induction xs with
 | nil=>intro ys i p h; cases ys <;> contradiction
 | cons x xs ih =>
  intro ys i p h
  cases ys with
  | nil=>contradiction
  | cons y ys =>
   cases i with
   | zero=>obtain rfl:=oi h; exact ⟨x,y,rfl,rfl,rfl⟩
   | succ i=>exact ih (i:=i) h
theorem ab8:∀ {xs ys:List PV},xs.length=ys.length->(iF xs ys).length=xs.length:=by
 intro xs
 induction xs with
 | nil=>intro ys h; cases ys <;> rfl
 | cons x xs ih =>
  intro ys h
  cases ys with
  | nil=>contradiction
  | cons y ys=>exact congrArg Nat.succ (ih (Nat.succ.inj h))
section
variable {K:Kt} {A:Around} {s:Shared} {α:AL} {σ:ab}
structure aj6 (z TI TO i1 i2 t l:Addr) (j:Nat) (xs ys:List PV) (i:Nat) (h:Heap) (α:AL):Prop where
 Z:gD h z TI TO i1 i2 t l i .none
 eT:α.ix[j]?=some TO
 nT:TI ∉ α.all
 nz:z ∉ α.all
 n1:i1 ∉ α.all
 n2:i2 ∉ α.all
 vt:VR h α (.tup xs) (.ref t)
 vl:VR h α (.fl ys) (.ref l)
theorem gj.zip (hh:A.handled=none) {z TI TO i1 i2 t l:Addr} {j:Nat} {xs ys:List PV} (D:sX z TI TO i1 i2) (hl:xs.length=ys.length) (hb:∀ b ∈ [z,i1,i2],K.hb.get? b=none) :
  gj K A true [z,i1,i2] (.ref z) (iF xs ys) (some (j,.tp)) (aj6 z TI TO i1 i2 t l j xs ys):=by
 have three:∀ {P:Addr->Prop},P z->P i1->P i2->∀ b ∈ [z,i1,i2],P b:=fun {P} h1 h2 h3 b hb=>by
  rcases List.mem_cons.mp hb with rfl | hb
  ·exact h1
  ·rcases List.mem_cons.mp hb with rfl | hb
   ·exact h2
   ·rw [List.mem_singleton.mp hb]; exact h3
 have soft:∀ {h:Heap} {n:Nat} {f0:Value},gD h z TI TO i1 i2 t l n f0->∀ b ∈ [z,i1,i2],∀ o,h.get? b=some o->¬ jm o/\¬ dW o:=fun {h n f0} Z=>three
  (fun o q=>by rw [Z.z] at q; obtain rfl:=oi q; exact ⟨bj rfl rfl,bk rfl⟩)
  (fun o q=>by obtain ⟨o',e',hc',hd'⟩:=Z.it; rw [e'] at q; obtain rfl:=oi q; exact ⟨bj hd' hc',bk hd'⟩)
  (fun o q=>by obtain ⟨o',e',hc',hd'⟩:=Z.il; rw [e'] at q; obtain rfl:=oi q; exact ⟨bj hd' hc',bk hd'⟩)
 have apart:∀ {h:Heap} {n:Nat} {f0:Value} {a:Addr} {c:Value} {us:Array Value} {m:Nat},gD h z TI TO i1 i2 t l n f0->h.get? a=some { cls:=c,data:=.seq us m }->∀ b ∈ [z,i1,i2],a ≠ b:=fun {h n f0 a c us m} Z e=>three (zG e Z.z rfl)
  (by obtain ⟨o',e',hc',hd'⟩:=Z.it; exact zG e e' hd') (by obtain ⟨o',e',hc',hd'⟩:=Z.il; exact zG e e' hd')
 refine ⟨fun i h α st=>?_,fun i h α st=>three st.nz st.n1 st.n2,fun i F α h α' h' st x hF=>?_,fun i D α h h' st hD k=>?_,fun i D α h st hD=>?_,fun i s σ α p hp st r hw Q E hQ=>?_,fun s σ α st r hw Q E hQ=>?_,fun i s α st Q E hQ=>?_⟩
 ·obtain ⟨o1,e1,_⟩:=st.Z.it
  obtain ⟨o2,e2,_⟩:=st.Z.il
  exact three ⟨_,st.Z.z⟩ ⟨o1,e1⟩ ⟨o2,e2⟩
 ·obtain ⟨Z,eT,nT,nz,n1,n2,vt,vl⟩:=st
  obtain ⟨Zz,Zt,⟨o1,e1,c1,d1⟩,⟨o2,e2,c2,d2⟩⟩:=Z
  exact ⟨⟨ch Zz rfl (x.rest z _ (AL.not_ix nz) (hF z (by simp)) Zz),x.seqs TI _ (AL.not_ix nT) Zt (.inl ⟨_,_,rfl⟩),⟨o1,ch e1 d1 (x.rest i1 o1 (AL.not_ix n1) (hF i1 (by simp)) e1),c1,d1⟩,⟨o2,ch e2 d2 (x.rest i2 o2 (AL.not_ix n2) (hF i2 (by simp)) e2),c2,d2⟩⟩,
   x.get eT,x.notAll nT Zt,x.notAll nz Zz,x.notAll n1 e1,x.notAll n2 e2,vt.ext x,vl.ext x⟩
 ·obtain ⟨Z,eT,nT,nz,n1,n2,vt,vl⟩:=st
  refine ⟨Z.keep fun b hb o e=>(k b fun q=>?_).trans e,eT,nT,nz,n1,n2,vt.sameBut hD k,vl.sameBut hD k⟩
  subst q
  rcases hb with rfl | rfl | rfl | rfl
  ·exact nz hD
  ·exact nT hD
  ·exact n1 hD
  ·exact n2 hD
 ·obtain ⟨Z,eT,nT,nz,n1,n2,vt,vl⟩:=st
  obtain ⟨o1,e1,_⟩:=Z.it
  obtain ⟨o2,e2,_⟩:=Z.il
  exact ⟨Z,eT,AL.not_hide hD Z.ti nT,AL.not_hide hD Z.z nz,AL.not_hide hD e1 n1,AL.not_hide hD e2 n2,vt.hide hD,vl.hide hD⟩
 ·obtain ⟨Z,eT,nT,nz,n1,n2,vt,vl⟩:=st
  have hw:σ[j]?=some .tp:=hw
  obtain ⟨q1,q2,h1,h2,rfl⟩:=adw hp
  obtain ⟨t',us,n,ht,e1,hn,w⟩:=vt.tupE
  cases ht
  obtain ⟨l',ws,m,hl',e2,hm,w'⟩:=vl.flE
  cases hl'
  obtain ⟨u,hu,hv⟩:=w.get h1
  obtain ⟨u',hu',hv'⟩:=w'.get h2
  obtain ⟨y1,y2,eO⟩:=r.obj j _ TO hw eT
  have mT:TO ∈ α.all:=List.mem_append_left _ (List.mem_of_getElem? eT)
  have a1:=apart Z e1
  have a2:=apart Z e2
  refine uY D Z eO (xs:=us.toArray) (ys:=ws.toArray) (fun h' k=>⟨w7 (s:={ s with heap:=h' }) (k t _ (a1 z (by simp)) (fun q=>hn (q ▸ mT)) (a1 i1 (by simp)) (a1 i2 (by simp)) e1),ip (s:={ s with heap:=h' }) (k l _ (a2 z (by simp)) (fun q=>hm (q ▸ mT)) (a2 i1 (by simp)) (a2 i2 (by simp)) e2)⟩) (by simpa using hu) (by simpa using hu') fun h' Z' tp' hT k=>?_
  obtain ⟨r',x⟩:=r.but2 (h':=h') hw eT tp' (three nz n1 n2) hb (fun b o hb hO=>k b o (fun z=>hb (by simp [z])) hO (fun z=>hb (by simp [z])) (fun z=>hb (by simp [z]))) (soft Z)
  have fresh:s.heap.objs.size ∉ α.all:=fun z=>by
   obtain ⟨o,e⟩:=r.liveAll z
   exact absurd (Heap.lt_size e) (Nat.lt_irrefl _)
  have vp:VR h' α (.tup [q1,q2]) (.ref s.heap.objs.size):=VR.tupI (ak:=[u,u']) hT fresh (.cons (hv.ext x) (.cons (hv'.ext x) .nil))
  refine hQ _ _ vp (fun z=>by contradiction) ?_ x r' ⟨rfl,rfl⟩
  intro elts kk pos Q' E' hQ'
  refine wpAny_letOwnedTupleGo_zip (s:={ s with heap:=h' }) Z'.z fun ft e2 sb=>?_
  obtain ⟨r2,x2⟩:=r'.but2 (h':=ft) hw eT ((sb.2 TO D.b).trans tp') (three nz n1 n2) hb (fun b o hb zz q=>(sb.2 b (fun z=>hb (by simp [z]))).trans q) (soft Z')
  exact hQ' _ ⟨vp.ext x2,⟨⟨e2,(sb.2 TI D.a).trans Z'.ti,nJ Z'.it fun o e=>(sb.2 i1 D.c).trans e,nP Z'.il fun o e=>(sb.2 i2 D.d).trans e⟩,eT,nT,nz,n1,n2,(vt.ext x).ext x2,(vl.ext x).ext x2⟩,x2,r2,⟨rfl,rfl⟩⟩
 ·obtain ⟨Z,eT,nT,nz,n1,n2,vt,vl⟩:=st
  have hw:σ[j]?=some .tp:=hw
  obtain ⟨t',us,n,ht,e1,hn,w⟩:=vt.tupE
  cases ht
  obtain ⟨y1,y2,eO⟩:=r.obj j _ TO hw eT
  have a1:=apart Z e1
  refine wG (xs:=us.toArray) hh D Z (fun h' k=>w7 (s:={ s with heap:=h' }) (k t _ (a1 z (by simp)) (a1 i1 (by simp)) e1)) (by simp [ab8 hl,w.1]) fun h' k=>?_
  obtain ⟨r',x⟩:=r.but2 (h':=h') hw eT (k TO _ D.b D.h eO) (three nz n1 n2) hb (fun b o hb zz=>k b o (fun z=>hb (by simp [z])) (fun z=>hb (by simp [z]))) (soft Z)
  exact hQ _ x r' ⟨rfl,rfl⟩
 ·exact wpAny_pyIter_zip st.Z.z hQ
theorem AL.not_add {b D:Addr} (h:b ∉ α.all) (hD:b ≠ D):b ∉ (α.add D).all:=fun q=>by
 rcases List.mem_append.mp q with q | q
 ·rcases List.mem_append.mp q with q | q
  ·exact h (List.mem_append_left _ q)
  ·exact hD (List.mem_singleton.mp q)
 ·exact h (List.mem_append_right _ q)
theorem ain (n:Nat):sX (n + 4) (n + 2) (n + 3) n (n + 1):=
 have h:∀ a b:Nat,a ≠ b->(n + a:Nat) ≠ n + b:=fun a b h q=>h (Nat.add_left_cancel q)
 ⟨h 2 4 (by decide),h 3 4 (by decide),h 0 4 (by decide),h 1 4 (by decide),h 2 3 (by decide),h 2 0 (by decide),h 2 1 (by decide),h 3 0 (by decide),h 3 1 (by decide),h 0 1 (by decide)⟩
theorem ajs {a b:PV} {P:Prop} (h:wH a b σ ≠ .stuck) (k:∀ xs ys,a=.tup xs->b=.fl ys->xs.length=ys.length->wH a b σ=.ok (iF xs ys,some (σ.length,.tp)) (σ++[.tp])->P):P:=by
 cases a with
 | tup xs =>
  cases b with
  | fl ys =>
   have e0:wH (.tup xs) (.fl ys) σ=if xs.length=ys.length/\ys.length <= ao then .ok (iF xs ys,some (σ.length,.tp)) (σ++[.tp]) else .stuck:=rfl
   by_cases hl:xs.length=ys.length/\ys.length <= ao
   ·exact k xs ys rfl rfl hl.1 (e0.trans (if_pos hl))
   ·exact absurd (e0.trans (if_neg hl)) h
  | _=>exact absurd rfl h
 | _=>exact absurd rfl h
theorem af8 {a b:PV} {x y:Value} {E:Value->Shared->Prop} (hh:A.handled=none) (r:R K.hb s.heap σ α) (va:VR s.heap α a x) (vb:VR s.heap α b y) (hc:wH a b σ ≠ .stuck) :
  wpAny (model K.prog K.w) A (call (.type "zip") [x,y]) (fun y s₁=>wpAny (model K.prog K.w) A (pyIter y) (bK K A true (wH a b σ) s α) E s₁) E s:=by
 refine ajs hc fun xs ys ha hb hl e=>?_
 subst ha hb
 rw [e]
 obtain ⟨t,us,n,rfl,e1,hn,w⟩:=va.tupE
 obtain ⟨l,ws,m,rfl,e2,hm,w'⟩:=vb.flE
 refine agx (w7 e1) (ip e2) fun h' Z tp k=>wpAny_pyIter_zip (s:={ s with heap:=h' }) Z.z ?_
 have out:∀ i,s.heap.get? (s.heap.objs.size + i)=none/\s.heap.objs.size + i ∉ α.all/\K.hb.get? (s.heap.objs.size + i)=none:=fun i=>by
  have q0:s.heap.get? (s.heap.objs.size + i)=none:=by
   cases q:s.heap.get? (s.heap.objs.size + i) with
   | none=>rfl
   | some o=>exact absurd (Heap.lt_size q) (Nat.not_lt.mpr (Nat.le_add_right _ _))
  refine ⟨q0,fun z=>?_,?_⟩
  ·obtain ⟨o,e⟩:=r.liveAll z
   rw [q0] at e; contradiction
  ·cases q:K.hb.get? (s.heap.objs.size + i) with
   | none=>rfl
   | some o=>rw [r.base _ _ q] at q0; contradiction
 have D:=ain s.heap.objs.size
 obtain ⟨r',x⟩:=r.add (D:=s.heap.objs.size + 3) (m:=.tp) k (out 3).1 ⟨_,_,tp⟩
 have own:∀ b ∈ [s.heap.objs.size + 4,s.heap.objs.size,s.heap.objs.size + 1],s.heap.get? b=none/\K.hb.get? b=none:=fun b hb=>by
  rcases List.mem_cons.mp hb with rfl | hb
  ·exact ⟨(out 4).1,(out 4).2.2⟩
  ·rcases List.mem_cons.mp hb with rfl | hb
   ·exact ⟨(out 0).1,(out 0).2.2⟩
   ·rw [List.mem_singleton.mp hb]; exact ⟨(out 1).1,(out 1).2.2⟩
 refine ⟨_,_,_,_,_,_,rfl,x,r',⟨rfl,rfl⟩,.zip (t:=t) (l:=l) hh D hl fun b hb=>(own b hb).2,⟨Z,?_,AL.not_add (out 2).2.1 D.e,AL.not_add (out 4).2.1 D.b.symm,AL.not_add (out 0).2.1 D.h.symm,AL.not_add (out 1).2.1 D.i.symm,va.ext x,vb.ext x⟩,own⟩
 show (α.ix++[s.heap.objs.size + 3])[σ.length]?=_
 rw [r.len,List.getElem?_append_right (Nat.le_refl _),Nat.sub_self]; rfl
end
end Mine
namespace Mine
open PySem PyProof.Rows
theorem R.buts {hb:Bs} {h h':Heap} {σ:ab} {α:AL} {own:List Addr} (r:R hb h σ α) (hI:∀ b ∈ own,b ∉ α.all) (hbI:∀ b ∈ own,hb.get? b=none) (k:∀ b o,b ∉ own->h.get? b=some o->h'.get? b=some o)
  (hs:∀ b ∈ own,∀ o,h.get? b=some o->¬ jm o/\¬ dW o):R hb h' σ α/\aL own α h α h':=by
 have x:aL own α h α h':=⟨rfl,⟨[],by simp,fun zz hx=>by simp at hx⟩,fun b o hb e q=>k b o (fun z=>(hs b z o e).1 q) e,fun b o hb hF e=>.inl (k b o hF e),fun b o hF e=>⟨o,k b o hF e⟩,rfl⟩
 refine ⟨⟨fun b o e=>k b o (fun q=>by rw [hbI b q] at e; contradiction) (r.base b o e),r.fresh,r.nodup,r.len,fun b hb=>⟨(r.hidden b hb).1,?_⟩,fun j m a e1 e2=>?_,r.hfr,r.fe,fun b hb=>⟨(r.frs b hb).1,?_⟩,r.frNot⟩,x⟩
 ·obtain ⟨o,e⟩:=(r.hidden b hb).2
  exact ⟨o,k b o (fun q=>hI b q (List.mem_append_right _ hb)) e⟩
 ·obtain ⟨o',e'⟩:=r.live (List.mem_of_getElem? e2)
  exact (r.obj j m a e1 e2).ext x (by rw [e',k a o' (fun q=>AL.not_ix (hI a q) (List.mem_of_getElem? e2)) e'])
 ·obtain ⟨_,o,e,d⟩:=r.frs b hb
  exact ⟨o,k b o (fun q=>(hs b q o e).2 d) e,d⟩
structure su (K:Kt) (l:Addr) (xs:List PV) (wt:Option (Nat × MO)) (L:Heap->AL->Prop):Prop where
 frame:∀ {F:List Addr} {α α':AL} {h h':Heap},L h α->aL F α h α' h'->L h' α'
 but:∀ {D:Addr} {α:AL} {h h':Heap},L h α->D ∈ α.all->(∀ b,b ≠ D->h'.get? b=h.get? b)->L h' α
 hide:∀ {D:Addr} {α:AL} {h:Heap},L h α->h.get? D=none->L h ⟨α.ix,D::α.hid,α.fr⟩
 has:∀ {s:Shared} {σ:ab} {α:AL},L s.heap α->R K.hb s.heap σ α->cJ wt σ->∃ (vs:List Value) (n:Nat),s.heap.get? l=some { cls:=.type "list",data:=.seq vs.toArray n }/\aT s.heap α xs vs
section
variable {K:Kt} {A:Around} {s:Shared} {α:AL} {σ:ab}
theorem su.fl {l:Addr} {xs:List PV}:su K l xs none (fun h α=>VR h α (.fl xs) (.ref l)) where
 frame v x:=v.ext x
 but v hD k:=v.sameBut hD k
 hide v hD:=v.hide hD
 has v r _:=by obtain ⟨l',vs,n,hl,e1,hn,w⟩:=v.flE; cases hl; exact ⟨vs,n,e1,w⟩
theorem su.ref {l:Addr} {xs:List PV} {j:Nat}:su K l xs (some (j,.lst xs)) (fun h α=>α.ix[j]?=some l) where
 frame v x:=x.get v
 but v _ _:=v
 hide v _:=v
 has v r wt:=by obtain ⟨vs,n,e1,w⟩:=r.obj j _ l wt v; exact ⟨vs,n,e1,w⟩
theorem aa3:∀ {xs:List PV} {k i:Nat} {p:PV},(dC k xs)[i]?=some p->∃ q,xs[i]?=some q/\p=.tup [.int ((k + i:Nat):Int),q]:=by
 intro xs
 induction xs with
 | nil=>intro k i p h; contradiction
 | cons x xs ih =>
  intro k i p h
  cases i with
  | zero=>obtain rfl:=oi h; exact ⟨x,rfl,rfl⟩
  | succ i =>
   obtain ⟨q,h1,h2⟩:=ih (k:=k + 1) (i:=i) h
   exact ⟨q,h1,by rw [h2,show k + 1 + i=k + (i + 1) by grind]⟩
theorem zO:∀ {xs:List PV} {k:Nat},(dC k xs).length=xs.length:=by
 intro xs
 induction xs with
 | nil=>intro k; rfl
 | cons x xs ih=>intro k; exact congrArg Nat.succ ih
theorem gj.enum (hh:A.handled=none) {e it l:Addr} {xs:List PV} {wt:Option (Nat × MO)} {L:Heap->AL->Prop} (LR:su K l xs wt L) (hne:e ≠ it) (hbe:K.hb.get? e=none) (hbi:K.hb.get? it=none) :
  gj K A true [e,it] (.ref e) (dC 0 xs) wt (fun i h α=>(∃ old,IsEnum h e it ((i:Nat):Int) old)/\h.IsListIter it l i/\e ∉ α.all/\it ∉ α.all/\L h α):=by
 have two:∀ {P:Addr->Prop},P e->P it->∀ b ∈ [e,it],P b:=fun {P} h1 h2 b hb=>by
  rcases List.mem_cons.mp hb with rfl | hb
  ·exact h1
  ·rw [List.mem_singleton.mp hb]; exact h2
 have soft:∀ {h:Heap} {i:Int} {n:Nat} {old v0:Value},h.get? e=some { cls:=.type "enumerate",dict:=none,data:=.fields #[v0,.bool false,.ref it,rawInt i,.none,old],slots:=#[] }->h.IsListIter it l n->∀ b ∈ [e,it],∀ o,h.get? b=some o->¬ jm o/\¬ dW o:=fun {h i n old v0} he hi=>two
  (fun o q=>by rw [he] at q; obtain rfl:=oi q; exact ⟨bj rfl rfl,bk rfl⟩)
  (fun o q=>by obtain ⟨o',e',hc',hd'⟩:=hi; rw [e'] at q; obtain rfl:=oi q; exact ⟨bj hd' hc',bk hd'⟩)
 refine ⟨fun i h α st=>?_,fun i h α st=>two st.2.2.1 st.2.2.2.1,fun i F α h α' h' st x hF=>?_,fun i D α h h' st hD k=>?_,fun i D α h st hD=>?_,fun i s σ α p hp st r hw Q E hQ=>?_,fun s σ α st r hw Q E hQ=>?_,fun i s α st Q E hQ=>?_⟩
 ·obtain ⟨⟨old,en⟩,⟨o,eo,_⟩,_⟩:=st
  exact two ⟨_,en⟩ ⟨o,eo⟩
 ·obtain ⟨⟨old,en⟩,⟨o,eo,hc,hd⟩,he,hi,lr⟩:=st
  exact ⟨⟨old,ch en rfl (x.rest e _ (AL.not_ix he) (hF e (by simp)) en)⟩,⟨o,ch eo hd (x.rest it o (AL.not_ix hi) (hF it (by simp)) eo),hc,hd⟩,x.notAll he en,x.notAll hi eo,LR.frame lr x⟩
 ·obtain ⟨⟨old,en⟩,⟨o,eo,hc,hd⟩,he,hi,lr⟩:=st
  exact ⟨⟨old,(k e (fun q=>he (q ▸ hD))).trans en⟩,⟨o,(k it (fun q=>hi (q ▸ hD))).trans eo,hc,hd⟩,he,hi,LR.but lr hD k⟩
 ·obtain ⟨⟨old,en⟩,⟨o,eo,hc,hd⟩,he,hi,lr⟩:=st
  exact ⟨⟨old,en⟩,⟨o,eo,hc,hd⟩,AL.not_hide hD en he,AL.not_hide hD eo hi,LR.hide lr hD⟩
 ·obtain ⟨⟨old,en⟩,hit,he,hi,lr⟩:=st
  obtain ⟨q,hq,rfl⟩:=aa3 hp
  obtain ⟨vs,n,e1,w⟩:=LR.has lr r hw
  obtain ⟨u,hu,hv⟩:=w.get hq
  refine wpAny_pyNext_enum_item en hit (ip e1) (by simpa using hu) hne fun h' eo hit' ht hz hk=>?_
  obtain ⟨r',x⟩:=r.buts (h':=h') (two he hi) (two hbe hbi) (fun b o hb=>hk b o (fun z=>hb (by simp [z])) (fun z=>hb (by simp [z]))) (soft en hit)
  have fresh:s.heap.objs.size ∉ α.all:=fun z=>by
   obtain ⟨o,e⟩:=r.liveAll z
   exact absurd (Heap.lt_size e) (Nat.lt_irrefl _)
  have vt:VR h' α (.tup [.int ((0 + i:Nat):Int),q]) (.ref s.heap.objs.size):=by
   rw [Nat.zero_add]
   exact VR.tupI (ak:=[.int i s.toks,u]) ht fresh (.cons (.int _ _) (.cons (hv.ext x) .nil))
  refine hQ _ _ vt (fun z=>by contradiction) ?_ x r' ⟨rfl,rfl⟩
  intro elts k pos Q' E' hQ'
  refine wpAny_letOwnedTupleGo_enum (s:={ s with heap:=h',toks:=s.toks + 1 }) eo fun ft e2 sb=>?_
  obtain ⟨r2,x2⟩:=r'.buts (h':=ft) (two he hi) (two hbe hbi) (fun b o hb q=>(sb.2 b (fun z=>hb (by simp [z]))).trans q) (soft eo hit')
  refine hQ' _ ⟨vt.ext x2,⟨⟨u,?_⟩,hit'.extBut sb.extBut (Ne.symm hne),he,hi,LR.frame (LR.frame lr x) x2⟩,x2,r2,⟨rfl,rfl⟩⟩
  rw [show ((i + 1:Nat):Int)=(i:Int) + 1 by grind]; exact e2
 ·obtain ⟨⟨old,en⟩,hit,he,hi,lr⟩:=st
  obtain ⟨vs,n,e1,w⟩:=LR.has lr r hw
  refine wpAny_pyNext_enum_end hh en hit (ip e1) (by simp [zO,w.1]) fun h' he'=>?_
  obtain ⟨r',x⟩:=r.buts (h':=h') (two he hi) (two hbe hbi) (fun b o hb q=>he' b o (fun z=>hb (by simp [z])) q) (soft en hit)
  exact hQ _ x r' ⟨rfl,rfl⟩
 ·exact wpAny_pyIter_enum st.1.choose_spec hQ
theorem rx {l:Addr} {xs:List PV} {vs:List Value} {n:Nat} {wt:Option (Nat × MO)} {L:Heap->AL->Prop} {E:Value->Shared->Prop} (hh:A.handled=none) (LR:su K l xs wt L) (lr:L s.heap α) (r:R K.hb s.heap σ α)
  (e1:s.heap.get? l=some { cls:=.type "list",data:=.seq vs.toArray n }) :
  wpAny (model K.prog K.w) A (call (.type "enumerate") [.ref l]) (fun y s₁=>wpAny (model K.prog K.w) A (pyIter y) (bK K A true (.ok (dC 0 xs,wt) σ) s α) E s₁) E s:=by
 refine call_enumerate_list (ip e1) fun h' en hit hz k=>wpAny_pyIter_enum (s:={ s with heap:=h' }) en ?_
 have none1:s.heap.get? (s.heap.objs.size + 1)=none:=by
  cases q:s.heap.get? (s.heap.objs.size + 1) with
  | none=>rfl
  | some o=>exact absurd (Heap.lt_size q) (Nat.not_lt.mpr (Nat.le_succ _))
 have out:∀ b,s.heap.get? b=none->b ∉ α.all/\K.hb.get? b=none:=fun b hb=>⟨fun z=>by
  obtain ⟨o,e⟩:=r.liveAll z
  rw [hb] at e; contradiction,by
  cases q:K.hb.get? b with
  | none=>rfl
  | some o=>rw [r.base _ _ q] at hb; contradiction⟩
 have q0:=out _ (eA s)
 have q1:=out _ none1
 refine ⟨dC 0 xs,wt,σ,α,[s.heap.objs.size + 1,s.heap.objs.size],_,rfl,.keeps k,r.keeps k,⟨rfl,rfl⟩,.enum hh LR (Nat.succ_ne_self _) q1.2 q0.2,⟨⟨_,en⟩,hit,q1.1,q0.1,LR.frame lr (.keeps (F:=[]) k)⟩,fun b hb=>?_⟩
 rcases List.mem_cons.mp hb with rfl | hb
 ·exact ⟨none1,q1.2⟩
 ·rw [List.mem_singleton.mp hb]; exact ⟨eA s,q0.2⟩
theorem aew {a:PV} {x:Value} {E:Value->Shared->Prop} (hh:A.handled=none) (r:R K.hb s.heap σ α) (va:VR s.heap α a x) (hc:qc a σ ≠ .stuck) :
  wpAny (model K.prog K.w) A (call (.type "enumerate") [x]) (fun y s₁=>wpAny (model K.prog K.w) A (pyIter y) (bK K A true (qc a σ) s α) E s₁) E s:=by
 unfold qc at hc ⊢
 cases a with
 | fl xs =>
  dsimp only [a8,ie] at hc ⊢
  by_cases hl:xs.length <= ao
  ·rw [if_pos hl]
   obtain ⟨l,vs,n,rfl,e1,hn,v⟩:=va.flE
   exact rx hh su.fl va r e1
  ·rw [if_neg hl] at hc; exact absurd rfl hc
 | ref i =>
  obtain ⟨l,rfl,el⟩:=va.refE
  cases hs:σ[i]? with
  | none=>simp only [a8,hs] at hc; exact absurd rfl hc
  | some m =>
   cases m with
   | lst xs =>
    simp only [a8,ie,hs] at hc ⊢
    by_cases hl:xs.length <= ao
    ·rw [if_pos hl]
     obtain ⟨vs,n,e1,v⟩:=r.obj i _ l hs el
     exact rx hh (su.ref (j:=i)) el r e1
    ·rw [if_neg hl] at hc; exact absurd rfl hc
   | _=>simp only [a8,hs] at hc; exact absurd rfl hc
 | _=>exact absurd rfl hc
end
end Mine
namespace Mine
open PySem PyProof.Rows
structure aP (hb:Bs) (env:Env):Prop where
 l:hb.get? env.locals=none
 c:∀ x c,env.cells.lookup x=some c->hb.get? c=none
 f:∃ L r,env.frame=some L/\hb.fr=L::r
theorem OR.sameBut {B:Bs} {h h':Heap} {α:AL} {D:Addr} {m:MO} {a:Addr} (hD:D ∈ α.all) (hne:a ≠ D) (k:∀ b,b ≠ D->h'.get? b=h.get? b) (r:OR B h α m a):OR B h' α m a:=
 r.map (fun zz zz v=>v.sameBut hD k) (k a hne) fun b o hb e zz=>⟨(k b (by rintro rfl; exact hb hD)).trans e,hb⟩
theorem am.sameBut {h h':Heap} {α:AL} {D:Addr} {env:Env} {ρ:aq} (hD:D ∈ α.all) (k:∀ b,b ≠ D->h'.get? b=h.get? b) (E:am env ρ h α):am env ρ h' α:=by
 obtain ⟨m,n,hm⟩:=E.ns
 have hL:env.locals ≠ D:=by intro q; exact E.la (q ▸ hD)
 refine ⟨E.ok,E.la,⟨m,?_,fun i x v e1 e2=>let ⟨u,a,b⟩:=hm i x v e1 e2; ⟨u,a,b.sameBut hD k⟩⟩,fun x c hc=>?_,E.cd,fun i x e1=>?_,E.inb⟩
 ·obtain ⟨o,es,ep,e,r⟩:=n
  exact ⟨o,es,ep,(k _ hL).trans e,r⟩
 ·obtain ⟨h1,h2,v,o,e,d⟩:=E.ca x c hc
  exact ⟨h1,h2,v,o,(k _ (by intro q; exact h1 (q ▸ hD))).trans e,d⟩
 ·obtain ⟨c,hc,hv⟩:=E.cv i x e1
  refine ⟨c,hc,fun v e2=>?_⟩
  obtain ⟨u,⟨o,e,d⟩,b⟩:=hv v e2
  exact ⟨u,⟨o,(k _ (by intro q; exact (E.ca x c hc).1 (q ▸ hD))).trans e,d⟩,b.sameBut hD k⟩
theorem R.sameHid {hb h h' σ α} {D:Addr} (r:R hb h σ α) (hD:D ∈ α.hid) (hbD:hb.get? D=none) (k:∀ b,b ≠ D->h'.get? b=h.get? b) (al:∃ o,h'.get? D=some o) (nd:∀ o,h.get? D=some o->¬ dW o):R hb h' σ α:=by
 have hDi:=(r.hidden D hD).1
 have hDa:D ∈ α.all:=List.mem_append_right _ hD
 refine ⟨fun b o e=>(k b (by rintro rfl; rw [hbD] at e; contradiction)).trans (r.base b o e),r.fresh,r.nodup,r.len,fun b hb'=>⟨(r.hidden b hb').1,?_⟩,fun j m a e1 e2=>?_,r.hfr,r.fe,fun b hb'=>⟨(r.frs b hb').1,?_⟩,r.frNot⟩
 ·by_cases q:b=D
  ·subst q; exact al
  ·rw [k b q]; exact (r.hidden b hb').2
 ·exact (r.obj j m a e1 e2).sameBut hDa (by rintro rfl; exact hDi (List.mem_of_getElem? e2)) k
 ·obtain ⟨_,o,e,d⟩:=r.frs b hb'
  exact ⟨o,(k b (by rintro rfl; exact nd o e d)).trans e,d⟩
theorem aL.sameBut {F α h α' h' h''} {D:Addr} (x:aL F α h α' h') (hD:h.get? D=none) (k:∀ b,b ≠ D->h''.get? b=h'.get? b):aL F α h α' h'':=by
 have ne:∀ b o,h.get? b=some o->b ≠ D:=fun b o e q=>by rw [q,hD] at e; contradiction
 refine ⟨x.hid,x.pre,fun b o hb e hs=>(k b (ne b o e)).trans (x.seqs b o hb e hs),fun b o hb hF e=>?_,fun b o hF e=>?_,x.fre⟩
 ·rcases x.rest b o hb hF e with q | ⟨f,d,sl,q⟩
  ·exact .inl ((k b (ne b o e)).trans q)
  ·exact .inr ⟨f,d,sl,(k b (ne b o e)).trans q⟩
 ·obtain ⟨o',e'⟩:=x.alive b o hF e
  exact ⟨o',(k b (ne b o e)).trans e'⟩
theorem aL.rehid {F α h α' h'} (x:aL F α h α' h') (hid:List Addr):aL F ⟨α.ix,hid,α.fr⟩ h ⟨α'.ix,hid,α'.fr⟩ h':=
 ⟨rfl,x.pre,x.seqs,x.rest,x.alive,x.fre⟩
section
variable {K:Kt} {A:Around} {s:Shared} {α:AL} {σ:ab} {env:Env} {ρ:aq}
noncomputable def uT (names:List (Str × NameKind)):Prop:=∀ (i j:Nat) (x:Str) (k k':NameKind),names[i]?=some (x,k)->names[j]?=some (x,k')->i=j
theorem lD {ρ:aq} {i j:Nat} {v w:PV} (e:(ρ.set i (some v))[j]?=some (some w)):(j=i/\w=v)\/(j ≠ i/\ρ[j]?=some (some w)):=by
 by_cases q:j=i
 ·subst q
  rw [List.getElem?_set_self'] at e
  cases hq:ρ[j]? with
  | none=>rw [hq] at e; contradiction
  | some o=>rw [hq] at e; simp at e; exact .inl ⟨rfl,e.symm⟩
 ·rw [List.getElem?_set_ne (Ne.symm q)] at e
  exact .inr ⟨q,e⟩
theorem th {i:Nat} {x:Str} {v:PV} {u:Value} {Q:Unit->Shared->Prop} {X:Value->Shared->Prop} (hU:uT env.scope.names) (r:R K.hb s.heap σ α) (E:am env ρ s.heap α) (hL:K.hb.get? env.locals=none)
  (hn:env.scope.names[i]?=some (x,.local)) (vu:VR s.heap α v u)
  (hQ:∀ s',R K.hb s'.heap σ α->am env (ρ.set i (some v)) s'.heap α->aL [env.locals] α s.heap α s'.heap->(∀ b,b ≠ env.locals->s'.heap.get? b=s.heap.get? b)->Sm s s'->Q () s') :
  wpAny (model K.prog K.w) A (storeName env x u) Q X s:=by
 obtain ⟨m,n,hm⟩:=E.ns
 refine wpAny_storeName_local (E.ok.ws i x _ hn) n (fun h' hn' hs'=>?_) (by rw [E.ok.kind]; rfl)
 obtain ⟨r',x'⟩:=r.but E.la hL (fun b o hb e=>(hs'.2 b hb).trans e) (fun o e=>by
  obtain ⟨o',es,ep,e',d,_⟩:=id n
  rw [e] at e'; obtain rfl:=oi e'
  exact dW.notSolid ⟨_,_,d⟩) fun zz o e zz=>by
  obtain ⟨o',es,ep,e',d,_⟩:=id hn'
  exact ⟨o',e',es,ep,d⟩
 refine hQ _ r' ⟨E.ok,E.la,⟨_,hn',fun j y w e1 e2=>?_⟩,fun y c hc=>?_,E.cd,fun j y e1=>?_,fun j w e=>?_⟩ x' (fun b hb=>hs'.2 b hb) ⟨rfl,rfl⟩
 ·rcases lD e2 with ⟨rfl,rfl⟩ | ⟨hne,e2⟩
  ·rw [hn] at e1; cases e1
   exact ⟨u,by simp,vu.ext x'⟩
  ·obtain ⟨u',h1,h2⟩:=hm j y w e1 e2
   have:y ≠ x:=by rintro rfl; exact hne (hU j i _ _ _ e1 hn)
   exact ⟨u',by simp [this,h1],h2.ext x'⟩
 ·obtain ⟨h1,h2,w,h3⟩:=E.ca y c hc
  exact ⟨h1,h2,w,gz x' (AL.not_ix h1) (by simpa using h2) h3⟩
 ·obtain ⟨c,hc,hv⟩:=E.cv j y e1
  refine ⟨c,hc,fun w e2=>?_⟩
  rcases lD e2 with ⟨rfl,rfl⟩ | ⟨hne,e2⟩
  ·rw [hn] at e1; cases e1
  ·obtain ⟨u',h1,h2⟩:=hv w e2
   obtain ⟨q1,q2,_⟩:=E.ca y c hc
   exact ⟨u',gz x' (AL.not_ix q1) (by simpa using q2) h1,h2.ext x'⟩
 ·rcases lD e with ⟨rfl,rfl⟩ | ⟨hne,e2⟩
  ·exact ⟨x,_,hn,.inl rfl⟩
  ·exact E.inb j w e2
theorem acy {i:Nat} {x:Str} {v:PV} {u:Value} {Q:Unit->Shared->Prop} {X:Value->Shared->Prop} (hU:uT env.scope.names) (r:R K.hb s.heap σ α) (E:am env ρ s.heap α) (hN:aP K.hb env)
  (hn:env.scope.names[i]?=some (x,.cell)) (vu:VR s.heap α v u)
  (hQ:∀ c s',env.cells.lookup x=some c->R K.hb s'.heap σ α->am env (ρ.set i (some v)) s'.heap α->aL [c] α s.heap α s'.heap->Sm s s'->Q () s') :
  wpAny (model K.prog K.w) A (storeName env x u) Q X s:=by
 obtain ⟨m,n,hm⟩:=E.ns
 obtain ⟨c,hc,hv⟩:=E.cv i x hn
 obtain ⟨q1,q2,v0,q3⟩:=E.ca x c hc
 refine wpAny_storeName_cell E.ok.kind (E.ok.ws i x _ hn) hc q3 fun h' hc' hs'=>?_
 obtain ⟨r',x'⟩:=r.but q1 (hN.c x c hc) (fun b o hb e=>(hs'.2 b hb).trans e) (fun o e=>by
  obtain ⟨o',e',d⟩:=q3
  rw [e] at e'; obtain rfl:=oi e'
  rintro (⟨xs,n,q⟩ | ⟨C,vs,_,q⟩ | ⟨C,_,q⟩) <;> rw [d] at q <;> contradiction) fun zz o e dd=>by
  obtain ⟨o',e',d⟩:=q3
  rw [e] at e'; obtain rfl:=oi e'
  obtain ⟨xs,n,q⟩:=dd
  rw [d] at q; contradiction
 have hns:h'.Ns env.locals m:=zP x' (AL.not_ix E.la) (by simpa using (Ne.symm q2)) n
 refine hQ c _ hc r' ⟨E.ok,E.la,⟨m,hns,fun j y w e1 e2=>?_⟩,fun y c' hy=>?_,E.cd,fun j y e1=>?_,fun j w e=>?_⟩ x' ⟨rfl,rfl⟩
 ·rcases lD e2 with ⟨rfl,rfl⟩ | ⟨hne,e2⟩
  ·rw [hn] at e1; cases e1
  ·obtain ⟨u',h1,h2⟩:=hm j y w e1 e2
   exact ⟨u',h1,h2.ext x'⟩
 ·obtain ⟨h1,h2,w,h3⟩:=E.ca y c' hy
  by_cases q:c'=c
  ·subst q; exact ⟨h1,h2,_,hc'⟩
  ·exact ⟨h1,h2,w,gz x' (AL.not_ix h1) (by simpa using q) h3⟩
 ·obtain ⟨c',hy,hv'⟩:=E.cv j y e1
  refine ⟨c',hy,fun w e2=>?_⟩
  rcases lD e2 with ⟨rfl,rfl⟩ | ⟨hne,e2⟩
  ·rw [hn] at e1; cases e1
   rw [hc] at hy; obtain rfl:=oi hy
   exact ⟨u,hc',vu.ext x'⟩
  ·obtain ⟨u',h1,h2⟩:=hv' w e2
   have:c' ≠ c:=by
    rintro rfl
    have:=E.cd _ _ _ hy hc
    subst this
    exact hne (hU j i _ _ _ e1 hn)
   exact ⟨u',gz x' (AL.not_ix (E.ca y c' hy).1) (by simpa using this) h1,h2.ext x'⟩
 ·rcases lD e with ⟨rfl,rfl⟩ | ⟨hne,e2⟩
  ·exact ⟨x,_,hn,.inr rfl⟩
  ·exact E.inb j w e2
end
noncomputable def eV (cells:List (Str × Addr)):List (Str × NameKind)->List (Str × Addr)->List (Str × Addr)
 | [],acc=>acc
 | (n,k)::r,acc=>if k == .free then eV cells r ((n,(cells.lookup n).getD 0)::acc) else eV cells r acc
theorem kM {env:Env} (f:Str × NameKind->List (Str × Addr)->Sem (ForInStep (List (Str × Addr))))
  (hf:∀ n k cs,f (n,k) cs=if k == .free then (do let c <- cellOf env n; pure (.yield ((n,c)::cs))) else pure (.yield cs)) :
  ∀ (names:List (Str × NameKind)) (acc:List (Str × Addr)),(∀ n,(n,NameKind.free) ∈ names->(env.cells.lookup n).isSome)->(forIn names acc f)=pure (eV env.cells names acc)
 | [],acc,_=>by rw [List.forIn_nil]; rfl
 | (n,k)::r,acc,h=>by
  rw [List.forIn_cons,hf]
  unfold eV
  cases hk:k == .free with
  | true =>
   have hk':k=.free:=by simpa using hk
   subst hk'
   obtain ⟨c,hc⟩:=Option.isSome_iff_exists.mp (h n List.mem_cons_self)
   simp only [if_true]
   unfold cellOf
   rw [hc]
   simp only [Option.getD_some,pure_bind]
   exact kM f hf r _ fun n hn=>h n (bG _ hn)
  | false =>
   simp only [Bool.false_eq_true,if_false,pure_bind]
   exact kM f hf r _ fun n hn=>h n (bG _ hn)
theorem qP {scope:Scope} {env:Env} (h:∀ n,(n,NameKind.free) ∈ scope.names->(env.cells.lookup n).isSome):closureFor scope env=pure (eV env.cells scope.names []):=by
 unfold closureFor
 refine (congrArg (· >>= fun cs=>pure cs) (kM (env:=env) _ (fun n k cs=>?_) scope.names [] h)).trans (pure_bind _ _)
 cases hk:k == NameKind.free <;> simp [hk]
set_option tactic.hygienic true in
theorem uM {cells:List (Str × Addr)}:∀ (names:List (Str × NameKind)) (acc:List (Str × Addr)),(∀ n,(n,NameKind.free) ∈ names->(cells.lookup n).isSome)->(∀ n c,(n,c) ∈ acc->cells.lookup n=some c) ->
  ∀ n c,(n,c) ∈ eV cells names acc->cells.lookup n=some c
 | [],_,_,h2,n,c,h=>h2 n c h
 | (n',k)::r,acc,h1,h2,n,c,h=>by
  unfold eV at h
  split at h
  ·rename_i hk
   have hk':k=.free:=by simpa using hk
   subst hk'
   refine uM r _ (fun n hn=>h1 n (bG _ hn)) (fun m d hm=>?_) n c h
   rcases List.mem_cons.mp hm with e | hm
   ·cases e
    obtain ⟨c',hc'⟩:=Option.isSome_iff_exists.mp (h1 n' List.mem_cons_self)
    rw [hc']; rfl
   ·exact h2 m d hm
  ·exact uM r _ (fun n hn=>h1 n (bG _ hn)) h2 n c h
theorem uO {cells:List (Str × Addr)}:∀ (names:List (Str × NameKind)) (acc:List (Str × Addr)) (n:Str) (c:Addr),(n,c) ∈ acc->(n,c) ∈ eV cells names acc
 | [],_,_,_,h=>h
 | (_,k)::r,acc,n,c,h=>by
  unfold eV
  split
  ·exact uO r _ n c (bG _ h)
  ·exact uO r _ n c h
theorem uN {cells:List (Str × Addr)}:∀ (names:List (Str × NameKind)) (acc:List (Str × Addr)) (n:Str),(n,NameKind.free) ∈ names->∃ c,(n,c) ∈ eV cells names acc
 | (n',k)::r,acc,n,h=>by
  unfold eV
  rcases List.mem_cons.mp h with e | h
  ·cases e; exact ⟨_,uO r _ _ _ List.mem_cons_self⟩
  ·split
   ·exact uN r _ n h
   ·exact uN r _ n h
theorem qm {l:List (Str × Addr)} {n:Str} {c:Addr} (h:(n,c) ∈ l):∃ c',l.lookup n=some c':=by
 induction l with
 | nil=>simp at h
 | cons p r ih =>
  obtain ⟨k,v⟩:=p
  rw [List.lookup_cons]
  cases hb:n == k with
  | true=>exact ⟨v,rfl⟩
  | false =>
   rcases List.mem_cons.mp h with e | h
   ·cases e; simp at hb
   ·exact ih h
theorem fm {cells:List (Str × Addr)} {names:List (Str × NameKind)} (h:∀ n,(n,NameKind.free) ∈ names->(cells.lookup n).isSome) {n:Str} {c:Addr} (e:(eV cells names []).lookup n=some c):cells.lookup n=some c:=
 uM names [] h (fun zz zz h=>by simp at h) n c (mem_of_lookup e)
theorem ae3 {cells:List (Str × Addr)} {names:List (Str × NameKind)} (h:∀ n,(n,NameKind.free) ∈ names->(cells.lookup n).isSome) {n:Str} (hn:(n,NameKind.free) ∈ names):(eV cells names []).lookup n=cells.lookup n:=by
 obtain ⟨c,hc⟩:=uN (cells:=cells) names [] n hn
 obtain ⟨c',hc'⟩:=qm hc
 rw [hc',fm h hc']
end Mine
namespace Mine
open PySem PyProof.Rows
structure agJ (names:List (Str × NameKind)):Prop where
 uniq:uT names
 nodbg:∀ (i:Nat) (x:Str) (k:NameKind),names[i]?=some (x,k)->(x == ("__debug__" : Str))=false
 kinds:∀ (i:Nat) (x:Str) (k:NameKind),names[i]?=some (x,k)->k=.local\/k=.cell\/k=.globalImplicit
theorem dz:∀ {names:List (Str × NameKind)},uT names->∀ {i:Nat} {x:Str} {k:NameKind},names[i]?=some (x,k)->names.lookup x=some k
 | [],_,i,x,k,h=>by simp at h
 | (y,k')::r,hU,i,x,k,h=>by
  rw [List.lookup_cons]
  cases i with
  | zero=>simp at h; obtain ⟨rfl,rfl⟩:=h; simp
  | succ i =>
   have h':r[i]?=some (x,k):=by simpa using h
   have hne:(x == y)=false:=by
    cases hb:x == y with
    | false=>rfl
    | true =>
     have:x=y:=by simpa using hb
     subst this
     exact absurd (hU 0 (i + 1) x k' k (by simp) h) (by omega)
   rw [hne]
   exact dz (fun i j x k k' h1 h2=>by have:=hU (i + 1) (j + 1) x k k' (by simpa using h1) (by simpa using h2); omega) h'
theorem gZ:∀ {names:List (Str × NameKind)} {x:Str} {k:NameKind},names.lookup x=some k->∃ i,names.findIdx? (·.1 == x)=some i/\names[i]?=some (x,k)
 | [],_,_,h=>by simp at h
 | (y,k')::r,x,k,h=>by
  rw [List.lookup_cons] at h
  rw [List.findIdx?_cons]
  cases hb:x == y with
  | true =>
   rw [hb] at h; obtain rfl:=oi h
   have:x=y:=by simpa using hb
   subst this
   exact ⟨0,by simp,by simp⟩
  | false =>
   rw [hb] at h
   obtain ⟨i,h1,h2⟩:=gZ h
   have:(y == x)=false:=by
    cases hq:y == x with
    | false=>rfl
    | true =>
     have:y=x:=by simpa using hq
     subst this; simp at hb
   exact ⟨i + 1,by simp [this,h1],by simpa using h2⟩
theorem ki {scope:Scope} {env:Env} (hk:env.scope.kind=.function):(relabel scope env).names=br env.scope.names scope.names:=by
 unfold relabel br Env.kindOf
 simp [hk]
structure gm (N:List (Str × NameKind)) (scope:Scope) (t:Nat) (x:Str):Prop where
 kind:scope.kind=.function
 sc:agJ (br N scope.names)
 nocell:∀ y ∈ scope.names,y.2 ≠ .cell
 tgt:(br N scope.names)[t]?=some (x,.local)
section
variable {N:List (Str × NameKind)} {scope:Scope} {t:Nat} {x:Str}
theorem gm.free (c:gm N scope t x) {n:Str} (h:(n,NameKind.free) ∈ scope.names):N.lookup n=some .cell:=by
 obtain ⟨i,hi⟩:=List.mem_iff_getElem?.mp h
 by_cases hq:N.lookup n=some .cell
 ·exact hq
 ·have:(br N scope.names)[i]?=some (n,.free):=by simp [br,hi,hq]
  rcases c.sc.kinds i n _ this with q | q | q <;> contradiction
set_option tactic.hygienic true in
theorem gm.cell_ (c:gm N scope t x) {i:Nat} {y:Str} (h:(br N scope.names)[i]?=some (y,.cell)):(y,NameKind.free) ∈ scope.names/\N.lookup y=some .cell:=by
 simp only [br,List.getElem?_map] at h
 cases hq:scope.names[i]? with
 | none=>rw [hq] at h; contradiction
 | some p =>
  obtain ⟨n,k⟩:=p
  rw [hq] at h
  simp only [Option.map_some,Option.some.injEq] at h
  split at h
  ·rename_i hc
   (first | contradiction | (obtain rfl:=oi h) | cases h)
   simp at hc
   exact ⟨hc.1 ▸ List.mem_of_getElem? hq,hc.2⟩
  ·(first | contradiction | (obtain rfl:=oi h) | cases h)
   exact absurd rfl (c.nocell _ (List.mem_of_getElem? hq))
theorem gm.names (c:gm N scope t x):∀ y ∈ scope.names,y.2=.local->scope.names.lookup y.1=some .local:=by
 rintro ⟨y,k⟩ hy rfl
 obtain ⟨i,hi⟩:=List.mem_iff_getElem?.mp hy
 refine dz (i:=i) (fun i j z k k' h1 h2=>?_) hi
 have e1:∃ q,(br N scope.names)[i]?=some (z,q):=by
  simp only [br,List.getElem?_map,h1]; simp only [Option.map_some,Option.some.injEq]; split <;> exact ⟨_,rfl⟩
 have e2:∃ q,(br N scope.names)[j]?=some (z,q):=by
  simp only [br,List.getElem?_map,h2]; simp only [Option.map_some,Option.some.injEq]; split <;> exact ⟨_,rfl⟩
 obtain ⟨_,e1⟩:=e1
 obtain ⟨_,e2⟩:=e2
 exact c.sc.uniq i j z _ _ e1 e2
end
section
variable {K:Kt} {A:Around} {s:Shared} {α:AL} {σ:ab} {env:Env} {ρ:aq} {scope:Scope} {t:Nat} {x:Str}
theorem nG {h:Heap} (c:gm env.scope.names scope t x) (E:am env ρ h α):∀ n,(n,NameKind.free) ∈ scope.names->(env.cells.lookup n).isSome:=fun n hn=>by
 obtain ⟨i,_,hi⟩:=gZ (c.free hn)
 obtain ⟨a,ha,_⟩:=E.cv i n hi
 rw [ha]; rfl
theorem agu {h:Heap} {C:Addr} {m:Str->Option Value} (c:gm env.scope.names scope t x) (E:am env ρ h α) (hC:h.Ns C m) (hCa:C ∉ α.all) (hne:∀ y a,env.cells.lookup y=some a->a ≠ C) :
  am (compEnvC scope (eV env.cells scope.names []) C env) (bt (et env.scope.names (br env.scope.names scope.names)) ρ) h α:=by
 have hcl:=nG c E
 have hnm:(compEnvC scope (eV env.cells scope.names []) C env).scope.names=br env.scope.names scope.names:=ki E.ok.kind
 refine ⟨⟨?_,E.ok.glob,E.ok.bins,?_,?_⟩,hCa,⟨m,hC,fun i y v e1 e2=>?_⟩,fun y a ha=>?_,fun y z a h1 h2=>?_,fun i y e1=>?_,fun i v e=>?_⟩
 ·exact c.kind
 ·intro i y k hi
  rw [hnm] at hi
  show (compEnvC scope (eV env.cells scope.names []) C env).scope.names.lookup y=some k
  rw [hnm]; exact dz c.sc.uniq hi
 ·intro i y k hi
  rw [hnm] at hi
  exact c.sc.nodbg i y k hi
 ·rw [hnm] at e1
  exfalso
  simp only [bt,et,List.getElem?_map,e1] at e2
  simp at e2
 ·have ha':=fm hcl ha
  obtain ⟨h1,h2,h3⟩:=E.ca y a ha'
  exact ⟨h1,hne y a ha',h3⟩
 ·exact E.cd y z a (fm hcl h1) (fm hcl h2)
 ·rw [hnm] at e1
  obtain ⟨h1,h2⟩:=c.cell_ e1
  obtain ⟨j,hj,hj'⟩:=gZ h2
  obtain ⟨a,ha,hv⟩:=E.cv j y hj'
  refine ⟨a,(ae3 hcl h1).trans ha,fun v e2=>hv v ?_⟩
  simp only [bt,et,List.getElem?_map,e1] at e2
  simp [hj] at e2
  cases hq:ρ[j]? with
  | none=>rw [hq] at e2; contradiction
  | some o=>rw [hq] at e2; simp at e2; rw [e2]
 ·rw [hnm]
  simp only [bt,et,List.getElem?_map] at e
  cases hq:(br env.scope.names scope.names)[i]? with
  | none=>rw [hq] at e; contradiction
  | some p =>
   obtain ⟨y,k⟩:=p
   rw [hq] at e
   by_cases hk:k=.cell
   ·exact ⟨y,k,rfl,.inr hk⟩
   ·simp [hk] at e
end
end Mine
namespace Mine
open PySem PyProof.Rows
structure ld (K:Kt) (A:Around):Prop where
 ex:∃ l,A.frames=some l/\l.map (·.frame)=K.hb.fr.map some/\∀ e ∈ l,e.scope.kind ≠ .module
section
variable {K:Kt} {A:Around} {env:Env} {s:Shared} {cF:Heap} {σ:ab} {α:AL}
end
end Mine
namespace Mine
open PySem PyProof.Rows
noncomputable def fG (tC:PV->ab->ac Bool) (eC:PV->ab->ac PV) (x:PV) (σ:ab):ac (Option PV):=
 (tC x σ).bind fun b σ=>if b then (eC x σ).bind fun v σ=>.ok (some v) σ else .ok none σ
theorem aT.snoc {h:Heap} {α:AL} {xs:List PV} {vs:List Value} {p:PV} {v:Value} (a:aT h α xs vs) (b:VR h α p v):aT h α (xs++[p]) (vs++[v]):=
 a.append (.cons b .nil)
section
variable {K:Kt} {A:Around} {s:Shared} {α:AL} {env:Env} {ρ:aq} {scope:Scope} {t:Nat} {x:Str}
inductive uV (K:Kt) (s:Shared) (α:AL) (c:ac PV) (acc:Value) (C:Addr) (r:Result) (s':Shared):Prop
 | inl (e:r=.ok .next) (v:PV) (σ':ab) (α':AL) (m:Str->Option Value) (hc:c=.ok v σ') (x:aL [] α s.heap α' s'.heap) (rr:R K.hb s'.heap σ' α') (vr:VR s'.heap α' v acc) (sm:Sm s s') (ns:s'.heap.Ns C m) (h1:C ∉ α'.all) (h2:s.heap.get? C=none) (h3:K.hb.get? C=none) (h4:C ∉ K.hb.fr):uV K s α c acc C r s'
inductive ab5 (K:Kt) (s:Shared) (α:AL) (xs:List PV) (St:Nat->Heap->AL->Prop) (D:Addr) (cenv:Env) (t:Nat) (ρc:aq) (go:List PV->List PV->ab->ac PV) (c:ac PV) (n:Nat) (s₁:Shared):Prop
 | mk (i:Nat) (σ₁:ab) (α₁:AL) (ys:List PV) (us:List Value) (ρ₁:aq) (nn:Nat) (hn:n=xs.length - i) (hi:i <= xs.length) (hid:α₁.hid=D::α.hid) (x:aL [] α s.heap ⟨α₁.ix,α.hid,α₁.fr⟩ s₁.heap) (r:R K.hb s₁.heap σ₁ α₁) (st:St i s₁.heap α₁) (E:am cenv ρ₁ s₁.heap α₁)
   (lO:∀ v,ρ₁.set t (some v)=ρc.set t (some v)) (hl:s₁.heap.get? D=some { cls:=.type "list",data:=.seq (List.toArray us) nn }) (vs:aT s₁.heap α₁ ys us) (m:Sm s s₁) (hgo:go ys (xs.drop i) σ₁=c) (hyl:ys.length <= i) (tk:K.Tk s₁):ab5 K s α xs St D cenv t ρc go c n s₁
theorem R.unhide {hb h σ α} {hid:List Addr} (r:R hb h σ α) (hs:∀ a ∈ hid,a ∈ α.hid):R hb h σ ⟨α.ix,hid,α.fr⟩:=
 ⟨r.base,r.fresh,r.nodup,r.len,fun a ha=>r.hidden a (hs a ha),fun j m a e1 e2=>(r.obj j m a e1 e2).re (α:=α) (α':=⟨α.ix,hid,α.fr⟩) (fun zz zz e=>e) (fun a ha=>by
  rcases List.mem_append.mp ha with q | q
  ·exact List.mem_append_left _ q
  ·exact List.mem_append_right _ (hs a q)),fun a ha=>r.hfr a (hs a ha),r.fe,r.frs,r.frNot⟩
noncomputable def fu (n:Nat) (fz:Bool) (w:Option (Nat × MO)) (tC:PV->ab->ac Bool) (eC:PV->ab->ac PV) (ys xs:List PV) (σ:ab):ac PV:=
 eH n (bM w (fG tC eC) xs σ) fun zs σ=>bU fz (ys++zs) σ
theorem aeJ {n fz w tC eC ys xs σ} (h:fu n fz w tC eC ys xs σ ≠ .stuck):cJ w σ:=by
 by_cases hw:cJ w σ
 ·exact hw
 ·refine absurd ?_ h
  unfold fu
  cases xs with
  | nil=>rw [show bM w (fG tC eC) [] σ=.stuck from if_neg hw]; rfl
  | cons x xs=>rw [show bM w (fG tC eC) (x::xs) σ=.stuck from if_neg hw]; rfl
theorem ah5 {n fz w tC eC ys p xs σ} (hw:cJ w σ):fu n fz w tC eC ys (p::xs) σ=eH n ((fG tC eC p σ).bind fun y σ=>(bM w (fG tC eC) xs σ).bind fun zs σ=>.ok (adg y zs) σ) fun zs σ=>bU fz (ys++zs) σ:=by
 unfold fu
 rw [show bM w (fG tC eC) (p::xs) σ=_ from if_pos hw]
theorem aeK {n fz w tC eC ys p xs σ} (h:fu n fz w tC eC ys (p::xs) σ ≠ .stuck):cJ w σ/\tC p σ ≠ .stuck/\(∀ i σ',tC p σ ≠ .exc i σ') ∧
  (∀ σ',tC p σ=.ok false σ'->fu n fz w tC eC ys (p::xs) σ=fu n fz w tC eC ys xs σ') ∧
  (∀ σ',tC p σ=.ok true σ'->eC p σ' ≠ .stuck/\(∀ i gG,eC p σ' ≠ .exc i gG)/\∀ v gG,eC p σ'=.ok v gG->fu n fz w tC eC ys (p::xs) σ=fu n fz w tC eC (ys++[v]) xs gG):=by
 have hw:=aeJ h
 rw [ah5 hw] at h ⊢
 have cf:∀ {c},(tC p σ).bind (fun b σ=>if b then (eC p σ).bind fun v σ=>.ok (some v) σ else .ok none σ)=c->fG tC eC p σ=c:=fun q=>q
 have ct:∀ {σ'},tC p σ=.ok true σ'->fG tC eC p σ=(eC p σ').bind fun v σ=>.ok (some v) σ:=fun q=>cf (by rw [q]; rfl)
 refine ⟨hw,fun e=>?_,fun i σ' e=>?_,fun σ' e=>?_,fun σ' e=>⟨fun e'=>?_,fun i gG e'=>?_,fun v gG e'=>?_⟩⟩
 ·rw [cf (c:=.stuck) (by rw [e]; rfl)] at h; exact h rfl
 ·rw [cf (c:=.exc i σ') (by rw [e]; rfl)] at h; exact h rfl
 ·rw [cf (c:=.ok none σ') (by rw [e]; rfl)]
  unfold fu
  show eH n ((bM w (fG tC eC) xs σ').bind fun zs σ=>.ok zs σ) _=_
  cases bM w (fG tC eC) xs σ' <;> rfl
 ·rw [ct e,e'] at h; exact h rfl
 ·rw [ct e,e'] at h; exact h rfl
 ·rw [ct e,e']
  unfold fu
  show eH n ((bM w (fG tC eC) xs gG).bind fun zs σ=>.ok (v::zs) σ) _=_
  cases bM w (fG tC eC) xs gG with
  | ok zs σ=>show bU _ _ _=bU _ _ _; rw [List.append_assoc]; rfl
  | exc i σ=>rfl
  | stuck=>rfl
set_option tactic.hygienic true in
theorem aak {n fz w tC eC ys xs σ} (hn:ys.length <= n) (h:fu n fz w tC eC ys xs σ ≠ .stuck):ys.length <= ao:=by
 unfold fu at h
 cases hq:bM w (fG tC eC) xs σ with
 | ok zs σ' =>
  rw [hq] at h
  simp only [eH,bU] at h
  split at h
  ·rename_i hl; simp at hl; (grind)
  ·exact absurd rfl h
 | exc i σ'=>rw [hq] at h; exact absurd rfl h
 | stuck=>rw [hq] at h; exact absurd rfl h
theorem ae2 {elt iter:Expr} {px:Pos} {ifs:List Expr} {pos:Pos} {it:Value} {own:List Addr} {xs:List PV} {w:Option (Nat × MO)} {St:Nat->Heap->AL->Prop} {D C:Addr}
  {tC:PV->ab->ac Bool} {eC:PV->ab->ac PV} {fz:Bool} {c:ac PV} {cenv:Env} {ρc:aq}
  (I:gj K A false own it xs w St) (hx:cenv.scope.names[t]?=some (x,.local)) (hU:uT cenv.scope.names) (hCl:cenv.locals=C)
  (hown:∀ b ∈ own,s.heap.get? b=none) (hD:s.heap.get? D=none) (hC:s.heap.get? C=none) (hbD:K.hb.get? D=none) (hbC:K.hb.get? C=none)
  (hDx:D ∉ α.hid) (apart:qk cenv own) (hc:c ≠ .stuck) (hF:ld K A) (hNc:aP K.hb cenv) (hCf:C ∉ K.hb.fr)
  (htest:∀ v s σ α,am cenv (ρc.set t (some v)) s.heap α->R K.hb s.heap σ α ->
   Runs K eZ A (forIn ifs true fun c r=>if r=true then do let ok <- isTrue c cenv (eval c cenv); pure (ForInStep.yield ok) else pure (ForInStep.yield r)) (tC v σ) s α)
  (helt:∀ v s σ α,am cenv (ρc.set t (some v)) s.heap α->R K.hb s.heap σ α->Runs K VR A (eval elt cenv) (eC v σ) s α)
  {i:Nat} {σ₁:ab} {α₁:AL} {s₁:Shared} {ys:List PV} {us:List Value} {ρ₁:aq} {n:Nat}
  (hi:i <= xs.length) (hid:α₁.hid=D::α.hid) (qY:aL [] α s.heap ⟨α₁.ix,α.hid,α₁.fr⟩ s₁.heap) (nM:R K.hb s₁.heap σ₁ α₁) (st:St i s₁.heap α₁) (mI:am cenv ρ₁ s₁.heap α₁)
  (lO:∀ v,ρ₁.set t (some v)=ρc.set t (some v)) (hl:s₁.heap.get? D=some { cls:=.type "list",data:=.seq us.toArray n }) (vs:aT s₁.heap α₁ ys us) (nO:Sm s s₁)
  (hgo:fu xs.length fz w tC eC ys (xs.drop i) σ₁=c) (hyl:ys.length <= i) (mM:K.Tk s₁) :
  codeAny (model K.prog K.w) A (.compLoop (.ListComp elt [⟨.Name x px,iter,ifs,0⟩] scope pos) 0 it (.ref D) cenv) (uV K s α c (.ref D) C) s₁:=by
 refine codeAny_compLoop_tests (ab5 K s α xs St D cenv t ρc (fu xs.length fz w tC eC) c)
  (fun n s₁ inv=>?_) _ ⟨i,σ₁,α₁,ys,us,ρ₁,n,rfl,hi,hid,qY,nM,st,mI,lO,hl,vs,nO,hgo,hyl,mM⟩
 clear mM hyl hgo nO vs hl lO mI st nM qY hid hi
 obtain ⟨i,σ₁,α₁,ys,us,ρ₁,nn,rfl,hi,hid,qY,nM,st,mI,lO,hl,vs,nO,hgo,hyl,mM⟩:=inv
 have hDh:D ∈ α₁.hid:=by rw [hid]; exact List.mem_cons_self
 have hDa:D ∈ α₁.all:=List.mem_append_right _ hDh
 by_cases hlt:i < xs.length
 ·
  have hdrop:xs.drop i=xs[i]::xs.drop (i + 1):=List.drop_eq_getElem_cons hlt
  rw [hdrop] at hgo
  obtain ⟨hw,ht1,ht2,ht3,ht4⟩:=aeK (by rw [hgo]; exact hc)
  refine fH mM (I.item i s₁ σ₁ α₁ xs[i] (by simp [hlt]) st nM hw _ _ fun v aD vr acw zz xo cg kr u9=>?_)
  have acw:=acw rfl
  have eu:aL [] α s.heap ⟨α₁.ix,α.hid,α₁.fr⟩ aD.heap:=aL.drop qY hown (by simp) (by simpa using xo.rehid α.hid)
  have oA:=mI.ext xo apart
  have vR:=xo.seqs D _ (nM.hidden D hDh).1 hl .seq
  have yV:=vs.ext xo
  refine fH u9 (wpAny_assign_Name (th hU cg oA (by rw [hCl]; exact hbC) hx vr fun cY nL sw xc sb pV pO=>?_))
  rw [lO] at sw
  rw [hCl] at xc sb
  have hCD:D ≠ C:=by rintro rfl; exact mI.la (by rw [hCl]; exact hDa)
  have akc:aL [] α s.heap ⟨α₁.ix,α.hid,α₁.fr⟩ cY.heap:=eu.sameBut hC sb
  have ajR:cY.heap.get? D=_:=(sb D hCD).trans vR
  have aju:=yV.ext xc
  have lh:=I.frame _ _ _ _ _ _ acw xc (fun b hb q=>by simp at q; subst q; exact apart.1 (hCl ▸ hb))
  refine wpAny_mono (dy (htest xs[i] cY σ₁ α₁ sw nL ht1 pO)) (fun ok nK hp=>?_) fun e nK hx=>?_
  ·obtain ⟨⟨b,yQ,pL,hb,x4,zH,e4,acO⟩,ajx⟩:=hp
   have sE:=Kt.Tk.up pO ajx
   have e4':ok=b:=e4
   subst e4'
   have aah:pL.hid=D::α.hid:=x4.hid.trans hid
   have aca:aL [] α s.heap ⟨pL.ix,α.hid,pL.fr⟩ nK.heap:=akc.trans (x4.rehid α.hid)
   have sv:=sw.ext x4 .nil
   have ag9:=x4.seqs D _ (nL.hidden D hDh).1 ajR .seq
   have agN:=aju.ext x4
   have ve:=I.frame _ _ _ _ _ _ lh x4 (by simp)
   cases ok with
   | false =>
    rw [if_neg (by simp)]
    refine ⟨xs.length - (i + 1),Nat.sub_succ_lt_self _ _ hlt,i + 1,yQ,pL,ys,us,_,nn,rfl,hlt,aah,aca,zH,ve,sv,fun v=>by rw [List.set_set],ag9,agN,((nO.trans kr).trans pV).trans acO,?_,by (exact aE (by assumption) (Nat.le_add_right _ _)),sE⟩
    rw [<- ht3 _ hb]; exact hgo
   | true =>
    rw [if_pos rfl]
    obtain ⟨he1,he2,he3⟩:=ht4 _ hb
    refine wpAny_mono (dy (helt xs[i] nK yQ pL sv zH he1 sE)) (fun u wM hp=>?_) fun e wM hx=>?_
    ·obtain ⟨⟨v5,yP,mK,hv5,x5,wO,vr5,af0⟩,acq⟩:=hp
     have yX:=Kt.Tk.up sE acq
     have aeD:mK.hid=D::α.hid:=x5.hid.trans aah
     have aeI:D ∈ mK.hid:=by rw [aeD]; exact List.mem_cons_self
     have aaj:D ∈ mK.all:=List.mem_append_right _ aeI
     have ze:aL [] α s.heap ⟨mK.ix,α.hid,mK.fr⟩ wM.heap:=aca.trans (x5.rehid α.hid)
     have xH:=sv.ext x5 .nil
     have ag8:=x5.seqs D _ (zH.hidden D (by rw [aah]; exact List.mem_cons_self)).1 ag9 .seq
     have ajt:=agN.ext x5
     have yY:=I.frame _ _ _ _ _ _ ve x5 (by simp)
     refine wpAny_list_append_plain ⟨_,ag8⟩ (fun ako y6 ajz=>?_) ?_
     ·obtain ⟨n6,y6⟩:=y6
      have kb:∀ b,b ≠ D->ako.get? b=wM.heap.get? b:=fun b hb=>ajz.2 b hb
      refine ⟨xs.length - (i + 1),Nat.sub_succ_lt_self _ _ hlt,i + 1,yP,mK,ys++[v5],us++[u],_,n6,rfl,hlt,aeD,ze.sameBut hD kb,wO.sameHid aeI hbD kb ⟨_,y6⟩ (fun o e=>by rw [ag8] at e; obtain rfl:=oi e; rintro ⟨_,_,q⟩; contradiction),I.but _ _ _ _ _ yY aaj kb,xH.sameBut aaj kb,fun v=>by rw [List.set_set],?_,(ajt.snoc vr5).sameBut aaj kb,(((nO.trans kr).trans pV).trans acO).trans (af0.trans ⟨rfl,rfl⟩),?_,by simp; (assumption),yX⟩
      ·rw [y6]; simp
      ·rw [<- he3 _ _ hv5]; exact hgo
     ·have:=aak (n:=xs.length) (ys:=ys) (by (exact aE (by assumption) (by assumption))) (by rw [hgo]; exact hc)
      have h2:=vs.1
      simp
      rw [<- h2]
      exact b8 this
    ·obtain ⟨⟨j,yP,e5,_⟩,_⟩:=hx
     exact absurd e5 (he2 _ _)
  ·obtain ⟨⟨j,yP,e5,_⟩,_⟩:=hx
   exact absurd e5 (ht2 _ _)
 ·
  have hie:i=xs.length:=Nat.le_antisymm hi (Nat.not_lt.mp hlt)
  subst hie
  rw [List.drop_length] at hgo
  have hw:=aeJ (by rw [hgo]; exact hc)
  have hlim:=aak (n:=xs.length) (ys:=ys) (by (assumption)) (by rw [hgo]; exact hc)
  have hgo':bU fz ys σ₁=c:=by
   rw [<- hgo]
   unfold fu
   rw [show bM w (fG tC eC) [] σ₁=.ok [] σ₁ from if_pos hw]
   show _=bU fz (ys++[]) σ₁
   rw [List.append_nil]
  refine I.done s₁ σ₁ α₁ st nM hw _ _ fun aD xo cg kr=>?_
  have eu:aL [] α s.heap ⟨α₁.ix,α.hid,α₁.fr⟩ aD.heap:=aL.drop qY hown (by simp) (by simpa using xo.rehid α.hid)
  have oA:=mI.ext xo apart
  have hDi:=(cg.hidden D hDh).1
  have vR:=xo.seqs D _ (nM.hidden D hDh).1 hl .seq
  have yV:=vs.ext xo
  obtain ⟨mC,nC,_⟩:=oA.ns
  rw [hCl] at nC
  have hCa:C ∉ α₁.all:=by rw [<- hCl]; exact mI.la
  have sub1:∀ a,a ∈ (⟨α₁.ix,α.hid,α₁.fr⟩:AL).all->a ∈ α₁.all:=fun a ha=>by
   rcases List.mem_append.mp ha with q | q
   ·exact List.mem_append_left _ q
   ·exact List.mem_append_right _ (by rw [hid]; exact bG _ q)
  unfold bU at hgo'
  rw [if_pos hlim] at hgo'
  cases fz with
  | true =>
   refine .inl rfl _ _ ⟨α₁.ix,α.hid,α₁.fr⟩ mC hgo'.symm eu (cg.unhide fun a ha=>by rw [hid]; exact bG _ ha) ?_ (nO.trans kr) nC (fun q=>hCa (sub1 _ q)) hC hbC hCf
   refine VR.flI vR (fun q=>?_) (yV.re (α:=α₁) (α':=⟨α₁.ix,α.hid,α₁.fr⟩) (fun zz zz e=>e) sub1)
   rcases List.mem_append.mp q with q | q
   ·exact hDi q
   ·exact hDx q
  | false =>
   have get1:∀ (j:Nat) (a:Addr),α₁.ix[j]?=some a->(α₁.ix++[D])[j]?=some a:=fun j a e=>by
    rw [List.getElem?_append_left (cS e).1]; exact e
   have sub2:∀ a,a ∈ (⟨α₁.ix++[D],α.hid,α₁.fr⟩:AL).all->a ∈ α₁.all:=fun a ha=>by
    rcases List.mem_append.mp ha with q | q
    ·rcases List.mem_append.mp q with q | q
     ·exact List.mem_append_left _ q
     ·simp at q; subst q; exact hDa
    ·exact List.mem_append_right _ (by rw [hid]; exact bG _ q)
   refine .inl rfl _ _ ⟨α₁.ix++[D],α.hid,α₁.fr⟩ mC hgo'.symm ?_ ⟨cg.base,?_,?_,?_,fun a ha=>⟨?_,(cg.hidden a (by rw [hid]; exact bG _ ha)).2⟩,fun j m a e1 e2=>?_,fun a ha=>cg.hfr a (by rw [hid]; exact bG _ ha),cg.fe,cg.frs,fun a ha q=>?_⟩ (.ref ?_) (nO.trans kr) nC (fun q=>hCa (sub2 _ q)) hC hbC hCf
   ·obtain ⟨β,q1,q2⟩:=eu.pre
    refine ⟨rfl,⟨β++[D],by show α₁.ix++[D]=_; rw [show α₁.ix=α.ix++β from q1,List.append_assoc],fun a ha=>?_⟩,eu.seqs,eu.rest,eu.alive,eu.fre⟩
    rcases List.mem_append.mp ha with q | q
    ·exact q2 a q
    ·simp at q; subst q; exact ⟨hD,by simp⟩
   ·intro a ha
    rcases List.mem_append.mp ha with q | q
    ·exact cg.fresh a q
    ·simp at q; subst q; exact hbD
   ·show (α₁.ix++[D]).Nodup
    rw [List.nodup_append]
    exact ⟨cg.nodup,by simp,fun a ha b hb=>by simp at hb; subst hb; rintro rfl; exact hDi ha⟩
   ·simp [cg.len]
   ·intro q
    rcases List.mem_append.mp q with q | q
    ·exact (cg.hidden a (by rw [hid]; exact bG _ ha)).1 q
    ·simp at q; subst q; exact hDx ha
   ·by_cases hj:j < σ₁.length
    ·rw [List.getElem?_append_left hj] at e1
     have e2':(α₁.ix++[D])[j]?=some a:=e2
     rw [List.getElem?_append_left (by rw [<- cg.len]; exact hj)] at e2'
     exact (cg.obj j m a e1 e2').re get1 sub2
    ·have e3:j=σ₁.length:=by
      have:=(cS e1).1
      simp at this; (grind)
     subst e3
     have e2':(α₁.ix++[D])[σ₁.length]?=some a:=e2
     rw [List.getElem?_append_right (Nat.le_refl _)] at e1
     rw [List.getElem?_append_right (by rw [cg.len]; exact Nat.le_refl _)] at e2'
     simp [cg.len] at e1 e2'
     subst e1 e2'
     exact ⟨us,nn,vR,yV.re get1 sub2⟩
   ·rcases List.mem_append.mp q with q | q
    ·exact cg.frNot a ha q
    ·simp at q; subst q
     obtain ⟨_,o,e,es,n',d⟩:=cg.frs a ha
     rw [vR] at e; obtain rfl:=oi e; contradiction
   ·rw [cg.len]; simp
end
end Mine
namespace Mine
open PySem PyProof.Rows
section
variable {K:Kt} {A:Around} {s:Shared} {α:AL} {env:Env} {ρ:aq} {scope:Scope} {t:Nat} {x:Str}
noncomputable abbrev bP (scope:Scope) (C:Addr) (env:Env):Env:=compEnvC scope (eV env.cells scope.names []) C env
noncomputable abbrev jK (scope:Scope) (env:Env) (ρ:aq):aq:=bt (et env.scope.names (br env.scope.names scope.names)) ρ
noncomputable def iC (fz:Bool) (tC:PV->ab->ac Bool) (eC:PV->ab->ac PV) (ci:ac (List PV × Option (Nat × MO))):ac PV:=
 ci.bind fun p σ=>fu p.1.length fz p.2 tC eC [] p.1 σ
theorem ww {elt iter:Expr} {px:Pos} {ifs:List Expr} {pos:Pos} {ci:ac (List PV × Option (Nat × MO))}
  {tC:PV->ab->ac Bool} {eC:PV->ab->ac PV} {fz:Bool} {RR:Value->Addr->Result->Shared->Prop} {E:Value->Shared->Prop}
  (c:gm env.scope.names scope t x) (uU:am env ρ s.heap α) (hit:eJ K A false (eval iter env) ci s α) (hc:iC fz tC eC ci ≠ .stuck) (tk:K.Tk s)
  (htest:∀ C v s σ α,aP K.hb (bP scope C env)->am (bP scope C env) ((jK scope env ρ).set t (some v)) s.heap α->R K.hb s.heap σ α ->
   Runs K eZ A (forIn ifs true fun c r=>if r=true then do let ok <- isTrue c (bP scope C env) (eval c (bP scope C env)); pure (ForInStep.yield ok) else pure (ForInStep.yield r)) (tC v σ) s α)
  (helt:∀ C v s σ α,aP K.hb (bP scope C env)->am (bP scope C env) ((jK scope env ρ).set t (some v)) s.heap α->R K.hb s.heap σ α->Runs K VR A (eval elt (bP scope C env)) (eC v σ) s α)
  (hF:ld K A) (hN:aP K.hb env) (tT:∃ σ,R K.hb s.heap σ α)
  (hE:∀ e s',bi K A ci s α e s'->E e s') (hRR:∀ acc C r s',uV K s α (iC fz tC eC ci) acc C r s'->RR acc C r s') :
  wpAny (model K.prog K.w) A (eval iter env) (fun xv s₁=>wpAny (model K.prog K.w) A (pyIter xv) (fun it aD=>wpAny (model K.prog K.w) A (newList []) (fun acc cY =>
   wpAny (model K.prog K.w) A (newFunctionEnv scope env.globals (eV env.cells scope.names []) [] env.qual none .none (some env)) (fun cenv nK =>
    codeAny (model K.prog K.w) A (.compStart (.ListComp elt [⟨.Name x px,iter,ifs,0⟩] scope pos) 0 it acc { cenv with scope:=relabel scope env }) (RR acc cenv.locals) nK) E cY) E aD) E s₁) E s:=by
 have hci:ci ≠ .stuck:=by rintro rfl; exact hc rfl
 refine wpAny_mono (dy (hit hci tk)) (fun xv s₁ dk=>wpAny_mono (dy dk.1) (fun it aD ft=>?_) fun e s' h=>hE e s' h.1) fun e s' h=>hE e s' h.1
 have u9:K.Tk aD:=Kt.Tk.up tk (aE dk.2 ft.2)
 obtain ⟨xs,w,σ₂,aQ,own,St,hci2,eu,cg,kr,I,st,ho⟩:=ft.1
 have cell:∀ y ∈ scope.names,y.2 ≠ .cell:=c.nocell
 refine wpAny_newObj_type (wpAny_newFunctionEnv cell (by intro y hy; simp at hy) (fun dk aag vQ=>?_) c.kind)
 dsimp only at aag vQ ⊢
 generalize hH2:aD.heap.push { cls:=.type "list",dict:=none,data:=.seq ([]:List Value).toArray }=H2 at aag vQ ⊢
 have hCs:H2.objs.size=aD.heap.objs.size + 1:=by rw [<- hH2,Heap.size_push]
 have hDC:aD.heap.objs.size ≠ H2.objs.size:=by rw [hCs]; exact Nat.ne_of_lt (Nat.lt_succ_self _)
 have old:∀ b o,aD.heap.get? b=some o->dk.get? b=some o:=fun b o e=>vQ.extBut b o (by rw [hCs]; exact Nat.ne_of_lt (Nat.lt_succ_of_lt (Heap.lt_size e))) (Heap.get?_push_of_some _ (hH2 ▸ Heap.get?_push_of_some _ e))
 have hacc:dk.get? aD.heap.objs.size=some { cls:=.type "list",data:=.seq ([]:List Value).toArray }:=vQ.extBut _ _ hDC (Heap.get?_push_of_some _ (hH2 ▸ Heap.get?_push_size _ rfl))
 have fresh:∀ a,aD.heap.objs.size <= a->aD.heap.get? a=none:=fun a ha=>by
  cases e:aD.heap.get? a with
  | none=>rfl
  | some o'=>exact absurd (Heap.lt_size e) (Nat.not_lt.mpr ha)
 have hD2:=fresh aD.heap.objs.size (Nat.le_refl _)
 have hC2:aD.heap.get? H2.objs.size=none:=fresh _ (by rw [hCs]; exact Nat.le_succ _)
 have back:∀ a,aD.heap.get? a=none->s.heap.get? a=none:=fun a ha=>by
  cases e:s.heap.get? a with
  | none=>rfl
  | some o=>obtain ⟨o',e'⟩:=eu.alive a o (by simp) e; rw [ha] at e'; contradiction
 have base:∀ a,aD.heap.get? a=none->K.hb.get? a=none:=fun a ha=>by
  cases e:K.hb.get? a with
  | none=>rfl
  | some o=>rw [cg.base a o e] at ha; contradiction
 have oA:=uU.ext eu .nil
 have nL:R K.hb dk σ₂ ⟨aQ.ix,aD.heap.objs.size::aQ.hid,aQ.fr⟩:=cg.hide hD2 old hacc
 have sw:am env ρ dk ⟨aQ.ix,aD.heap.objs.size::aQ.hid,aQ.fr⟩:=(oA.hide hD2).ext (.keeps (F:=[]) old) .nil
 have cells:∀ y a,env.cells.lookup y=some a->∃ o,s.heap.get? a=some o:=fun y a ha=>by
  obtain ⟨_,_,v,o,e,_⟩:=uU.ca y a ha; exact ⟨o,e⟩
 have hCa:H2.objs.size ∉ (⟨aQ.ix,aD.heap.objs.size::aQ.hid,aQ.fr⟩:AL).all:=fun q=>by
  rcases List.mem_append.mp q with q | q
  ·obtain ⟨o,e⟩:=cg.live q; rw [hC2] at e; contradiction
  ·rcases List.mem_cons.mp q with q | q
   ·exact hDC q.symm
   ·obtain ⟨o,e⟩:=(cg.hidden _ q).2; rw [hC2] at e; contradiction
 have hne:∀ y a,env.cells.lookup y=some a->a ≠ H2.objs.size:=fun y a ha q=>by
  obtain ⟨o,e⟩:=cells y a ha
  rw [q,back _ hC2] at e; contradiction
 have sv:=agu c sw aag hCa hne
 have hcl:=nG c uU
 have apart:qk (bP scope H2.objs.size env) own:=by
  refine ⟨fun q=>?_,fun y a ha q=>?_⟩
  ·obtain ⟨o,e⟩:=I.live _ _ _ st _ q
   have e':aD.heap.get? H2.objs.size=some o:=e
   rw [hC2] at e'; contradiction
  ·obtain ⟨o,e⟩:=cells y a (fm hcl ha)
   rw [(ho a q).1] at e; contradiction
 have hN':aP K.hb (bP scope H2.objs.size env):=⟨base _ hC2,fun y a ha=>hN.c y a (fm hcl ha),hN.f⟩
 have hCf:H2.objs.size ∉ K.hb.fr:=fun q=>by
  obtain ⟨_,o,e,_⟩:=cg.frs _ q
  rw [hC2] at e; contradiction
 have hnm:(bP scope H2.objs.size env).scope.names=br env.scope.names scope.names:=ki uU.ok.kind
 have lh:St 0 dk ⟨aQ.ix,aD.heap.objs.size::aQ.hid,aQ.fr⟩:=I.frame _ [] _ _ _ _ (I.hide _ _ _ _ st hD2) (.keeps old) (by simp)
 have loop:∀ cY:Shared,cY={ aD with heap:=dk,toks:=aD.toks + ([]:List (Str × Value)).length } ->
   codeAny (model K.prog K.w) A (.compLoop (.ListComp elt [⟨.Name x px,iter,ifs,0⟩] scope pos) 0 it (.ref aD.heap.objs.size) (compEnvC scope (eV env.cells scope.names []) H2.objs.size env))
    (RR (.ref aD.heap.objs.size) H2.objs.size) cY:=by
  rintro cY rfl
  refine codeAny_mono (ae2 (s:=s) (α:=α) (D:=aD.heap.objs.size) (C:=H2.objs.size) (fz:=fz) (c:=iC fz tC eC ci) (cenv:=bP scope H2.objs.size env) (ρc:=jK scope env ρ) (t:=t) (tC:=tC) (eC:=eC)
   (i:=0) (σ₁:=σ₂) (α₁:=⟨aQ.ix,aD.heap.objs.size::aQ.hid,aQ.fr⟩) (ys:=[]) (us:=[]) (ρ₁:=jK scope env ρ) (n:=0) I (by rw [hnm]; exact c.tgt) (by rw [hnm]; exact c.sc.uniq) rfl (fun b hb=>(ho b hb).1) (back _ hD2) (back _ hC2) (base _ hD2) (base _ hC2) ?_ apart hc hF hN' hCf
   (fun v s σ α=>htest _ v s σ α hN') (fun v s σ α=>helt _ v s σ α hN') (Nat.zero_le _) (by show _::aQ.hid=_; rw [eu.hid]) ?_ nL lh sv (fun v=>rfl) hacc .nil ⟨kr.gens,kr.os⟩ ?_ (Nat.le_refl _) (Kt.Tk.up u9 (Nat.le_add_right _ _))) (fun r s'=>hRR _ _ r s')
  ·obtain ⟨σ,tT⟩:=tT
   intro q
   obtain ⟨o,e⟩:=(tT.hidden _ q).2
   rw [back _ hD2] at e; contradiction
  ·have h3:aL [] α s.heap ⟨aQ.ix,α.hid,aQ.fr⟩ aD.heap:=by
    have:=eu.rehid α.hid
    exact this
   exact h3.trans (.keeps old)
  ·rw [hci2]; rfl
 exact codeAny_compStart_list (loop _ rfl) (I.self 0 _ _ lh _ _ (loop _ rfl))
theorem wY {elt iter:Expr} {px:Pos} {ifs:List Expr} {pos:Pos} {ci:ac (List PV × Option (Nat × MO))} {σ:ab}
  {tC:PV->ab->ac Bool} {eC:PV->ab->ac PV} {fz:Bool}
  (c:gm env.scope.names scope t x) (uU:am env ρ s.heap α) (hit:eJ K A false (eval iter env) ci s α)
  (htest:∀ C v s σ α,aP K.hb (bP scope C env)->am (bP scope C env) ((jK scope env ρ).set t (some v)) s.heap α->R K.hb s.heap σ α ->
   Runs K eZ A (forIn ifs true fun c r=>if r=true then do let ok <- isTrue c (bP scope C env) (eval c (bP scope C env)); pure (ForInStep.yield ok) else pure (ForInStep.yield r)) (tC v σ) s α)
  (helt:∀ C v s σ α,aP K.hb (bP scope C env)->am (bP scope C env) ((jK scope env ρ).set t (some v)) s.heap α->R K.hb s.heap σ α->Runs K VR A (eval elt (bP scope C env)) (eC v σ) s α)
  (hF:ld K A) (hN:aP K.hb env) (tT:R K.hb s.heap σ α) (hs:∀ x,foldedSetIterable iter env x=pure x) :
  Runs K VR A (eval (.ListComp elt [⟨.Name x px,iter,ifs,0⟩] scope pos) env) (iC fz tC eC ci) s α:=by
 intro hc tk
 rw [eval_ListComp]
 refine wpAny_comprehension_free (use:=none) rfl hs (qP (nG c uU)) c.kind c.names (ww (fz:=fz) (RR:=fun acc C=>compPost (model K.prog K.w) A _ none _ acc C) c uU hit hc tk htest helt hF hN ⟨_,tT⟩ (fun e s' hx=>?_) ?_)
 ·obtain ⟨i,σ',e1,fx⟩:=hx
  exact ⟨i,σ',by rw [e1]; rfl,fx⟩
 ·rintro acc C r s' ⟨rfl,v,σ',α',m,e,x',r',vr,sm,ns,ha,hC,hbC,hCf⟩
  ·refine ⟨m,ns,fun h' hs'=>?_⟩
   obtain ⟨r'',x''⟩:=r'.but ha hbC (fun b o hb e=>(hs'.2 b hb).trans e) (fun o e=>by
    obtain ⟨o',es,ep,e',d,_⟩:=id ns
    rw [e] at e'; obtain rfl:=oi e'
    exact dW.notSolid ⟨_,_,d⟩) fun q=>absurd q hCf
   exact ⟨v,σ',α',e,x'.sameBut hC (fun b hb=>hs'.2 b hb),r'',vr.ext x'',sm.trans ⟨rfl,rfl⟩⟩
end
end Mine
namespace Mine
open PySem PyProof.Rows
noncomputable def dU:Expr->Bool
 | .Set ..=>false
 | .Starred ..=>false
 | _=>true
theorem tm {op:CmpOp} {e:Expr} (h:dU e=true):behindInMarks op e=false:=by
 cases e <;> first | rfl | contradiction
theorem lH {e:Expr} {env:Env} (h:dU e=true) (x:Value):foldedSetIterable e env x=pure x:=by
 cases e <;> first | rfl | contradiction
theorem bN {e:Expr} {rest:List Expr} {env:Env} (h:dU e=true):starEach (e::rest) env=(false,eval e env)::starEach rest env:=by
 cases e <;> first | rfl | contradiction
open PySem.W in
structure gq (K:Kt) (F:Frag) (b:Str) (c:Addr):Prop where
 mg:K.mg b=some (.ref c)
 inn:F.In K.hb.h
 keep:keepIn F (.ref c)=true
 makes:makesIn F c=true
 plain:plainOver F c=true
 hasd:(clsIn F c).any (·.hasDict)=true
 seta:findIn F (.ref c) "__setattr__" = some (some (.builtin "object.__setattr__"))
 free:∀ n ∈ dv,takerIn F c n=some none
 geta:findIn F (.ref c) "__getattribute__" = some (some (.builtin "object.__getattribute__"))
 getr:findIn F (.ref c) "__getattr__" = some none
 none:∀ n ∈ dv,findIn F (.ref c) n=some none
structure Ctx (K:Kt) (A:Around) (T:bf) (C:bn):Prop where
 hK:K.Ok
 hA:dO A
 hd:C.hd=false->A.handled=none
 rp:T.repl=true->K.pos=true
 fr:ld K A
 cst:∀ x v,T.cst.lookup x=some v->∃ u,K.mg x=some u/\∀ h σ α,R K.hb h σ α->VR h α v u
 fn:∀ f x,T.fns[f]?=some x->∃ a o fd,K.mg x=some (.ref a)/\K.hb.get? a=some o/\o.data=.func fd/\∀ vs us s σ α,R K.hb s.heap σ α->aT s.heap α vs us->Runs K VR A (call (.ref a) us) (C.call f vs σ) s α
 bin:∀ x,x ∈ T.bins->K.mg x=none/\∃ v,jY x=some v/\K.mb x=some v
 brd:∀ b c,T.brd=some (b,c)->∃ F,gq K F b c/\(∀ j,T.meths[j]?=some ("__init__" : Str)->∀ vs us s σ α,R K.hb s.heap σ α->aT s.heap α vs us->Runs K VR A (call (.ref c) us) (pU C c (T.fns.length + j) vs σ) s α)
  /\ ∀ j n,T.meths[j]?=some n->∃ a o fd,PySem.W.findIn F (.ref c) n=some (some (.ref a))/\PySem.W.typeIn F (.ref a)=some (.type "function")/\K.hb.get? a=some o/\o.data=.func fd/\∀ vs us s σ α,R K.hb s.heap σ α->aT s.heap α vs us->Runs K VR A (call (.ref a) us) (C.call (T.fns.length + j) vs σ) s α
noncomputable def kO (K:Kt) (A:Around) (C:bn) (N:List (Str × NameKind)) (e:Expr) (x:X):Prop:=
 ∀ env ρ σ s α,env.scope.names=N->aP K.hb env->am env ρ s.heap α->R K.hb s.heap σ α ->
  Runs K VR A (eval e env) (ev C x ρ σ) s α/\Runs K eZ A (isTrue e env (eval e env)) (tst C x ρ σ) s α
noncomputable def SE (K:Kt) (A:Around) (C:bn) (f:List (Str × NameKind)->Expr->Option X):Prop:=
 ∀ N e x,f N e=some x->dU e=true/\kO K A C N e x
section
variable {K:Kt} {A:Around} {β γ td γ':Type} {Rel:Heap->AL->β->γ->Prop} {Rel':Heap->AL->td->γ'->Prop} {s:Shared} {α:AL} {σ:ab}
theorem Runs.operate {vs:List Value} {t:Sem Value} {Rel:Heap->AL->β->Value->Prop} {c:ac β} (H:Runs K Rel A t c s α):Runs K Rel A (operate vs t) c s α:=
 fun h tk=>wpAny_operating (H h tk)
theorem ah7 {t:Sem Value} {c:ac PV} {p:Pos} (H:Runs K VR A t c s α):Runs K eZ A (do let v <- t; standAt p; holding [v] (truthy v)) (c.bind dA) s α:=
 Runs.bind H fun b σ' α' y s' zz x r v m=>Runs.standAt (Runs.holding (jN r v))
theorem cR.vr {h:Heap} {α:AL} {b:Bool} {y:Value} (v:cR h α b y):VR h α (.bool b) y:=by
 have:y=.bool b:=v
 subst this; exact .bool b
end
section
variable {K:Kt} {A:Around} {T:bf} {C:bn} {f:List (Str × NameKind)->Expr->Option X} {N:List (Str × NameKind)} {env:Env} {ρ:aq} {σ:ab} {s:Shared} {α:AL}
theorem abh {c:Const} {v:PV} {k:Nat} {p:Pos} (h:sC c=some v) (r:R K.hb s.heap σ α):Runs K VR A (eval (.Constant c k p) env) (.ok v σ) s α:=by
 intro _ _
 cases c with
 | none=>obtain rfl:=oi h; exact wpAny_Constant_none (bm.here (tk:=s.toks) r .none)
 | bool b=>obtain rfl:=oi h; exact wpAny_Constant_bool (bm.here (tk:=s.toks) r (.bool b))
 | int i=>obtain rfl:=oi h; exact wpAny_Constant_int (bm.here r (.int i _))
 | str x =>
  change aH _ _=_ at h
  exact aK h fun hx h=>by obtain rfl:=oi h; exact wpAny_Constant_str (bm.here r (.str x _ hx))
 | _=>contradiction
theorem bu {e:Expr} {y:X} (he:∀ env whole,isTrue e env whole=(do let v <- whole; standAt e.pos; holding [v] (truthy v))) (ht:∀ ρ σ,tst C y ρ σ=(ev C y ρ σ).bind dA)
  (H:∀ {env ρ σ s α},env.scope.names=N->aP K.hb env->am env ρ s.heap α->R K.hb s.heap σ α->Runs K VR A (eval e env) (ev C y ρ σ) s α):kO K A C N e y:=fun env ρ σ s α hN hn E r =>
 ⟨H hN hn E r,by rw [he,ht]; exact ah7 (H hN hn E r)⟩
theorem aab {N:List (Str × NameKind)} {x:Str} {i:Nat} {q:Str × NameKind} (hi:N.findIdx? (·.1 == x)=some i) (hq:N[i]?=some q):q.1=x:=by
 obtain ⟨h1,h2,_⟩:=List.findIdx?_eq_some_iff_getElem.mp hi
 obtain rfl:=oi ((List.getElem?_eq_getElem h1).symm.trans hq)
 exact eq_of_beq h2
theorem zn {x:Str} {y:X} {p:Pos} (c:Ctx K A T C) (h:zo T N x=some y):kO K A C N (.Name x p) y:=by
 unfold zo at h
 refine aS h fun i hi h=>aS h fun q hq h=>?_
 have hx:=aab hi hq
 obtain ⟨z,k⟩:=q
 dsimp only at hx
 subst hx
 cases k with
 | «local»=>obtain rfl:=oi h; exact bu (fun zz zz=>rfl) (fun zz zz=>rfl) fun hN zz E r=>vB r E (by rw [hN]; exact hq)
 | cell=>obtain rfl:=oi h; exact bu (fun zz zz=>rfl) (fun zz zz=>rfl) fun hN zz E r=>vB r E (by rw [hN]; exact hq)
 | globalImplicit =>
  change (T.cst.lookup z).map X.k=_ at h
  refine c7 h fun v hv=>?_
  obtain ⟨u,h1,h2⟩:=c.cst z v hv
  exact bu (fun zz zz=>rfl) (fun zz zz=>rfl) fun {env ρ σ s α} hN _ E r _ _=>rn c.hK r E.ok (by rw [hN]; exact hq) h1 ⟨v,σ,α,rfl,.refl,r,h2 _ _ _ r,.refl s⟩
 | _=>contradiction
theorem fI {g:Expr->Option X} {e:Expr} {es:List Expr} {xs:X} (h:fB g (e::es)=some xs):∃ a b,g e=some a/\fB g es=some b/\xs=.cons a b:=by
 change o2 _ _ _=_ at h
 exact ez (M:=fun xs=>∃ a b,g e=some a/\fB g es=some b/\xs=.cons a b) h fun a b h1 h2=>⟨a,b,h1,h2,rfl⟩
theorem ga {es:List Expr} {xs:X} {pos:Pos} (S:SE K A C f) (h:fB (f N) es=some xs) (hN:env.scope.names=N) (hn:aP K.hb env) :
  ∀ {σ s α},am env ρ s.heap α->R K.hb s.heap σ α->Runs K aT A (spliced (backTo pos (starEach es env))) (evs C xs ρ σ) s α:=by
 induction es generalizing xs with
 | nil =>
  obtain rfl:=oi h
  intro σ s α E r
  simp only [b6,d6]
  exact fun zz zz=>wpAny_items_nil ⟨[],σ,α,rfl,.refl,r,.nil,.refl s⟩
 | cons e es ih =>
  obtain ⟨a,b,ha,hb,rfl⟩:=fI h
  ·skip
   intro σ s α E r
   obtain ⟨hp,H⟩:=S N e a ha
   have H:=(H env ρ σ s α hN hn E r).1
   simp only [b6,d6]
   intro hc tk
   refine wpAny_items_cons ?_ (bN hp)
   have h1:ev C a ρ σ ≠ .stuck:=by intro q; rw [q] at hc; exact hc rfl
   refine wpAny_mono (dy (H h1 tk)) (fun v s₁ hp=>?_) fun e s₁ hx=>?_
   ·obtain ⟨⟨pv,σ₁,α₁,e1,x1,r1,v1,m1⟩,tl1⟩:=hp
    rw [e1] at hc ⊢
    have h2:evs C b ρ σ₁ ≠ .stuck:=by intro q; simp [ac.bind,q] at hc
    refine wpAny_mono (ih hb (E.ext x1 .nil) r1 h2 (Kt.Tk.up tk tl1)) (fun vs aD hp=>?_) fun e aD hx=>?_
    ·obtain ⟨pvs,σ₂,aQ,e2,x2,r2,v2,m2⟩:=hp
     refine ⟨pv::pvs,σ₂,aQ,by simp [ac.bind,e2],x1.trans x2,r2,.cons (v1.ext x2) v2,m1.trans m2⟩
    ·obtain ⟨i,σ₂,e2,nt,fx⟩:=hx
     exact ⟨i,σ₂,by simp [ac.bind,e2],nt,fx.lift x1 m1⟩
   ·obtain ⟨⟨i,σ₁,e1,nt,fx⟩,_⟩:=hx
    exact ⟨i,σ₁,by rw [e1]; rfl,nt,fx⟩
theorem afd {es:List Expr} {xs:X} {pos:Pos} (S:SE K A C f) (h:fB (f N) es=some xs) (hN:env.scope.names=N) (hn:aP K.hb env) :
  ∀ {σ s α},am env ρ s.heap α->R K.hb s.heap σ α->Runs K VR A (boolOp pos .And (evalEach es env)) (evAnd C xs ρ σ) s α/\Runs K eZ A (allTrue .And es env) (tstAnd C xs ρ σ) s α:=by
 induction es generalizing xs with
 | nil =>
  obtain rfl:=oi h
  intro σ s α E r
  refine ⟨fun hc=>absurd (by simp only [sd,sa,jk]) hc,?_⟩
  simp only [u0,dn]
  exact fun zz zz=>wpAny_allTrue_And_nil ⟨true,σ,α,rfl,.refl,r,rfl,.refl s⟩
 | cons e es ih =>
  obtain ⟨a,b,ha,hb,rfl⟩:=fI h
  ·skip
   intro σ s α E r
   obtain ⟨hp,H⟩:=S N e a ha
   have H:=H env ρ σ s α hN hn E r
   constructor
   ·cases es with
    | nil =>
     obtain rfl:=oi hb
     simp only [sd,sa,jk]
     exact H.1
    | cons e2 es2 =>
     have hbc:∃ b1 b2,b=.cons b1 b2:=by
      obtain ⟨b1,b2,_,_,rfl⟩:=fI hb
      exact ⟨_,_,rfl⟩
     obtain ⟨b1,b2,rfl⟩:=hbc
     simp only [sd,sa,jk]
     refine Runs.bind H.1 fun v σ₁ α₁ y s₁ e1 x1 r1 v1 m1=>Runs.standAt ?_
     refine Runs.bind (Runs.holding (jN r1 v1)) fun t σ₂ aQ y2 aD e2 x2 r2 v2 m2=>?_
     have:y2=t:=v2
     subst this
     cases y2 with
     | false=>simp only [Bool.false_eq_true,if_false]; exact Runs.pure r2 (v1.ext x2)
     | true=>simp only [if_true]; exact (ih hb ((E.ext x1 .nil).ext x2 .nil) r2).1
   ·simp only [u0,dn]
    refine Runs.bind H.2 fun t σ₁ α₁ y s₁ e1 x1 r1 v1 m1=>?_
    have:y=t:=v1
    subst this
    cases y with
    | false=>simp only [Bool.false_eq_true,if_false]; exact Runs.pure r1 rfl
    | true=>simp only [if_true]; exact (ih hb (E.ext x1 .nil) r1).2
theorem afV {es:List Expr} {xs:X} {pos:Pos} (S:SE K A C f) (h:fB (f N) es=some xs) (hN:env.scope.names=N) (hn:aP K.hb env) :
  ∀ {σ s α},am env ρ s.heap α->R K.hb s.heap σ α->Runs K VR A (boolOp pos .Or (evalEach es env)) (evOr C xs ρ σ) s α/\Runs K eZ A (allTrue .Or es env) (tstOr C xs ρ σ) s α:=by
 induction es generalizing xs with
 | nil =>
  obtain rfl:=oi h
  intro σ s α E r
  refine ⟨fun hc=>absurd (by simp only [uI,uH,nF]) hc,?_⟩
  simp only [xI,dT]
  exact fun zz zz=>wpAny_allTrue_Or_nil ⟨false,σ,α,rfl,.refl,r,rfl,.refl s⟩
 | cons e es ih =>
  obtain ⟨a,b,ha,hb,rfl⟩:=fI h
  ·skip
   intro σ s α E r
   obtain ⟨hp,H⟩:=S N e a ha
   have H:=H env ρ σ s α hN hn E r
   constructor
   ·cases es with
    | nil =>
     obtain rfl:=oi hb
     simp only [uI,uH,nF]
     exact H.1
    | cons e2 es2 =>
     have hbc:∃ b1 b2,b=.cons b1 b2:=by
      obtain ⟨b1,b2,_,_,rfl⟩:=fI hb
      exact ⟨_,_,rfl⟩
     obtain ⟨b1,b2,rfl⟩:=hbc
     simp only [uI,uH,nF]
     refine Runs.bind H.1 fun v σ₁ α₁ y s₁ e1 x1 r1 v1 m1=>Runs.standAt ?_
     refine Runs.bind (Runs.holding (jN r1 v1)) fun t σ₂ aQ y2 aD e2 x2 r2 v2 m2=>?_
     have:y2=t:=v2
     subst this
     cases y2 with
     | true=>simp only [if_true]; exact Runs.pure r2 (v1.ext x2)
     | false=>simp only [Bool.false_eq_true,if_false]; exact (ih hb ((E.ext x1 .nil).ext x2 .nil) r2).1
   ·simp only [xI,dT]
    refine Runs.bind H.2 fun t σ₁ α₁ y s₁ e1 x1 r1 v1 m1=>?_
    have:y=t:=v1
    subst this
    cases y with
    | true=>simp only [if_true]; exact Runs.pure r1 rfl
    | false=>simp only [Bool.false_eq_true,if_false]; exact (ih hb (E.ext x1 .nil) r1).2
end
end Mine
set_option maxRecDepth 100000
namespace Mine
open PySem PySem.W PyProof.Rows
end Mine
namespace Mine
open PySem PyProof.Rows
section
variable {K:Kt} {A:Around} {β γ td γ':Type} {Rel:Heap->AL->β->γ->Prop} {Rel':Heap->AL->td->γ'->Prop} {s:Shared} {α:AL} {σ:ab}
theorem aaG {a:β} {f:β->ab->ac td}:(ac.ok a σ).bind f=f a σ:=rfl
theorem bm.lift {c:ac β} {s₁:Shared} {α₁:AL} {y:γ} {s':Shared} (x:aL [] α s.heap α₁ s₁.heap) (m:Sm s s₁) (p:bm K Rel c s₁ α₁ y s'):bm K Rel c s α y s':=by
 obtain ⟨b,σ',α',e,x',r,v,m'⟩:=p
 exact ⟨b,σ',α',e,x.trans x',r,v,m.trans m'⟩
theorem bi.bind {c:ac β} {f:β->ab->ac td} {y:Value} {s':Shared} (p:bi K A c s α y s'):bi K A (c.bind f) s α y s':=by
 obtain ⟨i,σ',e,fx⟩:=p
 exact ⟨i,σ',by rw [e]; rfl,fx⟩
theorem Runs.useL {t:Sem γ} {c:ac β} {f:β->ab->ac td} {W:γ->Shared->Prop} {iI:Shared} {jM:AL} (acb:aL [] jM iI.heap α s.heap) (acP:Sm iI s) (H:Runs K Rel A t c s α) (hc:c.bind f ≠ .stuck) (tk:K.Tk s)
  (N:∀ b σ' α' y s',c=.ok b σ'->f b σ' ≠ .stuck->aL [] α s.heap α' s'.heap->R K.hb s'.heap σ' α'->Rel s'.heap α' b y->Sm s s'->K.Tk s'->W y s'):wpAny (model K.prog K.w) A t W (bi K A (c.bind f) iI jM) s:=by
 have h1:c ≠ .stuck:=by rintro rfl; exact hc rfl
 refine wpAny_mono (dy (H h1 tk)) (fun y s' hp=>?_) fun e s' hx=>(hx.1.lift acb acP).bind
 obtain ⟨⟨b,σ',α',rfl,x,r,v,m⟩,tl⟩:=hp
 exact N b σ' α' y s' rfl hc x r v m (Kt.Tk.up tk tl)
theorem Runs.endL {t:Sem γ} {c:ac β} {iI:Shared} {jM:AL} (acb:aL [] jM iI.heap α s.heap) (acP:Sm iI s) (H:Runs K Rel A t c s α) (hc:c ≠ .stuck) (tk:K.Tk s):wpAny (model K.prog K.w) A t (bm K Rel c iI jM) (bi K A c iI jM) s:=
 wpAny_mono (H hc tk) (fun zz zz h=>h.lift acb acP) fun zz zz h=>h.lift acb acP
theorem Runs.use {t:Sem γ} {c:ac β} {f:β->ab->ac td} {W:γ->Shared->Prop} (H:Runs K Rel A t c s α) (hc:c.bind f ≠ .stuck) (tk:K.Tk s)
  (N:∀ b σ' α' y s',c=.ok b σ'->f b σ' ≠ .stuck->aL [] α s.heap α' s'.heap->R K.hb s'.heap σ' α'->Rel s'.heap α' b y->Sm s s'->K.Tk s'->W y s'):wpAny (model K.prog K.w) A t W (bi K A (c.bind f) s α) s:=H.useL .refl (.refl s) hc tk N
theorem Runs.boolV {t:Sem Value} {c:ac Bool} (H:Runs K cR A t c s α):Runs K VR A t (c.bind fun b σ=>.ok (.bool b) σ) s α:=by
 intro hc tk
 have h1:c ≠ .stuck:=by rintro rfl; exact hc rfl
 refine wpAny_mono (H h1 tk) (fun y s' hp=>?_) fun e s' hx=>hx.bind
 obtain ⟨b,σ',α',rfl,x,r,v,m⟩:=hp
 exact ⟨_,_,_,rfl,x,r,v.vr,m⟩
end
section
variable {K:Kt} {A:Around} {T:bf} {C:bn} {f:List (Str × NameKind)->Expr->Option X} {N:List (Str × NameKind)} {env:Env} {ρ:aq} {σ:ab} {s:Shared} {α:AL}
theorem w8 {g:Str} (h:iq N g=true):∃ i:Nat,N[i]?=some (g,NameKind.globalImplicit):=by
 unfold iq at h
 obtain ⟨i,_,hi⟩:=gZ (by simpa using h)
 exact ⟨i,hi⟩
theorem eW {g:Str} {bv:Value} {p:Pos} {Q X:Value->Shared->Prop} (c:Ctx K A T C) (hg:iq N g=true) (hbin:g ∈ T.bins) (hv:jY g=some bv) (hN:env.scope.names=N) (E:zb env) (r:R K.hb s.heap σ α) (h:Q bv s):wpAny (model K.prog K.w) A (eval (.Name g p) env) Q X s:=by
 obtain ⟨hm,v,hv1,hmb⟩:=c.bin _ hbin
 obtain ⟨j,hj⟩:=w8 hg
 obtain rfl:=oi (hv.symm.trans hv1)
 exact afZ c.hK r E (hN ▸ hj) hm hmb h
theorem aaF {g:Str} {args:List Expr} {p pos:Pos} {i:Nat} {xs:X} (c:Ctx K A T C) (S:SE K A C f) (hi:T.fns[i]?=some g) (hg:iq N g=true) (hne:args ≠ []) (h:fB (f N) args=some xs)
  (hN:env.scope.names=N) (hn:aP K.hb env) (E:am env ρ s.heap α) (r:R K.hb s.heap σ α) :
  Runs K VR A (eval (.Call (.Name g p) args [] pos) env) ((evs C xs ρ σ).bind fun vs σ=>C.call i vs σ) s α:=by
 intro hc tk
 obtain ⟨a,o,fd,hm,ho,hd,hcall⟩:=c.fn i g hi
 obtain ⟨j,hj⟩:=w8 hg
 refine wpAny_Call_Name_kw (rn c.hK r E.ok (by rw [hN]; exact hj) hm ?_)
 cases args with
 | nil=>exact absurd rfl hne
 | cons e es =>
  have H:=ga (pos:=pos) S h hN hn E r
  obtain ⟨a',b',ha',hb',_⟩:=fI h
  rw [bN (S N e a' ha').1] at H ⊢
  refine Calls.callWith_function (o:=o) (fd:=fd) (Calls.evalArgs_plain (Runs.use H hc tk fun vs σ' α' us s' e1 hc' x' r' v' m' tk'=>?_))
  refine ⟨⟨r'.base _ _ ho,hd⟩,?_⟩
  rw [e1]
  exact (hcall vs us s' σ' α' r' v').endL x' m' hc' tk'
theorem agF {fz:Bool} {g:Str} {b:B1} (h:wA fz g=some b):jY g=some (qh b):=
 (show ∀ p ∈ adm fz,jY p.1=some (qh p.2) from (by repeat (first | refine List.forall_mem_cons.mpr ⟨rfl,?_⟩ | exact fun zz h=>nomatch h))) _ (fP h)
theorem agE {g:Str} {t:Ty} (h:zh g=some t):jY g=acf t:=
 (show ∀ p ∈ agO,jY p.1=acf p.2 from (by repeat (first | refine List.forall_mem_cons.mpr ⟨rfl,?_⟩ | exact fun zz h=>nomatch h))) _ (fP h)
noncomputable def aez (b:B1):Bool:=
 match qh b with
 | .none=>true
 | _=>false
theorem sj {fz:Bool} {g:Str} {b:B1} (h:wA fz g=some b):qh b ≠ .none:=by
 have h:=(show ∀ p ∈ adm fz,aez p.2=false from (by repeat (first | refine List.forall_mem_cons.mpr ⟨rfl,?_⟩ | exact fun zz h=>nomatch h))) _ (fP h)
 intro e
 unfold aez at h
 rw [e] at h
 contradiction
theorem ae8 {hd:Bool} {b:B1} {a:PV} {σ:ab} (h:nH hd b a σ ≠ .stuck):(y7 b=true->hd=false)/\nH hd b a σ=cI b a σ:=by
 unfold nH at h ⊢
 cases hd with
 | false=>exact ⟨fun zz=>rfl,rfl⟩
 | true =>
  cases hb:y7 b with
  | false=>exact ⟨fun q=>(by contradiction),rfl⟩
  | true=>rw [hb] at h; exact absurd rfl h
theorem agG {g:Str} {a:Expr} {p pos:Pos} {fz:Bool} {b:B1} {x:X} (c:Ctx K A T C) (S:SE K A C f) (hb:wA fz g=some b) (hg:iq N g=true) (hbin:g ∈ T.bins) (h:f N a=some x)
  (hN:env.scope.names=N) (hn:aP K.hb env) (E:am env ρ s.heap α) (r:R K.hb s.heap σ α) :
  Runs K VR A (eval (.Call (.Name g p) [a] [] pos) env) ((ev C x ρ σ).bind fun v σ=>nH C.hd b v σ) s α:=by
 intro hc tk
 obtain ⟨hp,H⟩:=S N a x h
 have H:=(H env ρ σ s α hN hn E r).1
 refine wpAny_Call_Name_kw (eW c hg hbin (agF hb) hN E.ok r ?_)
 rw [bN hp]
 have fin:wpAny (model K.prog K.w) A (eval a env) (fun y s'=>wpAny (model K.prog K.w) A (call (qh b) [y]) (bm K VR ((ev C x ρ σ).bind fun v σ=>nH C.hd b v σ) s α) (bi K A ((ev C x ρ σ).bind fun v σ=>nH C.hd b v σ) s α) s') (bi K A ((ev C x ρ σ).bind fun v σ=>nH C.hd b v σ) s α) s:=by
  refine Runs.use H hc tk fun v σ' α' y s' e1 hc' x' r' v' m' tk'=>?_
  rw [e1]
  obtain ⟨z1,z2⟩:=ae8 hc'
  show wpAny _ _ _ (bm K VR (nH C.hd b v σ') s α) (bi K A (nH C.hd b v σ') s α) _
  rw [z2] at hc' ⊢
  exact (ae7 (sj hb) c.hA (fun q=>c.hd (z1 q)) r' v').endL x' m' hc' tk'
 cases b with
 | lenset=>exact absurd rfl (sj hb)
 | dict=>exact absurd rfl (sj hb)
 | len=>exact PySem.callWith_builtin1 fin
 | sum=>exact PySem.callWith_builtin1 fin
 | min=>exact PySem.callWith_builtin1 fin
 | max=>exact PySem.callWith_builtin1 fin
 | sorted=>exact PySem.callWith_builtin1 fin
 | all=>exact PySem.callWith_builtin1 fin
 | any=>exact PySem.callWith_builtin1 fin
 | list _=>exact PySem.callWith_type1 fin
 | tuple=>exact PySem.callWith_type1 fin
 | int=>exact PySem.callWith_type1 fin
 | str=>exact PySem.callWith_type1 fin
theorem yz {t:Str} {ty:Ty} {a:Expr} {p p2 pos:Pos} {x:X} (c:Ctx K A T C) (S:SE K A C f) (hb:zh t=some ty) (hg:iq N "isinstance" = true) (hbin:("isinstance" : Str) ∈ T.bins)
  (hgt:iq N t=true) (hbt:t ∈ T.bins) (h:f N a=some x)
  (hN:env.scope.names=N) (hn:aP K.hb env) (E:am env ρ s.heap α) (r:R K.hb s.heap σ α) :
  Runs K VR A (eval (.Call (.Name "isinstance" p) [a,.Name t p2] [] pos) env) ((ev C x ρ σ).bind fun v σ=>(eB v ty σ).bind fun b σ=>.ok (.bool b) σ) s α:=by
 intro hc tk
 obtain ⟨_,v2,hv2,_⟩:=c.bin _ hbt
 have hty:=(agE hb).symm.trans hv2
 obtain ⟨hp,H⟩:=S N a x h
 have H:=(H env ρ σ s α hN hn E r).1
 refine wpAny_Call_Name_kw (eW c hg hbin rfl hN E.ok r ?_)
 rw [bN hp]
 refine Calls.callWith_builtin rfl (Calls.evalArgs_plain (Calls.spliced_cons ?_))
 refine Runs.use H hc tk fun v σ' α' y s' e1 hc' x' r' v' m' tk'=>?_
 rw [e1]
 exact Calls.spliced_cons (eW c hgt hbt hv2 hN E.ok r' (Calls.spliced_nil ((z7 hty r' v').boolV.endL x' m' hc' tk')))
theorem adl {o:Op} {l r':Expr} {op:Operator} {pos:Pos} {a b:X} (c:Ctx K A T C) (S:SE K A C f) (ho:ais op=some o) (h1:f N l=some a) (h2:f N r'=some b)
  (hN:env.scope.names=N) (hn:aP K.hb env) (E:am env ρ s.heap α) (r:R K.hb s.heap σ α) :
  Runs K VR A (eval (.BinOp l op r' pos) env) (ev C (.bin o a b) ρ σ) s α:=by
 have hop:op=aiG o:=by cases op <;> cases ho <;> rfl
 subst hop
 rw [arm_eval_BinOp]
 refine Runs.bind ((S N l a h1).2 env ρ σ s α hN hn E r).1 fun va σ₁ α₁ y s₁ e1 x1 r1 v1 m1=>?_
 refine Runs.bind (Runs.holding ((S N r' b h2).2 env ρ σ₁ s₁ α₁ hN hn (E.ext x1 .nil) r1).1) fun vb σ₂ aQ y2 aD e2 x2 r2 v2 m2=>?_
 exact Runs.standAt (Runs.operate (abm c.hA r2 (v1.ext x2) v2))
theorem adi {o:Cm} {l r':Expr} {op:CmpOp} {pos:Pos} {a b:X} (c:Ctx K A T C) (S:SE K A C f) (ho:wK op=some o) (h1:f N l=some a) (h2:f N r'=some b)
  (hN:env.scope.names=N) (hn:aP K.hb env) (E:am env ρ s.heap α) (r:R K.hb s.heap σ α) :
  Runs K VR A (eval (.Compare l [op] [r'] pos) env) (ev C (.cmp a o b) ρ σ) s α/\Runs K eZ A (isTrue (.Compare l [op] [r'] pos) env (eval (.Compare l [op] [r'] pos) env)) (tst C (.cmp a o b) ρ σ) s α:=by
 have hop:op=gK o:=by cases op <;> cases ho <;> rfl
 subst hop
 obtain ⟨hp2,H2⟩:=S N r' b h2
 have hmk:markedBehindIn (gK o) r' (eval r' env)=eval r' env:=by unfold markedBehindIn; rw [tm hp2]
 constructor
 ·rw [arm_eval_Compare]
  refine Runs.bind ((S N l a h1).2 env ρ σ s α hN hn E r).1 fun va σ₁ α₁ y s₁ e1 x1 r1 v1 m1=>?_
  show Runs K VR A (do let rv <- holding [y] (markedBehindIn (gK o) r' (eval r' env)); standAt pos; operate [y,rv] (compareOp (gK o) y rv)) _ _ _
  rw [hmk]
  refine Runs.bind (Runs.holding (H2 env ρ σ₁ s₁ α₁ hN hn (E.ext x1 .nil) r1).1) fun vb σ₂ aQ y2 aD e2 x2 r2 v2 m2=>Runs.standAt (Runs.operate ?_)
  exact (fk c.hK c.hA r2 (v1.ext x2) v2).boolV
 ·rw [arm_isTrue_Compare]
  refine Runs.bind ((S N l a h1).2 env ρ σ s α hN hn E r).1 fun va σ₁ α₁ y s₁ e1 x1 r1 v1 m1=>?_
  show Runs K eZ A (do let rv <- holding [y] (markedBehindIn (gK o) r' (eval r' env)); standAt pos; let c <- operate [y,rv] (compareOp (gK o) y rv); holding [c] (truthy c)) _ _ _
  rw [hmk]
  refine Runs.bind (Runs.holding (H2 env ρ σ₁ s₁ α₁ hN hn (E.ext x1 .nil) r1).1) fun vb σ₂ aQ y2 aD e2 x2 r2 v2 m2=>Runs.standAt ?_
  intro hc tk
  refine wpAny_bind (wpAny_operating (wpAny_mono (fk c.hK c.hA r2 (v1.ext x2) v2 hc tk) (fun y s'' hp=>?_) fun e s'' hx=>hx))
  obtain ⟨bb,gG,jx,e3,x3,r3,v3,m3⟩:=hp
  have:y=.bool bb:=v3
  subst this
  exact wpAny_holding (wpAny_truthy_bool ⟨bb,gG,jx,e3,x3,r3,rfl,m3⟩)
theorem Runs.release {vs ks:List Value} {β γ:Type} {Rel:Heap->AL->β->γ->Prop} {t:Sem γ} {c:ac β}
  (H:Runs K Rel A t c s α):Runs K Rel A (do PySem.release vs ks; t) c s α:=
 fun h tk=>wpAny_bind (wpAny_release' (H h tk))
end
end Mine
namespace Mine
open PySem PyProof.Rows
section
variable {K:Kt} {A:Around} {T:bf} {C:bn} {f:List (Str × NameKind)->Expr->Option X} {N:List (Str × NameKind)} {env:Env} {ρ:aq} {σ:ab} {s:Shared} {α:AL}
theorem abl {o o2:Cm} {l r' r2':Expr} {op op2:CmpOp} {pos:Pos} {a b b2:X} (c:Ctx K A T C) (S:SE K A C f) (ho:wK op=some o) (ho2:wK op2=some o2) (h1:f N l=some a) (h2:f N r'=some b) (h3:f N r2'=some b2)
  (hN:env.scope.names=N) (hn:aP K.hb env) (E:am env ρ s.heap α) (r:R K.hb s.heap σ α) :
  Runs K VR A (eval (.Compare l [op,op2] [r',r2'] pos) env) (ev C (.cmp2 a o b o2 b2) ρ σ) s α/\Runs K eZ A (isTrue (.Compare l [op,op2] [r',r2'] pos) env (eval (.Compare l [op,op2] [r',r2'] pos) env)) (tst C (.cmp2 a o b o2 b2) ρ σ) s α:=by
 have hop:op=gK o:=by cases op <;> cases ho <;> rfl
 subst hop
 have hop2:op2=gK o2:=by cases op2 <;> cases ho2 <;> rfl
 subst hop2
 obtain ⟨hp2,H2⟩:=S N r' b h2
 obtain ⟨hp3,H3⟩:=S N r2' b2 h3
 have hmk:markedBehindIn (gK o2) r2' (eval r2' env)=eval r2' env:=by unfold markedBehindIn; rw [tm hp3]
 constructor
 ·rw [arm_eval_Compare]
  refine Runs.bind ((S N l a h1).2 env ρ σ s α hN hn E r).1 fun va σ₁ α₁ y s₁ e1 x1 r1 v1 m1=>?_
  show Runs K VR A (do let rv <- holding [y] (eval r' env); standAt pos; let c <- holding [y,rv] (compareOp (gK o) y rv); release [y,rv] [c]; if <- holding [c,rv] (truthy c) then (do let rv' <- holding [rv] (markedBehindIn (gK o2) r2' (eval r2' env)); standAt pos; operate [rv,rv'] (compareOp (gK o2) rv rv')) else pure c) _ _ _
  rw [hmk]
  refine Runs.bind (Runs.holding (H2 env ρ σ₁ s₁ α₁ hN hn (E.ext x1 .nil) r1).1) fun vb σ₂ aQ y2 aD e2 x2 r2 v2 m2=>Runs.standAt ?_
  refine Runs.bind (Runs.holding (fk c.hK c.hA r2 (v1.ext x2) v2)) fun bb σ₃ sy y3 cY e3 x3 r3 v3 m3=>Runs.release ?_
  have:y3=.bool bb:=v3
  subst this
  intro hc tk
  refine wpAny_bind (wpAny_holding (wpAny_truthy_bool ?_))
  cases bb with
  | false=>exact wpAny_pure ⟨_,_,_,rfl,.refl,r3,.bool _,.refl _⟩
  | true =>
   refine (Runs.bind (Runs.holding (H3 env ρ σ₃ cY sy hN hn (((E.ext x1 .nil).ext x2 .nil).ext x3 .nil) r3).1) fun vc yQ pL y4 nK e4 x4 r4 v4 m4=>Runs.standAt (Runs.operate ?_)) hc tk
   exact (fk c.hK c.hA r4 ((v2.ext x3).ext x4) v4).boolV
 ·rw [arm_isTrue_Compare]
  refine Runs.bind ((S N l a h1).2 env ρ σ s α hN hn E r).1 fun va σ₁ α₁ y s₁ e1 x1 r1 v1 m1=>?_
  show Runs K eZ A (do let rv <- holding [y] (eval r' env); standAt pos; let c <- holding [y,rv] (compareOp (gK o) y rv); release [y,rv] [c]; if <- holding [c,rv] (truthy c) then (do let rv' <- holding [rv] (markedBehindIn (gK o2) r2' (eval r2' env)); standAt pos; let c <- operate [rv,rv'] (compareOp (gK o2) rv rv'); holding [c] (truthy c)) else pure false) _ _ _
  rw [hmk]
  refine Runs.bind (Runs.holding (H2 env ρ σ₁ s₁ α₁ hN hn (E.ext x1 .nil) r1).1) fun vb σ₂ aQ y2 aD e2 x2 r2 v2 m2=>Runs.standAt ?_
  refine Runs.bind (Runs.holding (fk c.hK c.hA r2 (v1.ext x2) v2)) fun bb σ₃ sy y3 cY e3 x3 r3 v3 m3=>Runs.release ?_
  have:y3=.bool bb:=v3
  subst this
  intro hc tk
  refine wpAny_bind (wpAny_holding (wpAny_truthy_bool ?_))
  cases bb with
  | false=>exact wpAny_pure ⟨_,_,_,rfl,.refl,r3,rfl,.refl _⟩
  | true =>
   refine (Runs.bind (Runs.holding (H3 env ρ σ₃ cY sy hN hn (((E.ext x1 .nil).ext x2 .nil).ext x3 .nil) r3).1) fun vc yQ pL y4 nK e4 x4 r4 v4 m4=>Runs.standAt ?_) hc tk
   intro hc tk
   refine wpAny_bind (wpAny_operating (wpAny_mono (fk c.hK c.hA r4 ((v2.ext x3).ext x4) v4 hc tk) (fun y s'' hp=>?_) fun e s'' hx=>hx))
   obtain ⟨bb,gG,jx,e3,x3,r3,v3,m3⟩:=hp
   have:y=.bool bb:=v3
   subst this
   exact wpAny_holding (wpAny_truthy_bool ⟨bb,gG,jx,e3,x3,r3,rfl,m3⟩)
theorem acJ {e:Expr} {pos:Pos} {x:X} (S:SE K A C f) (h1:f N e=some x)
  (hN:env.scope.names=N) (hn:aP K.hb env) (E:am env ρ s.heap α) (r:R K.hb s.heap σ α) :
  Runs K VR A (eval (.UnaryOp .Not e pos) env) (ev C (.not x) ρ σ) s α/\Runs K eZ A (isTrue (.UnaryOp .Not e pos) env (eval (.UnaryOp .Not e pos) env)) (tst C (.not x) ρ σ) s α:=by
 have H:=(S N e x h1).2 env ρ σ s α hN hn E r
 constructor
 ·rw [arm_eval_UnaryOp]
  refine Runs.bind H.1 fun v σ₁ α₁ y s₁ e1 x1 r1 v1 m1=>Runs.standAt (Runs.holding ?_)
  intro hc tk
  have h3:dA v σ₁ ≠ .stuck:=by intro q; rw [q] at hc; exact hc rfl
  refine not_value (wpAny_mono (jN r1 v1 h3 tk) (fun b s'' hp=>?_) fun e s'' hx=>hx.bind)
  obtain ⟨bb,gG,jx,e3,x3,r3,v3,m3⟩:=hp
  have:b=bb:=v3
  subst this
  exact ⟨.bool (!b),gG,jx,by simp [ac.bind,e3],x3,r3,.bool _,m3⟩
 ·rw [arm_isTrue_UnaryOp]
  refine Runs.bind H.2 fun b σ₁ α₁ y s₁ e1 x1 r1 v1 m1=>?_
  have:y=b:=v1
  subst this
  exact Runs.pure r1 rfl
theorem acL {e:Expr} {pos:Pos} {x:X} (S:SE K A C f) (h1:f N e=some x)
  (hN:env.scope.names=N) (hn:aP K.hb env) (E:am env ρ s.heap α) (r:R K.hb s.heap σ α) :
  Runs K VR A (eval (.UnaryOp .USub e pos) env) (ev C (.neg x) ρ σ) s α:=by
 rw [arm_eval_UnaryOp]
 exact Runs.bind ((S N e x h1).2 env ρ σ s α hN hn E r).1 fun v σ₁ α₁ y s₁ e1 x1 r1 v1 m1=>Runs.standAt (Runs.holding (ad8 r1 v1))
theorem abd {es:List Expr} {pos:Pos} {xs:X} {fz:Bool} (S:SE K A C f) (h:fB (f N) es=some xs)
  (hN:env.scope.names=N) (hn:aP K.hb env) (E:am env ρ s.heap α) (r:R K.hb s.heap σ α) :
  Runs K VR A (eval (.List es pos) env) (ev C (.lst fz xs) ρ σ) s α:=by
 rw [arm_eval_List]
 exact Runs.standAt (Runs.bind (ga S h hN hn E r) fun vs σ₁ α₁ us s₁ e1 x1 r1 v1 m1=>yw r1 v1)
theorem acg {es:List Expr} {k:Nat} {pos:Pos} {xs:X} (S:SE K A C f) (h:fB (f N) es=some xs)
  (hN:env.scope.names=N) (hn:aP K.hb env) (E:am env ρ s.heap α) (r:R K.hb s.heap σ α) :
  Runs K VR A (eval (.Tuple es k pos) env) (ev C (.tup xs) ρ σ) s α:=by
 rw [arm_eval_Tuple]
 exact Runs.standAt (Runs.bind (ga S h hN hn E r) fun vs σ₁ α₁ us s₁ e1 x1 r1 v1 m1=>wU r1 v1)
theorem acu {o i:Expr} {pos:Pos} {x y:X} (c:Ctx K A T C) (S:SE K A C f) (hns:∀ l u st p,i ≠ .Slice l u st p) (h1:f N o=some x) (h2:f N i=some y)
  (hN:env.scope.names=N) (hn:aP K.hb env) (E:am env ρ s.heap α) (r:R K.hb s.heap σ α) :
  Runs K VR A (eval (.Subscript o i pos) env) (ev C (.sub x y) ρ σ) s α:=by
 rw [arm_eval_Subscript]
 refine Runs.bind ((S N o x h1).2 env ρ σ s α hN hn E r).1 fun va σ₁ α₁ y1 s₁ e1 x1 r1 v1 m1=>?_
 refine Runs.bind (Runs.holding ((S N i y h2).2 env ρ σ₁ s₁ α₁ hN hn (E.ext x1 .nil) r1).1) fun vb σ₂ aQ y2 aD e2 x2 r2 v2 m2=>Runs.standAt ?_
 exact act c.hA (fun l u p=>hns l u none p) r2 (v1.ext x2) v2
theorem lz {o:Expr} {m:Str} {whole:Sem Value} (h:fO o=true):attributeBase o m env whole=whole:=by
 cases o with
 | Call f a k p =>
  cases a with
  | nil=>contradiction
  | cons x r=>cases f <;> rfl
 | _=>rfl
theorem adp {r:Nat} {a:Addr} {v:PV} {u:Value} {xs:List PV} (sr:R K.hb s.heap σ α) (ea:α.ix[r]?=some a) (hs:σ[r]?=some (.lst xs)) (hl:xs.length < ao) (vu:VR s.heap α v u) {X:Value->Shared->Prop} :
  wpAny (model K.prog K.w) A (call (.builtin "list.append") [.ref a,u]) (bm K VR (.ok .none (σ.set r (.lst (xs++[v])))) s α) X s:=by
 obtain ⟨ak,n,e1,w⟩:=sr.obj r _ a hs ea
 refine wpAny_list_append_plain ⟨n,e1⟩ (fun h' hl' sb=>?_) (by simp; rw [<- w.1]; exact b8 (Nat.le_of_lt hl))
 obtain ⟨n',e'⟩:=hl'
 obtain ⟨r',x'⟩:=sr.set (m:=.lst (xs++[v])) ea (fun b o hb e=>(sb.2 b hb).trans e) e' fun x'=>⟨ak++[u],n',by rw [e']; simp,(w.snoc vu).ext x'⟩
 exact ⟨.none,_,α,rfl,x',r',.none,⟨rfl,rfl⟩⟩
end
end Mine
namespace Mine
open PySem PyProof.Rows
noncomputable def meT:Me->String
 | .get => "dict"
 | _ => "list"
noncomputable def acS:Me->String
 | .append => "list.append" | .extend => "list.extend"
 | .pop => "list.pop"
 | .get => "dict.get"
noncomputable def meN:Me->Str
 | .append => "append" | .extend => "extend"
 | .pop => "pop"
 | .get => "get"
theorem aek {x:Str} {m:Me} (h:zW x=some m):x=meN m:=
 (show ∀ p ∈ agY,p.1=meN p.2 from (by repeat (first | refine List.forall_mem_cons.mpr ⟨rfl,?_⟩ | exact fun zz h=>nomatch h))) _ (fP h)
section
variable {K:Kt} {A:Around} {s:Shared} {α:AL} {σ:ab}
theorem aT.eraseIdx {h:Heap}:∀ {xs:List PV} {vs:List Value} (k:Nat),aT h α xs vs->aT h α (xs.eraseIdx k) (vs.eraseIdx k)
 | [],vs,k,v=>by
  have:vs=[]:=List.eq_nil_of_length_eq_zero v.1.symm
  subst this; simpa using v
 | x::xs,vs,0,v=>by
  obtain ⟨u,us,rfl,v1,v2⟩:=v.inv_cons
  exact v2
 | x::xs,vs,k + 1,v=>by
  obtain ⟨u,us,rfl,v1,v2⟩:=v.inv_cons
  exact .cons v1 (v2.eraseIdx k)
theorem zg {h:Heap} {a:Addr} {ak:Array Value} {n:Nat} {g:Array Value->Array Value} (e:h.get? a=some { cls:=.type "list",data:=.seq ak n }) :
  ∃ n',(h.update a (Obj.mapSeq g)).get? a=some { cls:=.type "list",data:=.seq (g ak) n' }:=by
 exact ⟨_,Heap.get?_update_self (Obj.mapSeq g) e rfl⟩
theorem zf {h:Heap} {a b:Addr} {g:Obj->Obj} (hb:b ≠ a):(h.update a g).get? b=h.get? b:=Heap.get?_update_ne h b a g hb
theorem ahA {r:Nat} {a:Addr} {i:Int} {t:Tok} {v:PV} {xs:List PV} (sr:R K.hb s.heap σ α) (ea:α.ix[r]?=some a) (hs:σ[r]?=some (.lst xs)) (h0:0 <= i) (hl:xs.length <= ao) (hv:xs[i.toNat]?=some v) {X:Value->Shared->Prop} :
  wpAny (model K.prog K.w) A (call (.builtin "list.pop") [.ref a,.int i t]) (bm K VR (.ok v (σ.set r (.lst (xs.eraseIdx i.toNat)))) s α) X s:=by
 obtain ⟨ak,n,e1,w⟩:=sr.obj r _ a hs ea
 obtain ⟨u,hu,vu⟩:=w.get hv
 have hi:=(cS hv).1
 have hl63:=pZ hl
 have hlen:=w.1
 refine call_meets F.slot_list_pop ⟨_,e1,rfl⟩ F.entry_list_pop (F.args_list_pop_2 _ _) (MeetsSeq.list_pop_at a ak.toArray n i t i.toNat u ?_ ?_ (by simpa using hu) (by rw [List.size_toArray,<- w.1]; exact b8 hl)) ⟨e1,?_⟩
 ·unfold Builtin.List.listFitsIndex; simp; (grind)
 ·rw [<- ri]; unfold b7; rw [if_pos h0,if_pos (by simp; (grind))]
 ·obtain ⟨n',e'⟩:=zg (g:=fun xs=>xs.eraseIdxIfInBounds i.toNat) e1
  have e2:(ak.toArray.eraseIdxIfInBounds i.toNat)=(ak.eraseIdx i.toNat).toArray:=by
   simp
  rw [e2] at e'
  obtain ⟨r',x'⟩:=sr.set (m:=.lst (xs.eraseIdx i.toNat)) ea (fun b o hb e=>(zf hb).trans e) e' fun x'=>⟨_,n',e',(w.eraseIdx _).ext x'⟩
  exact ⟨v,_,α,rfl,x',r',vu.ext x',⟨rfl,rfl⟩⟩
theorem wm {r:Nat} {a b:Addr} {xs ys:List PV} {vs:List Value} {m:Nat} {T:String} (hT:T = "tuple" \/ T = "list") (sr:R K.hb s.heap σ α) (ea:α.ix[r]?=some a) (hs:σ[r]?=some (.lst xs)) (hl:xs.length + ys.length <= ao)
  (e2:s.heap.get? b=some { cls:=.type T,data:=.seq vs.toArray m }) (w2:aT s.heap α ys vs) {X:Value->Shared->Prop} :
  wpAny (model K.prog K.w) A (call (.builtin "list.extend") [.ref a,.ref b]) (bm K VR (.ok .none (σ.set r (.lst (xs++ys)))) s α) X s:=by
 obtain ⟨ak,n,e1,w⟩:=sr.obj r _ a hs ea
 have hlen:=w.1
 have hlen2:=w2.1
 have hln:=b8 hl
 have hll:=pZ hl
 have door:¬(!ak.toArray.isEmpty && Builtin.List.listTooLong (ak.toArray.size + vs.toArray.size))=true:=by
  rw [List.size_toArray,List.size_toArray,<- hlen,<- hlen2]
  have:Builtin.List.listTooLong (xs.length + ys.length)=false:=by unfold Builtin.List.listTooLong; simpa using hln
  rw [this]; simp
 have fin:bm K VR (.ok .none (σ.set r (.lst (xs++ys)))) s α .none { s with heap:=s.heap.update a (Obj.mapSeq fun x=>x++vs.toArray) }:=by
  obtain ⟨n',e'⟩:=zg (g:=fun x=>x++vs.toArray) e1
  have e3:ak.toArray++vs.toArray=(ak++vs).toArray:=by simp
  simp only [e3] at e'
  obtain ⟨r',x'⟩:=sr.set (m:=.lst (xs++ys)) ea (fun b o hb e=>(zf hb).trans e) e' fun x'=>⟨_,n',e',(w.append w2).ext x'⟩
  exact ⟨.none,_,α,rfl,x',r',.none,⟨rfl,rfl⟩⟩
 rcases hT with rfl | rfl
 ·exact call_meets F.slot_list_extend ⟨_,e1,rfl⟩ F.entry_list_extend (F.args_list_extend_2 _ _) (AutoSeq1.list_extend_list_tuple_0 a ak.toArray n b vs.toArray m door (by rw [List.size_toArray]; (grind)) (by rw [List.size_toArray,List.size_toArray]; (grind))) ⟨e1,e2,fin⟩
 ·exact call_meets F.slot_list_extend ⟨_,e1,rfl⟩ F.entry_list_extend (F.args_list_extend_2 _ _) (AutoSeq1.list_extend_list_list_0 a ak.toArray n b vs.toArray m door (by rw [List.size_toArray]; (grind)) (by rw [List.size_toArray,List.size_toArray]; (grind))) ⟨e1,e2,fin⟩
section
variable {σ:ab} {v:PV} {P:PV->ac PV->Prop}
theorem agH (h0:∀ o,P o .stuck) (h1:∀ r xs,σ[r]?=some (.lst xs)->xs.length < ao->P (.ref r) (.ok .none (σ.set r (.lst (xs++[v]))))):∀ o,P o (eI o v σ):=by
 intro o
 cases o with
 | ref r =>
  unfold eI
  dsimp only
  cases hs:σ[r]? with
  | none=>exact h0 _
  | some m =>
   cases m with
   | lst xs =>
    dsimp only
    by_cases hl:xs.length < ao
    ·rw [if_pos hl]; exact h1 r xs hs hl
    ·rw [if_neg hl]; exact h0 _
   | _=>exact h0 _
 | _=>exact h0 _
theorem agp {Q:PV->PV->ac PV->Prop} (h0:∀ o v,Q o v .stuck) (h1:∀ r xs ys,σ[r]?=some (.lst xs)->xs.length + ys.length <= ao->Q (.ref r) (.tup ys) (.ok .none (σ.set r (.lst (xs++ys))))) (h2:∀ r xs ys,σ[r]?=some (.lst xs)->xs.length + ys.length <= ao->Q (.ref r) (.fl ys) (.ok .none (σ.set r (.lst (xs++ys))))):∀ o v,Q o v (gB o v σ):=by
 intro o v
 cases o with
 | ref r =>
  unfold gB
  dsimp only
  cases hs:σ[r]? with
  | none=>exact h0 _ _
  | some m =>
   cases m with
   | lst xs =>
    cases v with
    | tup ys =>
     dsimp only
     by_cases hl:xs.length + ys.length <= ao
     ·rw [if_pos hl]; exact h1 r xs ys hs hl
     ·rw [if_neg hl]; exact h0 _ _
    | fl ys =>
     dsimp only
     by_cases hl:xs.length + ys.length <= ao
     ·rw [if_pos hl]; exact h2 r xs ys hs hl
     ·rw [if_neg hl]; exact h0 _ _
    | _=>exact h0 _ _
   | _=>exact h0 _ _
 | _=>exact h0 _ _
theorem ajC {Q:PV->PV->ac PV->Prop} (h0:∀ o v,Q o v .stuck) (h1:∀ r xs i w,σ[r]?=some (.lst xs)->0 <= i->xs.length <= ao->xs[i.toNat]?=some w->Q (.ref r) (.int i) (.ok w (σ.set r (.lst (xs.eraseIdx i.toNat))))):∀ o v,Q o v (tW o v σ):=by
 intro o v
 cases o with
 | ref r =>
  unfold tW
  dsimp only
  cases hs:σ[r]? with
  | none=>exact h0 _ _
  | some m =>
   cases m with
   | lst xs =>
    cases v with
    | int i =>
     dsimp only
     by_cases hl:0 <= i/\xs.length <= ao
     ·rw [if_pos hl]
      cases hw:xs[i.toNat]? with
      | none=>exact h0 _ _
      | some w=>exact h1 r xs i w hs hl.1 hl.2 hw
     ·rw [if_neg hl]; exact h0 _ _
    | _=>exact h0 _ _
   | _=>exact h0 _ _
 | _=>exact h0 _ _
theorem ajY {Q:PV->PV->ac PV->Prop} (h0:∀ o v,Q o v .stuck) (h1:∀ r es k,σ[r]?=some (.ds es)->Q (.ref r) (.str k) (.ok ((ai k es).getD .none) σ)) (h2:∀ r es v k,σ[r]?=some (.dp es)->eR v=some k->Q (.ref r) v (.ok ((ai k es).getD .none) σ)):∀ o v,Q o v (aal o v σ):=by
 intro o v
 cases o with
 | ref r =>
  unfold aal
  dsimp only
  cases hs:σ[r]? with
  | none=>exact h0 _ _
  | some m =>
   cases m with
   | ds es =>
    cases v with
    | str k=>exact h1 r es k hs
    | _=>exact h0 _ _
   | dp es =>
    dsimp only
    cases hk:eR v with
    | none=>exact h0 _ _
    | some k=>exact h2 r es v k hs hk
   | _=>exact h0 _ _
 | _=>exact h0 _ _
end
theorem aeh {m:Me} {o v:PV} {x u:Value} (hK:K.Ok) (hA:dO A) (r:R K.hb s.heap σ α) (va:VR s.heap α o x) (vv:VR s.heap α v u):Runs K VR A (call (.builtin (acS m)) [x,u]) (mU m o [v] σ) s α:=by
 cases m with
 | append =>
  exact agH (P:=fun o c=>VR s.heap α o x->Runs K VR A (call (.builtin "list.append") [x,u]) c s α) (fun zz zz hc=>absurd rfl hc) (fun q xs hs hl va zz zz=>by
   obtain ⟨a,rfl,ea⟩:=va.refE; exact adp r ea hs hl vv) o va
 | extend =>
  exact agp (Q:=fun o v c=>VR s.heap α o x->VR s.heap α v u->Runs K VR A (call (.builtin "list.extend") [x,u]) c s α) (fun zz zz zz zz hc=>absurd rfl hc)
   (fun q xs ys hs hl va vv zz zz=>by
    obtain ⟨a,rfl,ea⟩:=va.refE
    obtain ⟨b,vs,n,rfl,e1,_,w⟩:=vv.tupE
    exact wm (.inl rfl) r ea hs hl e1 w)
   (fun q xs ys hs hl va vv zz zz=>by
    obtain ⟨a,rfl,ea⟩:=va.refE
    obtain ⟨b,vs,n,rfl,e1,_,w⟩:=vv.flE
    exact wm (.inr rfl) r ea hs hl e1 w) o v va vv
 | pop =>
  exact ajC (Q:=fun o v c=>VR s.heap α o x->VR s.heap α v u->Runs K VR A (call (.builtin "list.pop") [x,u]) c s α) (fun zz zz zz zz hc=>absurd rfl hc) (fun q xs i w hs h0 hl hw va vv zz zz=>by
   obtain ⟨a,rfl,ea⟩:=va.refE
   obtain ⟨_,rfl⟩:=vv.intE
   exact ahA r ea hs h0 hl hw) o v va vv
 | get =>
  exact ajY (Q:=fun o v c=>VR s.heap α o x->VR s.heap α v u->Runs K VR A (call (.builtin "dict.get") [x,u]) c s α) (fun zz zz zz zz hc=>absurd rfl hc)
   (fun q es k hs va vv zz zz=>by
    obtain ⟨a,rfl,ea⟩:=va.refE
    obtain ⟨_,rfl,_⟩:=vv.strE; exact ai6 hK r hs ea)
   (fun q es w k hs hk va vv zz zz=>by
    obtain ⟨a,rfl,ea⟩:=va.refE
    exact ai7 hK hA r hs ea hk vv) o v va vv
theorem af2 (m:Me):PlainAttrs (meT m)/\Slot (meT m) (meN m) (acS m)/\typeOf (.builtin (acS m))=pure (.type "method_descriptor"):=by
 cases m
 ·exact ⟨F.plainAttrs_list,F.slot_list_append,F.type_list_append⟩
 ·exact ⟨F.plainAttrs_list,F.slot_list_extend,F.type_list_extend⟩
 ·exact ⟨F.plainAttrs_list,F.slot_list_pop,F.type_list_pop⟩
 ·exact ⟨F.plainAttrs_dict,F.slot_dict_get,F.type_dict_get⟩
set_option tactic.hygienic true in
theorem abE {m:Me} {o:PV} {x:Value} (r:R K.hb s.heap σ α) (va:VR s.heap α o x) (h:ub m o σ=true):s.TypeIs x (meT m)/\∀ a,x=.ref a->∃ ob,s.heap.get? a=some ob/\ob.dict=none:=by
 have lst:∀ xs,a8 σ o=some xs->s.TypeIs x "list" /\ ∀ a,x=.ref a->∃ ob,s.heap.get? a=some ob/\ob.dict=none:=fun xs e=>by
  obtain ⟨l,vs,n,rfl,e1,_⟩:=d7 r va e
  exact ⟨⟨_,e1,rfl⟩,fun a ha=>by cases ha; exact ⟨_,e1,rfl⟩⟩
 have mutb:eh o σ=true->∃ xs,a8 σ o=some xs:=fun h=>by
  unfold eh at h
  split at h
  ·split at h
   ·rename_i xs hs; exact ⟨xs,by simp [a8,hs]⟩
   ·contradiction
  ·contradiction
 have txt:ajL o=true->s.TypeIs x "str" /\ ∀ a,x=.ref a->∃ ob,s.heap.get? a=some ob/\ob.dict=none:=fun h=>by
  cases o with
  | str z=>obtain ⟨_,rfl,_⟩:=va.strE; exact ⟨typeIs_str _ _ _,fun a ha=>by cases ha⟩
  | _=>contradiction
 cases m with
 | append=>obtain ⟨xs,e⟩:=mutb h; exact lst xs e
 | extend=>obtain ⟨xs,e⟩:=mutb h; exact lst xs e
 | pop=>obtain ⟨xs,e⟩:=mutb h; exact lst xs e
 | get =>
  change vK o σ=true at h
  unfold vK at h
  split at h
  ·obtain ⟨a,rfl,ea⟩:=va.refE
   split at h
   ·rename_i hs
    obtain ⟨kvs,h1,_⟩:=sS r hs ea
    exact ⟨h1.typeIs,h1.mapOf.noDict⟩
   ·rename_i hs
    obtain ⟨xs,h1,_⟩:=sT r hs ea
    exact ⟨h1.typeIs,dictOfH_noDict h1⟩
   ·contradiction
  ·contradiction
end
section
variable {K:Kt} {A:Around} {T:bf} {C:bn} {f:List (Str × NameKind)->Expr->Option X} {N:List (Str × NameKind)} {env:Env} {ρ:aq} {σ:ab} {s:Shared} {α:AL}
set_option tactic.hygienic true in
theorem ael {m:Me} {mn:Str} {o a:Expr} {apos pos:Pos} {x y:X} (c:Ctx K A T C) (S:SE K A C f) (hm:zW mn=some m) (hline:(apos.endLine == pos.line)=true) (hn0:fO o=true) (h1:f N o=some x) (h2:f N a=some y)
  (hN:env.scope.names=N) (hn:aP K.hb env) (E:am env ρ s.heap α) (r:R K.hb s.heap σ α) :
  Runs K VR A (eval (.Call (.Attribute o mn apos) [a] [] pos) env) (ev C (.me m x (.cons y .nil)) ρ σ) s α:=by
 rw [aek hm,ahb]
 intro hc tk
 obtain ⟨hp,H2⟩:=S N a y h2
 refine Call_method1 (lz hn0) (bN hp) hline ?_
 refine Runs.use ((S N o x h1).2 env ρ σ s α hN hn E r).1 hc tk fun va σ₁ α₁ y1 s₁ e1 hc1 x1 r1 v1 m1 tk1=>?_
 rw [e1]
 split at hc1
 ·rename_i hok
  obtain ⟨q1,q2,q3⟩:=af2 m
  obtain ⟨q4,q5⟩:=abE r1 v1 hok
  refine ⟨meT m,acS m,q1,q2,q3,q4,q5,?_⟩
  refine Calls.callWith_builtin (by cases m <;> rfl) (Calls.evalArgs_plain (Calls.spliced_cons ?_))
  have ee:∀ {σ:ab},((evs C (.cons y .nil) ρ σ).bind fun vs σ=>mU m va vs σ)=(ev C y ρ σ).bind fun v σ=>mU m va [v] σ:=fun {σ}=>by
   show ((ev C y ρ σ).bind fun v σ=>.ok [v] σ).bind _=_
   cases ev C y ρ σ <;> rfl
  rw [aaG,if_pos hok,ee]
  rw [ee] at hc1
  refine Runs.useL x1 m1 (f:=fun v σ=>mU m va [v] σ) (H2 env ρ σ₁ s₁ α₁ hN hn (E.ext x1 .nil) r1).1 hc1 tk1 fun pv σ₂ aQ u aD e2 hc2 x2 r2 v2 m2 tk2=>Calls.spliced_nil ?_
  show wpAny _ _ _ (bm K VR ((ev C y ρ σ₁).bind fun v σ=>mU m va [v] σ) _ _) (bi K A ((ev C y ρ σ₁).bind fun v σ=>mU m va [v] σ) _ _) _
  rw [e2]
  exact (aeh c.hK c.hA r2 (v1.ext x2) v2).endL (x1.trans x2) (m1.trans m2) hc2 tk2
 ·exact absurd rfl hc1
end
end Mine
namespace Mine
open PySem PyProof.Rows
theorem aT.drop {h:Heap} {α:AL}:∀ {xs:List PV} {vs:List Value} (k:Nat),aT h α xs vs->aT h α (xs.drop k) (vs.drop k)
 | _,_,0,v=>v
 | [],vs,k + 1,v=>by
  have:vs=[]:=List.eq_nil_of_length_eq_zero v.1.symm
  subst this; exact .nil
 | x::xs,vs,k + 1,v=>by
  obtain ⟨u,us,rfl,v1,v2⟩:=v.inv_cons
  exact v2.drop k
theorem aT.take {h:Heap} {α:AL}:∀ {xs:List PV} {vs:List Value} (k:Nat),aT h α xs vs->aT h α (xs.take k) (vs.take k)
 | _,_,0,v=>.nil
 | [],vs,k + 1,v=>by
  have:vs=[]:=List.eq_nil_of_length_eq_zero v.1.symm
  subst this; exact .nil
 | x::xs,vs,k + 1,v=>by
  obtain ⟨u,us,rfl,v1,v2⟩:=v.inv_cons
  exact .cons v1 (v2.take k)
section
variable {K:Kt} {A:Around} {s:Shared} {α:AL} {σ:ab}
theorem abz {p:PV} {v:Value} {k:Option Int} (h:lJ p=some k) (r:VR s.heap α p v):IsPart v k:=by
 cases p with
 | none=>obtain rfl:=oi h; obtain rfl:=r.noneE; exact .none
 | int i=>obtain rfl:=oi h; obtain ⟨_,rfl⟩:=r.intE; exact .int _ _
 | _=>contradiction
theorem aT.slice {h:Heap} {xs:List PV} {vs:List Value} (v:aT h α xs vs) (lo hi:Option Int):aT h α (bI xs lo hi) (bI vs lo hi):=by
 unfold bI
 rw [v.1]
 exact (v.drop _).take _
theorem acH {vs:List Value} {lo hi:Option Int}:slicePick vs.toArray lo hi none=(bI vs lo hi).toArray:=by
 rw [slicePick_plain]; simp [bI]
theorem rg {v:Value} {k:Option Int} {Q:Option Int->Shared->Prop} {E:Value->Shared->Prop} (p:IsPart v k) (h:Q k s):wpAny (model K.prog K.w) A (Builtin.Slice.slicePartIndex v) Q E s:=by
 cases p with
 | none=>exact slicePart_none h
 | int i t=>exact slicePart_int h
noncomputable def hV (lo:Option Int) (n:Nat):Nat:=lo.elim 0 (clipAt n)
noncomputable def p6 (hi:Option Int) (n:Nat):Nat:=hi.elim n (clipAt n)
theorem aif (n:Nat) (i:Int):(if i < 0 then max (i + n) 0 else min i n)=((clipAt n i:Nat):Int):=by
 rw [clipAt_cast]
 by_cases h:i < 0
 ·rw [if_pos h,if_pos h]; (grind)
 ·rw [if_neg h,if_neg h]; (grind)
theorem afh (lo hi:Option Int) (n:Nat):Builtin.Slice.sliceAdjust lo hi 1 (n:Int)=(((hV lo n:Nat):Int),((p6 hi n:Nat):Int)):=by
 unfold Builtin.Slice.sliceAdjust hV p6
 have h1:¬ ((1:Int) < 0):=by (decide)
 simp only [h1,if_false]
 cases lo <;> cases hi <;> simp only [Option.elim,aif] <;> rfl
theorem ad2 (a b:Nat):Builtin.Slice.slicePlaces (a:Int) (b:Int) 1=b - a:=by
 unfold Builtin.Slice.slicePlaces
 have h1:(1:Int) > 0:=by (decide)
 simp only [h1,if_true,Int.ediv_one]
 split <;> (grind)
theorem vf {sl:Addr} {n:Nat} {vl vu:Value} {lo hi:Option Int} {Q:Int × Int × Nat->Shared->Prop} {E:Value->Shared->Prop} (hs:s.heap.IsSliceOf sl vl vu .none) (pl:IsPart vl lo) (pu:IsPart vu hi)
  (h:Q (((hV lo n:Nat):Int),1,p6 hi n - hV lo n) s):wpAny (model K.prog K.w) A (Builtin.Slice.sliceApplied (.ref sl) (pure (n:Int))) Q E s:=by
 obtain ⟨os,hos,hcs,hds⟩:=id hs
 unfold Builtin.Slice.sliceApplied Builtin.Slice.sliceFields
 refine wpAny_bind (wpAny_bind (wpAny_field hos hds (x:=vl) rfl (wpAny_bind (wpAny_field hos hds (x:=vu) rfl (wpAny_bind (wpAny_field hos hds (x:=.none) rfl (wpAny_pure ?_)))))))
 refine wpAny_bind (slicePart_none ?_)
 show wpAny _ _ (if ((1:Int) == 0)=true then _ else _) _ _ s
 rw [if_neg (by decide)]
 refine wpAny_bind (rg pl (wpAny_bind (rg pu (wpAny_bind (wpAny_pure ?_)))))
 show wpAny _ _ (match Builtin.Slice.sliceAdjust lo hi 1 (n:Int) with | (lo,hi)=>pure (lo,(1:Int),Builtin.Slice.slicePlaces lo hi 1)) _ _ s
 rw [afh]
 show wpAny _ _ (pure (((hV lo n:Nat):Int),(1:Int),Builtin.Slice.slicePlaces ((hV lo n:Nat):Int) ((p6 hi n:Nat):Int) 1)) _ _ s
 rw [ad2]
 exact wpAny_pure h
theorem afS (xs:List Value) (a k:Nat):((List.range k).filterMap fun (j:Nat)=>xs.toArray[((a:Int) + (j:Int) * 1).toNat]?).toArray=((xs.drop a).take k).toArray:=by
 have e:(fun (j:Nat)=>xs.toArray[((a:Int) + (j:Int) * 1).toNat]?)=fun j=>xs.toArray[a + j]?:=by
  funext j
  have:((a:Int) + (j:Int) * 1).toNat=a + j:=by grind
  rw [this]
 rw [e]
 have:=pick_run xs.toArray a k
 rw [List.filterMap_map] at this
 have e2:((fun x=>xs.toArray[x]?) ∘ fun x=>a + x)=fun j=>xs.toArray[a + j]?:=rfl
 rw [e2] at this
 rw [this]
theorem adP {β:Type} (xs:List β) (lo hi:Option Int):(bI xs lo hi).length <= xs.length:=by
 unfold bI
 exact aE (List.length_take_le' _ _) (by rw [List.length_drop]; exact Nat.sub_le _ _)
theorem zj {t sl:Addr} {vs:List Value} {n:Nat} {vl vu:Value} {lo hi:Option Int} {Q:Value->Shared->Prop} {E:Value->Shared->Prop} (ht:s.heap.get? t=some { cls:=.type "tuple",data:=.seq vs.toArray n })
  (hs:s.heap.IsSliceOf sl vl vu .none) (pl:IsPart vl lo) (pu:IsPart vu hi) (hsz:vs.length <= sizeLine)
  (h1:bI vs lo hi=vs->Q (.ref t) s) (h2:Q (.ref s.heap.objs.size) { s with heap:=s.heap.push { cls:=.type "tuple",data:=.seq (bI vs lo hi).toArray } }) :
  wpAny (model K.prog K.w) A (getItem (.ref t) (.ref sl)) Q E s:=by
 have ht':=isT ht
 obtain ⟨os,hos,hcs,hds⟩:=id hs
 have hTs:s.TypeIs (.ref sl) "slice" := ⟨os,hos,hcs⟩
 have hok:sizeOk (.seq (bI vs lo hi).toArray):=by
  show (bI vs lo hi).toArray.size <= sizeLine
  rw [List.size_toArray]
  exact aE (adP vs lo hi) hsz
 unfold getItem
 try with_reducible refine wpAny_holding ?_
 first | refine wpAny_bind (wpAny_pure ?_) | skip
 refine wpAny_bind (wpAny_sequenceKey ht'.typeIs (by decide) ?_)
 refine wpAny_bind (wpAny_callSpecial?_slot (name:=Str.ofString "__getitem__") ht'.typeIs slot_tuple_getitem
  (wpAny_call_entry slot_tuple_getitem ht'.typeIs entry_tuple_getitem ?_ (args_tuple_getitem _ _)))
 show wpAny _ _ (Builtin.Tuple.tupleItemsOf (.ref t) >>= _) _ _ s
 refine wpAny_bind (tupleItemsOf_ ht' ?_)
 refine wpAny_bind (wpAny_typeOf hTs ?_)
 rw [if_pos (by decide)]
 refine wpAny_bind (vf (n:=vs.toArray.size) hs pl pu ?_)
 rw [List.size_toArray]
 have fin:∀ (B:Around),wpAny (model K.prog K.w) B (Builtin.Tuple.tupleExact ((List.range (p6 hi vs.length - hV lo vs.length)).filterMap fun (k:Nat)=>vs.toArray[(((hV lo vs.length:Nat):Int) + (k:Int) * 1).toNat]?).toArray) (fun v s'=>v=.ref s.heap.objs.size/\s'={ s with heap:=s.heap.push { cls:=.type "tuple",data:=.seq (bI vs lo hi).toArray } }) (fun zz zz=>False) s:=fun B=>by
  rw [afS]
  exact wpAny_newObj_type ⟨rfl,rfl⟩ hok
 show wpAny _ _ (if (((hV lo vs.length:Nat):Int) == 0 && (1:Int) == 1 && (p6 hi vs.length - hV lo vs.length) == vs.length)=true then _ else _) _ _ s
 by_cases hc:(((hV lo vs.length:Nat):Int) == 0 && (1:Int) == 1 && (p6 hi vs.length - hV lo vs.length) == vs.length)=true
 ·rw [if_pos hc]
  simp only [Bool.and_eq_true,beq_iff_eq] at hc
  have hw:bI vs lo hi=vs:=by
   have z1:hV lo vs.length=0:=by have:=hc.1.1; (grind)
   have z2:p6 hi vs.length=vs.length:=by have:=hc.2; rw [z1] at this; (assumption)
   show (vs.drop (hV lo vs.length)).take (p6 hi vs.length - hV lo vs.length)=vs
   rw [z1,z2]; simp
  unfold Builtin.Tuple.tupleIsExact
  refine wpAny_bind (wpAny_bind (wpAny_typeOf ht'.typeIs (wpAny_pure ?_)))
  rw [if_pos (by decide)]
  first
   | exact wpAny_bind (wpAny_rule (wpAny_pure ⟨_,rfl,wpAny_pure (h1 hw)⟩))
   | exact wpAny_bind (wpAny_bind (wpAny_rule (wpAny_pure (wpAny_pure ⟨_,rfl,wpAny_pure (h1 hw)⟩))))
   | exact wpAny_bind (wpAny_rule (wpAny_bind (wpAny_pure (wpAny_pure ⟨_,rfl,wpAny_pure (h1 hw)⟩))))
 ·rw [if_neg hc]
  first
   | exact wpAny_bind (wpAny_mono (fin _) (fun v s' e=>by obtain ⟨rfl,rfl⟩:=e; exact wpAny_pure ⟨_,rfl,wpAny_pure h2⟩) fun zz zz e=>e.elim)
   | exact wpAny_bind (wpAny_mono (fin _) (fun v s' e=>by obtain ⟨rfl,rfl⟩:=e; exact wpAny_bind (wpAny_pure (wpAny_pure ⟨_,rfl,wpAny_pure h2⟩))) fun zz zz e=>e.elim)
   | exact wpAny_bind (wpAny_bind (wpAny_mono (fin _) (fun v s' e=>by obtain ⟨rfl,rfl⟩:=e; exact wpAny_pure (wpAny_pure ⟨_,rfl,wpAny_pure h2⟩)) fun zz zz e=>e.elim))
noncomputable def ew (s:Shared) (y z:Value):Shared:={ s with heap:=s.heap.push { cls:=.type "slice",data:=.fields #[y,z,.none] } }
section
variable {a v:PV} {lo hi:Option Int} {x y z:Value} {value:Expr} {l u:Option Expr} {p:Pos} {E:Value->Shared->Prop}
theorem pM {b:Addr} {o:Obj} (e:s.heap.get? b=some o):(ew s y z).heap.get? b=some o:=Heap.get?_push_of_some _ e
theorem zD {xs:List PV} (r:R K.hb s.heap σ α) (va:VR s.heap α a x) (pb:IsPart y lo) (pc:IsPart z hi) (e:a8 σ a=some xs) (hl:xs.length <= ao) :
  wpAny (model K.prog K.w) A (subscriptTail value (.Slice l u none p) x (.ref s.heap.objs.size)) (bm K VR (.ok (.fl (bI xs lo hi)) σ) (ew s y z) α) E (ew s y z):=by
 obtain ⟨ad,vs,n,rfl,e1,w⟩:=d7 r va e
 have k:∀ b o,s.heap.get? b=some o->(ew s y z).heap.get? b=some o:=fun zz zz=>pM
 have hL:(ew s y z).heap.IsList ad vs.toArray:=⟨_,k _ _ e1,rfl,n,rfl⟩
 refine tail_any hL.typeIs slot_list_getitem.lookup (wpAny_getItem_list_slice hL (Heap.IsSliceOf.new ..) pb pc .none (by simp) ?_ (by rw [List.size_toArray,<- w.1]; exact b8 hl)) rfl
 rw [acH]
 exact bm.fl (r.keeps k) ((w.ext (.keeps (F:=[]) k)).slice lo hi)
theorem aa0 {xs:List PV} (r:R K.hb s.heap σ α) (va:VR s.heap α (.tup xs) x) (pb:IsPart y lo) (pc:IsPart z hi) (hl:xs.length <= ao) :
  wpAny (model K.prog K.w) A (subscriptTail value (.Slice l u none p) x (.ref s.heap.objs.size)) (bm K VR (.ok (.tup (bI xs lo hi)) σ) (ew s y z) α) E (ew s y z):=by
 obtain ⟨t,vs,n,rfl,e1,hn,w⟩:=va.tupE
 have k:∀ b o,s.heap.get? b=some o->(ew s y z).heap.get? b=some o:=fun zz zz=>pM
 have e1':=k _ _ e1
 have v':=w.ext (.keeps (F:=[]) k)
 refine tail_any ⟨_,e1',rfl⟩ slot_tuple_getitem.lookup (zj e1' (Heap.IsSliceOf.new ..) pb pc (by rw [<- w.1]; exact b8 hl) (fun hw=>?_) ?_) rfl
 ·refine ⟨_,σ,α,rfl,.refl,r.keeps k,?_,.refl _⟩
  have hw':bI xs lo hi=xs:=by
   have hlen:=congrArg List.length hw
   have:=w.1
   unfold bI at hlen ⊢
   rw [List.length_take,List.length_drop] at hlen
   rw [<- this] at hlen
   by_cases h0:xs.length=0
   ·have:xs=[]:=List.eq_nil_of_length_eq_zero h0
    subst this; simp
   ·have z1:lo.elim 0 (clipAt xs.length)=0:=by grind
    rw [z1,List.drop_zero,List.take_of_length_le (by grind)]
  rw [hw']
  exact VR.tupI e1' hn v'
 ·exact bm.tup (r.keeps k) (v'.slice lo hi)
theorem adQ (h:slV σ a lo hi=some v) (r:R K.hb s.heap σ α) (va:VR s.heap α a x) (pb:IsPart y lo) (pc:IsPart z hi) :
  wpAny (model K.prog K.w) A (subscriptTail value (.Slice l u none p) x (.ref s.heap.objs.size)) (bm K VR (.ok v σ) (ew s y z) α) E (ew s y z):=by
 have gen:((a8 σ a).bind fun xs=>if xs.length <= ao then some (PV.fl (bI xs lo hi)) else none)=some v->wpAny (model K.prog K.w) A (subscriptTail value (.Slice l u none p) x (.ref s.heap.objs.size)) (bm K VR (.ok v σ) (ew s y z) α) E (ew s y z):=fun h =>
  aS h fun xs e h=>vI h fun hl h=>oi h ▸ zD r va pb pc e hl
 cases a with
 | tup xs=>exact vI h fun hl h=>oi h ▸ aa0 r va pb pc hl
 | _=>exact gen h
end
theorem zB {value:Expr} {l u:Option Expr} {p:Pos} {a b c:PV} {x y z:Value} (r:R K.hb s.heap σ α) (va:VR s.heap α a x) (vb:VR s.heap α b y) (vc:VR s.heap α c z) :
  Runs K VR A (subscriptTail value (.Slice l u none p) x (.ref s.heap.objs.size)) (iK a b c σ) (ew s y z) α:=by
 intro hc tk
 cases h:(lJ b).bind fun lo=>(lJ c).bind fun hi=>slV σ a lo hi with
 | none=>unfold iK at hc; rw [h] at hc; exact absurd rfl hc
 | some v =>
  unfold iK
  rw [h]
  exact aS h fun lo h1 h=>aS h fun hi h2 h=>adQ h r va (abz h1 vb) (abz h2 vc)
set_option tactic.hygienic true in
theorem acR {a b:PV} {x y:Value} (hA:dO A) (hh:A.handled=none) (r:R K.hb s.heap σ α) (va:VR s.heap α a x) (vb:VR s.heap α b y):Runs K VR A (call (.builtin "min") [x,y]) (sM a b σ) s α:=by
 intro hc tk
 cases a with
 | int i =>
  cases b with
  | int j =>
   obtain ⟨_,rfl⟩:=va.intE; obtain ⟨_,rfl⟩:=vb.intE
   refine min_two_ints hh fun h' tk k=>?_
   have:∀ {q:PV} {w:Value},q=.int (min i j)->VR h' α q w->bm K VR (sM (.int i) (.int j) σ) s α w { s with heap:=h',toks:=tk }:=fun {q w} e v=>⟨q,σ,α,by rw [e]; rfl,.keeps k,r.keeps k,v,⟨rfl,rfl⟩⟩
   split
   ·rename_i h; exact this (by congr 1; (grind)) (.int j _)
   ·rename_i h; exact this (by congr 1; (grind)) (.int i _)
  | _=>exact absurd rfl hc
 | _=>exact absurd rfl hc
end
section
variable {K:Kt} {A:Around} {T:bf} {C:bn} {f:List (Str × NameKind)->Expr->Option X} {N:List (Str × NameKind)} {env:Env} {ρ:aq} {σ:ab} {s:Shared} {α:AL}
theorem vw {o:Option Expr} {x:X} (S:SE K A C f) (h:u5 (f N) o=some x) (hN:env.scope.names=N) (hn:aP K.hb env) (E:am env ρ s.heap α) (r:R K.hb s.heap σ α) :
  Runs K VR A (valueOrNone (evalOpt o env)) (ev C x ρ σ) s α:=by
 cases o with
 | none=>obtain rfl:=oi h; exact Runs.pure r .none
 | some e=>exact ((S N e x h).2 env ρ σ s α hN hn E r).1
theorem zC {o:Expr} {lo hi:Option Expr} {p pos:Pos} {x y z:X} (S:SE K A C f) (h1:f N o=some x) (h2:u5 (f N) lo=some y) (h3:u5 (f N) hi=some z)
  (hN:env.scope.names=N) (hn:aP K.hb env) (E:am env ρ s.heap α) (r:R K.hb s.heap σ α) :
  Runs K VR A (eval (.Subscript o (.Slice lo hi none p) pos) env) (ev C (.slice x y z) ρ σ) s α:=by
 rw [aaC,arm_eval_Subscript]
 refine Runs.bind ((S N o x h1).2 env ρ σ s α hN hn E r).1 fun va σ₁ α₁ u1 s₁ e1 x1 r1 v1 m1=>?_
 rw [arm_eval_Slice]
 intro hc tk
 refine wpAny_bind (wpAny_holding (wpAny_bind ?_))
 refine Runs.use (vw S h2 hN hn (E.ext x1 .nil) r1) hc tk fun vb σ₂ aQ u2 aD e2 hc2 x2 r2 v2 m2 tk2=>?_
 refine wpAny_bind (wpAny_holding ?_)
 rw [e2]
 show wpAny _ _ _ _ (bi K A ((ev C z ρ σ₂).bind fun b σ=>iK va vb b σ) _ _) _
 refine Runs.useL x2 m2 (vw S h3 hN hn ((E.ext x1 .nil).ext x2 .nil) r2) hc2 tk2 fun vc σ₃ sy u3 cY e3 hc3 x3 r3 v3 m3 tk3=>?_
 refine wpAny_bind (wpAny_holding (wpAny_pure ?_))
 refine wpAny_newObj_type ?_ (by size_fits)
 refine wpAny_bind (wpAny_standAt ?_)
 show wpAny _ _ _ (bm K VR ((ev C z ρ σ₂).bind _) _ _) (bi K A ((ev C z ρ σ₂).bind _) _ _) _
 rw [e3]
 have mm:=m2.trans m3
 exact (zB (value:=o) (l:=lo) (u:=hi) (p:=p) r3 ((v1.ext x2).ext x3) (v2.ext x3) v3).endL ((x2.trans x3).trans (.keeps fun zz zz=>pM)) ⟨mm.gens,mm.os⟩ hc3 tk3
theorem aba {a b:Expr} {p pos:Pos} {x y:X} (c:Ctx K A T C) (S:SE K A C f) (hg:iq N "min" = true) (hbin:("min" : Str) ∈ T.bins) (h1:f N a=some x) (h2:f N b=some y)
  (hN:env.scope.names=N) (hn:aP K.hb env) (E:am env ρ s.heap α) (r:R K.hb s.heap σ α) :
  Runs K VR A (eval (.Call (.Name "min" p) [a,b] [] pos) env) (ev C (.min2 x y) ρ σ) s α:=by
 rw [abV]
 cases hhd:C.hd with
 | true=>exact fun hc=>absurd rfl hc
 | false =>
 simp only [cond_false]
 intro hc tk
 obtain ⟨hp1,H1⟩:=S N a x h1
 obtain ⟨hp2,H2⟩:=S N b y h2
 refine wpAny_Call_Name_kw (eW c hg hbin rfl hN E.ok r ?_)
 rw [bN hp1,bN hp2]
 refine Calls.callWith_builtin rfl (Calls.evalArgs_plain (Calls.spliced_cons ?_))
 refine Runs.use (H1 env ρ σ s α hN hn E r).1 hc tk fun v1 σ₁ α₁ u1 s₁ e1 hc1 x1 r1 w1 m1 tk1=>?_
 rw [e1]
 refine Calls.spliced_cons ?_
 show wpAny _ _ _ _ (bi K A ((ev C y ρ σ₁).bind fun y σ=>sM v1 y σ) _ _) _
 refine Runs.useL x1 m1 (H2 env ρ σ₁ s₁ α₁ hN hn (E.ext x1 .nil) r1).1 hc1 tk1 fun v2 σ₂ aQ u2 aD e2 hc2 x2 r2 w2 m2 tk2=>Calls.spliced_nil ?_
 show wpAny _ _ _ (bm K VR ((ev C y ρ σ₁).bind _) _ _) (bi K A ((ev C y ρ σ₁).bind _) _ _) _
 rw [e2]
 exact (acR c.hA (c.hd hhd) r2 (w1.ext x2) w2).endL (x1.trans x2) (m1.trans m2) hc2 tk2
set_option tactic.hygienic true in
theorem yy {a:Expr} {p p2 pos pos2:Pos} {x:X} (c:Ctx K A T C) (S:SE K A C f) (hg:iq N "len" = true) (hbin:("len" : Str) ∈ T.bins) (hg2:iq N "set" = true) (hbin2:("set" : Str) ∈ T.bins) (h:f N a=some x)
  (hN:env.scope.names=N) (hn:aP K.hb env) (E:am env ρ s.heap α) (r:R K.hb s.heap σ α) :
  Runs K VR A (eval (.Call (.Name "len" p) [.Call (.Name "set" p2) [a] [] pos2] [] pos) env) (ev C (.b1 .lenset x) ρ σ) s α:=by
 rw [ahc]
 intro hc tk
 obtain ⟨hp,H⟩:=S N a x h
 refine wpAny_Call_Name_kw (eW c hg hbin rfl hN E.ok r ?_)
 rw [bN (e:=.Call (.Name "set" p2) [a] [] pos2) rfl]
 refine PySem.callWith_builtin1 ?_
 refine wpAny_Call_Name_kw (eW c hg2 hbin2 rfl hN E.ok r ?_)
 rw [bN hp]
 refine PySem.callWith_type1 ?_
 refine Runs.use (H env ρ σ s α hN hn E r).1 hc tk fun v1 σ₁ α₁ u1 s₁ e1 hc1 x1 r1 w1 m1 tk1=>?_
 rw [e1]
 have q:cI .lenset v1 σ₁=match (aW σ₁ v1).bind dS with
   | some l=>if l.length <= 1000 then .ok (.int (cH l).length) σ₁ else .stuck
   | none=>.stuck:=by cases v1 <;> rfl
 obtain ⟨z1,z2⟩:=ae8 hc1
 have hhd:=z1 rfl
 show wpAny _ _ _ (fun v s₁=>wpAny _ _ _ (bm K VR (nH C.hd .lenset v1 σ₁) s α) (bi K A (nH C.hd .lenset v1 σ₁) s α) s₁) _ _
 rw [z2,q] at hc1 ⊢
 split at hc1
 ·rename_i l hl
  split at hc1
  ·rename_i hn2
   rw [if_pos hn2]
   refine acW c.hA (c.hd hhd) r1 w1 hl hn2 fun D h' tk k hlen=>hlen _ _ fun t tk'=>?_
   exact ⟨_,σ₁,α₁,rfl,x1.trans (.keeps k),r1.keeps k,.int _ _,⟨m1.gens,m1.os⟩⟩
  ·exact absurd rfl hc1
 ·exact absurd rfl hc1
end
end Mine
namespace Mine
open PySem PyProof.Rows
section
variable {K:Kt} {A:Around} {T:bf} {C:bn} {f:List (Str × NameKind)->Expr->Option X} {N:List (Str × NameKind)} {env:Env} {ρ:aq} {σ:ab} {s:Shared} {α:AL}
theorem mQ {es:List Expr} {xs:X} {pos:Pos} (S:SE K A C f) (h:fB (f N) es=some xs):(backTo pos (starEach es env)).all (fun x=>!x.1)=true/\(backTo pos (starEach es env)).any (·.1)=false:=by
 have:∀ {es:List Expr} {xs:X},fB (f N) es=some xs->∀ x ∈ starEach es env,x.1=false:=by
  intro es
  induction es with
  | nil=>intro xs h x hx; contradiction
  | cons e es ih =>
   intro xs h x hx
   obtain ⟨a,b,ha,hb,_⟩:=fI h
   rw [bN (S N e a ha).1] at hx
   rcases List.mem_cons.mp hx with q | q
   ·rw [q]
   ·exact ih hb x q
 have key:∀ x ∈ backTo pos (starEach es env),x.1=false:=by
  intro x hx
  unfold backTo at hx
  first
   | (obtain ⟨y,hy,rfl⟩:=List.mem_map.mp hx; exact this h y hy)
   | (split at hx <;> first | (obtain ⟨y,hy,rfl⟩:=List.mem_map.mp hx; exact this h y hy) | exact this h x hx)
 exact ⟨List.all_eq_true.mpr fun x hx=>by rw [key x hx]; rfl,List.any_eq_false.mpr fun x hx=>by rw [key x hx]; simp⟩
theorem qi {F:Value} {es:List Expr} {pos:Pos} {Q:Args->Shared->Prop} {E:Value->Shared->Prop} (h:wpAny (model K.prog K.w) A (spliced (backTo pos (starEach es env))) (fun vs s₁=>Q ⟨vs,[]⟩ s₁) E s)
  (pl:(backTo pos (starEach es env)).any (·.1)=false):wpAny (model K.prog K.w) A (evalArgs F true (backTo pos (starEach es env)) []) Q E s:=by
 cases hq:backTo pos (starEach es env) with
 | nil =>
  rw [hq] at h
  unfold evalArgs
  show wpAny _ A (spliced [] >>= _) Q E s
  refine wpAny_bind (wpAny_mono h (fun vs s' h'=>?_) fun zz zz x=>x)
  refine wpAny_bind (wpAny_pure (wpAny_holding ?_))
  exact wpAny_bind (wpAny_pure (wpAny_bind (wpAny_pure (wpAny_pure h'))))
 | cons p r =>
  rw [hq] at h pl
  obtain ⟨b,t⟩:=p
  rw [List.any_cons,Bool.or_eq_false_iff] at pl
  obtain rfl:b=false:=pl.1
  exact Calls.evalArgs_plain h
theorem agD {g:Str} {bv:Value} {es:List Expr} {xs:X} {p pos:Pos} {β:Type} {F:List PV->ab->ac β} {W:Value->Shared->Prop} (c:Ctx K A T C) (S:SE K A C f) (hg:iq N g=true) (hbin:g ∈ T.bins) (hv:jY g=some bv) (ht:(∃ t,bv=.type t)\/∃ b,bv=.builtin b)
  (h:fB (f N) es=some xs) (hN:env.scope.names=N) (hn:aP K.hb env) (E:am env ρ s.heap α) (r:R K.hb s.heap σ α) (hc:(evs C xs ρ σ).bind F ≠ .stuck) (tk:K.Tk s)
  (k:∀ vs σ' α' us s',evs C xs ρ σ=.ok vs σ'->F vs σ' ≠ .stuck->aL [] α s.heap α' s'.heap->R K.hb s'.heap σ' α'->aT s'.heap α' vs us->Sm s s'->K.Tk s'->wpAny (model K.prog K.w) A (call bv us) W (bi K A ((evs C xs ρ σ).bind F) s α) s') :
  wpAny (model K.prog K.w) A (eval (.Call (.Name g p) es [] pos) env) W (bi K A ((evs C xs ρ σ).bind F) s α) s:=by
 obtain ⟨_,pl2⟩:=mQ (env:=env) (pos:=pos) S h
 refine wpAny_Call_Name_kw (eW c hg hbin hv hN E.ok r ?_)
 have H:=ga (pos:=pos) S h hN hn E r
 have H':∀ {fv:Value},wpAny (model K.prog K.w) A (evalArgs fv true (backTo pos (starEach es env)) []) (fun a s₁=>wpAny (model K.prog K.w) A (call bv ([]++a.pos) a.kw) W (bi K A ((evs C xs ρ σ).bind F) s α) s₁) (bi K A ((evs C xs ρ σ).bind F) s α) s:=
  qi (Runs.use H hc tk fun vs σ' α' us s' e1 hc' x' r' v' m' tk'=>k vs σ' α' us s' e1 hc' x' r' v' m' tk') pl2
 rcases ht with ⟨t,rfl⟩ | ⟨b,rfl⟩
 ·exact PySem.callWith_type pl2 H'
 ·exact Calls.callWith_builtin pl2 H'
set_option tactic.hygienic true in
theorem abc {o:Expr} {es:List Expr} {mn:Str} {apos pos:Pos} {x xs:X} {TT id:String} {fo:PV->List PV->ab->ac PV} {ok:PV->ab->Bool} (S:SE K A C f) (hn0:fO o=true) (hline:(apos.endLine == pos.line)=true) (hlen:es.length < 20)
  (pa:PlainAttrs TT) (sl:Slot TT mn id) (ty:typeOf (.builtin id)=pure (.type "method_descriptor"))
  (hok:∀ {v σ} {s:Shared} {α:AL} {u:Value},ok v σ=true->R K.hb s.heap σ α->VR s.heap α v u->s.TypeIs u TT/\∀ a,u=.ref a->∃ ob,s.heap.get? a=some ob/\ob.dict=none)
  (hcall:∀ {v vs σ} {s:Shared} {α:AL} {u us},R K.hb s.heap σ α->VR s.heap α v u->aT s.heap α vs us->Runs K VR A (call (.builtin id) (u::us)) (fo v vs σ) s α)
  (h1:f N o=some x) (h2:fB (f N) es=some xs) (hN:env.scope.names=N) (hn:aP K.hb env) (E:am env ρ s.heap α) (r:R K.hb s.heap σ α) :
  Runs K VR A (eval (.Call (.Attribute o mn apos) es [] pos) env) ((ev C x ρ σ).bind fun v σ=>if ok v σ then (evs C xs ρ σ).bind fun vs σ=>fo v vs σ else .stuck) s α:=by
 intro hc tk
 obtain ⟨pl1,pl2⟩:=mQ (env:=env) (pos:=pos) S h2
 refine wpAny_Call_method_lateS (lz hn0) (by rw [pl1]; simp [backToKw,show keywordEach [] env=[] from rfl]; (exact aE (by assumption) (by decide))) hline ?_
 refine Runs.use ((S N o x h1).2 env ρ σ s α hN hn E r).1 hc tk fun va σ₁ α₁ y1 s₁ e1 hc1 x1 r1 v1 m1 tk1=>?_
 rw [e1]
 split at hc1
 ·rename_i hk
  obtain ⟨q4,q5⟩:=hok hk r1 v1
  refine ⟨TT,id,pa,sl,ty,q4,q5,?_⟩
  have H:=ga (pos:=pos) S h2 hN hn (E.ext x1 .nil) r1
  refine Calls.callWith_builtin pl2 (qi ?_ pl2)
  rw [aaG,if_pos hk]
  refine Runs.useL x1 m1 H hc1 tk1 fun vs σ₂ aQ us aD e2 hc2 x2 r2 v2 m2 tk2=>?_
  rw [e2]
  exact (hcall r2 (v1.ext x2) v2).endL (x1.trans x2) (m1.trans m2) hc2 tk2
 ·exact absurd rfl hc1
noncomputable def m0T:M0->String
 | .clear => "list"
noncomputable def af4:M0->String
 | .clear => "list.clear"
noncomputable def m0N:M0->Str
 | .clear => "clear"
theorem aeo {x:Str} {m:M0} (h:zX x=some m):x=m0N m:=
 (show ∀ p ∈ ag0,p.1=m0N p.2 from fun p hp=>by
  repeat (rcases List.mem_cons.mp hp with rfl | hp; exact rfl)
  contradiction) _ (fP h)
theorem af3 (m:M0):PlainAttrs (m0T m)/\Slot (m0T m) (m0N m) (af4 m)/\typeOf (.builtin (af4 m))=pure (.type "method_descriptor"):=by
 cases m
 ·exact ⟨F.plainAttrs_list,F.slot_list_clear,F.type_list_clear⟩
noncomputable def wX (m:M0) (o:PV) (σ:ab):Bool:=
 match m with
 | .clear=>eh o σ
theorem ahK {m:M0} {o:PV} {u:Value} (h:wX m o σ=true) (r:R K.hb s.heap σ α) (v:VR s.heap α o u):s.TypeIs u (m0T m)/\∀ a,u=.ref a->∃ ob,s.heap.get? a=some ob/\ob.dict=none:=by
 cases m with
 | clear=>exact abE (m:=.append) r v h
set_option tactic.hygienic true in
theorem ahJ {m:M0} {o:PV} (h:lM m o σ ≠ .stuck):wX m o σ=true:=by
 cases m with
 | clear =>
  unfold lM at h
  dsimp only at h
  split at h
  ·split at h
   ·rename_i hs; simp only [wX,eh,hs]
   ·exact absurd rfl h
  ·exact absurd rfl h
set_option tactic.hygienic true in
theorem acT {m:M0} {o:PV} {u:Value} (r:R K.hb s.heap σ α) (v:VR s.heap α o u):Runs K VR A (call (.builtin (af4 m)) [u]) (lM m o σ) s α:=by
 intro hc tk
 cases m with
 | clear =>
  unfold lM at hc ⊢
  dsimp only at hc ⊢
  split at hc
  ·rename_i i
   obtain ⟨a,rfl,ea⟩:=v.refE
   split at hc
   ·rename_i xs hs
    split at hc
    ·rename_i hl
     rw [if_pos hl]
     obtain ⟨ak,n,e1,w⟩:=r.obj i _ a hs ea
     refine call_meets F.slot_list_clear ⟨_,e1,rfl⟩ F.entry_list_clear (F.args_list_clear_1 _) (AutoSeq1.list_clear_list_0 a ak.toArray n (by rw [List.size_toArray,<- w.1]; exact b8 hl)) ⟨e1,?_⟩
     obtain ⟨n',e'⟩:=zg (g:=fun zz=>#[]) e1
     obtain ⟨r',x'⟩:=r.set (m:=.lst []) ea (fun b o hb e=>(zf hb).trans e) e' fun x'=>⟨[],n',e',.nil⟩
     exact ⟨.none,_,α,rfl,x',r',.none,⟨rfl,rfl⟩⟩
    ·exact absurd rfl hc
   ·exact absurd rfl hc
  ·exact absurd rfl hc
theorem acU {m:M0} {mn:Str} {o:Expr} {apos pos:Pos} {x:X} (S:SE K A C f) (hm:zX mn=some m) (hline:(apos.endLine == pos.line)=true) (hn0:fO o=true) (h1:f N o=some x)
  (hN:env.scope.names=N) (hn:aP K.hb env) (E:am env ρ s.heap α) (r:R K.hb s.heap σ α) :
  Runs K VR A (eval (.Call (.Attribute o mn apos) [] [] pos) env) (ev C (.me0 m x) ρ σ) s α:=by
 rw [aeo hm,aeU]
 obtain ⟨q1,q2,q3⟩:=af3 m
 have H:=abc (K:=K) (A:=A) (ρ:=ρ) (σ:=σ) (s:=s) (α:=α) (env:=env) (apos:=apos) (pos:=pos) (es:=[]) (xs:=.nil) (fo:=fun v vs σ=>match vs with | []=>lM m v σ | _=>.stuck) (ok:=wX m) S hn0 hline (by simp) q1 q2 q3
  (fun h r v=>ahK h r v) (fun {v vs σ s α u us} r v w=>by
   cases vs with
   | nil =>
    have:us=[]:=List.eq_nil_of_length_eq_zero w.1.symm
    subst this
    exact acT r v
   | cons _ _=>exact fun hc=>absurd rfl hc) h1 rfl hN hn E r
 intro hc tk
 have e:((ev C x ρ σ).bind fun v σ=>if wX m v σ then (evs C .nil ρ σ).bind fun vs σ=>(match vs with | []=>lM m v σ | _=>.stuck) else .stuck)=(ev C x ρ σ).bind fun x σ=>lM m x σ:=by
  cases hx:ev C x ρ σ with
  | ok v σ₁ =>
   rw [hx] at hc
   have hc':lM m v σ₁ ≠ .stuck:=hc
   show (if wX m v σ₁=true then _ else _)=_
   rw [if_pos (ahJ hc')]
   rfl
  | exc i σ₁=>rfl
  | stuck=>rfl
 rw [e] at H
 exact H hc tk
end
end Mine
namespace Mine
open PySem PyProof.Rows
section
variable {K:Kt} {A:Around} {T:bf} {C:bn} {f:List (Str × NameKind)->Expr->Option X} {N:List (Str × NameKind)} {env:Env} {ρ:aq} {σ:ab} {s:Shared} {α:AL}
noncomputable def wE (kk:List Str) (vv:List PV) (us:List (Value × Value)):Prop:=
 us.length=kk.length/\∀ (i:Nat) k v,kk[i]?=some k->vv[i]?=some v->∃ t u,us[i]?=some (Value.str k t,u)/\∀ h α,VR h α v u
theorem wE.cons {kk:List Str} {vv:List PV} {us:List (Value × Value)} {k:Str} {v:PV} {t:Tok} {u:Value} (hu:∀ h α,VR h α v u) (H:wE kk vv us):wE (k::kk) (v::vv) ((.str k t,u)::us):=by
 refine ⟨congrArg Nat.succ H.1,fun i k' v' e1 e2=>?_⟩
 cases i with
 | zero=>obtain rfl:=oi e1; obtain rfl:=oi e2; exact ⟨t,u,rfl,hu⟩
 | succ i=>exact H.2 i k' v' e1 e2
theorem af6 {e:Expr} {v:PV} (h:aiV e=some v) {s:Shared} {Q X:Value->Shared->Prop} (hQ:∀ u tk,(∀ h α,VR h α v u)->Q u { s with toks:=tk }):wpAny (model K.prog K.w) A (eval e env) Q X s:=by
 cases e with
 | Constant c ck cp =>
  change sC c=_ at h
  cases c with
  | none=>obtain rfl:=oi h; exact wpAny_Constant_none (hQ _ s.toks fun h α=>.none)
  | bool b=>obtain rfl:=oi h; exact wpAny_Constant_bool (hQ _ s.toks fun h α=>.bool b)
  | int i=>obtain rfl:=oi h; exact wpAny_Constant_int (hQ _ _ fun h α=>.int i _)
  | str z =>
   change aH _ _=_ at h
   exact aK h fun hz h=>by obtain rfl:=oi h; exact wpAny_Constant_str (hQ _ _ fun h α=>.str z _ hz)
  | _=>contradiction
 | _=>contradiction
theorem ahL {e:Expr} {x:Str} (h:aiU e=some x):∃ k p,e=.Constant (.str x) k p/\PyData.strOk x=true:=by
 cases e with
 | Constant c k p =>
  cases c with
  | str z =>
   change aH _ _=_ at h
   exact aK h fun hz h=>by obtain rfl:=oi h; exact ⟨_,_,rfl,hz⟩
  | _=>contradiction
 | _=>contradiction
noncomputable def ab4 (K:Kt) (A:Around) (env:Env) (pos:Pos) (ks:List (Option Expr)) (vs:List Expr) (kk:List Str) (vv:List PV):Prop:=
 ∃ pairs:List (Sem Value × Sem Value),(evalEachOpt ks env).zip ((evalEach vs env).map fun v=>do let x <- v; standAt pos; pure x)=pairs.map (fun p=>(some p.1,p.2))/\pairs.length=kk.length/\vv.length=kk.length ∧
   ∀ {s:Shared} {Q:List (Value × Value)->Shared->Prop} {X:Value->Shared->Prop},(∀ us tk,wE kk vv us->Q us { s with toks:=tk })->wpAny (model K.prog K.w) A (evalPairs pairs) Q X s
theorem aa1 {pos:Pos} {ks:List (Option Expr)}:∀ {vs:List Expr} {kk:List Str} {vv:List PV},qd ks=some kk->acV vs=some vv->vs.length=ks.length->ab4 K A env pos ks vs kk vv:=by
 induction ks with
 | nil =>
  intro vs kk vv h1 h2 hl
  obtain rfl:=oi h1
  obtain rfl:=List.eq_nil_of_length_eq_zero hl
  obtain rfl:=oi h2
  exact ⟨[],rfl,rfl,rfl,fun hQ=>evalPairs_nil (hQ [] _ ⟨rfl,fun i k v e=>nomatch e⟩)⟩
 | cons k ks ih =>
  intro vs kk vv h1 h2 hl
  cases vs with
  | nil=>contradiction
  | cons e es =>
   change o2 _ _ _=_ at h1 h2
   refine ez (M:=fun kk=>ab4 K A env pos (k::ks) (e::es) kk vv) h1 fun s1 kk' hs hr=>?_
   refine ez h2 fun v vv' hc hv=>?_
   refine aS hs fun ke hk hs=>?_
   obtain ⟨kp,p,rfl,hok⟩:=ahL hs
   subst hk
   obtain ⟨pairs,e1,e2,e3,H⟩:=ih hr hv (Nat.succ.inj hl)
   refine ⟨(eval (.Constant (.str s1) kp p) env,do let x <- eval e env; standAt pos; pure x)::pairs,?_,congrArg Nat.succ e2,congrArg Nat.succ e3,fun hQ=>?_⟩
   ·rw [List.map_cons,<- e1]; rfl
   ·exact evalPairs_cons (wpAny_Constant_str (wpAny_bind (af6 hc fun u tk hu=>wpAny_bind (wpAny_standAt (wpAny_pure (H fun us tk' hk=>hQ _ tk' (hk.cons hu)))))))
theorem adT:∀ {ks:List Str} {vals:List PV} {us:List (Value × Value)} {kvs:List (Str × Value)} {k:Str},ks.length=us.length->vals.length=ks.length->kvs=(ks.zip us).map (fun p=>(p.1,p.2.2)) ->
  (∀ (i:Nat) k v,ks[i]?=some k->vals[i]?=some v->∃ t u,us[i]?=some (Value.str k t,u)/\∀ h α,VR h α v u) ->
  (∀ v,kh k (ks.zip vals)=some v->∃ u,valueAt kvs k=some u/\∀ h α,VR h α v u)/\(kh k (ks.zip vals)=none->valueAt kvs k=none):=by
 intro ks
 induction ks with
 | nil =>
  intro vals us kvs k h1 h2 h3 h4
  subst h3
  exact ⟨fun v e=>(by contradiction),fun zz=>rfl⟩
 | cons a ks ih =>
  intro vals us kvs k h1 h2 h3 h4
  cases vals with
  | nil=>contradiction
  | cons v vals =>
   cases us with
   | nil=>contradiction
   | cons u us =>
    subst h3
    obtain ⟨t,u',q1,q2⟩:=h4 0 a v rfl rfl
    obtain rfl:=oi q1
    have ih:=ih (vals:=vals) (us:=us) (k:=k) (Nat.succ.inj h1) (Nat.succ.inj h2) rfl (fun i k v e1 e2=>h4 (i + 1) k v e1 e2)
    rw [List.zip_cons_cons,List.zip_cons_cons,List.map_cons,qZ]
    show (∀ w,(if a=k then some v else kh k (ks.zip vals))=some w->_)/\((if a=k then some v else kh k (ks.zip vals))=none->_)
    by_cases hk:a=k
    ·rw [if_pos hk,if_pos hk]
     exact ⟨fun w hw=>by obtain rfl:=oi hw; exact ⟨u',rfl,q2⟩,fun hw=>nomatch hw⟩
    ·rw [if_neg hk,if_neg hk]
     exact ih
theorem wy:∀ {ks:List Str} {vals:List PV} {us:List (Value × Value)},ks.length=us.length->vals.length=ks.length ->
  (∀ (i:Nat) k v,ks[i]?=some k->vals[i]?=some v->∃ t u,us[i]?=some (Value.str k t,u)/\∀ h α,VR h α v u)->Carries (strKind K.prog K.w) us ((ks.zip us).map fun p=>(p.1,p.2.2))
 | [],vals,us,h1,h2,h4=>by
  cases us with
  | nil=>trivial
  | cons u us=>contradiction
 | a::ks,vals,us,h1,h2,h4=>by
  cases vals with
  | nil=>contradiction
  | cons v vals =>
   cases us with
   | nil=>contradiction
   | cons u us =>
    obtain ⟨t,u',q1,q2⟩:=h4 0 a v (by simp) (by simp)
    simp at q1
    subst q1
    refine ⟨?_,rfl,wy (vals:=vals) (by simpa using h1) (by simpa using h2) fun i k v e1 e2=>by have:=h4 (i + 1) k v (by simpa using e1) (by simpa using e2); simpa using this⟩
    show Value.isStrOf a (.str a t)=true
    simp [Value.isStrOf]
end
end Mine
namespace Mine
open PySem PyProof.Rows
section
variable {K:Kt} {A:Around} {T:bf} {C:bn} {f:List (Str × NameKind)->Expr->Option X} {N:List (Str × NameKind)} {env:Env} {ρ:aq} {σ:ab} {s:Shared} {α:AL}
theorem aa4 (hK:K.Ok) (r:R K.hb s.heap σ α):(s.heap.objs.size == sysModules)=false:=by
 obtain ⟨o,es,ep,e,_⟩:=hK.g
 have h1:=Heap.lt_size (r.base _ _ e)
 have h2:mainGlobals < s.heap.objs.size:=h1
 have h3:sysModules <= mainGlobals:=by decide
 have:s.heap.objs.size ≠ sysModules:=Nat.ne_of_gt (Nat.lt_of_le_of_lt h3 h2)
 simpa using this
theorem ajy {a b:Expr} (h1:dU a=true) (h2:dU b=true):starEach [a,b] env=[(false,eval a env),(false,eval b env)]:=by
 rw [bN h1,bN h2]; rfl
theorem aap {ks:List (Option Expr)} {vs:List Expr} {dpos apos pos:Pos} {k d:Expr} {kk:List Str} {vv:List PV} {x y:X} (c:Ctx K A T C) (S:SE K A C f) (hline:(apos.endLine == pos.line)=true)
  (hk:qd ks=some kk) (hv:uK ks.length vs=some vv) (hnd:kk.Nodup) (hlen:kk.length <= 15) (hne:kk ≠ []) (h1:f N k=some x) (h2:f N d=some y)
  (hN:env.scope.names=N) (hn:aP K.hb env) (E:am env ρ s.heap α) (r:R K.hb s.heap σ α) :
  Runs K VR A (eval (.Call (.Attribute (.Dict ks vs dpos) "get" apos) [k,d] [] pos) env) (ev C (.fdget kk vv x y) ρ σ) s α:=by
 show Runs K VR A _ ((ev C x ρ σ).bind fun k σ=>(ev C y ρ σ).bind fun d σ=>vY kk vv k d σ) s α
 intro hc tp
 obtain ⟨hp1,H1⟩:=S N k x h1
 obtain ⟨hp2,H2⟩:=S N d y h2
 refine Call_method2 rfl (ajy hp1 hp2) hline ?_
 unfold uK at hv
 refine aK hv fun hvl hv=>?_
 obtain ⟨pairs,sh,pl,vl,H⟩:=aa1 (K:=K) (A:=A) (env:=env) (pos:=dpos) hk hv (eq_of_beq hvl)
 refine wpAny_Dict_pairs (knd:=strKind K.prog K.w) sh (fun q=>hne (by cases kk with | nil=>rfl | cons=>rw [q] at pl; contradiction)) (by omega) (fH tp (H fun us tk kat tp1=>?_))
 obtain ⟨ul,ui⟩:=kat
 have car:=wy (K:=K) ul.symm vl ui
 refine ⟨_,car,Heap.DictOf.new _,fun h' hd' sb=>?_⟩
 have hkeys:((kk.zip us).map fun p=>(p.1,p.2.2)).map (·.1)=kk:=by
  rw [List.map_map]
  show (kk.zip us).map Prod.fst=kk
  rw [List.map_fst_zip (by omega)]
 rw [merged_nil_of_nodup _ (by rw [hkeys]; exact hnd)] at hd'
 obtain ⟨oD,es,ep,eD,dD⟩:=id hd'
 have kp:∀ b o,s.heap.get? b=some o->h'.get? b=some o:=fun b o e=>(sb.2 b (Nat.ne_of_lt (Heap.lt_size e))).trans (Heap.get?_push_of_some _ e)
 have hDa:s.heap.objs.size ∉ α.all:=fun q=>by obtain ⟨o,e⟩:=r.liveAll q; rw [eA] at e; contradiction
 have x0:aL [] α s.heap α h':=.keeps kp
 have r0:=r.keeps kp
 refine ⟨"dict", "dict.get",F.plainAttrs_dict,F.slot_dict_get,F.type_dict_get,hd'.typeIs,hd'.mapOf.noDict,?_⟩
 refine wpAny_dict_get2 (knd:=strKind K.prog K.w) (aa4 c.hK r) ?_
 have tk0:K.Tk { s with heap:=h',toks:=tk + us.length }:=Kt.Tk.up tp1 (Nat.le_add_right _ _)
 refine Runs.useL (s:={ s with heap:=h',toks:=tk + us.length }) x0 ⟨rfl,rfl⟩ (H1 env ρ σ { s with heap:=h',toks:=tk + us.length } α hN hn (E.ext x0 .nil) r0).1 hc tk0 fun pk σ₁ α₁ uk s₁ e1 hc1 x1 r1 v1 m1 tk1=>?_
 rw [e1]
 show wpAny _ _ _ _ (bi K A ((ev C y ρ σ₁).bind fun d σ=>vY kk vv pk d σ) _ _) _
 refine Runs.useL (x0.trans x1) ⟨m1.gens,m1.os⟩ (H2 env ρ σ₁ s₁ α₁ hN hn ((E.ext x0 .nil).ext x1 .nil) r1).1 hc1 tk1 fun pd σ₂ aQ ud aD e2 hc2 x2 r2 v2 m2 tk2=>?_
 cases pk with
 | str kq =>
  obtain ⟨tq,rfl,hq⟩:=v1.strE
  have hDf:s.heap.objs.size ∉ α.fr:=fun q=>by
   obtain ⟨_,o,e,_⟩:=r.frs _ (r.fe ▸ q)
   rw [eA] at e; contradiction
  have eD1:=(x1.rest _ _ (AL.not_ix hDa) (by simp) eD).not hDf
  have eD2:=(x2.rest _ _ (x1.notMem (AL.not_ix hDa) eD) (by simp) eD1).not (x1.fre ▸ hDf)
  have hd2:aD.heap.DictOf (strKind K.prog K.w) s.heap.objs.size ((kk.zip us).map fun p=>(p.1,p.2.2)):=⟨_,es,ep,eD2,dD⟩
  obtain ⟨g1,g2⟩:=adT (k:=kq) ul.symm vl rfl ui
  refine ⟨kq,_,by show Value.isStrOf kq (.str kq tq)=true; simp [Value.isStrOf],hd2.mapOf,?_⟩
  show bm K VR ((ev C y ρ σ₁).bind _) _ _ _ _
  rw [e2]
  refine ⟨_,σ₂,aQ,rfl,(x0.trans x1).trans x2,r2,?_,⟨(m1.trans m2).gens,(m1.trans m2).os⟩⟩
  cases hq2:kh kq (kk.zip vv) with
  | none=>rw [g2 hq2]; exact v2
  | some w=>obtain ⟨u,q1,q2⟩:=g1 w hq2; rw [q1]; exact q2 _ _
 | _=>exact absurd rfl hc2
variable {en:Bool}
theorem ah2 {x:X} (h:agd x=false):evIt C x ρ σ=(ev C x ρ σ).bind kP:=by
 cases x <;> first | (contradiction; done) | (rfl)
theorem ai2 {e:Expr} {x:X} (c:Ctx K A T C) (hhd:C.hd=false) (S:SE K A C f) (h:f N e=some x) (hi:agd x=false) (hN:env.scope.names=N) (hn:aP K.hb env) (E:am env ρ s.heap α) (r:R K.hb s.heap σ α) :
  eJ K A en (eval e env) (evIt C x ρ σ) s α:=by
 rw [ah2 hi]
 intro hc tk
 refine Runs.use ((S N e x h).2 env ρ σ s α hN hn E r).1 hc tk fun v σ₁ α₁ y s₁ e1 hc1 x1 r1 v1 m1 tk1=>?_
 rw [e1]
 exact wpAny_mono (af9 c.hA (c.hd hhd) r1 v1 hc1) (fun it aD hp=>hp.lift x1 m1) fun zz zz e=>e
noncomputable def pK (K:Kt) (A:Around) (t:Sem Value) (c:ac (List PV × Option (Nat × MO))) (s:Shared) (α:AL):Prop:=c ≠ .stuck->K.Tk s->wpAny (model K.prog K.w) A t (kf K c s α) (bi K A c s α) s
theorem aga {a:Expr} {p pos:Pos} {x:X} (c:Ctx K A T C) (S:SE K A C f) (h:f N a=some x) (hg:iq N "range" = true) (hbin:("range" : Str) ∈ T.bins) (hN:env.scope.names=N) (hn:aP K.hb env) (E:am env ρ s.heap α) (r:R K.hb s.heap σ α) :
  pK K A (eval (.Call (.Name "range" p) [a] [] pos) env) (evIt C (.range1 x) ρ σ) s α:=by
 show pK K A _ ((ev C x ρ σ).bind io) s α
 intro hc tk
 obtain ⟨hp,H⟩:=S N a x h
 refine wpAny_Call_Name_kw (eW c hg hbin rfl hN E.ok r ?_)
 rw [bN hp]
 refine PySem.callWith_type1 (Runs.use (H env ρ σ s α hN hn E r).1 hc tk fun v σ₁ α₁ y s₁ e1 hc1 x1 r1 v1 m1 tk1=>?_)
 rw [e1]
 exact wpAny_mono (agy r1 v1 hc1) (fun it aD hp=>hp.lift x1 m1) fun zz zz e=>e
theorem ahW {a:Expr} {p pos:Pos} {x:X} (c:Ctx K A T C) (hhd:C.hd=false) (S:SE K A C f) (h:f N a=some x) (hg:iq N "enumerate" = true) (hbin:("enumerate" : Str) ∈ T.bins) (hN:env.scope.names=N) (hn:aP K.hb env) (E:am env ρ s.heap α) (r:R K.hb s.heap σ α) :
  eJ K A true (eval (.Call (.Name "enumerate" p) [a] [] pos) env) (evIt C (.enum x) ρ σ) s α:=by
 show eJ K A true _ ((ev C x ρ σ).bind qc) s α
 intro hc tk
 obtain ⟨hp,H⟩:=S N a x h
 refine wpAny_Call_Name_kw (eW c hg hbin rfl hN E.ok r ?_)
 rw [bN hp]
 refine PySem.callWith_type1 (Runs.use (H env ρ σ s α hN hn E r).1 hc tk fun v σ₁ α₁ y s₁ e1 hc1 x1 r1 v1 m1 tk1=>?_)
 rw [e1]
 exact wpAny_mono (aew (c.hd hhd) r1 v1 hc1) (fun it aD hp=>wpAny_mono hp (fun y cY hp=>hp.lift x1 m1) fun zz zz e=>e) fun zz zz e=>e
theorem fQ {e:Expr} {q:Str × Pos} (h:lN e=some q):e=.Name q.1 q.2:=by
 cases e with
 | Name x p=>obtain rfl:=oi h; rfl
 | _=>contradiction
theorem uP {e:Expr} {q:adv} (h:y9 e=some q):e=.Call (.Name q.g q.p) [q.a] [] q.pos:=by
 cases e with
 | Call f as ks pos =>
  change aH _ _=_ at h
  refine aK h fun h0 h=>ez (M:=fun q:adv=>Expr.Call f as ks pos=.Call (.Name q.g q.p) [q.a] [] q.pos) h fun n a h1 h2=>?_
  rw [fQ h1,vy h2,List.isEmpty_iff.mp h0]
 | _=>contradiction
theorem agA {e:Expr} {q:adu} (h:callN? e=some q):e=.Call (.Name q.g q.p) q.as [] q.pos:=by
 cases e with
 | Call f as ks pos =>
  change aH _ _=_ at h
  refine aK h fun h0 h=>c7 (M:=fun q:adu=>Expr.Call f as ks pos=.Call (.Name q.g q.p) q.as [] q.pos) h fun n h1=>?_
  rw [fQ h1,List.isEmpty_iff.mp h0]
 | _=>contradiction
theorem ahp {g:Str} {k:Nat} {e:Expr} {xs:X} {P:Prop} (h:aft T N (f N) g k e=some xs) (kk:∀ p as pos,e=.Call (.Name g p) as [] pos->iq N g=true->g ∈ T.bins->as.length=k->fB (f N) as=some xs->P):P:=by
 refine aS h fun q hq h'=>aK h' fun hc h6=>?_
 obtain ⟨hc,h3⟩:=cM hc
 obtain ⟨h1,h2⟩:=cM hc
 obtain ⟨h4,h5⟩:=cM h2
 obtain rfl:=eq_of_beq h1
 exact kk q.p q.as q.pos (agA hq) h4 (by simpa using h5) (eq_of_beq h3) h6
theorem aip {vs:List PV} {P:Prop} (h:ab9 vs σ ≠ .stuck) (k:∀ a b,vs=[a,b]->P):P:=by
 cases vs with
 | nil=>exact absurd rfl h
 | cons a l =>
  cases l with
  | nil=>exact absurd rfl h
  | cons b l =>
   cases l with
   | nil=>exact k a b rfl
   | cons c l=>exact absurd rfl h
theorem ai0 {e:Expr} {xs:X} (c:Ctx K A T C) (hhd:C.hd=false) (S:SE K A C f) (h:aft T N (f N) "zip" 2 e=some xs) (hN:env.scope.names=N) (hn:aP K.hb env) (E:am env ρ s.heap α) (r:R K.hb s.heap σ α) :
  eJ K A true (eval e env) (evIt C (.zip xs) ρ σ) s α/\dU e=true:=by
 refine ahp h fun p as pos he hg hb hl h6=>?_
 subst he
 refine ⟨?_,rfl⟩
 show eJ K A true _ ((evs C xs ρ σ).bind ab9) s α
 intro hc tk
 refine agD c S hg hb rfl (.inl ⟨_,rfl⟩) h6 hN hn E r hc tk fun vs σ₁ α₁ us s₁ e1 hc1 x1 r1 v1 m1 tk1=>?_
 rw [e1]
 refine aip hc1 fun a b hv=>?_
 subst hv
 obtain ⟨x,us1,rfl,va,v1⟩:=v1.inv_cons
 obtain ⟨y,us2,rfl,vb,v1⟩:=v1.inv_cons
 obtain rfl:=List.eq_nil_of_length_eq_zero v1.1.symm
 exact wpAny_mono (af8 (c.hd hhd) r1 va vb hc1) (fun it aD hp=>wpAny_mono hp (fun y cY hp=>hp.lift x1 m1) fun zz zz e=>e) fun zz zz e=>e
theorem ack {e:Expr} {x:X} {P:X->Prop} (h:wJ T N (f N) e=some x) (k:∀ p a pos y,e=.Call (.Name "range" p) [a] [] pos->iq N "range" = true->("range" : Str) ∈ T.bins->f N a=some y->P (.range1 y)):P x:=by
 unfold wJ at h
 refine aS h fun q hq h=>aK h fun hc h=>?_
 obtain ⟨h1,h2⟩:=cM hc
 obtain ⟨h4,h5⟩:=cM h2
 have he:=uP hq
 rw [eq_of_beq h1] at he h4 h5
 exact c7 h fun y hy=>k q.p q.a q.pos y he h4 (by simpa using h5) hy
theorem acj {e:Expr} {x:X} (c:Ctx K A T C) (S:SE K A C f) (h:afr T N (f N) e=some x) (hN:env.scope.names=N) (hn:aP K.hb env) (E:am env ρ s.heap α) (r:R K.hb s.heap σ α) :
  pK K A (eval e env) (evIt C x ρ σ) s α/\dU e=true:=by
 unfold afr at h
 exact ack (P:=fun x=>pK K A (eval e env) (evIt C x ρ σ) s α/\dU e=true) h fun p a pos y he hg hb h6=>by subst he; exact ⟨aga c S h6 hg hb hN hn E r,rfl⟩
theorem pK.it {e:Expr} {cc:ac (List PV × Option (Nat × MO))} (c:Ctx K A T C) (hhd:C.hd=false) (H:pK K A (eval e env) cc s α):eJ K A en (eval e env) cc s α:=fun hc tk =>
 wpAny_mono (H hc tk) (fun zz zz p=>p.iter c.hA (c.hd hhd)) fun zz zz e=>e
theorem lg {e:Expr} {x:X} (c:Ctx K A T C) (hhd:C.hd=false) (S:SE K A C f) (h:tR T N (f N) e=some x) (hN:env.scope.names=N) (hn:aP K.hb env) (E:am env ρ s.heap α) (r:R K.hb s.heap σ α) :
  eJ K A en (eval e env) (evIt C x ρ σ) s α/\dU e=true:=by
 unfold tR at h
 refine gP h (fun y hy h=>?_) fun zz h=>?_
 ·obtain rfl:=oi h
  obtain ⟨q1,q2⟩:=acj c S hy hN hn E r
  exact ⟨q1.it c hhd,q2⟩
 ·unfold agQ at h
  refine aS h fun y hq h=>aK h fun hi h=>?_
  obtain rfl:=oi h
  exact ⟨ai2 c hhd S hq (by simpa using hi) hN hn E r,(S N e _ hq).1⟩
theorem aaS {e:Expr} {x:X} (c:Ctx K A T C) (hhd:C.hd=false) (S:SE K A C f) (h:yW T N (f N) e=some x) (hN:env.scope.names=N) (hn:aP K.hb env) (E:am env ρ s.heap α) (r:R K.hb s.heap σ α) :
  ∃ en,eJ K A en (eval e env) (evIt C x ρ σ) s α/\dU e=true:=by
 unfold yW at h
 refine gP h (fun y hy h=>?_) fun zz h=>?_
 ·obtain rfl:=oi h
  unfold adB at hy
  refine aS hy fun q hq hy1=>aK hy1 fun hg hy2=>?_
  clear hy1 hy
  simp only [Bool.and_eq_true,isB,beq_iff_eq] at hg
  have hq:=uP hq
  obtain ⟨g,p,a,pos⟩:=q
  obtain ⟨h1,hg,hb⟩:=hg
  dsimp only at h1
  subst h1 hq
  refine c7 (M:=fun y=>∃ en,eJ K A en (eval (.Call (.Name "enumerate" p) [a] [] pos) env) (evIt C y ρ σ) s α/\dU (.Call (.Name "enumerate" p) [a] [] pos)=true) hy2 fun z hz=>⟨true,ahW c hhd S hz hg (by simpa using hb) hN hn E r,rfl⟩
 refine gP h (fun y hy h=>?_) fun zz h=>?_
 ·obtain rfl:=oi h
  exact c7 (M:=fun y=>∃ en,eJ K A en (eval e env) (evIt C y ρ σ) s α/\dU e=true) hy fun xs hx=>⟨true,ai0 c hhd S hx hN hn E r⟩
 exact ⟨false,lg c hhd S h hN hn E r⟩
end
end Mine
namespace Mine
open PySem PyProof.Rows
section
variable {K:Kt} {A:Around} {T:bf} {C:bn} {f:List (Str × NameKind)->Expr->Option X} {N:List (Str × NameKind)} {env:Env} {ρ:aq} {σ:ab} {s:Shared} {α:AL}
theorem abg {pos:Pos} {pk:Bool} (r:R K.hb s.heap σ α):Runs K VR A (eval (.Dict [] [] pos) env) (ev C (.dnew pk) ρ σ) s α:=by
 intro hc tk
 refine wpAny_Dict_empty ?_
 have k:∀ b o,s.heap.get? b=some o->(s.heap.push { cls:=.type "dict",data:=.dict #[] }).get? b=some o:=fun b o e=>Heap.get?_push_of_some _ e
 cases pk with
 | true =>
  obtain ⟨r',x⟩:=r.add (D:=s.heap.objs.size) (m:=.dp []) k (eA s) ⟨[],Heap.DictOfH.new _,rfl,(fun x hx=>nomatch hx),.nil⟩
  refine ⟨_,_,_,rfl,x,r',.ref ?_,⟨rfl,rfl⟩⟩
  rw [r.len]; simp [AL.add]
 | false =>
  obtain ⟨r',x⟩:=r.add (D:=s.heap.objs.size) (m:=.ds []) k (eA s) ⟨[],Heap.DictOf.new _,rfl,.nil⟩
  refine ⟨_,_,_,rfl,x,r',.ref ?_,⟨rfl,rfl⟩⟩
  rw [r.len]; simp [AL.add]
theorem aaR {g:Str} {args:List Expr} {p pos:Pos} {x:X} (c:Ctx K A T C) (S:SE K A C f) (hg:iq N g=true) (h:acm T (f N) g args=some x):kO K A C N (.Call (.Name g p) args [] pos) x:=by
 unfold acm at h
 refine aS h fun q hb h=>aK h fun hc h=>aS h fun j hj h=>c7 h fun xs hxs=>bu (fun zz zz=>rfl) (fun zz zz=>rfl) fun {env ρ σ s α} hN hn E r hc' tk=>?_
 obtain ⟨b,cl⟩:=q
 rw [aeT] at hc' ⊢
 obtain ⟨h1,h2⟩:=cM hc
 obtain rfl:=eq_of_beq h1
 have hj':T.meths[j]?=some ("__init__" : Str):=by
  obtain ⟨h1,h2,_⟩:=List.findIdx?_eq_some_iff_getElem.mp hj
  rw [List.getElem?_eq_getElem h1,eq_of_beq h2]
 obtain ⟨F,B,hcall,_⟩:=c.brd _ cl hb
 have hcall:=hcall j hj'
 obtain ⟨i,hi⟩:=w8 hg
 refine wpAny_Call_Name_kw (rn c.hK r E.ok (by rw [hN]; exact hi) B.mg ?_)
 cases args with
 | nil=>contradiction
 | cons e es =>
  have H:=ga (pos:=pos) S hxs hN hn E r
  obtain ⟨a',b',ha',hb',_⟩:=fI hxs
  refine PySem.W.callWith_K B.inn B.keep ?_ (bN (S N e a' ha').1) (mQ S hb').2
  refine Runs.use H hc' tk fun vs σ' α' us s' e1 hc1 x' r' v' m' tk'=>⟨fun a o e=>r'.base a o (B.inn a o e),?_⟩
  show wpAny (model K.prog K.w) A (call (.ref cl) us) (bm K VR ((evs C xs ρ σ).bind fun vs σ=>pU C cl (T.fns.length + j) vs σ) s α) (bi K A ((evs C xs ρ σ).bind fun vs σ=>pU C cl (T.fns.length + j) vs σ) s α) s'
  rw [e1]
  exact wpAny_mono (hcall vs us s' σ' α' r' v' hc1 tk') (fun y s'' hp=>hp.lift x' m') fun e s'' hx=>hx.lift x' m'
end
end Mine
namespace Mine
open PySem PyProof.Rows
section
variable {K:Kt} {A:Around} {T:bf} {C:bn} {f:List (Str × NameKind)->Expr->Option X} {N:List (Str × NameKind)} {env:Env} {ρ:aq} {σ:ab} {s:Shared} {α:AL}
open PySem.W
theorem R.frag {F:Frag} {h:Heap} (x:F.In K.hb.h) (r:R K.hb h σ α):F.In h:=fun a o e=>r.base a o (x a o e)
theorem abK {c i:Nat} {x:Value} (v:VR s.heap α (.inst c i) x):∃ a D,x=.ref a/\s.heap.get? a=some (instObj c D)/\a ∉ α.all/\α.ix[i]?=some D:=by
 cases v with | inst e hn hi=>exact ⟨_,_,rfl,e,hn,hi⟩
theorem aep {o:Obj} {es:Array DictEntry} {ep:Nat} {n:Str} (hd:o.data=.dict es ep) (hk:StrKeys es):lookIn n o=some (nsFind es n):=by
 unfold lookIn
 rw [hd]
 dsimp only
 unfold nsFind findBy
 have h0:(es.toList.any fun x=>x.refKey)=false:=by
  rw [List.any_eq_false]
  intro e he
  obtain ⟨m,t,h⟩:=hk e (by simpa using he)
  simp [DictEntry.refKey,h]
 rw [h0,<- Array.find?_toList]
 cases es.toList.find? (fun e=>e.key.isStr n) <;> rfl
theorem abL {c i:Nat} {x:Value} {fs:List (Str × PV)} (r:R K.hb s.heap σ α) (vx:VR s.heap α (.inst c i) x) (hs:σ[i]?=some (.ns fs)) :
  ∃ a D oD,x=.ref a/\InstAt s.heap a (instObj c D) c (some oD)/\∀ n,∃ q,lookIn n oD=some q/\(∀ v,ai n fs=some v->∃ u,q=some u/\VR s.heap α v u)/\(ai n fs=none->q=none):=by
 obtain ⟨a,D,rfl,ea,ha,hi⟩:=abK vx
 obtain ⟨m,ns1,o1,o2⟩:=r.obj i _ D hs hi
 obtain ⟨oD,esD,epD,eD,dD,kD,_,fD⟩:=ns1
 refine ⟨a,D,oD,rfl,⟨ea,rfl,rfl,eD⟩,fun n=>⟨m n,?_,o1 n,o2 n⟩⟩
 rw [aep dD kD,fD]
theorem aeF {v:PV} {u:Value} (h:VR s.heap α v u):handedIn u=true:=by cases h <;> rfl
theorem abn {F:Frag} {b n:Str} {c:Nat} {o:PV} {x:Value} (B:gq K F b c) (hn:n ∈ dv) (r:R K.hb s.heap σ α) (vx:VR s.heap α o x):Runs K VR A (getAttr x n true) (wB c o n σ) s α:=by
 intro hc tk
 unfold wB at hc ⊢
 cases o with
 | inst c' i =>
  dsimp only at hc ⊢
  by_cases q:c'=c
  ·subst q
   rw [if_pos rfl] at hc ⊢
   cases hs:σ[i]? with
   | none=>rw [hs] at hc; exact absurd rfl hc
   | some mo =>
    rw [hs] at hc
    cases mo with
    | ns fs =>
     dsimp only at hc ⊢
     cases hv:ai n fs with
     | none=>rw [hv] at hc; exact absurd rfl hc
     | some v =>
      obtain ⟨a,D,oD,rfl,I,H⟩:=abL r vx hs
      obtain ⟨q,h1,h2,_⟩:=H n
      obtain ⟨u,rfl,vu⟩:=h2 v hv
      exact get_value (r.frag B.inn) I B.geta (findObj_own B.hasd (B.none n hn) rfl h1) (aeF vu) (.here r vu)
    | _=>exact absurd rfl hc
  ·rw [if_neg q] at hc; exact absurd rfl hc
 | _=>exact absurd rfl hc
theorem abo {o:Expr} {n:Str} {pos:Pos} {x:X} {b:Str} {cl:Nat} (c:Ctx K A T C) (S:SE K A C f) (hb:T.brd=some (b,cl)) (hn0:fO o=true) (hm:n ∈ dv) (h1:f N o=some x)
  (hN:env.scope.names=N) (hn:aP K.hb env) (E:am env ρ s.heap α) (r:R K.hb s.heap σ α):Runs K VR A (eval (.Attribute o n pos) env) (ev C (.attr cl x n) ρ σ) s α:=by
 obtain ⟨F,B,_⟩:=c.brd b cl hb
 rw [abX,arm_eval_Attribute,lz hn0]
 refine Runs.bind ((S N o x h1).2 env ρ σ s α hN hn E r).1 fun va σ₁ α₁ u1 s₁ e1 x1 r1 v1 m1=>Runs.standAt ?_
 intro hc tk
 exact wpAny_bind (wpAny_holding (wpAny_mono (abn B hm r1 v1 hc tk) (fun u s' hp=>wpAny_bind (wpAny_letTemporaryGo (wpAny_pure hp))) fun zz zz e=>e))
theorem ae5 {prog:Program} {w:World} {o:Expr} {name:Str} {apos pos:Pos} {args:List Expr} {Q:Value->Shared->Prop} {E:Value->Shared->Prop}
  (hbase:attributeBase o name env (eval o env)=eval o env)
  (hfew:methodCallForm (args.length + ([]:List Keyword).length) (backTo pos (starEach args env)) (backToKw pos (keywordEach [] env))=true) (hline:(apos.endLine == pos.line)=true)
  (h:wpAny (model prog w) A (eval o env) (fun ov s₁=>∀ pl,wpAny (model prog w) A (getMethod ov name pl) (fun q aD=>wpAny (model prog w) A (callWith pos q.1 q.2 (backTo pos (starEach args env)) []) Q E aD) E s₁) E s) :
  wpAny (model prog w) A (eval (.Call (.Attribute o name apos) args [] pos) env) Q E s:=by
 rw [arm_eval_Call,hbase]
 refine wpAny_bind (wpAny_mono h (fun ov s₁ dk=>wpAny_bind (wpAny_standAt ?_)) fun zz zz e=>e)
 have hpos:methodCallPos true o env apos pos=pure pos:=by unfold methodCallPos; simp [hline]
 unfold methodCall
 rw [hfew]
 refine wpAny_bind (wpAny_holding ?_)
 exact wpAny_mono (dk _) (fun q aD ft=>wpAny_bind (wpAny_of_eq hpos ft)) fun zz zz e=>e
theorem abb {o:Expr} {es:List Expr} {mn:Str} {apos pos:Pos} {x xs:X} {b:Str} {cl j:Nat} (c:Ctx K A T C) (S:SE K A C f) (hb:T.brd=some (b,cl)) (hj:T.meths[j]?=some mn) (hn0:fO o=true) (hline:(apos.endLine == pos.line)=true) (hlen:es.length < 20)
  (h1:f N o=some x) (h2:fB (f N) es=some xs) (hN:env.scope.names=N) (hn:aP K.hb env) (E:am env ρ s.heap α) (r:R K.hb s.heap σ α) :
  Runs K VR A (eval (.Call (.Attribute o mn apos) es [] pos) env) (ev C (.meth cl (T.fns.length + j) mn x xs) ρ σ) s α:=by
 obtain ⟨F,B,_,HM⟩:=c.brd b cl hb
 obtain ⟨ma,mo,fd,q1,q2,q3,q4,hcall⟩:=HM j mn hj
 rw [abW]
 intro hc tk
 obtain ⟨pl1,pl2⟩:=mQ (env:=env) (pos:=pos) S h2
 refine ae5 (lz hn0) (by unfold methodCallForm; rw [pl1]; simp [backToKw,show keywordEach [] env=[] from rfl]; omega) hline ?_
 refine Runs.use ((S N o x h1).2 env ρ σ s α hN hn E r).1 hc tk fun va σ₁ α₁ y1 s₁ e1 hc1 x1 r1 v1 m1 tk1 pl=>?_
 rw [e1]
 change mV C cl (T.fns.length + j) mn va _ σ₁ ≠ _ at hc1
 show wpAny _ _ _ (fun q aD=>wpAny _ _ _ (bm K VR (mV C cl (T.fns.length + j) mn va _ σ₁) s α) (bi K A (mV C cl (T.fns.length + j) mn va _ σ₁) s α) aD) (bi K A (mV C cl (T.fns.length + j) mn va _ σ₁) s α) _
 unfold mV at hc1 ⊢
 cases va with
 | inst c' i =>
  dsimp only at hc1 ⊢
  by_cases q:c'=cl
  ·subst q
   rw [if_pos rfl] at hc1 ⊢
   cases hs:σ₁[i]? with
   | none=>rw [hs] at hc1; exact absurd rfl hc1
   | some mo' =>
    rw [hs] at hc1
    cases mo' with
    | ns fs =>
     dsimp only at hc1 ⊢
     cases hv:ai mn fs with
     | some v=>rw [hv] at hc1; exact absurd rfl hc1
     | none =>
      rw [hv] at hc1
      dsimp only at hc1 ⊢
      obtain ⟨a,D,oD,rfl,I,H⟩:=abL r1 v1 hs
      obtain ⟨q,g1,_,g2⟩:=H mn
      obtain rfl:=g2 hv
      refine method_fn (r1.frag B.inn) I B.geta B.getr q1 q2 (by show (lookIn mn oD).map (·.isSome)=_; rw [g1]; rfl) ?_
      have He:=ga (pos:=pos) S h2 hN hn (E.ext x1 .nil) r1
      refine Calls.callWith_function (o:=mo) (fd:=fd) (qi ?_ pl2)
      refine Runs.useL x1 m1 He hc1 tk1 fun vs σ₂ aQ us aD e2 hc2 x2 r2 v2 m2 tk2=>⟨⟨r2.base _ _ q3,q4⟩,?_⟩
      rw [e2]
      exact (hcall (.inst c' i::vs) _ aD σ₂ aQ r2 (.cons (v1.ext x2) v2)).endL (x1.trans x2) (m1.trans m2) hc2 tk2
    | _=>exact absurd rfl hc1
  ·rw [if_neg q] at hc1; exact absurd rfl hc1
 | _=>exact absurd rfl hc1
end
end Mine
namespace Mine
open PySem PyProof.Rows
theorem lA:∀ {names:List (Str × NameKind)},pR names=true->agJ names
 | [],_=>⟨fun i j x k k' h=>by simp at h,fun i x k h=>by simp at h,fun i x k h=>by simp at h⟩
 | (y,k0)::r,h=>by
  simp only [pR,Bool.and_eq_true,Bool.not_eq_true',Bool.or_eq_true,beq_iff_eq] at h
  obtain ⟨⟨⟨h1,h2⟩,h3⟩,h4⟩:=h
  have ih:=lA h4
  have no:∀ (i:Nat) (k:NameKind),r[i]? ≠ some (y,k):=fun i k e=>by
   have hm:=List.mem_of_getElem? e
   rw [List.any_eq_false] at h1
   exact h1 _ hm (by simp)
  refine ⟨fun i j x k k' e1 e2=>?_,fun i x k e=>?_,fun i x k e=>?_⟩
  ·cases i with
   | zero =>
    cases j with
    | zero=>rfl
    | succ j =>
     simp at e1 e2
     obtain ⟨rfl,rfl⟩:=e1
     exact absurd e2 (no j k')
   | succ i =>
    cases j with
    | zero =>
     simp at e1 e2
     obtain ⟨rfl,rfl⟩:=e2
     exact absurd e1 (no i k)
    | succ j =>
     simp at e1 e2
     rw [ih.uniq i j x k k' e1 e2]
  ·cases i with
   | zero=>simp at e; obtain ⟨rfl,rfl⟩:=e; exact h2
   | succ i=>simp at e; exact ih.nodbg i x k e
  ·cases i with
   | zero =>
    simp at e; obtain ⟨rfl,rfl⟩:=e
    rcases h3 with (h3 | h3) | h3
    ·exact .inl h3
    ·exact .inr (.inl h3)
    ·exact .inr (.inr h3)
   | succ i=>simp at e; exact ih.kinds i x k e
section
variable {K:Kt} {A:Around} {T:bf} {C:bn} {f:List (Str × NameKind)->Expr->Option X} {N:List (Str × NameKind)} {env:Env} {ρ:aq} {σ:ab} {s:Shared} {α:AL}
theorem wx {fz:Bool} {t:Nat} {cap:List (Option Nat)} {elt cond it:X} (hhd:C.hd=false):ev C (.comp fz t cap elt cond it) ρ σ =
  iC fz (fun v σ=>tst C cond ((bt cap ρ).set t (some v)) σ) (fun v σ=>ev C elt ((bt cap ρ).set t (some v)) σ) (evIt C it ρ σ):=by
 rw [iA,hhd]
 unfold iC fu
 rw [cond_false]
 congr 1
structure sx (T:bf) (N:List (Str × NameKind)) (f:List (Str × NameKind)->Expr->Option X) (elt:Expr) (x:Str) (iter:Expr) (ifs:List Expr) (scope:Scope) (fz:Bool) (t:Nat) (e c i:X):Prop where
 kind:scope.kind=.function
 sc:pR (br N scope.names)=true
 cells:∀ p ∈ scope.names,p.2 ≠ .cell
 tgt:(br N scope.names)[t]?=some (x,NameKind.local)
 it:tR T N (f N) iter=some i
 elt:f (br N scope.names) elt=some e
 cond:afs (f (br N scope.names)) ifs=some c
theorem xK {elt iter:Expr} {x:Str} {pos:Pos} {ifs:List Expr} {scope:Scope} {y:X} {P:X->Prop} (h:u7 T N f elt x iter ifs scope pos=some y)
  (k:∀ t e c i,sx T N f elt x iter ifs scope (!(T.muts.contains (pos.line,pos.col))) t e c i->P (.comp (!(T.muts.contains (pos.line,pos.col))) t (et N (br N scope.names)) e c i)):P y:=by
 unfold u7 at h
 refine aK h fun hk h=>aS h fun t zz h=>aK h fun ht h=>lK h fun i e c h1 h2 h3=>k t e c i ?_
 obtain ⟨hk,hk3⟩:=cM hk
 obtain ⟨hk1,hk2⟩:=cM hk
 exact ⟨eq_of_beq hk1,hk2,fun p hp=>bne_iff_ne.mp (List.all_eq_true.mp hk3 p hp),eq_of_beq ht,h1,h2,h3⟩
theorem sx.ok {elt iter:Expr} {x:Str} {ifs:List Expr} {scope:Scope} {fz:Bool} {t:Nat} {e c i:X} (q:sx T N f elt x iter ifs scope fz t e c i) (hN:env.scope.names=N):gm env.scope.names scope t x:=by
 subst hN; exact ⟨q.kind,lA q.sc,q.cells,q.tgt⟩
theorem ly {scope:Scope} {C':Addr} (hN:env.scope.names=N) (E:am env ρ s.heap α):(bP scope C' env).scope.names=br N scope.names:=by rw [<- hN]; exact ki E.ok.kind
theorem qf {scope:Scope} (hN:env.scope.names=N):jK scope env ρ=bt (et N (br N scope.names)) ρ:=by rw [<- hN]
theorem wv {ifs:List Expr} {cond:X} {M:List (Str × NameKind)} {cenv:Env} (S:SE K A C f) (h:afs (f M) ifs=some cond) (hM:cenv.scope.names=M) (n':aP K.hb cenv) (E':am cenv ρ s.heap α) (r':R K.hb s.heap σ α) :
  Runs K eZ A (forIn ifs true fun c r=>if r=true then do let ok <- isTrue c cenv (eval c cenv); pure (ForInStep.yield ok) else pure (ForInStep.yield r)) (tst C cond ρ σ) s α:=by
 cases ifs with
 | nil =>
  obtain rfl:=oi h
  exact fun zz zz=>wpAny_tests_nil ⟨true,σ,α,rfl,.refl,r',rfl,.refl _⟩
 | cons c1 cs =>
  change aH _ _=_ at h
  refine aK h fun h0 h=>?_
  rw [List.isEmpty_iff.mp h0]
  exact fun hc tk=>wpAny_tests_one (((S _ c1 cond h).2 _ _ σ s α hM n' E' r').2 hc tk)
theorem tH {elt iter:Expr} {x:Str} {px pos:Pos} {ifs:List Expr} {scope:Scope} {fz:Bool} {t:Nat} {e cc i:X} (c:Ctx K A T C) (S:SE K A C f) (q:sx T N f elt x iter ifs scope fz t e cc i)
  (hN:env.scope.names=N) (hn:aP K.hb env) (E:am env ρ s.heap α) (r:R K.hb s.heap σ α) :
  Runs K VR A (eval (.ListComp elt [⟨.Name x px,iter,ifs,0⟩] scope pos) env) (ev C (.comp fz t (et N (br N scope.names)) e cc i) ρ σ) s α:=by
 cases hhd:C.hd with
 | true=>rw [iA,hhd]; exact fun hc=>absurd rfl hc
 | false =>
 rw [wx hhd]
 obtain ⟨hit',hpl⟩:=lg c hhd S q.it hN hn E r
 refine wY (q.ok hN) E hit' (fun C' v s' σ' α' n' E' r'=>?_) (fun C' v s' σ' α' n' E' r'=>?_) c.fr hn r (lH hpl)
 ·rw [qf hN] at E'
  exact wv S q.cond (ly hN E) n' E' r'
 ·rw [qf hN] at E'
  exact ((S _ elt e q.elt).2 _ _ σ' s' α' (ly hN E) n' E' r').1
theorem aaV {l:Expr} {os:List CmpOp} {rs:List Expr} {pos:Pos} {x:X} (c:Ctx K A T C) (S:SE K A C f) (h:acp (f N) l os rs=some x):kO K A C N (.Compare l os rs pos) x:=by
 unfold acp at h
 cases os with
 | nil=>contradiction
 | cons o os =>
  cases rs with
  | nil=>contradiction
  | cons r1 rs =>
   cases os with
   | nil =>
    change aH _ _=_ at h
    refine aK h fun h0 h=>?_
    rw [List.isEmpty_iff.mp h0]
    exact lK h fun o' a b h1 h2 h3 env ρ σ s α hN hn E r=>adi c S h1 h2 h3 hN hn E r
   | cons o2 os =>
    cases rs with
    | nil=>contradiction
    | cons r2 rs =>
     change aH _ _=_ at h
     refine aK h fun h0 h=>aS h fun o' h1 h=>?_
     obtain ⟨h0,h0'⟩:=cM h0
     rw [List.isEmpty_iff.mp h0,List.isEmpty_iff.mp h0']
     exact akk h fun a b o2' b2 h2 h3 h4 h5 env ρ σ s α hN hn E r=>abl c S h1 h4 h2 h3 h5 hN hn E r
theorem aaQ {g:Str} {a:Expr} {p pos:Pos} {x:X} (c:Ctx K A T C) (S:SE K A C f) (hg:iq N g=true) (hb':g ∈ T.bins) (h:acl T N (f N) pos g a=some x):kO K A C N (.Call (.Name g p) [a] [] pos) x:=by
 unfold acl at h
 refine gP h (fun y hls h'=>?_) fun zz h=>?_
 rotate_left
 ·exact ez h fun b1 x1 hb1 hx1=>bu (fun zz zz=>rfl) (fun zz zz=>rfl) fun hN hn E r=>agG c S hb1 hg hb' hx1 hN hn E r
 unfold aer at hls
 clear h
 refine aS hls fun q hq hls1=>aK hls1 fun hcond hls2=>?_
 clear hls1 hls
 have hq:=uP hq
 obtain ⟨g2,p2,a2,pos2⟩:=q
 obtain rfl:=oi hls2
 simp only [Bool.and_eq_true,beq_iff_eq,isB] at hcond
 obtain ⟨⟨h1,h2⟩,hg2,hb2⟩:=hcond
 subst h1 h2 hq
 exact c7 h' fun z hz=>bu (fun zz zz=>rfl) (fun zz zz=>rfl) fun hN hn E r=>yy c S hg hb' hg2 (by simpa using hb2) hz hN hn E r
theorem aaP {g:Str} {a b:Expr} {p pos:Pos} {x:X} (c:Ctx K A T C) (S:SE K A C f) (hg:iq N g=true) (hb':g ∈ T.bins) (h:aci T N (f N) g a b=some x):kO K A C N (.Call (.Name g p) [a,b] [] pos) x:=by
 unfold aci at h
 refine ae1 h (fun hcond h=>?_) fun h=>aK h fun hcond h=>?_
 ·obtain rfl:=eq_of_beq hcond
  refine aS h fun q hq h=>?_
  rw [fQ hq]
  refine aK h fun hcond h=>?_
  obtain ⟨hgt,hbt⟩:=cM hcond
  exact ez h fun x1 ty hx1 hty=>bu (fun zz zz=>rfl) (fun zz zz=>rfl) fun hN hn E r=>yz c S hty hg hb' hgt (by simpa using hbt) hx1 hN hn E r
 ·obtain rfl:=eq_of_beq hcond
  exact ez h fun x1 y1 hx1 hy1=>bu (fun zz zz=>rfl) (fun zz zz=>rfl) fun hN hn E r=>aba c S hg hb' hx1 hy1 hN hn E r
theorem zt {g:Str} {args:List Expr} {p pos:Pos} {x:X} (c:Ctx K A T C) (S:SE K A C f) (h:zu T N (f N) pos g args=some x):kO K A C N (.Call (.Name g p) args [] pos) x:=by
 unfold zu at h
 refine aK h fun hg h=>gP h (fun i hi h=>aK h fun hne h=>c7 h fun xs hq=>bu (fun zz zz=>rfl) (fun zz zz=>rfl) fun hN hn E r=>?_) fun zz h=>gP h (fun y hy h=>by obtain rfl:=oi h; exact aaR c S hg hy) fun zz h=>aK h fun hb h=>?_
 ·have hi':T.fns[i]?=some g:=by
   obtain ⟨h1,h2,_⟩:=List.findIdx?_eq_some_iff_getElem.mp hi
   rw [List.getElem?_eq_getElem h1,eq_of_beq h2]
  exact aaF c S hi' hg (fun q=>by subst q; contradiction) hq hN hn E r
 ·have hb':g ∈ T.bins:=by simpa using hb
  cases args with
  | nil=>contradiction
  | cons a r =>
   cases r with
   | nil=>exact aaQ c S hg hb' h
   | cons b r =>
    change aH _ _=_ at h
    refine aK h fun h0 h=>?_
    rw [List.isEmpty_iff.mp h0]
    exact aaP c S hg hb' h
theorem aeA {e:Expr} {q:List (Option Expr) × List Expr × Pos} (h:aeB e=some q):e=.Dict q.1 q.2.1 q.2.2:=by
 cases e with
 | Dict ks vs p=>obtain rfl:=oi h; rfl
 | _=>contradiction
theorem aaT {ks:List (Option Expr)} {vs:List Expr} {m:Str} {args:List Expr} {dpos apos pos:Pos} {x:X} (c:Ctx K A T C) (S:SE K A C f) (hl:(apos.endLine == pos.line)=true) (h:aco (f N) ks vs m args=some x):kO K A C N (.Call (.Attribute (.Dict ks vs dpos) m apos) args [] pos) x:=by
 unfold aco at h
 cases args with
 | nil=>contradiction
 | cons k r1 =>
  dsimp only at h
  refine aS h fun d h0 h=>aK h fun hm h=>aS h fun l h1 h=>aK h fun hc h'=>?_
  obtain rfl:=eq_of_beq hm
  obtain rfl:=vy h0
  simp only [Bool.and_eq_true,decide_eq_true_eq,Bool.not_eq_true',List.isEmpty_eq_false_iff] at hc
  obtain ⟨⟨q1,q2⟩,q3⟩:=hc
  exact lK h' fun vv kx dx h2 h3 h4=>bu (fun zz zz=>rfl) (fun zz zz=>rfl) fun hN hn E r=>aap c S hl h1 h2 q1 q2 q3 h3 h4 hN hn E r
theorem zp {o:Expr} {m:Str} {args:List Expr} {apos pos:Pos} {x:X} (c:Ctx K A T C) (S:SE K A C f) (hl:(apos.endLine == pos.line)=true) (h:zq T (f N) o m args=some x):kO K A C N (.Call (.Attribute o m apos) args [] pos) x:=by
 unfold zq at h
 refine gP h (fun q hd h=>?_) fun zz h=>aK h fun hnc h=>?_
 ·rw [aeA hd]; exact aaT c S hl h
 ·refine ae1 h (fun hm h=>aS h fun q hb h=>aS h fun j hj h=>aK h fun hlen h=>ez h fun ox xs h1 h2=>bu (fun zz zz=>rfl) (fun zz zz=>rfl) fun hN hn E r=>?_) fun h=>?_
  ·have hj':T.meths[j]?=some m:=by
    obtain ⟨g1,g2,_⟩:=List.findIdx?_eq_some_iff_getElem.mp hj
    rw [List.getElem?_eq_getElem g1,eq_of_beq g2]
   exact abb (b:=q.1) c S hb hj' hnc hl (of_decide_eq_true hlen) h1 h2 hN hn E r
  cases args with
  | nil=>exact ez h fun mm ox h0 h1=>bu (fun zz zz=>rfl) (fun zz zz=>rfl) fun hN hn E r=>acU S h0 hl hnc h1 hN hn E r
  | cons a r =>
   cases r with
   | nil=>exact lK h fun mm ox ax h0 h1 h2=>bu (fun zz zz=>rfl) (fun zz zz=>rfl) fun hN hn E r=>ael c S h0 hl hnc h1 h2 hN hn E r
   | cons b r =>
    contradiction
theorem ado {e:Expr} {q:Option Expr × Option Expr × Option Expr × Pos} (h:ab1 e=some q):e=.Slice q.1 q.2.1 q.2.2.1 q.2.2.2:=by
 cases e with
 | Slice lo hi st p=>obtain rfl:=oi h; rfl
 | _=>contradiction
theorem zk {o i:Expr} {pos:Pos} {x:X} (c:Ctx K A T C) (S:SE K A C f) (h:zl (f N) o i=some x):kO K A C N (.Subscript o i pos) x:=by
 unfold zl at h
 refine gP h (fun q hi h=>?_) fun hi h=>ez h fun a b h1 h2=>bu (fun zz zz=>rfl) (fun zz zz=>rfl) fun hN hn E r=>acu c S (fun l u st p q=>by subst q; contradiction) h1 h2 hN hn E r
 have hi:=ado hi
 obtain ⟨lo,hi,st,p⟩:=q
 subst hi
 cases st with
 | none=>exact lK h fun ox lx hx h1 h2 h3=>bu (fun zz zz=>rfl) (fun zz zz=>rfl) fun hN hn E r=>zC S h1 h2 h3 hN hn E r
 | some st=>contradiction
theorem u6 {elt:Expr} {gens:List Comprehension} {scope:Scope} {pos:Pos} {x:X} (h:oE T N f elt gens scope pos=some x):∃ z p iter ifs,gens=[⟨.Name z p,iter,ifs,0⟩]/\u7 T N f elt z iter ifs scope pos=some x:=by
 unfold oE at h
 refine aS h fun g hg h=>aK h fun ha h=>aS h fun q hq h=>?_
 obtain ⟨tg,iter,ifs,asy⟩:=g
 obtain rfl:=fQ hq
 obtain rfl:=eq_of_beq ha
 exact ⟨q.1,q.2,iter,ifs,vy hg,h⟩
theorem yt {elt:Expr} {gens:List Comprehension} {scope:Scope} {pos:Pos} {x:X} (c:Ctx K A T C) (S:SE K A C f) (h:oE T N f elt gens scope pos=some x):kO K A C N (.ListComp elt gens scope pos) x:=by
 obtain ⟨z,p,iter,ifs,rfl,h⟩:=u6 h
 exact xK h fun t e cc i q=>bu (fun zz zz=>rfl) (fun zz zz=>rfl) fun hN hn E r=>tH c S q hN hn E r
theorem zm (c:Ctx K A T C) (S:SE K A C f):SE K A C (ady T f):=by
 intro N e x h
 cases e with
 | Constant cc _ _=>exact ⟨rfl,c7 h fun v hq=>bu (fun zz zz=>rfl) (fun zz zz=>rfl) fun zz zz zz r=>abh hq r⟩
 | Name z p=>exact ⟨rfl,zn c h⟩
 | BoolOp o es pos =>
  cases o with
  | And=>exact ⟨rfl,c7 h fun v hq env ρ σ s α hN hn E r=>afd S hq hN hn E r⟩
  | Or=>exact ⟨rfl,c7 h fun v hq env ρ σ s α hN hn E r=>afV S hq hN hn E r⟩
 | UnaryOp o a pos =>
  cases o with
  | Not=>exact ⟨rfl,c7 h fun v hq env ρ σ s α hN hn E r=>acJ S hq hN hn E r⟩
  | USub=>exact ⟨rfl,c7 h fun v hq=>bu (fun zz zz=>rfl) (fun zz zz=>rfl) fun hN hn E r=>acL S hq hN hn E r⟩
  | _=>contradiction
 | BinOp l o r' pos=>exact ⟨rfl,lK h fun zz zz zz ho ha hb=>bu (fun zz zz=>rfl) (fun zz zz=>rfl) fun hN hn E r=>adl c S ho ha hb hN hn E r⟩
 | Compare l os rs pos=>exact ⟨rfl,aaV c S h⟩
 | List es pos=>exact ⟨rfl,c7 h fun v hq=>bu (fun zz zz=>rfl) (fun zz zz=>rfl) fun hN hn E r=>abd S hq hN hn E r⟩
 | Tuple es k pos=>exact ⟨rfl,c7 h fun v hq=>bu (fun zz zz=>rfl) (fun zz zz=>rfl) fun hN hn E r=>acg S hq hN hn E r⟩
 | Call fn args kws pos =>
  refine ⟨rfl,?_⟩
  change aH _ _=_ at h
  refine aK h fun hk h=>?_
  rw [List.isEmpty_iff.mp hk]
  cases fn with
  | Name g p=>exact zt c S h
  | Attribute o m apos =>
   change aH _ _=_ at h
   exact aK h fun hl h=>zp c S hl h
  | _=>contradiction
 | Attribute o n pos =>
  refine ⟨rfl,aS h fun q hb h=>aK h fun hc h=>c7 h fun ox h1=>?_⟩
  obtain ⟨hc1,hc2⟩:=cM hc
  exact bu (fun zz zz=>rfl) (fun zz zz=>rfl) fun hN hn E r=>abo (b:=q.1) c S hb hc1 (List.contains_iff_mem.mp hc2) h1 hN hn E r
 | Subscript o i pos=>exact ⟨rfl,zk c S h⟩
 | Dict ks vs pos =>
  change aH _ _=_ at h
  refine ⟨rfl,aK h fun hc h=>?_⟩
  obtain ⟨h1,h2⟩:=cM hc
  rw [List.isEmpty_iff.mp h1,List.isEmpty_iff.mp h2]
  obtain rfl:=oi h
  exact bu (fun zz zz=>rfl) (fun zz zz=>rfl) fun zz zz zz r=>abg r
 | ListComp elt gens scope pos=>exact ⟨rfl,yt c S h⟩
 | _=>contradiction
theorem xJ (c:Ctx K A T C):∀ n,SE K A C (trE T n)
 | 0=>fun N e x h=>by contradiction
 | n + 1=>zm c (xJ c n)
end
end Mine
namespace Mine
open PySem PyProof.Rows
section
variable {K:Kt} {A:Around} {s:Shared} {α:AL} {σ:ab}
end
noncomputable def iu (env:Env):List Addr:=env.locals::env.cells.map (·.2)
theorem cZ {env:Env} {ρ:aq} {h:Heap} {α:AL} (E:am env ρ h α) (hd:∀ p ∈ env.cells,env.cells.lookup p.1=some p.2):∀ b ∈ iu env,∃ o,h.get? b=some o:=by
 intro b hb
 rcases List.mem_cons.mp hb with q | q
 ·subst q
  obtain ⟨m,⟨o,_,_,e,_⟩,_⟩:=E.ns
  exact ⟨o,e⟩
 ·obtain ⟨p,hp,rfl⟩:=List.mem_map.mp q
  obtain ⟨_,_,v,o,e,_⟩:=E.ca p.1 p.2 (hd p hp)
  exact ⟨o,e⟩
structure dK (hb:Bs) (env:Env):Prop where
 sc:agJ env.scope.names
 new:aP hb env
 cl:∀ p ∈ env.cells,env.cells.lookup p.1=some p.2
 inter:interactive env=false
noncomputable def ajr (c:bT) (h:Heap) (α:AL) (fl:Flow) (ρ:aq) (σ:ab):Prop:=
 match c with
 | .next ρ' σ'=>fl=.next/\ρ'=ρ/\σ'=σ
 | .brk ρ' σ'=>fl=.brk/\ρ'=ρ/\σ'=σ
 | .cont ρ' σ'=>fl=.cont/\ρ'=ρ/\σ'=σ
 | .ret v ρ' σ'=>(∃ u,fl=.ret u/\VR h α v u)/\ρ'=ρ/\σ'=σ
 | _=>False
inductive hB (K:Kt) (env:Env) (c:bT) (s:Shared) (α:AL) (fl:Flow) (s':Shared):Prop where
 | mk (ρ':aq) (σ':ab) (α':AL) (x:aL (iu env) α s.heap α' s'.heap) (r:R K.hb s'.heap σ' α') (er:am env ρ' s'.heap α') (m:Sm s s') (fo:ajr c s'.heap α' fl ρ' σ'):hB K env c s α fl s'
inductive gh (K:Kt) (_A:Around) (env:Env) (c:bT) (s:Shared) (α:AL) (e:Value) (s':Shared):Prop where
 | mk (i:Nat) (ρ:aq) (σ':ab) (s₁:Shared) (α₁:AL) (nt:Bool) (h:c=.exc i ρ σ') (x:aL (iu env) α s.heap α₁ s₁.heap) (er:am env ρ s₁.heap α₁) (m:Sm s s₁) (fx:FX K s₁ α₁ i σ' nt e s'):gh K _A env c s α e s'
noncomputable def eY (K:Kt) (env:Env) (A:Around) (t:Sem Flow) (c:bT) (s:Shared) (α:AL):Prop:=
 c ≠ .stuck->K.Tk s->wpAny (model K.prog K.w) A t (hB K env c s α) (gh K A env c s α) s
section
variable {K:Kt} {A:Around} {T:bf} {C:bn} {N:List (Str × NameKind)} {env:Env} {ρ:aq} {σ:ab} {s:Shared} {α:AL}
theorem hB.lift {c:bT} {s₁:Shared} {α₁:AL} {fl:Flow} {s':Shared} (x:aL (iu env) α s.heap α₁ s₁.heap) (m:Sm s s₁) (p:hB K env c s₁ α₁ fl s'):hB K env c s α fl s':=by
 obtain ⟨ρ',σ',α',x',r,E,m',fo⟩:=p
 exact ⟨ρ',σ',α',x.trans x',r,E,m.trans m',fo⟩
theorem gh.lift {c:bT} {s₁:Shared} {α₁:AL} {e:Value} {s':Shared} (x:aL (iu env) α s.heap α₁ s₁.heap) (m:Sm s s₁) (p:gh K A env c s₁ α₁ e s'):gh K A env c s α e s':=by
 obtain ⟨i,ρ,σ',aD,aQ,nt,h,x',E,m',fx⟩:=p
 exact ⟨i,ρ,σ',aD,aQ,nt,h,x.trans x',E,m.trans m',fx⟩
theorem bi.toS {β:Type} {c:ac β} {f:β->ab->bT} {e:Value} {s':Shared} (E:am env ρ s.heap α) (p:bi K A c s α e s'):gh K A env (c.toS ρ f) s α e s':=by
 obtain ⟨i,σ',h,nt,fx⟩:=p
 exact ⟨i,ρ,σ',s,α,nt,by rw [h]; rfl,.refl,E,.refl s,fx⟩
theorem ej (F:dK K.hb env) (E:am env ρ s.heap α) {α':AL} {h':Heap} (x:aL [] α s.heap α' h'):aL (iu env) α s.heap α' h':=
 x.mono (by simp) (cZ E F.cl)
theorem Runs.useS {β γ:Type} {Rel:Heap->AL->β->γ->Prop} {t:Sem γ} {c:ac β} {f:β->ab->bT} {W:γ->Shared->Prop} (E:am env ρ s.heap α) (H:Runs K Rel A t c s α) (hc:c.toS ρ f ≠ .stuck) (tk:K.Tk s)
  (N:∀ b σ' α' y s',c=.ok b σ'->f b σ' ≠ .stuck->aL [] α s.heap α' s'.heap->R K.hb s'.heap σ' α'->Rel s'.heap α' b y->Sm s s'->K.Tk s'->W y s'):wpAny (model K.prog K.w) A t W (gh K A env (c.toS ρ f) s α) s:=by
 have h1:c ≠ .stuck:=by rintro rfl; exact hc rfl
 refine wpAny_mono (dy (H h1 tk)) (fun y s' hp=>?_) fun e s' hx=>hx.1.toS E
 obtain ⟨⟨b,σ',α',rfl,x,r,v,m⟩,tl⟩:=hp
 exact N b σ' α' y s' rfl hc x r v m (Kt.Tk.up tk tl)
theorem j1 {i:Nat} {x:Str} {k:NameKind} {v:PV} {u:Value} {Q:Unit->Shared->Prop} {X:Value->Shared->Prop} (F:dK K.hb env) (r:R K.hb s.heap σ α) (E:am env ρ s.heap α)
  (hn:env.scope.names[i]?=some (x,k)) (hk:k=.local\/k=.cell) (vu:VR s.heap α v u)
  (hQ:∀ s',R K.hb s'.heap σ α->am env (ρ.set i (some v)) s'.heap α->aL (iu env) α s.heap α s'.heap->Sm s s'->Q () s') :
  wpAny (model K.prog K.w) A (storeName env x u) Q X s:=by
 rcases hk with rfl | rfl
 ·refine th F.sc.uniq r E F.new.l hn vu fun s' r' E' x' zz m'=>hQ s' r' E' (x'.mono (by simp [iu]) (cZ E F.cl)) m'
 ·refine acy F.sc.uniq r E F.new hn vu fun c s' hc r' E' x' m'=>hQ s' r' E' (x'.mono ?_ (cZ E F.cl)) m'
  intro b hb
  simp at hb; subst hb
  exact bG _ (List.mem_map.mpr ⟨_,mem_of_lookup hc,rfl⟩)
theorem jO {e:Expr} {t:Option Expr} {line:Nat} (h:iN e=false):swapsWith e t line env=pure false:=by
 cases e <;> first | rfl | contradiction
theorem ae9 {x:Str} {p pos:Pos} {e:Expr} {i:Nat} {k:NameKind} {y:X} (F:dK K.hb env) (hcp:iN e=false) (hn:env.scope.names[i]?=some (x,k)) (hk:k=.local\/k=.cell)
  (H:Runs K VR A (eval e env) (ev C y ρ σ) s α) (E:am env ρ s.heap α) {n:Nat} :
  eY K env A (exec (.Assign [.Name x p] e pos) env) (ex C n (.asg i y) ρ σ) s α:=by
 change eY K env A _ ((ev C y ρ σ).toS ρ fun v σ=>.next (ρ.set i (some v)) σ) s α
 intro hc tk
 refine wpAny_Assign_Name (Runs.useS E H hc tk fun v σ₁ α₁ u s₁ e1 hc1 x1 r1 v1 m1 tk1=>?_) (jO hcp)
 refine j1 F r1 (E.ext x1 .nil) hn hk v1 fun aD r2 E2 x2 m2=>?_
 rw [e1]
 exact ⟨_,_,_,(ej F E x1).trans x2,r2,E2,m1.trans m2,rfl,rfl,rfl⟩
theorem adc {e:Expr} {pos:Pos} {y:X} (F:dK K.hb env) (hcp:iN e=false)
  (H:Runs K VR A (eval e env) (ev C y ρ σ) s α) (E:am env ρ s.heap α) {n:Nat} :
  eY K env A (exec (.Expr e pos) env) (ex C n (.expr y) ρ σ) s α:=by
 change eY K env A _ ((ev C y ρ σ).toS ρ fun zz σ=>.next ρ σ) s α
 intro hc tk
 refine wpAny_Expr_any (Runs.useS E H hc tk fun v σ₁ α₁ u s₁ e1 hc1 x1 r1 v1 m1 tk1=>?_) F.inter (jO hcp)
 rw [e1]
 exact ⟨ρ,σ₁,α₁,ej F E x1,r1,E.ext x1 .nil,m1,rfl,rfl,rfl⟩
theorem adV {e:Expr} {pos:Pos} {y:X} (F:dK K.hb env)
  (H:Runs K VR A (eval e env) (ev C y ρ σ) s α) (E:am env ρ s.heap α) {n:Nat} :
  eY K env A (exec (.Return (some e) pos) env) (ex C n (.ret y) ρ σ) s α:=by
 change eY K env A _ ((ev C y ρ σ).toS ρ fun v σ=>.ret v ρ σ) s α
 intro hc tk
 refine wpAny_Return_some (Runs.useS E H hc tk fun v σ₁ α₁ u s₁ e1 hc1 x1 r1 v1 m1 tk1=>?_)
 rw [e1]
 exact ⟨ρ,σ₁,α₁,ej F E x1,r1,E.ext x1 .nil,m1,⟨u,rfl,v1⟩,rfl,rfl⟩
theorem aaY {q:Nat} {l:Addr} {es:List ((Str × Int) × PV)} {p v:PV} {k:Str × Int} {x u:Value} {Q:Unit->Shared->Prop} {X:Value->Shared->Prop} (hA:dO A) (r:R K.hb s.heap σ α) (hs:σ[q]?=some (.dp es)) (el:α.ix[q]?=some l)
  (hk:eR p=some k) (vp:VR s.heap α p x) (vv:VR s.heap α v u) (hl:es.length < ao)
  (hQ:∀ s',R K.hb s'.heap (σ.set q (.dp (cq k v es))) α->aL [] α s.heap α s'.heap->Sm s s'->Q () s'):wpAny (model K.prog K.w) A (setItem (.ref l) x u) Q X s:=by
 obtain ⟨xs,h1,h2,h3,h4⟩:=sT r hs el
 obtain ⟨b,rfl,hb,hbn⟩:=vG (K:=K) hk vp
 have hlen:xs.length <= sizeLine:=by
  have e:=congrArg List.length h2
  simp only [List.length_map,kvsOf] at e
  rw [e]
  exact b8 (Nat.le_of_lt hl)
 refine wpAny_setItem_heap (hsz:=hlen) (vm hA) hb h1 fun h' hd' sb=>?_
 obtain ⟨o',es',ep',e',_⟩:=id hd'
 have hkv:=aaJ p0 (k:=k) h2 h4 vv
 obtain ⟨r',x'⟩:=r.set (m:=.dp (cq k v es)) el (fun b o hb e=>(sb.2 b hb).trans e) e' fun x'=>⟨storedH xs (nQ k) b u,hd',by
   have:=hkv.1
   rw [<- kvsOf_storedH,kvsOf,List.map_map] at this
   exact this,fun y hy=>by
   rcases mem_storedH hy with ⟨z,hz,_,e2⟩ | ⟨_,e2⟩
   ·rw [e2]; exact h3 z hz
   ·rw [e2]; exact hbn,by
   have:=hkv.2
   rw [<- kvsOf_storedH,kvsOf,List.map_map] at this
   exact this.ext x'⟩
 exact hQ _ r' x' ⟨rfl,rfl⟩
theorem aaX {q:Nat} {l:Addr} {es:List (Str × PV)} {v:PV} {k:Str} {t:Tok} {u:Value} {Q:Unit->Shared->Prop} {X:Value->Shared->Prop} (r:R K.hb s.heap σ α) (hs:σ[q]?=some (.ds es)) (el:α.ix[q]?=some l)
  (vv:VR s.heap α v u) (hl:es.length < ao)
  (hQ:∀ s',R K.hb s'.heap (σ.set q (.ds (cq k v es))) α->aL [] α s.heap α s'.heap->Sm s s'->Q () s'):wpAny (model K.prog K.w) A (setItem (.ref l) (.str k t) u) Q X s:=by
 obtain ⟨kvs,h1,h2,h4⟩:=sS r hs el
 have hlen:kvs.length <= sizeLine:=by
  have e:=congrArg List.length h2
  simp only [List.length_map] at e
  rw [e]
  exact b8 (Nat.le_of_lt hl)
 refine wpAny_setItem_pairs (hsz:=hlen) rd h1 fun h' hd' sb=>?_
 obtain ⟨o',es',ep',e',_⟩:=id hd'
 have hkv:=aaJ (g:=id) (fun zz zz h=>h) (k:=k) h2 h4 vv
 obtain ⟨r',x'⟩:=r.set (m:=.ds (cq k v es)) el (fun b o hb e=>(sb.2 b hb).trans e) e' fun x'=>⟨stored kvs k u,hd',hkv.1,hkv.2.ext x'⟩
 exact hQ _ r' x' ⟨rfl,rfl⟩
theorem zy {q:Nat} {l:Addr} {m m':MO} {i v:PV} {x u:Value} {Q:Unit->Shared->Prop} {X:Value->Shared->Prop} (hA:dO A) (r:R K.hb s.heap σ α) (hs:σ[q]?=some m) (el:α.ix[q]?=some l)
  (h:oH m i v=some m') (vi:VR s.heap α i x) (vv:VR s.heap α v u)
  (hQ:∀ s',R K.hb s'.heap (σ.set q m') α->aL [] α s.heap α s'.heap->Sm s s'->Q () s'):wpAny (model K.prog K.w) A (setItem (.ref l) x u) Q X s:=by
 cases m with
 | ds es =>
  cases i with
  | str k =>
   refine vI h fun hl h=>?_
   obtain rfl:=oi h
   obtain ⟨_,rfl,_⟩:=vi.strE
   exact aaX r hs el vv hl hQ
  | _=>contradiction
 | dp es =>
  refine aS h fun k hk h=>vI h fun hl h=>?_
  obtain rfl:=oi h
  exact aaY hA r hs el hk vi vv hl hQ
 | _=>contradiction
theorem acA {o i v:PV} {P:Prop} (h:bV o i v ρ σ ≠ .stuck) (k:∀ q m m',o=.ref q->σ[q]?=some m->oH m i v=some m'->bV o i v ρ σ=.next ρ (σ.set q m')->P):P:=by
 cases o with
 | ref q =>
  cases hm:(σ[q]?).bind fun m=>oH m i v with
  | none=>exact absurd (by unfold bV; dsimp only; rw [hm]) h
  | some m'=>exact aS hm fun m h1 h2=>k q m m' rfl h1 h2 (by unfold bV; dsimp only; rw [hm])
 | _=>exact absurd rfl h
theorem aaI {o i v:Expr} {p pos:Pos} {x y z:X} (hA:dO A) (F:dK K.hb env) (hcp:iN v=false) {n:Nat}
  (H1:∀ {σ s α},am env ρ s.heap α->R K.hb s.heap σ α->Runs K VR A (eval v env) (ev C z ρ σ) s α)
  (H2:∀ {σ s α},am env ρ s.heap α->R K.hb s.heap σ α->Runs K VR A (eval o env) (ev C x ρ σ) s α)
  (H3:∀ {σ s α},am env ρ s.heap α->R K.hb s.heap σ α->Runs K VR A (eval i env) (ev C y ρ σ) s α) (E:am env ρ s.heap α) (r:R K.hb s.heap σ α) :
  eY K env A (exec (.Assign [.Subscript o i p] v pos) env) (ex C n (.asgSub x y z) ρ σ) s α:=by
 change eY K env A _ ((ev C z ρ σ).toS ρ fun v σ=>(ev C x ρ σ).toS ρ fun o σ=>(ev C y ρ σ).toS ρ fun i σ=>bV o i v ρ σ) s α
 intro hc tk
 refine wpAny_Assign_Subscript (Runs.useS E (H1 E r) hc tk fun vv σ₁ α₁ u s₁ e1 hc1 x1 r1 v1 m1 tk1=>?_) (jO hcp)
 rw [e1]
 have E1:=E.ext x1 .nil
 refine wpAny_mono (Runs.useS (env:=env) (s:=s₁) (α:=α₁) E1 (H2 E1 r1) hc1 tk1 fun vo σ₂ aQ uo aD e2 hc2 x2 r2 v2 m2 tk2=>?_) (fun zz zz q=>q) (fun zz zz q=>gh.lift (ej F E x1) m1 q)
 have E2:=E1.ext x2 .nil
 refine wpAny_mono (Runs.useS (env:=env) (s:=aD) (α:=aQ) E2 (H3 E2 r2) hc2 tk2 fun vi σ₃ sy ui cY e3 hc3 x3 r3 v3 m3 tk3=>?_) (fun zz zz q=>q) (fun zz zz q=>by
  show gh K A env ((ev C x ρ σ₁).toS ρ _) s α _ _
  rw [e2]; exact gh.lift (ej F E (x1.trans x2)) (m1.trans m2) q)
 show wpAny (model K.prog K.w) A (setItem uo ui u) _ _ cY
 refine acA hc3 fun q m m' ho hs hm he=>?_
 subst ho
 obtain ⟨l,rfl,el⟩:=v2.refE
 refine zy hA r3 hs (x3.get el) hm v3 ((v1.ext x2).ext x3) fun s' r' x' m'=>?_
 show hB K env ((ev C x ρ σ₁).toS ρ _) _ _ _ _
 rw [e2]
 show hB K env ((ev C y ρ σ₂).toS ρ _) _ _ _ _
 rw [e3]
 show hB K env (bV (.ref q) vi vv ρ σ₃) _ _ _ _
 rw [he]
 exact ⟨ρ,_,sy,ej F E (((x1.trans x2).trans x3).trans x'),r',(E2.ext x3 .nil).ext x' .nil,((m1.trans m2).trans m3).trans m',rfl,rfl,rfl⟩
end
end Mine
namespace Mine
open PySem PyProof.Rows
theorem aex {q:Prop} {_:Decidable q} {a b:bT} (h:(if q then a else .stuck)=b) (hb:b ≠ .stuck):q/\a=b:=by
 by_cases hq:q
 ·rw [if_pos hq] at h; exact ⟨hq,h⟩
 ·rw [if_neg hq] at h; exact absurd h.symm hb
section
variable {K:Kt} {A:Around} {T:bf} {C:bn} {N:List (Str × NameKind)} {env:Env} {ρ:aq} {σ:ab} {s:Shared} {α:AL}
theorem aeP {own:List Addr} {h:Heap} (E:am env ρ h α) (F:dK K.hb env) (ho:∀ b ∈ own,h.get? b=none):qk env own/\∀ b ∈ own,b ∉ iu env:=by
 have al:=cZ E F.cl
 refine ⟨⟨fun q=>?_,fun x c hc q=>?_⟩,fun b hb q=>?_⟩
 ·obtain ⟨o,e⟩:=al env.locals List.mem_cons_self
  rw [ho _ q] at e; contradiction
 ·obtain ⟨_,_,v,o,e,_⟩:=E.ca x c hc
  rw [ho _ q] at e; contradiction
 ·obtain ⟨o,e⟩:=al b q
  rw [ho _ hb] at e; contradiction
noncomputable def adr (K:Kt) (A:Around) (en:Bool) (env:Env) (target:Expr) (bind:PV->aq->Option aq):Prop:=
 ((en=false/\∀ it v,letOwnedTupleGo target it v=pure ())\/∃ elts k pos,target=.Tuple elts k pos)/\∀ (s:Shared) (σ:ab) (α:AL) (ρ ρ':aq) (p:PV) (u:Value),bind p ρ=some ρ'->am env ρ s.heap α->R K.hb s.heap σ α->VR s.heap α p u ->
  ∀ (Q:Unit->Shared->Prop) (X:Value->Shared->Prop),(∀ s',R K.hb s'.heap σ α->am env ρ' s'.heap α->aL (iu env) α s.heap α s'.heap->Sm s s'->Q () s')->wpAny (model K.prog K.w) A (assign target env u) Q X s
theorem afv {i:Nat} {x:Str} {k:NameKind} {p:Pos} (F:dK K.hb env) (hn:env.scope.names[i]?=some (x,k)) (hk:k=.local\/k=.cell):adr K A false env (.Name x p) (bw i):=
 ⟨.inl ⟨rfl,fun zz zz=>rfl⟩,fun s σ α ρ ρ' pv u hb E r v Q X hQ=>by
  obtain rfl:=oi hb
  exact wpAny_assign_Name (j1 F r E hn hk v hQ)⟩
inductive afi (K:Kt) (env:Env) (s:Shared) (xs:List PV) (Ex:AL->Heap->Prop) (St:Nat->Heap->AL->Prop) (go:List PV->aq->ab->bT) (c:bT) (k:Nat) (s₁:Shared):Prop
 | mk (i:Nat) (σ₁:ab) (α₁:AL) (ρ₁:aq) (hk:k=xs.length - i) (hi:i <= xs.length) (x:Ex α₁ s₁.heap) (r:R K.hb s₁.heap σ₁ α₁) (st:St i s₁.heap α₁) (E:am env ρ₁ s₁.heap α₁) (m:Sm s s₁) (hgo:go (xs.drop i) ρ₁ σ₁=c) (tk:K.Tk s₁):afi K env s xs Ex St go c k s₁
set_option tactic.hygienic true in
theorem x9 {target it:Expr} {body:List Stmt} {pos:Pos} {bind:PV->aq->Option aq} {ix:X} {b:S} {n:Nat} {c:bT} {en:Bool} (F:dK K.hb env) (tg:adr K A en env target bind) (hpl:dU it=true)
  (hit:eJ K A en (eval it env) (evIt C ix ρ σ) s α) (hb:∀ {ρ σ s α},am env ρ s.heap α->R K.hb s.heap σ α->eY K env A (execs body env) (ex C n b ρ σ) s α) (E:am env ρ s.heap α)
  (hcc:c=(evIt C ix ρ σ).toS ρ fun p σ=>aV p.2 bind (fun ρ σ=>ex C n b ρ σ) p.1 ρ σ) :
  eY K env A (exec (.For target it body [] pos) env) c s α:=by
 subst hcc
 intro hc tk
 have hci:evIt C ix ρ σ ≠ .stuck:=by intro q; rw [q] at hc; exact hc rfl
 refine wpAny_For (wpAny_mono (dy (hit hci tk)) (fun xv s₁ dk=>wpAny_mono (dy dk.1) (fun kP aD ft=>?_) fun zz zz q=>q.1.toS E) fun zz zz q=>q.1.toS E) (lH hpl)
 have u9:K.Tk aD:=Kt.Tk.up tk (aE dk.2 ft.2)
 obtain ⟨xs,w,σ₂,aQ,own,St,hci2,eu,cg,kr,I,st,ho⟩:=ft.1
 obtain ⟨ap,apF⟩:=aeP E F fun b hb=>(ho b hb).1
 rw [hci2] at hc ⊢
 generalize hcq:(ac.ok (xs,w) σ₂).toS ρ (fun p σ=>aV p.2 bind (fun ρ σ=>ex C n b ρ σ) p.1 ρ σ)=c at hc ⊢
 have hgo:aV w bind (fun ρ σ=>ex C n b ρ σ) xs ρ σ₂=c:=hcq
 have oA:=E.ext eu .nil
 have al2:∀ b ∈ own++iu env,∃ o,aD.heap.get? b=some o:=fun b hb=>by
  rcases List.mem_append.mp hb with q | q
  ·exact I.live _ _ _ st b q
  ·exact cZ oA F.cl b q
 refine codeAny_forLoop_any (afi K env s xs (aL (own++iu env) aQ aD.heap) St (aV w bind fun ρ σ=>ex C n b ρ σ) c) (fun k s₁ inv=>?_) _ ⟨0,σ₂,aQ,ρ,rfl,Nat.zero_le _,.refl,cg,st,oA,kr,by simpa using hgo,u9⟩
 obtain ⟨i,σ₁,α₁,ρ₁,rfl,hi,qY,nM,acx,mI,nO,bW,mM⟩:=inv
 have al1:∀ b ∈ own++iu env,∃ o,s₁.heap.get? b=some o:=fun b hb=>by
  rcases List.mem_append.mp hb with q | q
  ·exact I.live _ _ _ acx b q
  ·exact cZ mI F.cl b q
 by_cases hlt:i < xs.length
 ·have hdrop:xs.drop i=xs[i]::xs.drop (i + 1):=List.drop_eq_getElem_cons hlt
  rw [hdrop] at bW
  obtain ⟨hw,bW⟩:=aex bW hc
  cases hbi:bind xs[i] ρ₁ with
  | none=>rw [hbi] at bW; exact absurd bW.symm hc
  | some ρ1 =>
  rw [hbi] at bW
  change oK _ (ex C n b ρ1 σ₁)=c at bW
  have hf1:ex C n b ρ1 σ₁ ≠ .stuck:=by intro q; rw [q] at bW; exact hc bW.symm
  refine fH mM (I.item i s₁ σ₁ α₁ xs[i] (by simp [hlt]) acx nM hw _ _ fun v cY vr lh ow xo nL pV pO=>?_)
  have go:∀ {Q:Unit->Shared->Prop} {E:Value->Shared->Prop},(∀ s',VR s'.heap α₁ xs[i] v->St (i + 1) s'.heap α₁->aL own α₁ s₁.heap α₁ s'.heap->R K.hb s'.heap σ₁ α₁->Sm s₁ s'->K.Tk s'->Q () s')->wpAny (model K.prog K.w) A (letOwnedTupleGo target kP v) Q E cY:=fun h=>by
   rcases tg.1 with ⟨he,hgo⟩ | ⟨elts,k,pos,rfl⟩
   ·exact wpAny_of_eq (hgo kP v) (h cY vr (lh he) xo nL pV pO)
   ·exact fH pO (ow elts k pos _ _ fun s' ⟨a,b,c,d,e⟩ tk'=>h s' a b (xo.trans c) d (pV.trans e) tk')
  refine go fun cY vr lh xo nL pV pO=>?_
  have sw:=mI.ext xo ap
  refine fH pO (tg.2 cY σ₁ α₁ ρ₁ ρ1 xs[i] v hbi sw nL vr _ _ fun nK zH sv x4 acO sE=>?_)
  have ve:=I.frame _ _ _ _ _ _ lh x4 apF
  have al3:∀ b ∈ own++iu env,∃ o,cY.heap.get? b=some o:=fun b hb=>by
   rcases List.mem_append.mp hb with q | q
   ·exact I.live _ _ _ lh b q
   ·exact cZ sw F.cl b q
  have al4:∀ b ∈ own++iu env,∃ o,nK.heap.get? b=some o:=fun b hb=>by
   rcases List.mem_append.mp hb with q | q
   ·exact I.live _ _ _ ve b q
   ·exact cZ sv F.cl b q
  have aca:aL (own++iu env) aQ aD.heap α₁ nK.heap:=(qY.trans (xo.mono (fun b hb=>List.mem_append_left _ hb) al1)).trans (x4.mono (fun b hb=>List.mem_append_right _ hb) al3)
  refine wpAny_mono (dy (hb sv zH hf1 sE)) (fun fl wM hp=>?_) fun e wM hx=>?_
  ·obtain ⟨⟨akC,yP,mK,x5,wO,xH,af0,fo⟩,acq⟩:=hp
   have yX:=Kt.Tk.up sE acq
   have yY:=I.frame _ _ _ _ _ _ ve x5 apF
   have ze:=aca.trans (x5.mono (fun b hb=>List.mem_append_right _ hb) al4)
   have mm:=((nO.trans pV).trans acO).trans af0
   have out:aL (iu env) α s.heap mK wM.heap:=aL.drop eu (fun b hb=>(ho b hb).1) (cZ E F.cl) ze
   cases hq:ex C n b ρ1 σ₁ with
   | next ρ' σ' =>
    rw [hq] at fo bW
    obtain ⟨rfl,rfl,rfl⟩:=fo
    exact ⟨xs.length - (i + 1),Nat.sub_succ_lt_self _ _ hlt,i + 1,_,_,_,rfl,hlt,ze,wO,yY,xH,mm,bW,yX⟩
   | cont ρ' σ' =>
    rw [hq] at fo bW
    obtain ⟨rfl,rfl,rfl⟩:=fo
    exact ⟨xs.length - (i + 1),Nat.sub_succ_lt_self _ _ hlt,i + 1,_,_,_,rfl,hlt,ze,wO,yY,xH,mm,bW,yX⟩
   | brk ρ' σ' =>
    rw [hq] at fo bW
    obtain ⟨rfl,rfl,rfl⟩:=fo
    subst bW
    exact ⟨_,_,_,out,wO,xH,mm,rfl,rfl,rfl⟩
   | ret v ρ' σ' =>
    rw [hq] at fo bW
    obtain ⟨⟨u,rfl,vu⟩,rfl,rfl⟩:=fo
    subst bW
    exact ⟨_,_,_,out,wO,xH,mm,⟨u,rfl,vu⟩,rfl,rfl⟩
   | exc i ρ' σ'=>rw [hq] at bW; exact absurd bW.symm hc
   | stuck=>exact absurd hq hf1
  ·obtain ⟨⟨j,ρ',σ',_,_,_,e5,_⟩,_⟩:=hx
   rw [e5] at bW; exact absurd bW.symm hc
 ·have hie:i=xs.length:=Nat.le_antisymm hi (Nat.not_lt.mp hlt)
  subst hie
  rw [List.drop_length] at bW
  obtain ⟨hw,hgo'⟩:=aex bW hc
  refine I.done s₁ σ₁ α₁ acx nM hw _ _ fun cY xo nL pV=>wpAny_execs_nil ?_
  show hB K env c s α .next cY
  rw [<- hgo']
  exact ⟨_,_,_,aL.drop eu (fun b hb=>(ho b hb).1) (cZ E F.cl) (qY.trans (xo.mono (fun b hb=>List.mem_append_left _ hb) al1)),nL,mI.ext xo ap,nO.trans pV,rfl,rfl,rfl⟩
end
end Mine
namespace Mine
open PySem PyProof.Rows
end Mine
namespace Mine
open PySem PyProof.Rows
end Mine
namespace Mine
open PySem PyProof.Rows
end Mine
namespace Mine
open PySem PyProof.Rows
theorem adO {N:List (Str × NameKind)} {x:Str} {i:Nat} (h:j2 N x=some i):∃ k,N[i]?=some (x,k)/\(k=NameKind.local\/k=.cell):=by
 unfold j2 at h
 refine aS h fun j hj h1=>aS h1 fun q hq h2=>aK h2 fun hk h3=>?_
 clear h h1 h2
 have hx:=aab hj hq
 obtain ⟨z,k⟩:=q
 dsimp only at hx
 subst hx
 obtain rfl:=oi h3
 refine ⟨k,hq,?_⟩
 cases k with
 | «local»=>exact .inl rfl
 | cell=>exact .inr rfl
 | _=>contradiction
theorem sH {N:List (Str × NameKind)} {env:Env} {x:Str} {i:Nat} (hN:env.scope.names=N) (h:j2 N x=some i):∃ k,env.scope.names[i]?=some (x,k)/\(k=NameKind.local\/k=.cell):=by
 subst hN; exact adO h
section
variable {K:Kt} {A:Around} {T:bf} {C:bn} {f:List (Str × NameKind)->Expr->Option X} {N:List (Str × NameKind)} {env:Env} {ρ:aq} {σ:ab} {s:Shared} {α:AL}
open PySem.W
theorem yv {F:Frag} {b n:Str} {c i:Nat} {x u:Value} {v:PV} {fs:List (Str × PV)} {Q:Unit->Shared->Prop} {E:Value->Shared->Prop} (B:gq K F b c) (hn:n ∈ dv) (r:R K.hb s.heap σ α) (vx:VR s.heap α (.inst c i) x) (vv:VR s.heap α v u)
  (hs:σ[i]?=some (.ns fs)) (hl:fs.length < 100) (hQ:∀ s',R K.hb s'.heap (σ.set i (.ns (cq n v fs))) α->aL [] α s.heap α s'.heap->Sm s s'->Q () s'):wpAny (model K.prog K.w) A (setAttr x n u) Q E s:=by
 obtain ⟨a,D,rfl,ea,ha,hi⟩:=abK vx
 obtain ⟨m,ns1,o1,o2⟩:=r.obj i _ D hs hi
 obtain ⟨oD,esD,epD,eD,dD,_⟩:=id ns1
 have X:F.In s.heap:=r.frag B.inn
 have I:InstAt s.heap a (instObj c D) c (some oD):=⟨ea,rfl,rfl,eD⟩
 obtain ⟨cd,hc,hd'⟩:=any_some B.hasd
 refine set_plain X I B.seta (osa_open (s:={ s with toks:=s.toks + 1 }) X I B.plain (B.free n hn) fun bb=>?_)
 refine wpAny_bind (wpAny_pure (wpAny_bind (wpAny_bind (wpAny_loadPart ea (wpAny_bind (Looks.here (s:={ s with toks:=s.toks + 1 }) (looks_clsIn X hc) ?_))))))
 rw [hd']
 refine wpAny_pure (a:=some D) (wpAny_bind (wpAny_pure (wpAny_bind (wpAny_nsSet1 (s:={ s with toks:=s.toks + 1 }) ns1 fun h' hn' hsb=>?_))))
 have hw:Within m (fs.map (·.1)):=fun y hy=>by
  cases hg:ai y fs with
  | none=>exact absurd (o2 y hg) hy
  | some w =>
   obtain ⟨e,he,_⟩:=Option.map_eq_some_iff.mp hg
   exact List.mem_map.mpr ⟨e,List.mem_of_find?_eq_some he,by simpa using List.find?_some he⟩
 obtain ⟨oD',esD',epD',hoD,hdD,hcD⟩:=hn'.count (Within.cons n u hw)
 refine wpAny_bind (wpAny_lookBehind hoD (by rw [hdD]; exact pastItsLine_dict (aE hcD (by rw [List.length_cons,List.length_map,sizeLine_eq]; (exact aE (by assumption) (by decide))))) ?_)
 refine wpAny_pure ?_
 have key:∀ x':aL [] α s.heap α h',OR K.hb h' α (.ns (cq n v fs)) D:=fun x'=>by
  refine ⟨_,hn',fun n' v' e=>?_,fun n' e=>?_⟩
  ·rw [uS] at e
   by_cases q:n'=n
   ·rw [if_pos q] at e ⊢; obtain rfl:=oi e; exact ⟨u,rfl,vv.ext x'⟩
   ·rw [if_neg q] at e ⊢
    obtain ⟨w,w1,w2⟩:=o1 n' v' e
    exact ⟨w,w1,w2.ext x'⟩
  ·rw [uS] at e
   by_cases q:n'=n
   ·rw [if_pos q] at e; contradiction
   ·rw [if_neg q] at e ⊢; exact o2 n' e
 obtain ⟨r',x'⟩:=r.set (m:=.ns (cq n v fs)) hi (fun b o hb e=>(hsb.2 b hb).trans e) hoD key
 exact hQ _ r' x' ⟨rfl,rfl⟩
theorem yN {o v:Expr} {n b:Str} {p pos:Pos} {x z:X} {c k:Nat} {Fg:Frag} (B:gq K Fg b c) (hn:n ∈ dv) (F:dK K.hb env) (hcp:iN v=false)
  (H1:∀ {σ s α},am env ρ s.heap α->R K.hb s.heap σ α->Runs K VR A (eval v env) (ev C z ρ σ) s α)
  (H2:∀ {σ s α},am env ρ s.heap α->R K.hb s.heap σ α->Runs K VR A (eval o env) (ev C x ρ σ) s α) (E:am env ρ s.heap α) (r:R K.hb s.heap σ α) :
  eY K env A (exec (.Assign [.Attribute o n p] v pos) env) (ex C k (.asgAttr c x n z) ρ σ) s α:=by
 change eY K env A _ ((ev C z ρ σ).toS ρ fun v σ=>(ev C x ρ σ).toS ρ fun o σ=>fM c o n v ρ σ) s α
 intro hc tk
 refine plainObj_wpAny_Assign_Attribute (Runs.useS E (H1 E r) hc tk fun vv σ₁ α₁ u s₁ e1 hc1 x1 r1 v1 m1 tk1=>?_) (jO hcp)
 rw [e1] at hc ⊢
 have E1:=E.ext x1 .nil
 refine wpAny_mono (Runs.useS (env:=env) (s:=s₁) (α:=α₁) E1 (H2 E1 r1) hc1 tk1 fun vo σ₂ aQ uo aD e2 hc2 x2 r2 v2 m2 tk2=>?_) (fun zz zz q=>q) (fun zz zz q=>gh.lift (ej F E x1) m1 q)
 have E2:=E1.ext x2 .nil
 show wpAny (model K.prog K.w) A (setAttr uo n u) _ _ aD
 simp only [ac.toS,e2] at hc ⊢
 cases vo with
 | inst c' i =>
  unfold fM at hc2 ⊢
  dsimp only at hc2 ⊢
  by_cases hcc:c'=c
  ·subst hcc
   rw [if_pos rfl] at hc2 ⊢
   cases hs:σ₂[i]? with
   | none=>rw [hs] at hc2; exact absurd rfl hc2
   | some mo =>
    rw [hs] at hc2
    cases mo with
    | ns fs =>
     dsimp only at hc2 ⊢
     by_cases hl:fs.length < 100
     ·rw [if_pos hl]
      exact yv B hn r2 v2 (v1.ext x2) hs hl fun s' r' x' m'=>⟨ρ,_,aQ,ej F E ((x1.trans x2).trans x'),r',E2.ext x' .nil,(m1.trans m2).trans m',rfl,rfl,rfl⟩
     ·rw [if_neg hl] at hc2; exact absurd rfl hc2
    | _=>exact absurd rfl hc2
  ·rw [if_neg hcc] at hc2; exact absurd rfl hc2
 | _=>exact absurd rfl hc2
end
section
variable {K:Kt} {A:Around} {T:bf} {C:bn} {f:List (Str × NameKind)->Expr->Option X} {N:List (Str × NameKind)} {env:Env} {σ:ab} {α:AL}
theorem aaH (F:dK K.hb env) (hN:env.scope.names=N) {ts:List Expr}:∀ {is:List Nat} {xs:List PV} {us:List Value} {ρ ρ':aq} {s:Shared} {Q:Unit->Shared->Prop} {X:Value->Shared->Prop},ig N ts=some is->oI is xs ρ=some ρ'->aT s.heap α xs us->am env ρ s.heap α->R K.hb s.heap σ α ->
  (∀ s',R K.hb s'.heap σ α->am env ρ' s'.heap α->aL (iu env) α s.heap α s'.heap->Sm s s'->Q () s')->wpAny (model K.prog K.w) A (assignInOrder ((assignEach ts env).map (·.2)) us) Q X s:=by
 induction ts with
 | nil =>
  intro is xs us ρ ρ' s Q X h1 h2 v E r hQ
  obtain rfl:=oi h1
  cases xs with
  | nil=>obtain rfl:=oi h2; exact assignInOrder_nil (hQ s r E .refl (.refl s))
  | cons _ _=>contradiction
 | cons t ts ih =>
  intro is xs us ρ ρ' s Q X h1 h2 v E r hQ
  change o2 _ _ _=_ at h1
  refine ez (M:=fun is=>oI is xs ρ=some ρ'->wpAny (model K.prog K.w) A (assignInOrder ((assignEach (t::ts) env).map (·.2)) us) Q X s) h1 (fun i l hi hl h2=>?_) h2
  refine aS hi fun q hq hi=>?_
  obtain rfl:=fQ hq
  cases xs with
  | nil=>contradiction
  | cons p ps =>
   obtain ⟨u,us',rfl,v1,v2⟩:=v.inv_cons
   obtain ⟨k,hk1,hk2⟩:=sH hN hi
   refine assignInOrder_cons (wpAny_assign_Name (j1 F r E hk1 hk2 v1 fun s₁ r1 E1 x1 m1=>?_))
   exact ih hl h2 (v2.ext x1) E1 r1 fun s' r' E' x' m'=>hQ s' r' E' (x1.trans x') (m1.trans m')
theorem aa5 {ts:List Expr}:∀ {is:List Nat},ig N ts=some is->(assignEach ts env).length=is.length/\(assignEach ts env).findIdx? (·.1)=none:=by
 induction ts with
 | nil=>intro is h; obtain rfl:=oi h; exact ⟨rfl,rfl⟩
 | cons t ts ih =>
  intro is h
  change o2 _ _ _=_ at h
  refine ez (M:=fun is=>(assignEach (t::ts) env).length=List.length is/\(assignEach (t::ts) env).findIdx? (·.1)=none) h fun i l hi hl=>?_
  refine aS hi fun q hq hi=>?_
  obtain rfl:=fQ hq
  obtain ⟨h1,h2⟩:=ih hl
  refine ⟨congrArg Nat.succ h1,?_⟩
  show ((false,assign (.Name q.1 q.2) env)::assignEach ts env).findIdx? (·.1)=none
  rw [List.findIdx?_cons,h2]; rfl
theorem vj:∀ {is:List Nat} {xs:List PV} {ρ ρ':aq},oI is xs ρ=some ρ'->is.length=xs.length
 | [],[],_,_,_=>rfl
 | i::is,x::xs,_,_,h=>congrArg Nat.succ (vj (is:=is) (xs:=xs) h)
 | [],_::_,_,_,h=>nomatch h
 | _::_,[],_,_,h=>nomatch h
theorem xL {ts:List Expr} {kk:Nat} {pp:Pos} {is:List Nat} {en:Bool} (hh:A.handled=none) (F:dK K.hb env) (hN:env.scope.names=N) (h1:ig N ts=some is):adr K A en env (.Tuple ts kk pp) (dX is):=
 ⟨.inr ⟨_,_,_,rfl⟩,fun s σ α ρ ρ' pv u hb E r v Q X hQ=>by
  cases pv with
  | tup xs =>
   obtain ⟨t,us,k,rfl,ht,hnt,vs⟩:=v.tupE
   have eb:dX is (.tup xs) ρ=if xs.length <= 100 then oI is xs ρ else none:=rfl
   rw [eb] at hb
   by_cases hl:xs.length <= 100
   ·rw [if_pos hl] at hb
    obtain ⟨g1,g2⟩:=aa5 (env:=env) h1
    refine wpAny_assign_Tuple hh ⟨_,ht,rfl,k,rfl⟩ (by rw [g1,vj hb,vs.1]; rfl) g2 fun h' hx=>?_
    have kp:∀ b o,s.heap.get? b=some o->h'.get? b=some o:=fun b o e=>hx b o (Nat.ne_of_lt (Heap.lt_size e)) e
    have x2:aL [] α s.heap α h':=.keeps kp
    exact aaH (s:={ s with heap:=h' }) F hN h1 hb (vs.ext x2) (E.ext x2 .nil) (r.keeps kp) fun s' r' E' x' m'=>hQ s' r' E' ((ej F E x2).trans x') ⟨m'.gens,m'.os⟩
   ·rw [if_neg hl] at hb; contradiction
  | _=>contradiction⟩
set_option tactic.hygienic true in
theorem adn {ts:List Expr} {v0:Expr} {kk:Nat} {pp pos:Pos} {is:List Nat} {x:X} {n:Nat} {ρ:aq} {s:Shared} (c:Ctx K A T C) (F:dK K.hb env) (hN:env.scope.names=N) (h1:ig N ts=some is) (hv:zJ v0=true)
  (H:Runs K VR A (eval v0 env) (ev C x ρ σ) s α) (E:am env ρ s.heap α) :
  eY K env A (exec (.Assign [.Tuple ts kk pp] v0 pos) env) (ex C n (.asgT is x) ρ σ) s α:=by
 have e0:ex C n (.asgT is x) ρ σ=bif C.hd then .stuck else (ev C x ρ σ).toS ρ fun v σ=>match dX is v ρ with
  | some ρ=>.next ρ σ
  | none=>.stuck:=rfl
 rw [e0]
 cases hhd:C.hd with
 | true=>exact fun hc=>absurd rfl hc
 | false =>
 rw [cond_false]
 intro hc tk
 refine Assign_Tuple (Runs.useS E H hc tk fun v σ₁ α₁ u s₁ e1 hc1 x1 r1 v1 m1 tk1=>?_) (by cases v0 <;> first | rfl | contradiction) (by cases v0 <;> first | rfl | contradiction)
 rw [e1]
 cases hb:dX is v ρ with
 | none=>rw [hb] at hc1; exact absurd rfl hc1
 | some ρ' =>
  refine (xL (en:=true) (c.hd hhd) F hN h1).2 s₁ σ₁ α₁ ρ ρ' v u hb (E.ext x1 .nil) r1 v1 _ _ fun s' r' E' x' m'=>?_
  show hB K env (match dX is v ρ with | some ρ=>.next ρ σ₁ | none=>.stuck) s α .next s'
  rw [hb]
  exact ⟨ρ',σ₁,α₁,(ej F E x1).trans x',r',E',m1.trans m',rfl,rfl,rfl⟩
end
end Mine
namespace Mine
open PySem PyProof.Rows
section
variable {K:Kt} {A:Around} {T:bf} {C:bn} {f:List (Str × NameKind)->Expr->Option X} {N:List (Str × NameKind)} {env:Env} {ρ:aq} {σ:ab} {s:Shared} {α:AL}
set_option tactic.hygienic true in
theorem yM {elt iter:Expr} {x z:Str} {px pz pos spos:Pos} {ifs:List Expr} {scope:Scope} {fz:Bool} {t:Nat} {elt' cond it:X} {i n:Nat} {k:NameKind} (c:Ctx K A T C) (S:SE K A C f) (F:dK K.hb env) (h:sx T N f elt x iter ifs scope fz t elt' cond it)
  (hn:env.scope.names[i]?=some (z,k)) (hk:k=.local\/k=.cell)
  (hN:env.scope.names=N) (E:am env ρ s.heap α) (r:R K.hb s.heap σ α) (hsw:swapsWith (.ListComp elt [⟨.Name x px,iter,ifs,0⟩] scope pos) (some (.Name z pz)) spos.line env=pure true) :
  eY K env A (exec (.Assign [.Name z pz] (.ListComp elt [⟨.Name x px,iter,ifs,0⟩] scope pos) spos) env) (ex C n (.asg i (.comp fz t (et N (br N scope.names)) elt' cond it)) ρ σ) s α:=by
 have e0:ex C n (.asg i (.comp fz t (et N (br N scope.names)) elt' cond it)) ρ σ=(ev C (.comp fz t (et N (br N scope.names)) elt' cond it) ρ σ).toS ρ fun v σ=>.next (ρ.set i (some v)) σ:=rfl
 rw [e0]
 intro hc tk
 cases hhd:C.hd with
 | true=>rw [iA,hhd] at hc; exact absurd rfl hc
 | false =>
 rw [wx hhd] at hc ⊢
 have co:=h.ok hN
 obtain ⟨hit',hpl⟩:=lg (en:=false) c hhd S h.it hN F.new E r
 rw [exec_Assign_Name_used _ _ _ _ hsw]
 refine wpAny_bind (wpAny_standAt (wpAny_bind ?_))
 show wpAny _ A (do let _ <- comprehension (.ListComp elt [⟨.Name x px,iter,ifs,0⟩] scope pos) scope env _ (newList []) false (eval iter env) (some (assign (.Name z pz) env))) _ _ s
 generalize hcq:iC fz (fun v σ=>tst C cond ((bt (et N (br N scope.names)) ρ).set t (some v)) σ) (fun v σ=>ev C elt' ((bt (et N (br N scope.names)) ρ).set t (some v)) σ) (evIt C it ρ σ)=cc at hc ⊢
 have hcc:cc ≠ .stuck:=by intro q; rw [q] at hc; exact hc rfl
 refine wpAny_bind (wpAny_mono (wpAny_comprehension_free (use:=some (assign (.Name z pz) env)) (Q:=fun zz s'=>hB K env (cc.toS ρ fun v σ=>.next (ρ.set i (some v)) σ) s α .next s')
  rfl (lH hpl) (qP (nG co E)) co.kind co.names
  (ww (fz:=fz) (t:=t) (ρ:=ρ) (tC:=fun v σ=>tst C cond ((bt (et N (br N scope.names)) ρ).set t (some v)) σ) (eC:=fun v σ=>ev C elt' ((bt (et N (br N scope.names)) ρ).set t (some v)) σ) (RR:=fun acc C'=>compPost (model K.prog K.w) A _ (some (assign (.Name z pz) env)) _ acc C')
   co E hit' (by rw [hcq]; exact hcc) tk (fun C' v s' σ' α' n' E' r'=>?_) (fun C' v s' σ' α' n' E' r'=>?_) c.fr F.new ⟨_,r⟩ (fun e s' hx=>?_) ?_)) (fun zz s' hq=>wpAny_pure (wpAny_pure hq)) fun zz zz e=>e)
 ·rw [qf hN] at E'
  exact wv S h.cond (ly hN E) n' E' r'
 ·rw [qf hN] at E'
  exact ((S _ elt elt' h.elt).2 _ _ σ' s' α' (ly hN E) n' E' r').1
 ·obtain ⟨i',σ',e1,nt,fx⟩:=hx
  refine ⟨i',ρ,σ',s,α,nt,?_,.refl,E,.refl s,fx⟩
  rw [<- hcq]
  show (iC _ _ _ _).toS ρ _=_
  rw [e1]; rfl
 ·rw [hcq]
  rintro acc C' rr s' ⟨rfl,v,σ',α',m,e,x',r',vr,sm,ns,ha,hC,hbC,hCfr⟩
  subst e
  have E':=E.ext x' .nil
  show wpAny _ A (assign (.Name z pz) env acc) _ _ _
  refine wpAny_assign_Name (j1 F r' E' hn hk vr fun aD cg oA eu kr=>?_)
  have hCf:C' ∉ iu env:=fun q=>by
   obtain ⟨o,eo⟩:=cZ E F.cl C' q
   rw [hC] at eo; contradiction
  have agW:aD.heap.Ns C' m:=zP eu (AL.not_ix ha) hCf ns
  refine ⟨m,agW,fun h' hs'=>?_⟩
  obtain ⟨r'',x''⟩:=cg.but ha hbC (fun b o hb e=>(hs'.2 b hb).trans e) (fun o e=>by
   obtain ⟨o',es,ep,e',d,_⟩:=id agW
   rw [e] at e'; obtain rfl:=oi e'
   exact dW.notSolid ⟨_,_,d⟩) fun q=>absurd q hCfr
  have ap:qk env [C']:=⟨fun q=>by simp at q; exact hCf (q ▸ List.mem_cons_self),fun y c' hc' q=>by
   simp at q; subst q
   exact hCf (bG _ (List.mem_map.mpr ⟨_,mem_of_lookup hc',rfl⟩))⟩
  exact ⟨_,_,_,((ej F E x').trans eu).sameBut hC (fun b hb=>hs'.2 b hb),r'',oA.ext x'' ap,(sm.trans kr).trans ⟨rfl,rfl⟩,rfl,rfl,rfl⟩
end
theorem afa {e:Expr} {q:Expr × List Comprehension × Scope × Pos} (h:afb e=some q):e=.ListComp q.1 q.2.1 q.2.2.1 q.2.2.2:=by
 cases e with
 | ListComp=>obtain rfl:=oi h; rfl
 | _=>contradiction
section
variable {K:Kt} {A:Around} {T:bf} {C:bn} {N:List (Str × NameKind)} {env:Env} {n:Nat}
noncomputable def BS (K:Kt) (A:Around) (C:bn) (n:Nat) (env:Env) (t:Sem Flow) (b:S):Prop:=
 ∀ ρ σ s α,am env ρ s.heap α->R K.hb s.heap σ α->eY K env A t (ex C n b ρ σ) s α
noncomputable def SS (K:Kt) (A:Around) (C:bn) (n:Nat) (env:Env) (g:Stmt->Option S):Prop:=
 ∀ st b,g st=some b->BS K A C n env (exec st env) b
theorem iG {g:Stmt->Option S} (H:SS K A C n env g) {sts:List Stmt}:∀ {b:S},pN g sts=some b->BS K A C n env (execs sts env) b:=by
 induction sts with
 | nil =>
  intro b h ρ σ s α E r
  obtain rfl:=oi h
  exact fun zz zz=>wpAny_execs_nil ⟨ρ,σ,α,.refl,r,E,.refl s,rfl,rfl,rfl⟩
 | cons st sts ih =>
  intro b h
  change o2 _ _ _=_ at h
  refine ez h fun a b' ha hb ρ σ s α E r hc tk=>?_
  have e0:ex C n (.cons a b') ρ σ=(match ex C n a ρ σ with
   | .next ρ σ=>ex C n b' ρ σ
   | o=>o):=rfl
  rw [e0] at hc ⊢
  refine wpAny_execs_cons ?_
  have h1:ex C n a ρ σ ≠ .stuck:=by intro q; rw [q] at hc; exact hc rfl
  refine wpAny_mono (dy (H st a ha _ _ _ _ E r h1 tk)) (fun fl s₁ hp=>?_) fun e s₁ hx=>?_
  ·obtain ⟨⟨ρ₁,σ₁,α₁,x1,r1,E1,m1,fo⟩,tl1⟩:=hp
   cases hq:ex C n a ρ σ with
   | next ρ' σ' =>
    rw [hq] at fo hc
    obtain ⟨rfl,rfl,rfl⟩:=fo
    exact wpAny_mono (ih hb _ _ _ _ E1 r1 hc (Kt.Tk.up tk tl1)) (fun zz zz q=>q.lift x1 m1) fun zz zz q=>q.lift x1 m1
   | cont ρ' σ'=>rw [hq] at fo; have fo':=fo; obtain ⟨rfl,_⟩:=fo'; exact ⟨ρ₁,σ₁,α₁,x1,r1,E1,m1,fo⟩
   | brk ρ' σ'=>rw [hq] at fo; have fo':=fo; obtain ⟨rfl,_⟩:=fo'; exact ⟨ρ₁,σ₁,α₁,x1,r1,E1,m1,fo⟩
   | ret v ρ' σ'=>rw [hq] at fo; have fo':=fo; obtain ⟨⟨u,rfl,_⟩,_⟩:=fo'; exact ⟨ρ₁,σ₁,α₁,x1,r1,E1,m1,fo⟩
   | exc i ρ' σ'=>rw [hq] at fo; exact fo.elim
   | stuck=>exact absurd hq h1
  ·obtain ⟨⟨i,ρ',σ',aD,aQ,nt,e1,q1,q2,q3,q4⟩,_⟩:=hx
   exact ⟨i,ρ',σ',aD,aQ,nt,by rw [e1],q1,q2,q3,q4⟩
section
variable {f:List (Str × NameKind)->Expr->Option X} {g:Stmt->Option S}
theorem SE.val (Sf:SE K A C f) (F:dK K.hb env) (hN:env.scope.names=N) {e:Expr} {x:X} (h:f N e=some x) {ρ σ s α} (E:am env ρ s.heap α) (r:R K.hb s.heap σ α):Runs K VR A (eval e env) (ev C x ρ σ) s α:=
 ((Sf N _ _ h).2 env ρ σ s α hN F.new E r).1
theorem SE.tst (Sf:SE K A C f) (F:dK K.hb env) (hN:env.scope.names=N) {e:Expr} {x:X} (h:f N e=some x) {ρ σ s α} (E:am env ρ s.heap α) (r:R K.hb s.heap σ α):Runs K eZ A (isTrue e env (eval e env)) (tst C x ρ σ) s α:=
 ((Sf N _ _ h).2 env ρ σ s α hN F.new E r).2
theorem yL {z:Str} {pz spos:Pos} {v:Expr} {b:S} (c:Ctx K A T C) (Sf:SE K A C f) (F:dK K.hb env) (hN:env.scope.names=N) (h:agR T N f (f N) (.Name z pz) v=some b):BS K A C n env (exec (.Assign [.Name z pz] v spos) env) b:=by
 change kn _ _ _=_ at h
 refine gP h (fun q hac h=>?_) fun zz h=>aK h fun hcp h=>ez h fun i y hi hy=>?_
 ·rw [afa hac]
  refine ez h fun i y hi hy=>?_
  obtain ⟨x,px,iter,ifs,hg,hy⟩:=u6 hy
  rw [hg]
  obtain ⟨k,hk1,hk2⟩:=sH hN hi
  refine xK (P:=fun y=>BS K A C n env _ (.asg i y)) hy fun t e cc it qq ρ σ s α E r=>?_
  cases hq:(env.blockKind == .function && env.kindOf z == some .local && pz.line == q.2.2.2.line && !(q.2.2.1.names.any fun (n,k)=>n == z && (k == .local || k == .cell))) with
  | true=>exact yM c Sf F qq hk1 hk2 hN E r (congrArg pure hq)
  | false =>
   intro hc tk
   refine wpAny_Assign_Name (Runs.useS E (tH c Sf qq hN F.new E r) hc tk fun v σ₁ α₁ u s₁ e1 hc1 x1 r1 v1 m1 tk1=>?_) (congrArg pure hq)
   refine j1 F r1 (E.ext x1 .nil) hk1 hk2 v1 fun aD r2 E2 x2 m2=>?_
   show hB K env (ac.toS _ _ _) _ _ _ _
   rw [e1]
   exact ⟨_,_,_,(ej F E x1).trans x2,r2,E2,m1.trans m2,rfl,rfl,rfl⟩
 ·obtain ⟨k,hk1,hk2⟩:=sH hN hi
  exact fun zz zz zz zz E r=>ae9 F (by simpa using hcp) hk1 hk2 (Sf.val F hN hy E r) E
theorem acn {t:Expr} {b0 o0:List Stmt} {pos:Pos} {t':X} {b' o':S} (Sf:SE K A C f) (F:dK K.hb env) (hN:env.scope.names=N) (h1:f N t=some t') (h2:BS K A C n env (execs b0 env) b') (h3:BS K A C n env (execs o0 env) o') :
  BS K A C n env (exec (.If t b0 o0 pos) env) (.ife t' b' o'):=fun ρ σ s α E r hc tk=>by
 have e0:ex C n (.ife t' b' o') ρ σ=(tst C t' ρ σ).toS ρ fun t σ=>if t then ex C n b' ρ σ else ex C n o' ρ σ:=rfl
 rw [e0] at hc ⊢
 refine wpAny_If (Runs.useS E (Sf.tst F hN h1 E r) hc tk fun t σ₁ α₁ y s₁ e1 hc1 x1 r1 v1 m1 tk1=>?_)
 have:y=t:=v1
 subst this
 rw [e1]
 have E1:=E.ext x1 .nil
 cases y with
 | true=>exact wpAny_mono (h2 _ _ _ _ E1 r1 hc1 tk1) (fun zz zz q=>q.lift (ej F E x1) m1) fun zz zz q=>q.lift (ej F E x1) m1
 | false=>exact wpAny_mono (h3 _ _ _ _ E1 r1 hc1 tk1) (fun zz zz q=>q.lift (ej F E x1) m1) fun zz zz q=>q.lift (ej F E x1) m1
theorem aaU {x:Str} {px pos:Pos} {it:Expr} {b0:List Stmt} {i':Nat} {it':X} {b':S} (c:Ctx K A T C) (Sf:SE K A C f) (F:dK K.hb env) (hN:env.scope.names=N) (h1:j2 N x=some i') (h2:tR T N (f N) it=some it') (h3:BS K A C n env (execs b0 env) b') :
  BS K A C n env (exec (.For (.Name x px) it b0 [] pos) env) (.for1 i' it' b'):=fun ρ σ s α E r=>by
 obtain ⟨k,hk1,hk2⟩:=sH hN h1
 have e0:ex C n (.for1 i' it' b') ρ σ=bif C.hd then .stuck else (evIt C it' ρ σ).toS ρ fun p σ=>aV p.2 (bw i') (fun ρ σ=>ex C n b' ρ σ) p.1 ρ σ:=rfl
 rw [e0]
 cases hhd:C.hd with
 | true=>exact fun hc=>absurd rfl hc
 | false =>
 obtain ⟨q1,q2⟩:=lg c hhd Sf h2 hN F.new E r
 exact x9 F (afv F hk1 hk2) q2 q1 (h3 _ _ _ _) E rfl
theorem zr {ts:List Expr} {kk:Nat} {pp pos:Pos} {it:Expr} {b0:List Stmt} {is:List Nat} {it':X} {b':S} (c:Ctx K A T C) (Sf:SE K A C f) (F:dK K.hb env) (hN:env.scope.names=N) (h1:ig N ts=some is) (h2:yW T N (f N) it=some it') (h3:BS K A C n env (execs b0 env) b') :
  BS K A C n env (exec (.For (.Tuple ts kk pp) it b0 [] pos) env) (.forT is it' b'):=fun ρ σ s α E r=>by
 have e0:ex C n (.forT is it' b') ρ σ=bif C.hd then .stuck else (evIt C it' ρ σ).toS ρ fun p σ=>aV p.2 (dX is) (fun ρ σ=>ex C n b' ρ σ) p.1 ρ σ:=rfl
 rw [e0]
 cases hhd:C.hd with
 | true=>exact fun hc=>absurd rfl hc
 | false =>
 obtain ⟨en,q1,q2⟩:=aaS c hhd Sf h2 hN F.new E r
 exact x9 F (xL (c.hd hhd) F hN h1) q2 q1 (h3 _ _ _ _) E rfl
end
theorem yr {f:List (Str × NameKind)->Expr->Option X} {g:Stmt->Option S} (c:Ctx K A T C) (Sf:SE K A C f) (F:dK K.hb env) (hN:env.scope.names=N) (H:SS K A C n env g)
  : SS K A C n env (abq T N f (f N) g):=by
 intro st b h
 cases st with
 | Assign ts v spos =>
  change Option.bind _ _=_ at h
  refine aS h fun t h0 h=>?_
  rw [vy h0]
  cases t with
  | Name z pz=>exact yL c Sf F hN h
  | Subscript o i pp =>
   change aH _ _=_ at h
   exact aK h fun hcp h=>lK h fun o' i' v' h1 h2 h3 zz zz zz zz E r=>aaI c.hA F (by simpa using hcp) (Sf.val F hN h3) (Sf.val F hN h1) (Sf.val F hN h2) E r
  | Attribute o nm pp =>
   change Option.bind _ _=_ at h
   refine aS h fun q hb h=>aK h fun hc h=>ez h fun o' v' h1 h3=>?_
   obtain ⟨b,cl⟩:=q
   obtain ⟨hc1,hc2⟩:=cM hc
   obtain ⟨Fg,B,_⟩:=c.brd b cl hb
   exact fun zz zz zz zz E r=>yN B (List.contains_iff_mem.mp hc2) F (by simpa using hc1) (Sf.val F hN h3) (Sf.val F hN h1) E r
  | Tuple ts kk pp =>
   change aH _ _=_ at h
   refine aK h fun hc h=>ez h fun is v' h1 h3=>?_
   exact fun zz zz zz zz E r=>adn c F hN h1 hc (Sf.val F hN h3 E r) E
  | _=>contradiction
 | Expr e pos =>
  change aH _ _=_ at h
  exact aK h fun hcp h=>c7 h fun y hq zz zz zz zz E r=>adc F (by simpa using hcp) (Sf.val F hN hq E r) E
 | Return v pos =>
  cases v with
  | some e=>exact c7 h fun y hq zz zz zz zz E r=>adV F (Sf.val F hN hq E r) E
  | none=>obtain rfl:=oi h; exact fun ρ σ s α E r zz zz=>wpAny_Return_none ⟨ρ,σ,α,.refl,r,E,.refl s,⟨.none,rfl,.none⟩,rfl,rfl⟩
 | If t b0 o0 pos=>exact lK h fun t' b' o' h1 h2 h3=>acn Sf F hN h1 (iG H h2) (iG H h3)
 | For t it b0 o pos =>
  change aH _ _=_ at h
  refine aK h fun ho h=>gP h (fun q hq h=>lK h fun i' it' b' h1 h2 h3=>?_) fun zz h=>aS h fun ts ht h=>lK h fun is it' b' h1 h2 h3=>?_
  ·rw [List.isEmpty_iff.mp ho,fQ hq]
   exact aaU c Sf F hN h1 h2 (iG H h3)
  ·rw [List.isEmpty_iff.mp ho]
   cases t with
   | Tuple ts' kk pp =>
    obtain rfl:=oi ht
    exact zr c Sf F hN h1 h2 (iG H h3)
   | _=>contradiction
 | Break pos=>obtain rfl:=oi h; exact fun ρ σ s α E r zz zz=>wpAny_Break ⟨ρ,σ,α,.refl,r,E,.refl s,rfl,rfl,rfl⟩
 | Raise e1 e2 pos=>obtain rfl:=oi h; exact fun ρ σ s α E r hc=>absurd rfl hc
 | _=>contradiction
theorem adz {f:List (Str × NameKind)->Expr->Option X} (hN:env.scope.names=N) (c:Ctx K A T C) (Sf:SE K A C f) (F:dK K.hb env) (m:Nat):SS K A C n env (trS T N f m):=by
 induction m with
 | zero=>exact fun st b h=>nomatch h
 | succ m ih=>exact yr c Sf F hN ih
end
end Mine
namespace Mine
open PySem PyProof.Rows
structure gr (d:Nat) (A:Around):Prop where
 depth:A.depth + 2 * d + 200 < recursionLimit
 units:A.units + 20 * d + 200 < cLine
theorem gr.ok {d:Nat} {A:Around} (h:gr d A):dO A:=⟨by have:=h.depth; (grind),by have:=h.units; (grind)⟩
theorem gr.deeper {d:Nat} {A:Around} {env:Env} (h:gr (d + 1) A):gr d (A.deeper env):=by
 refine ⟨?_,?_⟩
 ·have:=h.depth
  show A.depth + 1 + 2 * d + 200 < recursionLimit
  (grind)
 ·have:=h.units
  show A.units + 3 + 20 * d + 200 < cLine
  (grind)
theorem VR.refr {h:Heap} {α:AL} {p:PV} {v:Value} {fr:List Addr} (r:VR h α p v):VR h ⟨α.ix,α.hid,fr⟩ p v:=VR.re (α:=α) (α':=⟨α.ix,α.hid,fr⟩) (fun zz zz e=>e) (fun zz h=>h) r
noncomputable def Kt.wf (K:Kt) (fr:List Addr):Kt:={ K with hb:=⟨K.hb.h,fr,K.hb.prog,K.hb.w⟩ }
theorem ld.push {K:Kt} {A:Around} {fr:List Addr} {env:Env} {L:Addr} (h:ld (K.wf fr) A) (hf:env.frame=some L) (hk:env.scope.kind=.function):ld (K.wf (L::fr)) (A.deeper env):=by
 obtain ⟨l,h1,h2,h3⟩:=h.ex
 refine ⟨env::l,?_,?_,fun e he=>?_⟩
 ·show A.frames.map (env::·)=_
  rw [h1]; rfl
 ·show (env::l).map (·.frame)=(L::fr).map some
  rw [List.map_cons,List.map_cons,hf,h2]; rfl
 ·rcases List.mem_cons.mp he with q | q
  ·rw [q,hk]; decide
  ·exact h3 e q
theorem OR.wf {K:Kt} {fr fr':List Addr} {h:Heap} {α:AL} {m:MO} {a:Addr} (o:OR (K.wf fr).hb h α m a):OR (K.wf fr').hb h α m a:=by
 cases m <;> exact o
theorem R.pushFr {K:Kt} {fr:List Addr} {h:Heap} {σ:ab} {α:AL} {L:Addr} {o:Obj} (r:R (K.wf fr).hb h σ α) (hL:K.hb.get? L=none) (e:h.get? L=some o) (d:dW o) (hLi:L ∉ α.ix):R (K.wf (L::fr)).hb h σ ⟨α.ix,α.hid,L::fr⟩:=
 ⟨r.base,r.fresh,r.nodup,r.len,r.hidden,fun j m a e1 e2=>((r.obj j m a e1 e2).wf (fr':=L::fr)).re (α:=α) (α':=⟨α.ix,α.hid,L::fr⟩) (fun zz zz e=>e) (fun zz h=>h),r.hfr,rfl,fun a ha=>by
  rcases List.mem_cons.mp ha with q | q
  ·subst q; exact ⟨hL,o,e,d⟩
  ·exact r.frs a q,fun a ha=>by
  rcases List.mem_cons.mp ha with q | q
  ·subst q; exact hLi
  ·exact r.frNot a q⟩
theorem R.popFr {K:Kt} {fr:List Addr} {h:Heap} {σ:ab} {α:AL} {L:Addr} (r:R (K.wf (L::fr)).hb h σ α):R (K.wf fr).hb h σ ⟨α.ix,α.hid,fr⟩:=
 ⟨r.base,r.fresh,r.nodup,r.len,r.hidden,fun j m a e1 e2=>((r.obj j m a e1 e2).wf (fr':=fr)).re (α:=α) (α':=⟨α.ix,α.hid,fr⟩) (fun zz zz e=>e) (fun zz h=>h),r.hfr,rfl,fun a ha=>r.frs a (bG _ ha),fun a ha=>r.frNot a (bG _ ha)⟩
theorem aL.ofCall {own:List Addr} {α aQ:AL} {h dk ft:Heap} {L:Addr} {fr:List Addr} (hfr:α.fr=fr) (k:∀ b o,h.get? b=some o->dk.get? b=some o) (hown:∀ b ∈ own,h.get? b=none) (hL:h.get? L=none)
  (y:aL own ⟨α.ix,α.hid,L::fr⟩ dk aQ ft):aL [] α h ⟨aQ.ix,aQ.hid,fr⟩ ft:=by
 have no:∀ b o,h.get? b=some o->b ∉ own:=fun b o e q=>by rw [hown b q] at e; contradiction
 obtain ⟨β,q1,q2⟩:=y.pre
 refine ⟨y.hid,⟨β,q1,fun x hx=>⟨?_,by simp⟩⟩,fun b o hb e hs=>y.seqs b o hb (k b o e) hs,fun b o hb zz e=>?_,fun b o zz e=>y.alive b o (no b o e) (k b o e),hfr.symm⟩
 ·cases e:h.get? x with
  | none=>rfl
  | some o=>have:=k x o e; rw [(q2 x hx).1] at this; contradiction
 ·rcases y.rest b o hb (no b o e) (k b o e) with q | ⟨f,d,sl,q⟩
  ·exact .inl q
  ·refine .inr ⟨?_,d,sl,q⟩
   rcases List.mem_cons.mp f with z | z
   ·rw [z,hL] at e; contradiction
   ·rw [hfr]; exact z
theorem g8:∀ {names:List (Str × NameKind)} {n:Nat} {acc:List (Str × Addr)} {x:Str},(x,NameKind.cell) ∈ names->∃ c,(x,c) ∈ cellsFrom n names acc
 | (y,k)::r,n,acc,x,h=>by
  have keep:∀ {r:List (Str × NameKind)} {n:Nat} {acc:List (Str × Addr)} {p:Str × Addr},p ∈ acc->p ∈ cellsFrom n r acc:=by
   intro r
   induction r with
   | nil=>intro n acc p hp; exact hp
   | cons q r ih =>
    intro n acc p hp
    obtain ⟨y,k⟩:=q
    unfold cellsFrom
    split
    ·exact ih (bG _ hp)
    ·exact ih hp
  unfold cellsFrom
  rcases List.mem_cons.mp h with e | h
  ·cases e
   rw [if_pos (by rfl)]
   exact ⟨n,keep List.mem_cons_self⟩
  ·split
   ·exact g8 h
   ·exact g8 h
theorem jl:∀ {names:List (Str × NameKind)} {n:Nat} {acc:List (Str × Addr)},uT names->(acc.map (·.1)).Nodup->(∀ p ∈ acc,∀ k,(p.1,k) ∉ names)->((cellsFrom n names acc).map (·.1)).Nodup
 | [],_,_,_,h,_=>h
 | (y,k)::r,n,acc,hU,h,hd=>by
  have hU':uT r:=fun i j x k k' h1 h2=>by have:=hU (i + 1) (j + 1) x k k' (by simpa using h1) (by simpa using h2); (grind)
  have hy:∀ k',(y,k') ∉ r:=fun k' hm=>by
   obtain ⟨i,hi⟩:=List.mem_iff_getElem?.mp hm
   have:=hU 0 (i + 1) y k k' (by simp) (by simpa using hi)
   (grind)
  unfold cellsFrom
  split
  ·refine jl hU' ?_ fun p hp k' hm=>?_
   ·simp only [List.map_cons,List.nodup_cons]
    refine ⟨fun q=>?_,h⟩
    obtain ⟨p,hp,rfl⟩:=List.mem_map.mp q
    exact hd p hp k List.mem_cons_self
   ·rcases List.mem_cons.mp hp with e | hp
    ·subst e; exact hy k' hm
    ·exact hd p hp k' (bG _ hm)
  ·exact jl hU' h fun p hp k' hm=>hd p hp k' (bG _ hm)
theorem rt:∀ {l:List (Str × Addr)},(l.map (·.1)).Nodup->∀ p ∈ l,l.lookup p.1=some p.2
 | [],_,p,hp=>by simp at hp
 | (k,v)::r,h,p,hp=>by
  simp only [List.map_cons,List.nodup_cons] at h
  rw [List.lookup_cons]
  rcases List.mem_cons.mp hp with e | hp
  ·subst e; simp
  ·have:(p.1 == k)=false:=by
    cases hb:p.1 == k with
    | false=>rfl
    | true =>
     have:p.1=k:=by simpa using hb
     exact absurd (List.mem_map.mpr ⟨p,hp,this⟩) h.1
   rw [this]
   exact rt h.2 p hp
theorem tK {kd:Str->Option NameKind}:∀ {ps:List Str} {vals:List Value} {m:Str->Option Value} {y:Str},y ∉ ps->bindL kd (ps.zip vals) m y=m y
 | [],vals,m,y,h=>by simp [bindL]
 | p::ps,[],m,y,h=>by simp [bindL]
 | p::ps,v::vals,m,y,h=>by
  simp only [List.mem_cons,not_or] at h
  simp only [List.zip_cons_cons,bindL]
  rw [tK h.2]
  split
  ·simp [h.1]
  ·rfl
theorem tL {kd:Str->Option NameKind}:∀ {ps:List Str} {vals:List Value} {m:Str->Option Value} {y:Str},y ∉ ps->bindC kd (ps.zip vals) m y=m y
 | [],vals,m,y,h=>by simp [bindC]
 | p::ps,[],m,y,h=>by simp [bindC]
 | p::ps,v::vals,m,y,h=>by
  simp only [List.mem_cons,not_or] at h
  simp only [List.zip_cons_cons,bindC]
  rw [tL h.2]
  split
  ·rfl
  ·simp [h.1]
theorem yl {kd:Str->Option NameKind}:∀ {ps:List Str} {vals:List Value} {m:Str->Option Value} {i:Nat} {y:Str} {v:Value},ps.Nodup->ps[i]?=some y->vals[i]?=some v->kd y=some .local->bindL kd (ps.zip vals) m y=some v
 | [],vals,m,i,y,v,_,h,_,_=>by simp at h
 | p::ps,[],m,i,y,v,_,_,h,_=>by simp at h
 | p::ps,w::vals,m,i,y,v,hn,h1,h2,hk=>by
  rw [List.nodup_cons] at hn
  simp only [List.zip_cons_cons,bindL]
  cases i with
  | zero =>
   simp at h1 h2
   subst h1 h2
   rw [tK hn.1,if_pos hk]; simp
  | succ i=>exact yl hn.2 (by simpa using h1) (by simpa using h2) hk
theorem ym {kd:Str->Option NameKind}:∀ {ps:List Str} {vals:List Value} {m:Str->Option Value} {i:Nat} {y:Str} {v:Value},ps.Nodup->ps[i]?=some y->vals[i]?=some v->kd y=some .cell->bindC kd (ps.zip vals) m y=some v
 | [],vals,m,i,y,v,_,h,_,_=>by simp at h
 | p::ps,[],m,i,y,v,_,_,h,_=>by simp at h
 | p::ps,w::vals,m,i,y,v,hn,h1,h2,hk=>by
  rw [List.nodup_cons] at hn
  simp only [List.zip_cons_cons,bindC]
  cases i with
  | zero =>
   simp at h1 h2
   subst h1 h2
   rw [tL hn.1,if_neg (by rw [hk]; decide)]; simp
  | succ i=>exact ym hn.2 (by simpa using h1) (by simpa using h2) hk
structure eM (K:Kt) (T:bf) (fn:Fn) (a:Addr) (o:Obj) (fd:FuncData) (body:List Stmt) (ps:List Str) (n1 n2:Nat):Prop where
 ho:K.hb.get? a=some o
 hd:o.data=.func fd
 code:K.hb.h.CodeRec fd.code fd.qualname
 hbody:fd.body=.stmts body
 glob:fd.globals=mainGlobals
 bins:fd.builtins=builtinsNs
 clo:fd.closure=[]
 kind:fd.scope.kind=.function
 co:fd.scope.isCoroutine=false
 gen:fd.scope.isGenerator=false
 sc:pR fd.scope.names=true
 tr:pN (trS T fd.scope.names (trE T n1) n2) body=some fn.body
 params:fn.params=ps.length
 slots:fn.slots=fd.scope.names.length
 pk:∀ (i:Nat) (p:Str),ps[i]?=some p->∃ k,fd.scope.names[i]?=some (p,k)/\(k=NameKind.local\/k=.cell)
 bind:∀ vals:List Value,vals.length=ps.length->bindArgs fd ⟨vals,[]⟩=pure (ps.zip vals)
theorem eM.nodup {K T fn a o fd body ps n1 n2} (f:eM K T fn a o fd body ps n1 n2):ps.Nodup:=by
 rw [List.Nodup,List.pairwise_iff_getElem]
 intro i j hi hj hij e
 obtain ⟨k,h1,_⟩:=f.pk i ps[i] (by simp [hi])
 obtain ⟨k',h2,_⟩:=f.pk j ps[j] (by simp [hj])
 rw [e] at h1
 have:=(lA f.sc).uniq i j _ _ _ h1 h2
 (grind)
section
variable {K:Kt} {A:Around} {T:bf} {C:bn} {s:Shared} {α:AL} {σ:ab}
theorem agz {fr:List Addr} {fn:Fn} {a:Addr} {o:Obj} {fd:FuncData} {body:List Stmt} {ps:List Str} {n1 n2:Nat} (f:eM K T fn a o fd body ps n1 n2) {vs:List PV} {us:List Value} {s₁:Shared}
  (hl:vs.length=ps.length) (r:R (K.wf fr).hb s.heap σ α) (v:aT s.heap α vs us)
  (I:InCallC s (callEnvC fd s.heap.objs.size a).locals (bindL (callEnvC fd s.heap.objs.size a).kindOf (ps.zip us) fun zz=>none) (callEnvC fd s.heap.objs.size a).cells (bindC (callEnvC fd s.heap.objs.size a).kindOf (ps.zip us) fun zz=>none) s₁) :
  am (callEnvC fd s.heap.objs.size a) (vs.map some++List.replicate (fn.slots - fn.params) none) s₁.heap ⟨α.ix,α.hid,s.heap.objs.size::fr⟩/\dK (K.wf (s.heap.objs.size::fr)).hb (callEnvC fd s.heap.objs.size a)/\R (K.wf (s.heap.objs.size::fr)).hb s₁.heap σ ⟨α.ix,α.hid,s.heap.objs.size::fr⟩/\Sm s s₁/\(∀ b o,s.heap.get? b=some o->s₁.heap.get? b=some o)/\∀ b ∈ iu (callEnvC fd s.heap.objs.size a),s.heap.get? b=none:=by
 have sc:=lA f.sc
 have keep:=I.toInCall.keep
 have hnm:(callEnvC fd s.heap.objs.size a).scope=fd.scope:=rfl
 have hcells:(callEnvC fd s.heap.objs.size a).cells=cellsFrom (s.heap.objs.size + 1) fd.scope.names []:=rfl
 have hloc:(callEnvC fd s.heap.objs.size a).locals=s.heap.objs.size:=rfl
 have fresh:∀ b,s.heap.objs.size <= b->s.heap.get? b=none:=fun b hb=>by
  cases e:s.heap.get? b with
  | none=>rfl
  | some o'=>exact absurd (Heap.lt_size e) (Nat.not_lt.mpr hb)
 have notAll:∀ b,s.heap.get? b=none->b ∉ α.all:=fun b hb q=>by obtain ⟨o,e⟩:=r.liveAll q; rw [hb] at e; contradiction
 have base:∀ b,s.heap.get? b=none->K.hb.get? b=none:=fun b hb=>by
  cases e:K.hb.get? b with
  | none=>rfl
  | some o=>rw [r.base b o e] at hb; contradiction
 have cfresh:∀ n c,(n,c) ∈ (callEnvC fd s.heap.objs.size a).cells->s.heap.get? c=none:=fun n c h=>fresh c (Nat.le_of_lt (I.above n c h))
 have kd:∀ (i:Nat) (y:Str) (k:NameKind),fd.scope.names[i]?=some (y,k)->(callEnvC fd s.heap.objs.size a).kindOf y=some k:=fun i y k h=>dz sc.uniq h
 have hnd:=jl (n:=s.heap.objs.size + 1) (acc:=[]) sc.uniq (by simp) (by simp)
 have cl:∀ p ∈ (callEnvC fd s.heap.objs.size a).cells,(callEnvC fd s.heap.objs.size a).cells.lookup p.1=some p.2:=rt hnd
 have xk:aL [] α s.heap α s₁.heap:=.keeps keep
 have hrho:∀ (i:Nat) (w:PV),(vs.map some++List.replicate (fn.slots - fn.params) (none:Option PV))[i]?=some (some w)->vs[i]?=some w:=fun i w e=>by
  by_cases hi:i < vs.length
  ·rw [List.getElem?_append_left (by simpa using hi)] at e
   simpa using e
  ·rw [List.getElem?_append_right (by simpa using hi)] at e
   rw [List.getElem?_replicate] at e
   split at e <;> cases e
 have arg:∀ (i:Nat) (w:PV),vs[i]?=some w->∃ p k u,ps[i]?=some p/\fd.scope.names[i]?=some (p,k)/\(k=.local\/k=.cell)/\us[i]?=some u/\VR s.heap α w u:=fun i w e=>by
  have hi:i < vs.length:=(cS e).1
  have hp:i < ps.length:=by grind
  obtain ⟨k,h1,h2⟩:=f.pk i ps[i] (by simp [hp])
  have hu:i < us.length:=by rw [<- v.1]; exact hi
  exact ⟨ps[i],k,us[i],by simp [hp],h1,h2,by simp [hu],v.2 i w us[i] e (by simp [hu])⟩
 refine ⟨⟨⟨f.kind,f.glob,f.bins,kd,sc.nodbg⟩,notAll _ (fresh _ (Nat.le_refl _)),⟨_,I.toInCall.ns,fun i y w e1 e2=>?_⟩,fun y c hc=>?_,fun y z c h1 h2=>?_,fun i y e1=>?_,fun i w e=>?_⟩,
  ⟨sc,⟨base _ (fresh _ (Nat.le_refl _)),fun y c hc=>base _ (cfresh y c (mem_of_lookup hc)),⟨_,_,rfl,rfl⟩⟩,cl,?_⟩,?_,?_,keep,fun b hb=>?_⟩
 ·obtain ⟨p,k,u,q1,q2,q3,q4,q5⟩:=arg i w (hrho i w e2)
  rw [hnm] at e1
  rw [q2] at e1
  cases e1
  exact ⟨u,yl f.nodup q1 q4 (kd i _ _ q2),(q5.ext xk).refr⟩
 ·have hm:=mem_of_lookup hc
  exact ⟨notAll _ (cfresh y c hm),Nat.ne_of_gt (I.above y c hm),_,I.cell y c hc⟩
 ·exact name_of_addr I.apart (mem_of_lookup h1) (mem_of_lookup h2)
 ·rw [hnm] at e1
  obtain ⟨c,hc⟩:=g8 (n:=s.heap.objs.size + 1) (acc:=[]) (List.mem_of_getElem? e1)
  have hc':=cl (y,c) hc
  refine ⟨c,hc',fun w e2=>?_⟩
  obtain ⟨p,k,u,q1,q2,q3,q4,q5⟩:=arg i w (hrho i w e2)
  rw [q2] at e1
  cases e1
  refine ⟨u,?_,(q5.ext xk).refr⟩
  have:=I.cell _ c hc'
  rw [ym f.nodup q1 q4 (kd i _ _ q2)] at this
  exact this
 ·obtain ⟨p,k,u,q1,q2,q3,q4,q5⟩:=arg i w (hrho i w e)
  exact ⟨p,k,q2,q3⟩
 ·show (fd.scope.kind == .module && _)=false
  rw [f.kind]; rfl
 ·obtain ⟨o',es,ep,e',d,_⟩:=I.toInCall.ns
  exact (r.keeps keep).pushFr (base _ (fresh _ (Nat.le_refl _))) e' ⟨es,ep,d⟩ (AL.not_ix (notAll _ (fresh _ (Nat.le_refl _))))
 ·obtain ⟨h',tk,rfl⟩:=I.toInCall.same
  exact ⟨rfl,rfl⟩
 ·rcases List.mem_cons.mp hb with q | q
  ·rw [q]; exact fresh _ (Nat.le_refl _)
  ·obtain ⟨p,hp,rfl⟩:=List.mem_map.mp q
   exact cfresh p.1 p.2 hp
noncomputable def aaN (K:Kt):Prop:=∃ a o fd n r,K.mg "law" = some (.ref a)/\K.hb.get? a=some o/\o.data=.func fd/\fd.scope.names=(n,NameKind.local)::r
inductive agL (K:Kt) (T:bf) (P:mG) (f:Nat) (L:Addr->Prop):Prop
 | mk (fn:Fn) (a:Addr) (o:Obj) (fd:FuncData) (body:List Stmt) (ps:List Str) (n1 n2:Nat) (hf:P.fns[f]?=some fn) (hl:L a) (F:eM K T fn a o fd body ps n1 n2):agL K T P f L
structure PrgOk (K:Kt) (T:bf) (P:mG):Prop where
 hK:K.Ok
 rp:T.repl=true->K.pos=true
 l0:T.repl=true->aaN K
 cst:∀ x v,T.cst.lookup x=some v->∃ u,K.mg x=some u/\∀ fr h σ α,R (K.wf fr).hb h σ α->VR h α v u
 bin:∀ x,x ∈ T.bins->K.mg x=none/\∃ v,jY x=some v/\K.mb x=some v
 fns:∀ (f:Nat) (x:Str),T.fns[f]?=some x->agL K T P f fun a=>K.mg x=some (.ref a)
 brd:∀ b c,T.brd=some (b,c)->∃ F:PySem.W.Frag,gq K F b c/\∀ (j:Nat) (n:Str),T.meths[j]?=some n->agL K T P (T.fns.length + j) fun a=>PySem.W.findIn F (.ref c) n=some (some (.ref a))/\PySem.W.typeIn F (.ref a)=some (.type "function")
structure mH (K:Kt) (A:Around) (m:Nat):Prop where
 hd:m=0->A.handled=none
theorem mH.ctx {K:Kt} {A:Around} {m d N:Nat} {P:mG} (h:mH K A m):(lc P N m d).hd=false->A.handled=none:=fun q=>h.hd (by simpa [bn.hd,lc] using q)
theorem aaW {M:Model} {Γ:PySem.Ctx} {γ:Type} {x:Str} {f:Value->Sem γ} {Q:γ->Pos->Shared->Prop} {E:Value->Pos->Shared->Prop} {p:Pos} {s:Shared} (h:Sem.wp M Γ (mkText x >>= f) Q E p s):Sem.wp M Γ (mkText x >>= f) (fun a p s=>Q a p s/\1 <= s.toks) E p s:=by
 have h2:Sem.wp M Γ (f (.str x s.toks)) Q E p { s with toks:=s.toks + 1 }:=h
 have h3:Sem.wp M Γ (f (.str x s.toks)) (fun a p s=>Q a p s/\1 <= s.toks) E p { s with toks:=s.toks + 1 }:=
  Sem.wp_mono M Γ _ (fun zz zz zz h=>h) (fun zz zz zz h=>h.1) _ _ (sB (n:=1) (f (.str x s.toks)) (Nat.le_add_left 1 s.toks) h2)
 exact h3
theorem zx {M:Model} {Γ:PySem.Ctx} {env:Env} {x:Str} {v:Value} {Q:Unit->Pos->Shared->Prop} {E:Value->Pos->Shared->Prop} {p:Pos} {s:Shared} (hk:env.scope.kind=.function) (hl:env.kindOf x=some .local)
  (h:Sem.wp M Γ (storeName env x v) Q E p s):Sem.wp M Γ (storeName env x v) (fun a p s=>Q a p s/\1 <= s.toks) (fun e p s=>E e p s) p s:=by
 have e:storeName env x v=nsSet env.locals x v:=by
  unfold storeName
  rw [hl,hk]; rfl
 rw [e] at h ⊢
 unfold nsSet at h ⊢
 rw [Sem.wp_bind'] at h ⊢
 refine Sem.wp_mono M Γ _ (fun a p s h=>?_) (fun zz zz zz h=>h) _ _ h
 exact aaW h
theorem acK {scope:Scope} {g:Addr} {clo:List (Str × Addr)} {x:Str} {v:Value} {rest:List (Str × Value)} {qual:Str} {func:Option Addr} {code:Value} {b:Addr} {Q:Env->Shared->Prop} {E:Value->Shared->Prop} (hk:scope.kind=.function) (hl:scope.names.lookup x=some .local)
  (h:wpAny (model K.prog K.w) A (newFunctionEnv scope g clo ((x,v)::rest) qual func code none b) (fun e s'=>0 < s'.toks->Q e s') E s):wpAny (model K.prog K.w) A (newFunctionEnv scope g clo ((x,v)::rest) qual func code none b) Q E s:=by
 intro Γ p tz
 have h':=h Γ p tz
 unfold newFunctionEnv at h' ⊢
 rw [Sem.wp_bind'] at h' ⊢
 refine Sem.wp_mono _ _ _ (fun a p s h=>?_) (fun zz zz zz h=>h) _ _ h'
 rw [Sem.wp_bind'] at h ⊢
 refine Sem.wp_mono _ _ _ (fun a p s h=>?_) (fun zz zz zz h=>h) _ _ h
 dsimp only at h ⊢
 rw [List.forIn_cons] at h ⊢
 rw [Sem.wp_bind',Sem.wp_bind'] at h ⊢
 rw [Sem.wp_bind'] at h ⊢
 refine Sem.wp_mono _ _ _ (fun a p s h=>?_) (fun zz zz zz h=>h) _ _ (zx hk hl h)
 obtain ⟨h,ht⟩:=h
 refine Sem.wp_mono _ _ _ (fun a p s h=>?_) (fun zz zz zz h=>h.1) _ _ (sB (n:=1) _ ht h)
 obtain ⟨h,ht⟩:=h
 exact Sem.wp_mono _ _ _ (fun a p s h=>h.1 h.2) (fun zz zz zz h=>h.1) _ _ (sB (n:=1) _ ht h)
theorem xE {R:Result->Shared->Prop} {a:Addr} {o:Obj} {fd:FuncData} {body:List Stmt} {vals:List Value} {binds:List (Str × Value)} (tk:K.Tk s\/∃ x v rest,binds=(x,v)::rest/\fd.scope.names.lookup x=some .local)
  (hroom:A.depth < recursionLimit) (ho:s.heap.get? a=some o) (hdata:o.data=.func fd) (hlim:s.heap.NoLimit) (hcd:s.heap.CodeRec fd.code fd.qualname)
  (hbody:fd.body=.stmts body) (hbind:bindArgs fd ⟨vals,[]⟩=pure binds) (hclo:fd.closure=[])
  (hkind:∀ x ∈ binds,fd.scope.names.lookup x.1=some .local\/(fd.scope.names.lookup x.1=some .cell/\((cellsFrom (s.heap.objs.size + 1) fd.scope.names []).lookup x.1).isSome=true))
  (h:∀ s₁,InCallC s (callEnvC fd s.heap.objs.size a).locals (bindL (callEnvC fd s.heap.objs.size a).kindOf binds fun zz=>none) (callEnvC fd s.heap.objs.size a).cells (bindC (callEnvC fd s.heap.objs.size a).kindOf binds fun zz=>none) s₁->K.Tk s₁ ->
   wpAny (model K.prog K.w) (A.deeper (callEnvC fd s.heap.objs.size a)) (execs body (callEnvC fd s.heap.objs.size a)) (fun f s'=>R (.ok (.ret (match f with | .ret v=>v | _=>.none))) s')
    (fun e s'=>wpAny (model K.prog K.w) (A.deeper (callEnvC fd s.heap.objs.size a)) (leaving (callEnvC fd s.heap.objs.size a) e) (fun zz s''=>R (.error e) s'') (fun e' s''=>R (.error e') s'') s') s₁)
  (hco:fd.scope.isCoroutine=false) (hgen:fd.scope.isGenerator=false) (hk:fd.scope.kind=.function):codeAny (model K.prog K.w) A (.call (.ref a) ⟨vals,[]⟩) R s:=by
 refine codeAny_call_function hroom ho hdata hco hgen hbody hcd ?_
 rw [hbind,hclo]
 refine wpAny_pure ?_
 rcases tk with tk | ⟨y,v,rest,rfl,hl⟩
 ·refine fH tk (wpAny_newFunctionEnv_cells hk hkind fun env he s' x tk'=>?_)
  subst he
  exact ⟨hlim.keeps x.toInCall.keep,codeAny_func (h s' x tk')⟩
 ·refine acK hk hl (wpAny_newFunctionEnv_cells hk hkind fun env he s' x tk'=>?_)
  subst he
  exact ⟨hlim.keeps x.toInCall.keep,codeAny_func (h s' x fun zz=>tk')⟩
set_option tactic.hygienic true in
theorem yk {P:mG} (p:PrgOk K T P) {N d:Nat} {hd:Nat} {fr:List Addr} (hroom:A.depth < recursionLimit) (hA:∀ env,gr d (A.deeper env)) (hh:mH K A hd) (hF:ld (K.wf fr) A)
  (gc:∀ {K:Kt} (p:PrgOk K T P) (m:Nat) (A:Around) (fr:List Addr),gr d A->mH K A m->ld (K.wf fr) A->Ctx (K.wf fr) A T (lc P N m d))
  {f:Nat} {fn:Fn} {a:Addr} {o:Obj} {fd:FuncData} {body:List Stmt} {ps:List Str} {n1 n2:Nat} (hf:P.fns[f]?=some fn) (F:eM K T fn a o fd body ps n1 n2)
  {vs:List PV} {us:List Value} {s:Shared} {σ:ab} {α:AL} (r:R (K.wf fr).hb s.heap σ α) (v:aT s.heap α vs us) (hc:dN P N hd (d + 1) f vs σ ≠ .stuck)
  (tk:K.Tk s\/∃ x q,ps=x::q/\us ≠ []/\fd.scope.names.lookup x=some .local) {Rr:Result->Shared->Prop} (hok:∀ v s',bm (K.wf fr) VR (dN P N hd (d + 1) f vs σ) s α v s'->Rr (.ok (.ret v)) s') (herr:∀ e s',bi (K.wf fr) A (dN P N hd (d + 1) f vs σ) s α e s'->Rr (.error e) s') :
  codeAny (model K.prog K.w) A (.call (.ref a) ⟨us,[]⟩) Rr s:=by
 simp only [dN,hf] at hc hok herr
 split at hc
 ·rename_i hl
  rw [if_pos hl] at hok herr
  rw [F.params] at hl
  have sc:=lA F.sc
  refine xE (tk.imp id fun ⟨x,q,e1,e2,e3⟩=>by
   cases us with
   | nil=>exact absurd rfl e2
   | cons u us=>exact ⟨x,u,q.zip us,by rw [e1]; rfl,e3⟩) hroom (r.base _ _ F.ho) F.hd (p.hK.nolimit.keeps r.base) (F.code.keeps r.base) F.hbody (F.bind us (by rw [<- v.1]; exact hl)) F.clo (fun q hq=>?_) (fun s₁ I mM=>?_) F.co F.gen F.kind
  ·obtain ⟨i,hi⟩:=List.mem_iff_getElem?.mp hq
   obtain ⟨h1,h2⟩:=List.getElem?_zip_eq_some.mp hi
   obtain ⟨k,h3,h4⟩:=F.pk i q.1 h1
   rcases h4 with rfl | rfl
   ·exact .inl (dz sc.uniq h3)
   ·refine .inr ⟨dz sc.uniq h3,?_⟩
    obtain ⟨c,hc'⟩:=g8 (n:=s.heap.objs.size + 1) (acc:=[]) (List.mem_of_getElem? h3)
    obtain ⟨c',hc''⟩:=qm hc'
    rw [hc'']; rfl
  ·obtain ⟨E,Fr,r1,m1,kp,own⟩:=agz F hl r v I
   have hA':gr d (A.deeper (callEnvC fd s.heap.objs.size a)):=hA _
   have hF':ld (K.wf (s.heap.objs.size::fr)) (A.deeper (callEnvC fd s.heap.objs.size a)):=hF.push rfl F.kind
   have ctx:=gc p hd _ (s.heap.objs.size::fr) hA' ⟨hh.hd⟩ hF'
   have body_ok:=iG (n:=N) (adz (T:=T) (f:=trE T n1) rfl ctx (xJ ctx n1) Fr n2) F.tr _ _ _ _ E r1
   have e0:(⟨fun m=>dN P N m d,hd⟩:bn)=lc P N hd d:=rfl
   rw [e0] at hc hok herr
   generalize hcq:ex (lc P N hd d) N fn.body (vs.map some++List.replicate (fn.slots - fn.params) none) σ=cc at hc body_ok hok herr
   have hcc:cc ≠ .stuck:=by rintro rfl; exact hc rfl
   have hfr:α.fr=fr:=r.fe
   have hLn:s.heap.get? s.heap.objs.size=none:=own _ List.mem_cons_self
   refine wpAny_mono (body_ok hcc mM) (fun fl aD hp=>?_) fun e aD hx=>?_
   ·obtain ⟨ρ₂,σ₂,aQ,x2,r2,E2,m2,fo⟩:=hp
    have xx:aL [] α s.heap ⟨aQ.ix,aQ.hid,fr⟩ aD.heap:=aL.ofCall hfr kp own hLn x2
    cases cc with
    | next ρ' σ' =>
     obtain ⟨rfl,rfl,rfl⟩:=fo
     exact hok _ _ ⟨.none,_,_,rfl,xx,r2.popFr,.none,m1.trans m2⟩
    | ret w ρ' σ' =>
     obtain ⟨⟨u,rfl,vu⟩,rfl,rfl⟩:=fo
     exact hok _ _ ⟨w,_,_,rfl,xx,r2.popFr,vu.refr,m1.trans m2⟩
    | brk ρ' σ'=>exact absurd rfl hc
    | cont ρ' σ'=>exact absurd rfl hc
    | exc i ρ' σ'=>exact fo.elim
    | stuck=>exact absurd rfl hcc
   ·obtain ⟨i,ρ',σ',iI,jM,nt,e1,y,En,m0,fx⟩:=hx
    subst e1
    exact absurd rfl hc
 ·exact absurd rfl hc
theorem ae4 {P:mG} (p:PrgOk K T P) {N d:Nat} {hd:Nat} {fr:List Addr} (hA:gr (d + 1) A) (hh:mH K A hd) (hF:ld (K.wf fr) A)
  (gc:∀ {K:Kt} (p:PrgOk K T P) (m:Nat) (A:Around) (fr:List Addr),gr d A->mH K A m->ld (K.wf fr) A->Ctx (K.wf fr) A T (lc P N m d))
  {f:Nat} {fn:Fn} {a:Addr} {o:Obj} {fd:FuncData} {body:List Stmt} {ps:List Str} {n1 n2:Nat} (hf:P.fns[f]?=some fn) (F:eM K T fn a o fd body ps n1 n2)
  {vs:List PV} {us:List Value} {s:Shared} {σ:ab} {α:AL} (r:R (K.wf fr).hb s.heap σ α) (v:aT s.heap α vs us) (hc:dN P N hd (d + 1) f vs σ ≠ .stuck)
  (tk:K.Tk s\/∃ x q,ps=x::q/\us ≠ []/\fd.scope.names.lookup x=some .local) :
  wpAny (model K.prog K.w) A (call (.ref a) us) (bm (K.wf fr) VR (dN P N hd (d + 1) f vs σ) s α) (bi (K.wf fr) A (dN P N hd (d + 1) f vs σ) s α) s:=
 wpAny_call (yk p (by have:=hA.depth; (grind)) (fun zz=>hA.deeper) hh hF gc hf F r v hc tk (fun zz zz h=>h) fun zz zz h=>h)
open PySem.W in
theorem afw {c:Addr} {us:List Value} {d:Nat} (h:gr (d + 1) A):(A.under (.builtin "type.__call__" ⟨.ref c::us,[]⟩)).depth < recursionLimit/\∀ env,gr d ((A.under (.builtin "type.__call__" ⟨.ref c::us,[]⟩)).deeper env):=by
 have w:(Code.builtin "type.__call__" ⟨.ref c::us,[]⟩).weight <= 1:=Nat.le_of_ble_eq_true (by kernel_rfl)
 have u:(Code.builtin "type.__call__" ⟨.ref c::us,[]⟩).cUnits <= 4:=Nat.le_of_ble_eq_true rfl
 have h1:=h.depth
 have h2:=h.units
 refine ⟨?_,fun env=>⟨?_,?_⟩⟩
 ·show A.depth + (Code.builtin "type.__call__" ⟨.ref c::us,[]⟩).weight < recursionLimit; (grind)
 ·show A.depth + (Code.builtin "type.__call__" ⟨.ref c::us,[]⟩).weight + 1 + 2 * d + 200 < recursionLimit; (grind)
 ·show A.units + (Code.builtin "type.__call__" ⟨.ref c::us,[]⟩).cUnits + 3 + 20 * d + 200 < cLine; (grind)
theorem gq.wf {F:PySem.W.Frag} {b:Str} {c:Addr} {fr:List Addr} (B:gq K F b c):gq (K.wf fr) F b c:=⟨B.mg,B.inn,B.keep,B.makes,B.plain,B.hasd,B.seta,B.free
  ,B.geta,B.getr,B.none
  ⟩
open PySem.W in
theorem afW {P:mG} (p:PrgOk K T P) {N d:Nat} {hd:Nat} {fr:List Addr} (hA:gr (d + 1) A) (hh:mH K A hd) (hF:ld (K.wf fr) A)
  (gc:∀ {K:Kt} (p:PrgOk K T P) (m:Nat) (A:Around) (fr:List Addr),gr d A->mH K A m->ld (K.wf fr) A->Ctx (K.wf fr) A T (lc P N m d))
  {f:Nat} {fn:Fn} {a:Addr} {o:Obj} {fd:FuncData} {body:List Stmt} {ps:List Str} {n1 n2:Nat} (hf:P.fns[f]?=some fn) (F:eM K T fn a o fd body ps n1 n2)
  {Fg:Frag} {b:Str} {c:Addr} (B:gq K Fg b c) (hi:findIn Fg (.ref c) "__init__" = some (some (.ref a))) (hty:typeIn Fg (.ref a)=some (.type "function"))
  {vs:List PV} {us:List Value} {s:Shared} {σ:ab} {α:AL} (r:R (K.wf fr).hb s.heap σ α) (v:aT s.heap α vs us) :
  Runs (K.wf fr) VR A (call (.ref c) us) (pU (lc P N hd (d + 1)) c f vs σ) s α:=by
 intro hc tk
 have X:Fg.In s.heap:=fun x o e=>r.base x o (B.inn x o e)
 obtain ⟨h,g,dr,t,os⟩:=s
 refine wpAny_call (make_core (makes_of X B.makes) (looks_findIn X hi) (fun self=>bind_fn X self hty) (.inl rfl) ?_)
 have k:∀ b o,h.get? b=some o->((h.push emptyDict).push (instObj c h.objs.size)).get? b=some o:=fun b o e=>Heap.get?_push_of_some _ (Heap.get?_push_of_some _ e)
 have hn:∀ b,h.objs.size <= b->h.get? b=none:=fun b hb=>by
  cases e:h.get? b with
  | none=>rfl
  | some o=>exact absurd (Heap.lt_size e) (Nat.not_lt.mpr hb)
 have hD:((h.push emptyDict).push (instObj c h.objs.size)).get? h.objs.size=some emptyDict:=Heap.get?_push_of_some _ (Heap.get?_push_size _ rfl)
 have hx:((h.push emptyDict).push (instObj c h.objs.size)).get? (h.objs.size + 1)=some (instObj c h.objs.size):=by
  have:=Heap.get?_push_size (h.push emptyDict) (o:=instObj c h.objs.size) rfl
  rwa [Heap.size_push] at this
 have nsD:((h.push emptyDict).push (instObj c h.objs.size)).Ns1 h.objs.size fun zz=>none:=
  Heap.Ns1.of_empty ⟨_,#[],_,hD,rfl,fun e he=>absurd he (by simp),fun zz=>rfl⟩
 obtain ⟨r',x'⟩:=r.add (D:=h.objs.size) (m:=.ns []) k (hn _ (Nat.le_refl _)) ⟨_,nsD,fun n v e=>(nomatch e),fun zz zz=>rfl⟩
 have hix:(α.add h.objs.size).ix[σ.length]?=some h.objs.size:=by rw [r.len]; simp [AL.add]
 have hxn:h.objs.size + 1 ∉ (α.add h.objs.size).all:=fun q=>by
  obtain ⟨o,e⟩:=r'.liveAll q
  rcases List.mem_append.mp q with q | q
  ·rcases List.mem_append.mp q with q | q
   ·obtain ⟨o,e⟩:=r.liveAll (List.mem_append_left _ q)
    rw [hn _ (Nat.le_succ _)] at e; contradiction
   ·exact absurd (List.mem_singleton.mp q) (Nat.succ_ne_self _)
  ·obtain ⟨o,e⟩:=r.liveAll (List.mem_append_right _ q)
   rw [hn _ (Nat.le_succ _)] at e; contradiction
 have vx:VR ((h.push emptyDict).push (instObj c h.objs.size)) (α.add h.objs.size) (.inst c σ.length) (.ref (h.objs.size + 1)):=.inst hx hxn hix
 obtain ⟨g1,g2⟩:=afw (c:=c) (us:=us) hA
 unfold pU at hc ⊢
 have hcc:dN P N hd (d + 1) f (.inst c σ.length::vs) (σ++[.ns []]) ≠ .stuck:=fun q=>hc (by
  show (dN P N hd (d + 1) f (.inst c σ.length::vs) (σ++[.ns []])).bind _=_
  rw [q]; rfl)
 refine yk p (s:=⟨(h.push emptyDict).push (instObj c h.objs.size),g,dr,t,os⟩) g1 g2 ⟨hh.hd⟩ ⟨hF.ex⟩ gc hf F (vs:=.inst c σ.length::vs) r' (.cons vx (v.ext x')) hcc (.inl tk) (fun w s' hp=>?_) fun e s' hp=>?_
 ·obtain ⟨bb,σ',α',e,x2,r2,v2,m2⟩:=hp
  change (dN P N hd (d + 1) f (.inst c σ.length::vs) (σ++[.ns []])).bind _ ≠ _ at hc
  rw [e] at hc
  cases bb with
  | none =>
   obtain rfl:=v2.noneE
   refine ⟨rfl,?_⟩
   show bm (K.wf fr) VR ((dN P N hd (d + 1) f (.inst c σ.length::vs) (σ++[.ns []])).bind _) _ _ _ _
   rw [e]
   exact ⟨_,σ',α',rfl,x'.trans x2,r2,vx.ext x2,⟨m2.gens,m2.os⟩⟩
  | _=>exact absurd rfl hc
 ·have hp2:bi (K.wf fr) (A.under (.builtin "type.__call__" ⟨.ref c::us,[]⟩)) (dN P N hd (d + 1) f (.inst c σ.length::vs) (σ++[.ns []])) ⟨h,g,dr,t,os⟩ α e s':=hp.lift (s₁:=⟨(h.push emptyDict).push (instObj c h.objs.size),g,dr,t,os⟩) x' ⟨rfl,rfl⟩
  obtain ⟨i,σ',e1,fx⟩:=hp2
  show bi (K.wf fr) A ((dN P N hd (d + 1) f (.inst c σ.length::vs) (σ++[.ns []])).bind _) _ _ _ _
  rw [e1]
  exact ⟨i,σ',rfl,fx⟩
theorem aeb {P:mG} {N d m:Nat} {fr:List Addr} (p:PrgOk K T P) (hA:gr d A) (hh:mH K A m) (hF:ld (K.wf fr) A)
  (hcall:∀ {f fn a o fd body ps n1 n2},P.fns[f]?=some fn->eM K T fn a o fd body ps n1 n2->∀ vs us s σ α,R (K.wf fr).hb s.heap σ α->aT s.heap α vs us->Runs (K.wf fr) VR A (call (.ref a) us) (dN P N m d f vs σ) s α)
  (hnew:∀ {f fn a o fd body ps n1 n2},P.fns[f]?=some fn->eM K T fn a o fd body ps n1 n2->∀ {Fg b c},gq K Fg b c->PySem.W.findIn Fg (.ref c) "__init__" = some (some (.ref a))->PySem.W.typeIn Fg (.ref a)=some (.type "function") ->
   ∀ vs us s σ α,R (K.wf fr).hb s.heap σ α->aT s.heap α vs us->Runs (K.wf fr) VR A (call (.ref c) us) (pU (lc P N m d) c f vs σ) s α)
  : Ctx (K.wf fr) A T (lc P N m d):=by
 refine ⟨⟨p.hK.g,p.hK.b,p.hK.nolimit,p.hK.mods⟩,hA.ok,
  hh.ctx,p.rp,hF,
  fun x v h=>?_,fun f x hx=>?_,p.bin
  ,fun b c hb=>?_
  ⟩
 ·obtain ⟨u,h1,h2⟩:=p.cst x v h
  exact ⟨u,h1,fun h σ α r=>h2 fr h σ α r⟩
 ·obtain ⟨fn,a,o,fd,body,ps,n1,n2,hf,hmg,F⟩:=p.fns f x hx
  exact ⟨a,o,fd,hmg,F.ho,F.hd,hcall hf F⟩
 ·obtain ⟨Fg,B,H⟩:=p.brd b c hb
  refine ⟨Fg,B.wf,fun j hj=>?_
   ,fun j n hj=>?_
   ⟩
  ·obtain ⟨fn,a,o,fd,body,ps,n1,n2,hf,⟨q1,q2⟩,F⟩:=H j _ hj
   exact hnew hf F B q1 q2
  ·obtain ⟨fn,a,o,fd,body,ps,n1,n2,hf,⟨q1,q2⟩,F⟩:=H j n hj
   exact ⟨a,o,fd,q1,q2,F.ho,F.hd,hcall hf F⟩
theorem gc {P:mG} {N:Nat} (d:Nat):∀ {K:Kt} (p:PrgOk K T P) (m:Nat) (A:Around) (fr:List Addr),gr d A->mH K A m->ld (K.wf fr) A->Ctx (K.wf fr) A T (lc P N m d):=by
 induction d with
 | zero =>
  exact fun p m A fr hA hh hF=>aeb p hA hh hF (fun zz zz zz zz zz zz zz zz zz hc=>absurd rfl hc)
   (fun zz zz zz zz zz zz zz zz zz zz zz zz zz zz zz hc=>absurd rfl hc)
 | succ d ih =>
  exact fun p m A fr hA hh hF=>aeb p hA hh hF (fun hf F vs us s σ α r v hc tk=>ae4 p hA hh hF ih hf F r v hc (.inl tk))
   (fun hf F zz zz zz B q1 q2 vs us s σ α r v=>afW p hA hh hF ih hf F B q1 q2 r v)
end
end Mine
namespace Mine
open PySem PySem.W PyProof.Rows
theorem pY:∀ {ps:List Str} {vals:List Value} {i:Nat} {p:Str} {v:Value},ps.Nodup->ps[i]?=some p->vals[i]?=some v->(ps.zip vals).lookup p=some v
 | [],_,_,_,_,_,h,_=>by simp at h
 | _::_,[],_,_,_,_,_,h=>by simp at h
 | q::ps,w::vals,i,p,v,hn,h1,h2=>by
  rw [List.nodup_cons] at hn
  rw [List.zip_cons_cons,List.lookup_cons]
  cases i with
  | zero=>simp at h1 h2; subst h1 h2; simp
  | succ i =>
   have h1':ps[i]?=some p:=by simpa using h1
   have:(p == q)=false:=by
    cases hb:p == q with
    | false=>rfl
    | true =>
     have:p=q:=by simpa using hb
     subst this; exact absurd (List.mem_of_getElem? h1') hn.1
   rw [this]
   exact pY hn.2 h1' (by simpa using h2)
theorem yA {ps:List Str} {vals:List Value} (hn:ps.Nodup) (hl:vals.length=ps.length):(ps.filterMap fun n=>((ps.zip vals).lookup n).map (n,·))=ps.zip vals:=by
 have key:∀ (qs:List Str) (ws:List Value),qs.length=ws.length->(∀ (i:Nat) q w,qs[i]?=some q->ws[i]?=some w->(ps.zip vals).lookup q=some w)->(qs.filterMap fun n=>((ps.zip vals).lookup n).map (n,·))=qs.zip ws:=by
  intro qs
  induction qs with
  | nil=>intro ws _ _; simp
  | cons q qs ih =>
   intro ws hl h
   cases ws with
   | nil=>contradiction
   | cons w ws =>
    have h0:=h 0 q w (by simp) (by simp)
    simp only [List.filterMap_cons,h0,Option.map_some,List.zip_cons_cons]
    rw [ih ws (by simpa using hl) fun i q w h1 h2=>h (i + 1) q w (by simpa using h1) (by simpa using h2)]
 exact key ps vals hl.symm fun i q w h1 h2=>pY hn h1 h2
theorem agC {fd:FuncData} {ps:List Str} (hp:fd.params.posonlyargs=[]) (ha:fd.params.args.map (·.arg)=ps) (hk:fd.params.kwonlyargs=[]) (hv:fd.params.vararg=none) (hw:fd.params.kwarg=none) (hdf:fd.defaults=.none)
  (hn:ps.Nodup) {vals:List Value} (hl:vals.length=ps.length):bindArgs fd ⟨vals,[]⟩=pure (ps.zip vals):=by
 obtain ⟨nm,q,⟨po,ar,va,ko,kd,kw,df⟩,body,sc,g,cl,dfs,kwd,doc,pm,an,code,ct,bl⟩:=fd
 dsimp only at hp ha hk hv hw hdf
 subst hp hk hv hw hdf
 refine (if_neg ?_).trans ((if_neg ?_).trans ?_)
 ·show ¬ (decide (vals.length > (ar.map (·.arg)).length) && true)=true
  rw [ha,hl,decide_eq_false (Nat.lt_irrefl _)]; exact nofun
 ·show ¬ (!(((ar.map (·.arg)).take ((ar.map (·.arg)).length - (List.drop (0 - (ar.map (·.arg)).length) ([]:List Value)).length)).filter fun n=>(((ar.map (·.arg)).zip vals).lookup n).isNone).isEmpty)=true
  rw [ha,List.drop_nil,List.length_nil,Nat.sub_zero,List.take_length,List.filter_eq_nil_iff.mpr]
  ·exact nofun
  intro a ha'
  obtain ⟨i,hi,rfl⟩:=List.mem_iff_getElem.mp ha'
  rw [pY hn (i:=i) (v:=vals[i]) (List.getElem?_eq_getElem hi) (List.getElem?_eq_getElem _)]
  exact nofun
 ·have hz:∀ (l:List Str),l.zip ([]:List Value)=[]:=fun l=>List.zip_nil_right
  dsimp only
  rw [show (none.getD #[]:Array Value).toList=[] from rfl,List.drop_nil,hz]
  show (pure:_->Sem _) ((List.map (fun x:Arg=>x.arg) ar++[]).filterMap fun n=>(((List.map (fun x:Arg=>x.arg) ar).zip vals).lookup n).map (n,·))=_
  rw [ha,List.append_nil,yA hn hl]
noncomputable def acG:Value->Option Addr
 | .ref a=>some a
 | _=>none
noncomputable def ag3:Value->Option Int
 | .int i _=>some i
 | _=>none
noncomputable def agS:Value->Option Str
 | .str s _=>some s
 | _=>none
noncomputable def aeO:Data->Option FuncData
 | .func fd=>some fd
 | _=>none
noncomputable def agT:Data->Option (Array Value × Nat)
 | .seq xs n=>some (xs,n)
 | _=>none
noncomputable def abx:FuncBody->Option (List Stmt)
 | .stmts b=>some b
 | _=>none
theorem zI {v:Value} {a:Addr} (h:acG v=some a):v=.ref a:=by
 cases v with
 | ref b=>rw [oi h]
 | _=>contradiction
theorem agg {v:Value} {i:Int} (h:ag3 v=some i):∃ t,v=.int i t:=by
 cases v with
 | int j t=>exact ⟨t,by rw [oi h]⟩
 | _=>contradiction
theorem afy {v:Value} {s:Str} (h:agS v=some s):∃ t,v=.str s t:=by
 cases v with
 | str j t=>exact ⟨t,by rw [oi h]⟩
 | _=>contradiction
theorem aeN {d:Data} {fd:FuncData} (h:aeO d=some fd):d=.func fd:=by
 cases d with
 | func f=>rw [oi h]
 | _=>contradiction
theorem afE {d:Data} {q:Array Value × Nat} (h:agT d=some q):d=.seq q.1 q.2:=by
 cases d with
 | seq f n=>rw [<- oi h]
 | _=>contradiction
theorem acB {d:FuncBody} {b:List Stmt} (h:abx d=some b):d=.stmts b:=by
 cases d with
 | stmts f=>rw [oi h]
 | _=>contradiction
noncomputable def aiz (q:Str × Str × NameKind):Bool:=q.1 == q.2.1 && acE q.2.2
noncomputable def agU (ps:List Str) (names:List (Str × NameKind)):Bool:=decide (ps.length <= names.length) && (ps.zip names).all aiz
noncomputable def isNone:Value->Bool
 | .none=>true
 | _=>false
noncomputable def agn (K:Frag) (fd:FuncData):Bool:=
 codeIn K fd.code fd.qualname && fd.globals == mainGlobals && fd.builtins == builtinsNs && fd.closure.isEmpty && fd.scope.kind == .function && !fd.scope.isCoroutine && !fd.scope.isGenerator && pR fd.scope.names &&
  fd.params.posonlyargs.isEmpty && fd.params.kwonlyargs.isEmpty && fd.params.vararg.isNone && fd.params.kwarg.isNone && isNone fd.defaults && agU (fd.params.args.map (·.arg)) fd.scope.names
noncomputable def wW (T:bf) (n1 n2:Nat) (K:Frag) (q:Option (Option Value)):Option Fn:=
 q.bind fun q=>q.bind fun v=>(acG v).bind fun a=>(K.lookup a).bind fun o=>(aeO o.data).bind fun fd=>(abx fd.body).bind fun body =>
  aH (agn K fd) ((pN (trS T fd.scope.names (trE T n1) n2) body).map fun b=>⟨fd.params.args.length,fd.scope.names.length,b⟩)
theorem aio {α β:Type} {xs:List α} {ys:List β} {i:Nat} {x:α} (hl:xs.length <= ys.length) (h:xs[i]?=some x):∃ y,ys[i]?=some y/\(x,y) ∈ xs.zip ys:=by
 have hi:=(cS h).1
 have hj:i < ys.length:=Nat.lt_of_lt_of_le hi hl
 exact ⟨ys[i],List.getElem?_eq_getElem hj,List.mem_of_getElem? (List.getElem?_zip_eq_some.mpr ⟨h,List.getElem?_eq_getElem hj⟩)⟩
theorem afB {k:NameKind} (h:acE k=true):k=.local\/k=.cell:=by
 cases k with
 | «local»=>exact .inl rfl
 | cell=>exact .inr rfl
 | _=>contradiction
theorem tY {ps:List Str} {names:List (Str × NameKind)} (h:agU ps names=true) (i:Nat) (p:Str) (h2:ps[i]?=some p):∃ k,names[i]?=some (p,k)/\(k=NameKind.local\/k=.cell):=by
 obtain ⟨h0,h1⟩:=cM h
 obtain ⟨y,h3,h4⟩:=aio (of_decide_eq_true h0) h2
 obtain ⟨h5,h6⟩:=cM (List.all_eq_true.mp h1 _ h4)
 obtain rfl:p=y.1:=eq_of_beq h5
 exact ⟨y.2,h3,afB h6⟩
inductive afj (K:Kt) (T:bf) (n1 n2:Nat) (q:Option (Option Value)) (fn:Fn):Prop
 | mk (a:Addr) (o:Obj) (fd:FuncData) (body:List Stmt) (ps:List Str) (h:q=some (some (.ref a))) (F:eM K T fn a o fd body ps n1 n2):afj K T n1 n2 q fn
theorem agm {K:Kt} {K':Frag} {T:bf} {n1 n2:Nat} {a:Addr} {o:Obj} {fd:FuncData} {body:List Stmt} {b:S} (X:K'.In K.hb.h) (h2:K'.lookup a=some o) (h3:o.data=.func fd) (hb:fd.body=.stmts body) (hok:agn K' fd=true)
  (ht:pN (trS T fd.scope.names (trE T n1) n2) body=some b):eM K T ⟨fd.params.args.length,fd.scope.names.length,b⟩ a o fd body (fd.params.args.map (·.arg)) n1 n2:=by
 unfold agn at hok
 obtain ⟨hok,q14⟩:=cM hok
 obtain ⟨hok,q13⟩:=cM hok
 obtain ⟨hok,q12⟩:=cM hok
 obtain ⟨hok,q11⟩:=cM hok
 obtain ⟨hok,q10⟩:=cM hok
 obtain ⟨hok,q9⟩:=cM hok
 obtain ⟨hok,q8⟩:=cM hok
 obtain ⟨hok,q7⟩:=cM hok
 obtain ⟨hok,q6⟩:=cM hok
 obtain ⟨hok,q5⟩:=cM hok
 obtain ⟨hok,q4⟩:=cM hok
 obtain ⟨hok,q3⟩:=cM hok
 obtain ⟨q1,q2⟩:=cM hok
 have hdf:fd.defaults=.none:=by
  cases hd:fd.defaults with
  | none=>rfl
  | _=>rw [hd] at q13; contradiction
 refine ⟨X _ _ h2,h3,codeRec_of X q1,hb,eq_of_beq q2,eq_of_beq q3,List.isEmpty_iff.mp q4,eq_of_beq q5,by simpa using q6,by simpa using q7,q8,ht,(List.length_map _).symm,rfl,tY q14,fun vals hl=>?_⟩
 refine agC (List.isEmpty_iff.mp q9) rfl (List.isEmpty_iff.mp q10) (Option.isNone_iff_eq_none.mp q11) (Option.isNone_iff_eq_none.mp q12) hdf ?_ hl
 rw [List.Nodup,List.pairwise_iff_getElem]
 intro i j hi hj hij e
 obtain ⟨k,h1,_⟩:=tY q14 i (fd.params.args.map (·.arg))[i] (List.getElem?_eq_getElem hi)
 obtain ⟨k',h2,_⟩:=tY q14 j (fd.params.args.map (·.arg))[j] (List.getElem?_eq_getElem hj)
 rw [e] at h1
 exact absurd ((lA q8).uniq i j _ _ _ h1 h2) (Nat.ne_of_lt hij)
theorem vC {K:Kt} {K':Frag} {T:bf} {n1 n2:Nat} {q:Option (Option Value)} {fn:Fn} (X:K'.In K.hb.h) (h:wW T n1 n2 K' q=some fn):afj K T n1 n2 q fn:=by
 unfold wW at h
 refine aS h fun q1 h0 h=>aS h fun v h1 h=>aS h fun a h2 h=>aS h fun o h3 h=>aS h fun fd h4 h=>aS h fun body h5 h=>aK h fun hok h=>c7 h fun b ht=>?_
 refine ⟨a,o,fd,body,_,?_,agm X h3 (aeN h4) (acB h5) hok ht⟩
 rw [h0,h1,zI h2]
noncomputable def gY (T:bf) (n1 n2:Nat) (K:Frag):List (Option (Option Value))->Option (List Fn)
 | []=>some []
 | x::r=>o2 (wW T n1 n2 K x) (gY T n1 n2 K r) List.cons
theorem zU {T:bf} {n1 n2:Nat} {K:Frag} {xs:List (Option (Option Value))}:∀ {fs:List Fn},gY T n1 n2 K xs=some fs->∀ (i:Nat) (x:Option (Option Value)),xs[i]?=some x->∃ fn,fs[i]?=some fn/\wW T n1 n2 K x=some fn:=by
 induction xs with
 | nil=>intro fs _ i x h; exact nomatch h
 | cons y r ih =>
  intro fs h i x h2
  change o2 _ _ _=_ at h
  refine ez (M:=fun fs=>∃ fn,fs[i]?=some fn/\wW T n1 n2 K x=some fn) h fun f fs' h3 h4=>?_
  cases i with
  | zero=>exact ⟨f,rfl,oi h2 ▸ h3⟩
  | succ i=>exact ih h4 i x h2
noncomputable def okS (q:Value × PV):Bool:=match q.2 with
 | .str s=>agS q.1 == some s && PyData.strOk s
 | _=>false
theorem ad4 {h:Heap} {α:AL} {v:Value} {x:PV} (e:okS (v,x)=true):VR h α x v:=by
 cases x with
 | str s =>
  obtain ⟨h1,h2⟩:=cM e
  obtain ⟨t,rfl⟩:=afy (eq_of_beq h1)
  exact .str _ _ h2
 | _=>contradiction
noncomputable def agP (o:Obj) (xs:List PV):Bool:=o.cls == .type "tuple" && o.dict.isNone && o.slots.isEmpty && (agT o.data).any fun q=>q.1.toList.length == xs.length && (q.1.toList.zip xs).all okS
theorem afo {hb:Bs} {h:Heap} {σ:ab} {α:AL} {a:Addr} {o:Obj} {xs:List PV} (e:agP o xs=true) (ho:hb.get? a=some o) (r:R hb h σ α):VR h α (.tup xs) (.ref a):=by
 obtain ⟨e,e4⟩:=cM e
 obtain ⟨e,e3⟩:=cM e
 obtain ⟨e1,e2⟩:=cM e
 obtain ⟨q,e5,e6⟩:=(Option.any_eq_true _ _).mp e4
 obtain ⟨e7,e8⟩:=cM e6
 obtain ⟨c,d,dt,sl⟩:=o
 obtain rfl:=eq_of_beq e1
 obtain rfl:=Option.isNone_iff_eq_none.mp e2
 obtain rfl:=Array.isEmpty_iff.mp e3
 obtain rfl:=afE e5
 have hl:=eq_of_beq e7
 refine VR.tupI (ak:=q.1.toList) (n:=q.2) (r.base _ _ ho) (fun q=>?_) ⟨hl.symm,fun i x v h1 h2=>?_⟩
 ·rcases List.mem_append.mp q with q | q
  ·rw [r.fresh a q] at ho; contradiction
  ·rw [r.hfr a q] at ho; contradiction
 ·exact ad4 (List.all_eq_true.mp e8 _ (List.mem_of_getElem? (List.getElem?_zip_eq_some.mpr ⟨h2,h1⟩)))
noncomputable def cOk (K:Frag) (v:PV) (u:Value):Bool:=match v with
 | .int i=>ag3 u == some i
 | .str s=>okS (u,.str s)
 | .tup xs=>((acG u).bind fun a=>K.lookup a).any fun o=>agP o xs
 | _=>false
theorem aji {K:Frag} {hb:Bs} (X:K.In hb.h) {v:PV} {u:Value} (e:cOk K v u=true) {fr:List Addr} {h:Heap} {σ:ab} {α:AL} (r:R ⟨hb.h,fr,hb.prog,hb.w⟩ h σ α):VR h α v u:=by
 cases v with
 | int i=>obtain ⟨t,rfl⟩:=agg (eq_of_beq e); exact .int _ _
 | str s=>exact ad4 e
 | tup xs =>
  obtain ⟨o,h1,h2⟩:=(Option.any_eq_true _ _).mp e
  refine aS h1 fun a h3 h4=>?_
  rw [zI h3]
  exact afo (hb:=⟨_,fr,_,_⟩) h2 (X _ _ h4) r
 | _=>contradiction
noncomputable def wu (K:Frag) (l:List (Str × PV)):Bool:=l.all fun p=>((nsIn K mainGlobals p.1).bind id).any (cOk K p.2)
theorem agt {K:Frag} {hb:Bs} (X:K.In hb.h) {l:List (Str × PV)} (h:wu K l=true) (x:Str) (v:PV) (hx:l.lookup x=some v):∃ u,nsIn K mainGlobals x=some (some u)/\∀ fr h σ α,R ⟨hb.h,fr,hb.prog,hb.w⟩ h σ α->VR h α v u:=by
 obtain ⟨u,h1,h2⟩:=(Option.any_eq_true _ _).mp (List.all_eq_true.mp h _ (fP hx))
 exact aS h1 fun q h3 h4=>⟨u,h3.trans (congrArg some h4),fun zz zz zz zz r=>aji X h2 r⟩
noncomputable def aiI (K:Frag) (x:Str):Bool:=(nsIn K mainGlobals x).any Option.isNone
noncomputable def si (K:Frag) (l:List Str):Bool:=(K.lookup sysModules).isSome && l.all fun x=>aiI K x && (jY x).isSome && !(x == ("__name__" : Str))
theorem aih {x:Str} {v:Value} (h:jY x=some v):bootBuiltins x=some v:=
 (show ∀ p ∈ ahd,bootBuiltins p.1=some p.2 from (by repeat (first | refine List.forall_mem_cons.mpr ⟨(by dsimp only; boot_by_name),?_⟩ | exact fun zz h=>nomatch h))) _ (fP h)
noncomputable def aaB (h:Heap) (F:Frag) (T:bf):Bool:=
 !T.repl &&
 true
noncomputable def adk (K:Frag) (T:bf):Bool:=
 match T.brd with
 | none=>true
 | some (b,c)=>nsIn K mainGlobals b == some (some (.ref c)) && keepIn K (.ref c) && makesIn K c && plainOver K c && (clsIn K c).any (·.hasDict) && findIn K (.ref c) "__setattr__" == some (some (.builtin "object.__setattr__")) &&
   dv.all (fun n=>takerIn K c n == some none) &&
   findIn K (.ref c) "__getattribute__" == some (some (.builtin "object.__getattribute__")) && findIn K (.ref c) "__getattr__" == some none && dv.all (fun n=>findIn K (.ref c) n == some none) &&
   T.meths.all fun n=>(findIn K (.ref c) n).join.bind (typeIn K) == some (.type "function")
noncomputable def iR (T:bf) (K:Frag):List (Option (Option Value)):=T.fns.map (nsIn K mainGlobals ·)++T.meths.map (fun n=>T.brd.bind fun q=>findIn K (.ref q.2) n)
noncomputable def u8 (h:Heap) (F:Frag) (T:bf):Bool:=aaB h F T && adk F T
theorem adD {h:Heap} {F:Frag} {T:bf} (e:u8 h F T=true):aaB h F T=true:=(cM e).1
theorem ahj {T:bf} {F:Frag} {f:Nat} {x:Str} (h:T.fns[f]?=some x):(iR T F)[f]?=some (nsIn F mainGlobals x):=by
 unfold iR
 rw [List.getElem?_append_left (by rw [List.length_map]; exact (cS h).1),List.getElem?_map,h]; rfl
theorem ahi {T:bf} {F:Frag} {j:Nat} {n:Str} (h:T.meths[j]?=some n):(iR T F)[T.fns.length + j]?=some (T.brd.bind fun q=>findIn F (.ref q.2) n):=by
 unfold iR
 rw [List.getElem?_append_right (by rw [List.length_map]; exact Nat.le_add_right _ _),List.length_map,Nat.add_sub_cancel_left,List.getElem?_map,h]; rfl
theorem ajj {K:Kt} {F:Frag} {T:bf} {b:Str} {c:Nat} (X:F.In K.hb.h) (hg:K.hb.h.Ns mainGlobals K.mg) (e:adk F T=true) (hb:T.brd=some (b,c)):gq K F b c/\∀ n ∈ T.meths,(findIn F (.ref c) n).join.bind (typeIn F)=some (.type "function"):=by
 unfold adk at e
 rw [hb] at e
 simp only [Bool.and_eq_true,beq_iff_eq] at e
 obtain ⟨⟨⟨⟨⟨⟨⟨⟨⟨⟨e1,e2⟩,e3⟩,e4⟩,e5⟩,e6⟩,e7⟩,g1⟩,g2⟩,g3⟩,e8⟩:=e
 exact ⟨⟨mg_of X hg e1,X,e2,e3,e4,e5,e6,fun n hn=>eq_of_beq (List.all_eq_true.mp e7 n hn),g1,g2,fun n hn=>eq_of_beq (List.all_eq_true.mp g3 n hn)⟩,fun n hn=>eq_of_beq (List.all_eq_true.mp e8 n hn)⟩
theorem prgOk {K:Kt} {K':Frag} {T:bf} {n1 n2:Nat} {P:mG} {p:Program} {loose:List Str} (Tp:TopRead p loose K.mg K.mb K.hb.h) (X:K'.In K.hb.h) {cF:Heap} (aiZ:∀ b o,cF.get? b=some o->K.hb.h.get? b=some o) (hz:u8 cF K' T=true) (h1:wu K' T.cst=true) (h2:si K' T.bins=true) (h3:gY T n1 n2 K' (iR T K')=some P.fns) (hrp:T.repl=true->K.pos=true):PrgOk K T P:=by
 unfold si at h2
 obtain ⟨h2m,h2⟩:=cM h2
 obtain ⟨om,hom⟩:=Option.isSome_iff_exists.mp h2m
 have h0:=adD hz
 have hK:K.Ok:=⟨Tp.g,Tp.b,Tp.nolimit,om,X _ _ hom⟩
 have hl0:T.repl=true->aaN K:=fun q=>by
  unfold aaB at h0
  have:=(cM h0).1
  rw [q] at this
  contradiction
 refine ⟨hK,hrp,hl0,fun x v hx=>?_,fun x hx=>?_,
  fun f x hx=>?_
  ,fun b c hb=>?_
  ⟩
 ·obtain ⟨u,q1,q2⟩:=agt X h1 x v hx
  exact ⟨u,mg_of X Tp.g q1,q2⟩
 ·have:=List.all_eq_true.mp h2 x hx
  simp only [Bool.and_eq_true,Bool.not_eq_true',beq_eq_false_iff_ne] at this
  obtain ⟨⟨q1,q2⟩,q3⟩:=this
  obtain ⟨v,hv⟩:=Option.isSome_iff_exists.mp q2
  refine ⟨?_,v,hv,(Tp.builtins x q3).trans (aih hv)⟩
  obtain ⟨q,h3,h4⟩:=(Option.any_eq_true _ _).mp q1
  exact mg_none_of X Tp.g (h3.trans (congrArg some (Option.isNone_iff_eq_none.mp h4)))
 ·obtain ⟨fn,q1,q2⟩:=zU h3 f _ (ahj hx)
  obtain ⟨a,o,fd,body,ps,hq,F⟩:=vC X q2
  exact ⟨fn,a,o,fd,body,ps,n1,n2,q1,mg_of X Tp.g hq,F⟩
 ·obtain ⟨B,hty⟩:=ajj X Tp.g (cM hz).2 hb
  refine ⟨K',B,fun j n hj=>?_⟩
  obtain ⟨fn,q1,q2⟩:=zU h3 _ _ (ahi hj)
  obtain ⟨a,o,fd,body,ps,hq,F⟩:=vC X q2
  have hq:findIn K' (.ref c) n=some (some (.ref a)):=by rw [hb] at hq; exact hq
  have:=hty n (List.mem_of_getElem? hj)
  rw [hq] at this
  exact ⟨fn,a,o,fd,body,ps,n1,n2,q1,⟨hq,this⟩,F⟩
end Mine
namespace Mine
open PySem PySem.W PyProof.Rows
theorem adx {P:Params} {h:Heap}:∀ {l:List Int} {vs:List Value},WellAll P h vs (ofPys (l.map .int))->aT h ⟨[],[],[]⟩ (l.map .int) vs:=by
 intro l
 induction l with
 | nil =>
  intro vs W
  cases (show WellAll P h vs [] from W)
  exact .nil
 | cons i l ih =>
  intro vs W
  cases (show WellAll P h vs (ofPy (.int i)::ofPys (l.map .int)) from W) with
  | cons a b =>
   cases a
   exact .cons (.int i _) (ih b)
theorem adU {P:Params} {h:Heap} {a:Addr} {l:List Int} (W:Well P h (.ref a) (ofPy (.list (l.map .int)))):VR h ⟨[],[],[]⟩ (.fl (l.map .int)) (.ref a):=by
 simp only [ofPy] at W
 cases W with
 | list e w=>exact VR.flI e (by simp [AL.all]) (adx w)
theorem agw {d:Nat} (h:d <= 100):gr d callerA:=by
 have h1:callerA.depth + 2 * 100 + 200 < recursionLimit:=by decide
 have h2:callerA.units + 20 * 100 + 200 < cLine:=by decide
 exact ⟨by omega,by omega⟩
theorem hd0 {h:Heap} {fr:List Addr} {prog:Program} {w:World} {mg mb:Str->Option Value} {pos:Bool}:mH ⟨⟨h,fr,prog,w⟩,mg,mb,pos,false⟩ callerA 0:=
 ⟨fun zz=>rfl⟩
theorem law_end {prog:Program} {w:World} {s₁:Shared} {mg mb:Str->Option Value} {T:bf} {P:mG} {f N d:Nat} {name:Str} {fa a:Addr} {l:List Int} {σ:ab} {pos:Bool} (p:PrgOk ⟨⟨s₁.heap,[],prog,w⟩,mg,mb,pos,false⟩ T P) (hx:T.fns[f]?=some name)
  (hmg:mg name=some (.ref fa)) (hd:d <= 100) (tk:pos=false) (W:Well w.params s₁.heap (.ref a) (ofPy (.list (l.map .int)))) (hrun:aJ P N d f [.fl (l.map .int)] []=.ok (.bool true) σ)
  {Q:Value->Shared->Prop} {E:Value->Shared->Prop} (hQ:∀ s',(∀ b o,s₁.heap.get? b=some o->s'.heap.get? b=some o)->s'.os=s₁.os->s'.gens=s₁.gens->Q (.bool true) s') :
  wpAny (model prog w) callerA (call (.ref fa) [.ref a]) Q E s₁:=by
 have ctx:=gc (N:=N) d p 0 callerA [] (agw hd) hd0 ⟨[],rfl,rfl,fun e he=>by simp at he⟩
 obtain ⟨a',o,fd,h1,h2,h3,H⟩:=ctx.fn f name hx
 have e:a'=fa:=by
  have h1':mg name=some (.ref a'):=h1
  rw [hmg] at h1'; cases h1'; rfl
 subst e
 have tT:R ⟨s₁.heap,[],prog,w⟩ s₁.heap [] ⟨[],[],[]⟩:=⟨fun zz zz e=>e,fun zz h=>by simp at h,List.nodup_nil,rfl,fun zz h=>by simp at h,fun i m a e=>by simp at e,fun zz h=>by simp at h,rfl,fun zz h=>by simp at h,fun zz h=>by simp at h⟩
 have H:=H [.fl (l.map .int)] [.ref a] s₁ [] ⟨[],[],[]⟩ tT (.cons (adU W) .nil)
 have hrun':(lc P N 0 d).call f [.fl (l.map .int)] []=.ok (.bool true) σ:=hrun
 rw [hrun'] at H
 refine wpAny_mono (H (by simp) fun q=>by rw [tk] at q; contradiction) (fun v s' hp=>?_) fun e s' hx=>?_
 ·obtain ⟨b,σ',α',e,x,r,vr,m⟩:=hp
  cases e
  obtain rfl:=vr.boolE
  exact hQ s' (fun b o e=>r.base b o e) m.os m.gens
 ·obtain ⟨i,σ',e,fx⟩:=hx
  contradiction
end Mine
namespace Mine
open PySem PySem.W PyProof.Rows
noncomputable def c8 (h:Heap):Frag:=(List.range h.objs.size).filterMap fun a=>(h.get? a).map fun o=>(a,o)
theorem rq {f:Nat->Option Obj} {a:Addr} {o:Obj}:∀ {l:List Nat},(l.filterMap fun a=>(f a).map fun o=>(a,o)).lookup a=some o->f a=some o
 | [],h=>by simp at h
 | b::l,h=>by
  rw [List.filterMap_cons] at h
  cases hb:f b with
  | none=>rw [hb] at h; exact rq h
  | some p =>
   rw [hb] at h
   simp only [Option.map_some,List.lookup_cons] at h
   cases hq:(a == b) with
   | true =>
    rw [hq] at h
    have:a=b:=by simpa using hq
    subst this
    rw [hb]; exact h
   | false=>rw [hq] at h; exact rq h
theorem ac3 (h:Heap):(c8 h).In h:=fun a o e=>rq (f:=h.get?) e
structure Says (T:bf) (n1 n2:Nat) (fns:List Fn) (h:Heap):Prop where
 ex:∃ (K:Frag) (cF:Heap),K.In h/\(∀ b o,cF.get? b=some o->h.get? b=some o)/\u8 cF K T=true/\wu K T.cst=true/\si K T.bins=true/\gY T n1 n2 K (iR T K)=some fns
noncomputable def topHook (T:bf) (n1 n2:Nat) (fns:List Fn):Hook where
 α:=Bool × Bool × Bool × Option (List Fn)
 obs:=fun s=>(u8 s.heap (c8 s.heap) T,wu (c8 s.heap) T.cst,si (c8 s.heap) T.bins,gY T n1 n2 (c8 s.heap) (iR T (c8 s.heap)))
 val:=fun zz=>(true,true,true,some fns)
 says:=fun zz h=>Says T n1 n2 fns h
 of:=fun zz s e=>⟨⟨c8 s.heap,s.heap,ac3 _,fun zz zz e=>e,congrArg (·.1) e,congrArg (·.2.1) e,congrArg (·.2.2.1) e,congrArg (·.2.2.2) e⟩⟩
 keeps:=fun zz h h' q k=>by
  obtain ⟨K,cF,a,a',b⟩:=q.ex
  exact ⟨⟨K,cF,fun x o e=>k x o (a x o e),fun x o e=>k x o (a' x o e),b⟩⟩
noncomputable def viewOf (p:Program):Program:={ p with main:={ p.main with body:=p.main.body.filter fun s=>match s with | .Assign [.Name n _] _ _=>!(n == "__name__") | _=>true } }
end Mine
namespace Mine
open PySem PySem.W PySem.Calls PyProof.Rows
theorem afA:stepT=PySem.W.Fast.tw10156331382660048174:=PySem.W.Fast.te10156331382660048174
theorem aeY:denote=PySem.W.Fast.tw11892475500146522536:=PySem.W.Fast.te11892475500146522536
theorem afx:treeTable=PySem.W.Fast.tw14364793385576792824:=PySem.W.Fast.te14364793385576792824
theorem adL:stepOk=PySem.W.Fast.tw6613529449190102663:=PySem.W.Fast.te6613529449190102663
noncomputable def sD (p:Program) (w:World) (wT:Nat) (ann:Option Value):Nat->SharedT->Thread->Option SharedT
 | 0,_,_=>none
 | n + 1,s,t=>match through t with
  | true=>some s
  | false=>match PySem.W.Fast.tw6613529449190102663 wT ann t with
   | false=>none
   | true=>match PySem.W.Fast.tw10156331382660048174 (PySem.W.Fast.tw11892475500146522536 PySem.W.Fast.tw14364793385576792824) p w s t with
    | some (s',t')=>sD p w wT ann n s' t'
    | none=>none
theorem adC {p:Program} {w:World} {wT:Nat} {ann:Option Value}:∀ {n:Nat} {s s':SharedT} {t:Thread},sD p w wT ann n s t=some s'->topRun treeTable p w wT ann n s.abs t=some s'.abs:=by
 intro n
 induction n with
 | zero=>intro s s' t h; exact nomatch h
 | succ n ih =>
  intro s s' t h
  unfold sD at h
  unfold topRun
  rw [<- adL,<- afA,<- aeY,<- afx] at h
  cases he:through t with
  | true=>rw [he] at h; cases h; rfl
  | false =>
   rw [he] at h
   cases hk:stepOk wT ann t with
   | false=>rw [hk] at h; cases h
   | true =>
    rw [hk] at h
    cases hs:stepT (denote treeTable) p w s t with
    | none=>rw [hs] at h; cases h
    | some r=>obtain ⟨aD,akD⟩:=r; rw [hs] at h; rw [stepT_spec hs]; exact ih h
noncomputable def ra:List Obj->Nat->BT->Option BT
 | [],_,t=>some t
 | o::l,n,t=>match ((t.ins n o).get n).isSome with
  | true=>ra l (n + 1) (t.ins n o)
  | false=>none
theorem u4 {life:Life}:∀ {l:List Obj} {n:Nat} {t t':BT},ra l n t=some t'->absHeap t' (n + l.length) life=l.foldl Heap.push (absHeap t n life)
 | [],n,t,t',h=>by cases h; rfl
 | o::l,n,t,t',h=>by
  unfold ra at h
  cases hs:((t.ins n o).get n).isSome with
  | false=>rw [hs] at h; cases h
  | true =>
   rw [hs] at h
   rw [List.length_cons,show n + (l.length + 1)=n + 1 + l.length by grind,u4 h,absHeap_ins hs]; rfl
theorem vW {life:Life}:∀ (l:List Obj) (a:Array Obj),l.foldl Heap.push ⟨a,life⟩=⟨a++l.toArray,life⟩
 | [],a=>by simp
 | o::l,a=>by
  show l.foldl Heap.push ⟨a.push o,life⟩=_
  rw [vW l (a.push o)]
  simp
theorem aaO {l:List Obj} {life:Life} {t:BT} (h:ra l 0 .nil=some t):absHeap t l.length life=⟨l.toArray,life⟩:=by
 have:=u4 (life:=life) h
 rw [Nat.zero_add] at this
 rw [this]
 show l.foldl Heap.push ⟨#[],life⟩=_
 rw [vW]; simp
noncomputable def akr (p:Program) (cF:Heap) (s₁:Shared):Option Shared:=
 match staticsOk (importedModules p.main.body) cF s₁.heap && namesBound p s₁.heap && gensDone s₁ && laidKept cF s₁.heap with
 | true=>some s₁
 | false=>none
noncomputable def vE (p:Program) (w:World) (os:OsState) (N:Nat):Option Shared:=
 (ra (boot_heap w.params).objs.toList 0 .nil).bind fun T =>
  match (boot_heap w.params).isNs mainGlobals with
  | true=>(sD p w (boot_heap w.params).objs.toList.length ((boot_heap w.params).nsMap mainGlobals "__annotations__") N ⟨T,(boot_heap w.params).objs.toList.length,(boot_heap w.params).life,#[],boot_drawn,boot_toks,os⟩ (topStub p)).bind fun s=>akr p (boot_heap w.params) s.abs
  | false=>none
theorem aes {p:Program} {w:World} {os:OsState} {N:Nat} {s₁:Shared} (h:vE p w os N=some s₁):topFrom treeTable p w N ⟨boot_heap w.params,#[],boot_drawn,boot_toks,os⟩=some s₁:=by
 unfold vE at h
 obtain ⟨T,hT,h⟩:=Option.bind_eq_some_iff.mp h
 have hh:absHeap T (boot_heap w.params).objs.toList.length (boot_heap w.params).life=boot_heap w.params:=by
  rw [aaO hT]
 cases hn:(boot_heap w.params).isNs mainGlobals with
 | false=>rw [hn] at h; cases h
 | true =>
  rw [hn] at h
  obtain ⟨s,hs,h⟩:=Option.bind_eq_some_iff.mp h
  have hr:=adC hs
  have ha:(SharedT.abs ⟨T,(boot_heap w.params).objs.toList.length,(boot_heap w.params).life,#[],boot_drawn,boot_toks,os⟩)=⟨boot_heap w.params,#[],boot_drawn,boot_toks,os⟩:=by
   show (⟨absHeap T _ _,#[],boot_drawn,boot_toks,os⟩:Shared)=_
   rw [hh]
  rw [ha,Array.length_toList] at hr
  unfold topFrom
  have hb:((boot_heap w.params).isNs mainGlobals && (#[]:Array GenState).size == 0)=true:=by rw [hn]; rfl
  show (match ((boot_heap w.params).isNs mainGlobals && (#[]:Array GenState).size == 0) with | true=>_ | false=>_)=_
  rw [hb]
  dsimp only
  rw [hr]
  exact h
theorem ahv:openSeen=PySem.W.Fast.tw4187177175401517315:=PySem.W.Fast.te4187177175401517315
theorem ahO {p q:Program} {loose:List Str} {Xt:Shared->Bool} {α:Type} {Yf:Shared->α} {Ya:World->α} {N:Nat} (e:opening p=plainProg p.main.scope.names) (hN:Nat.ble 600 N=true) (f:∀ s,fenceModules? p s=some s)
  (h:∀ w os,(vE p w os N).map (fun s=>(PySem.W.Fast.tw4187177175401517315 q loose (importedModules p.main.body) Xt true s,Yf s))=some (openGood q loose,Ya w)):LeftO p q loose Xt Yf Ya N:=fun w=>by
 rw [<- ahv] at h
 obtain ⟨s,hs,hv⟩:=Option.map_eq_some_iff.mp (boot_open e hN f w)
 obtain ⟨hp,g,d,t,os⟩:=s
 simp only [Prod.mk.injEq] at hv
 obtain ⟨rfl,rfl,rfl,rfl⟩:=hv
 unfold openEnds
 rw [hs]
 obtain ⟨s₁,h1,h2⟩:=Option.map_eq_some_iff.mp (h w os)
 show (topFrom treeTable p w N _).map _=_
 have:=aes h1
 rw [show (⟨boot_heap w.params,{ toList:=[] },boot_drawn,boot_toks,os⟩:Shared)=⟨boot_heap w.params,#[],boot_drawn,boot_toks,os⟩ from rfl,this]
 exact congrArg some h2
theorem aed {T:bf} {n1 n2:Nat} {K:Frag} {ys:List (Option (Option Value))} {b:List Fn} (h2:gY T n1 n2 K ys=some b) (xs:List (Option (Option Value))):∀ {a:List Fn},gY T n1 n2 K xs=some a->gY T n1 n2 K (xs++ys)=some (a++b):=by
 induction xs with
 | nil=>intro a h; obtain rfl:=oi h; exact h2
 | cons x r ih =>
  intro a h
  change o2 _ _ _=_ at h
  refine ez (M:=fun a=>gY T n1 n2 K (x::r++ys)=some (a++b)) h fun f fs h3 h4=>?_
  show o2 (wW T n1 n2 K x) (gY T n1 n2 K (r++ys)) List.cons=_
  rw [h3,ih h4]; rfl
noncomputable def y8 (T:bf) (g:List (Option (Option Value))->List (Option (Option Value))) (s:Shared):Option (List Fn):=gY T 40 30 (c8 s.heap) (g (iR T (c8 s.heap)))
theorem ah9 {T:bf} {o:Option Shared} {k:Nat} {a b:List Fn} (h1:o.map (y8 T (List.take k))=some (some a)) (h2:o.map (y8 T (List.drop k))=some (some b)):o.map (fun s=>gY T 40 30 (c8 s.heap) (iR T (c8 s.heap)))=some (some (a++b)):=by
 cases o with
 | none=>exact nomatch h1
 | some s =>
  have h:=aed (oi h2) _ (oi h1)
  rw [List.take_append_drop] at h
  exact congrArg some h
end Mine
namespace Mine
open PySem
noncomputable def TT:bf where
 fns:=[("has_some" : Str),("waiting" : Str),("is_value" : Str),("product" : Str),("chosen" : Str),("single" : Str),("outcome" : Str),("is_name" : Str),("are_names" : Str),("are_unlike" : Str),("is_rule" : Str),("is_step" : Str),("is_plan" : Str),("givers_of" : Str),("outside" : Str),("is_between" : Str),("_law_cell_at" : Str),("_law_next" : Str),("_law_names" : Str),("_law_value" : Str),("_law_given" : Str),("_law_rule" : Str),("_law_plan" : Str),("_law_outside" : Str),("_law_first" : Str),("_law_puts" : Str),("_law_needed" : Str),("_law_missing" : Str),("_law_fired" : Str),("_law_pairs" : Str),("_law_ready" : Str),("_law_some_done" : Str),("_law_waiting" : Str),("_law_look" : Str),("law" : Str)]
 cst:=[("MOST_VALUE",.int 999999),("WRAP",.int 1000000),("LETTERS",.str "abcdefghijklmnopqrstuvwxyz"),("FIGURES",.str "0123456789"),("LONGEST",.int 8),("MOST_STEPS",.int 20),("MOST_NEEDS",.int 4),("MOST_GIVES",.int 3),("PLAIN_WORDS",.tup [.str "sum",.str "times",.str "least",.str "most"]),("MOST_TURNS",.int 200)]
 bins:=["len", "list", "tuple", "sum", "min", "max", "sorted", "all", "any", "int", "str", "bool", "ValueError", "isinstance", "range", "enumerate", "zip", "set"]
 muts:=[(24,12),(105,12),(117,12),(140,21),(216,16),(224,15),(240,17),(279,21),(280,16),(299,21),(302,17),(309,17),(315,17),(343,16),(361,17),(377,17),(384,16),(401,17)]
 excs:=[("FireError",24,[]),("NoPlan",37,[24]),("NoTurn",49,[24]),("NoPlace",61,[24]),("NoValue",73,[24]),("TokenThere",85,[24]),("NoStep",97,[24]),("Fired",109,[24]),("NotReady",121,[24])]
 brd:=some ("Board",323)
 meths:=["__init__", "need_place", "need_turn", "need_step", "put", "missed", "has_fired", "is_ready", "fire", "at", "ready", "fired"]
 repl:=false
 dstr:=[(110,12)]
noncomputable abbrev p4:Nat:=0
noncomputable abbrev rz:Nat:=1
noncomputable abbrev iP:Nat:=2
noncomputable abbrev xW:Nat:=3
noncomputable abbrev aad:Nat:=4
noncomputable abbrev aac:Nat:=5
noncomputable abbrev rA:Nat:=6
noncomputable abbrev mY:Nat:=7
noncomputable abbrev cV:Nat:=8
noncomputable abbrev dG:Nat:=9
noncomputable abbrev xY:Nat:=10
noncomputable abbrev xX:Nat:=11
noncomputable abbrev ir:Nat:=12
noncomputable abbrev jS:Nat:=13
noncomputable abbrev mW:Nat:=14
noncomputable abbrev dF:Nat:=15
noncomputable abbrev aG:Nat:=16
noncomputable abbrev b4:Nat:=17
noncomputable abbrev gS:Nat:=18
noncomputable abbrev gR:Nat:=19
noncomputable abbrev tx:Nat:=20
noncomputable abbrev p3:Nat:=21
noncomputable abbrev vM:Nat:=22
noncomputable abbrev bY:Nat:=23
noncomputable abbrev nS:Nat:=24
noncomputable abbrev vL:Nat:=25
noncomputable abbrev fR:Nat:=26
noncomputable abbrev kt:Nat:=27
noncomputable abbrev fi:Nat:=28
noncomputable abbrev jR:Nat:=29
noncomputable abbrev nR:Nat:=30
noncomputable abbrev mX:Nat:=31
noncomputable abbrev qo:Nat:=32
noncomputable abbrev iO:Nat:=33
noncomputable abbrev ajP:Nat:=34
noncomputable abbrev hW:Nat:=35
noncomputable abbrev fS:Nat:=36
noncomputable abbrev ei:Nat:=37
noncomputable abbrev kQ:Nat:=38
noncomputable abbrev dZ:Nat:=39
noncomputable abbrev eE:Nat:=40
noncomputable abbrev b9:Nat:=41
noncomputable abbrev eS:Nat:=42
noncomputable abbrev eF:Nat:=43
noncomputable abbrev vN:Nat:=44
noncomputable abbrev ku:Nat:=45
noncomputable abbrev kv:Nat:=46
noncomputable abbrev af:Nat:=323
noncomputable def qI:X:=(.comp true 1 [none,none,some 0,some 2] (.cmp (.meth 323 vN "at" (.v 2) (.cons (.v 1) (.cons (.v 3) .nil))) .isNot (.k .none)) (.k (.bool true)) (.sub (.v 1) (.k (.int 2))))
noncomputable def qH:S:=(.ret (.b1 .any qI))
noncomputable def wi:Fn:=⟨3,4,(.cons qH .nil)⟩
noncomputable def rF:S:=(.asg 1 (.lst false .nil))
noncomputable def rD:S:=(.expr (.me .append (.v 1) (.cons (.tup (.cons (.sub (.v 2) (.k (.int 0))) (.cons (.v 3) .nil))) .nil)))
noncomputable def lQ:S:=(.ife (.and (.cons (.not (.meth 323 b9 "has_fired" (.v 0) (.cons (.sub (.v 2) (.k (.int 0))) (.cons (.v 3) .nil)))) (.cons (.not (.meth 323 eS "is_ready" (.v 0) (.cons (.v 2) (.cons (.v 3) .nil)))) (.cons (.call p4 (.cons (.v 0) (.cons (.v 2) (.cons (.v 3) .nil)))) .nil)))) (.cons rD .nil) .nil)
noncomputable def m6:S:=(.cons lQ .nil)
noncomputable def xa:S:=(.for1 3 (.range1 (.attr 323 (.v 0) "turns")) m6)
noncomputable def yB:S:=(.cons xa .nil)
noncomputable def rE:S:=(.for1 2 (.attr 323 (.v 0) "plan") yB)
noncomputable def rC:S:=(.ret (.v 1))
noncomputable def yb:Fn:=⟨1,6,(.cons rF (.cons rE (.cons rC .nil)))⟩
noncomputable def yJ:S:=(.ret (.and (.cons (.isinst (.v 0) .int) (.cons (.not (.isinst (.v 0) .bool)) (.cons (.cmp2 (.k (.int 0)) .le (.v 0) .le (.k (.int 999999))) .nil)))))
noncomputable def lv:Fn:=⟨1,5,(.cons yJ .nil)⟩
noncomputable def rI:S:=(.asg 1 (.k (.int 1)))
noncomputable def oO:S:=(.asg 1 (.bin .mod (.bin .mul (.v 1) (.v 2)) (.k (.int 1000000))))
noncomputable def qx:S:=(.cons oO .nil)
noncomputable def rH:S:=(.for1 2 (.v 0) qx)
noncomputable def rG:S:=(.ret (.v 1))
noncomputable def yc:Fn:=⟨1,4,(.cons rI (.cons rH (.cons rG .nil)))⟩
noncomputable def qJ:S:=(.ret (.sub (.v 0) (.k (.int 1))))
noncomputable def jW:S:=(.ife (.cmp (.sub (.v 0) (.k (.int 0))) .eq (.k (.int 0))) (.cons qJ .nil) .nil)
noncomputable def n7:S:=(.ret (.sub (.v 0) (.k (.int 2))))
noncomputable def aaA:Fn:=⟨1,1,(.cons jW (.cons n7 .nil))⟩
noncomputable def cX:S:=(.asg 2 (.sub (.v 0) (.k (.int 0))))
noncomputable def qw:S:=(.ret (.bin .mod (.b1 .sum (.v 1)) (.k (.int 1000000))))
noncomputable def cW:S:=(.ife (.cmp (.v 2) .eq (.k (.str "sum"))) (.cons qw .nil) .nil)
noncomputable def qv:S:=(.ret (.call xW (.cons (.v 1) .nil)))
noncomputable def du:S:=(.ife (.cmp (.v 2) .eq (.k (.str "times"))) (.cons qv .nil) .nil)
noncomputable def qu:S:=(.ret (.b1 .min (.v 1)))
noncomputable def d3:S:=(.ife (.cmp (.v 2) .eq (.k (.str "least"))) (.cons qu .nil) .nil)
noncomputable def qt:S:=(.ret (.b1 .max (.v 1)))
noncomputable def fj:S:=(.ife (.cmp (.v 2) .eq (.k (.str "most"))) (.cons qt .nil) .nil)
noncomputable def qr:S:=(.ret (.sub (.v 0) (.k (.int 1))))
noncomputable def gT:S:=(.ife (.cmp (.v 2) .eq (.k (.str "fixed"))) (.cons qr .nil) .nil)
noncomputable def qp:S:=(.ret (.call aad (.cons (.v 1) .nil)))
noncomputable def jT:S:=(.ife (.cmp (.v 2) .eq (.k (.str "choose"))) (.cons qp .nil) .nil)
noncomputable def nU:S:=(.ret (.sub (.v 1) (.k (.int 0))))
noncomputable def aaq:Fn:=⟨2,9,(.cons cX (.cons cW (.cons du (.cons d3 (.cons fj (.cons gT (.cons jT (.cons nU .nil))))))))⟩
noncomputable def lT:S:=(.ret (.lst true (.cons (.sub (.v 1) (.k (.int 0))) (.cons (.k .none) .nil))))
noncomputable def jC:S:=(.ife (.cmp (.sub (.v 1) (.k (.int 1))) .eq (.k (.int 0))) (.cons lT .nil) .nil)
noncomputable def oP:S:=(.ret (.lst true (.cons (.k .none) (.cons (.sub (.v 1) (.k (.int 0))) .nil))))
noncomputable def fU:S:=(.ife (.cmp (.sub (.v 0) (.k (.int 0))) .eq (.k (.str "way"))) (.cons jC (.cons oP .nil)) .nil)
noncomputable def lS:S:=(.asg 3 (.call aac (.cons (.v 0) (.cons (.v 1) .nil))))
noncomputable def rN:X:=(.comp true 1 [none,none,some 3] (.v 2) (.k (.bool true)) (.range1 (.v 2)))
noncomputable def lR:S:=(.ret rN)
noncomputable def yd:Fn:=⟨3,6,(.cons fU (.cons lS (.cons lR .nil)))⟩
noncomputable def xz:S:=(.ret (.k (.bool false)))
noncomputable def je:S:=(.ife (.or (.cons (.not (.isinst (.v 0) .str)) (.cons (.not (.cmp2 (.k (.int 1)) .le (.b1 .len (.v 0)) .le (.k (.int 8)))) (.cons (.cmp (.sub (.v 0) (.k (.int 0))) .notin (.k (.str "abcdefghijklmnopqrstuvwxyz"))) .nil)))) (.cons xz .nil) .nil)
noncomputable def aaz:X:=(.comp true 1 [none,none,none,none] (.or (.cons (.cmp (.v 1) .isin (.k (.str "abcdefghijklmnopqrstuvwxyz"))) (.cons (.cmp (.v 1) .isin (.k (.str "0123456789"))) .nil))) (.k (.bool true)) (.v 0))
noncomputable def mx:S:=(.ret (.b1 .all aaz))
noncomputable def yi:Fn:=⟨1,7,(.cons je (.cons mx .nil))⟩
noncomputable def xD:X:=(.comp true 1 [none,none,none] (.call mY (.cons (.v 1) .nil)) (.k (.bool true)) (.v 0))
noncomputable def xC:S:=(.ret (.and (.cons (.isinst (.v 0) .tuple) (.cons (.cmp2 (.k (.int 1)) .le (.b1 .len (.v 0)) .le (.v 1)) (.cons (.b1 .all xD) .nil)))))
noncomputable def jX:Fn:=⟨2,6,(.cons xC .nil)⟩
noncomputable def wj:S:=(.ret (.cmp (.b1 .lenset (.v 0)) .eq (.b1 .len (.v 0))))
noncomputable def jf:Fn:=⟨1,3,(.cons wj .nil)⟩
noncomputable def xu:S:=(.ret (.k (.bool false)))
noncomputable def jc:S:=(.ife (.or (.cons (.not (.isinst (.v 0) .tuple)) (.cons (.cmp (.b1 .len (.v 0)) .eq (.k (.int 0))) (.cons (.not (.isinst (.sub (.v 0) (.k (.int 0))) .str)) .nil)))) (.cons xu .nil) .nil)
noncomputable def xt:S:=(.ret (.and (.cons (.cmp (.b1 .len (.v 0)) .eq (.k (.int 2))) (.cons (.call iP (.cons (.sub (.v 0) (.k (.int 1))) .nil)) .nil))))
noncomputable def f8:S:=(.ife (.cmp (.sub (.v 0) (.k (.int 0))) .eq (.k (.str "fixed"))) (.cons xt .nil) .nil)
noncomputable def xr:S:=(.ret (.k (.bool false)))
noncomputable def mt:S:=(.ife (.cmp (.b1 .len (.v 0)) .ne (.k (.int 1))) (.cons xr .nil) .nil)
noncomputable def xq:S:=(.ret (.cmp (.v 1) .eq (.k (.int 1))))
noncomputable def jb:S:=(.ife (.cmp (.sub (.v 0) (.k (.int 0))) .eq (.k (.str "later"))) (.cons xq .nil) .nil)
noncomputable def xp:S:=(.ret (.and (.cons (.cmp (.v 1) .eq (.k (.int 2))) (.cons (.cmp (.v 2) .eq (.k (.int 2))) .nil))))
noncomputable def ja:S:=(.ife (.cmp (.sub (.v 0) (.k (.int 0))) .eq (.k (.str "way"))) (.cons xp .nil) .nil)
noncomputable def xn:S:=(.ret (.cmp (.v 1) .eq (.k (.int 3))))
noncomputable def i9:S:=(.ife (.cmp (.sub (.v 0) (.k (.int 0))) .eq (.k (.str "choose"))) (.cons xn .nil) .nil)
noncomputable def ms:S:=(.ret (.cmp (.sub (.v 0) (.k (.int 0))) .isin (.k (.tup [(.str "sum"),(.str "times"),(.str "least"),(.str "most")]))))
noncomputable def nq:Fn:=⟨3,9,(.cons jc (.cons f8 (.cons mt (.cons jb (.cons ja (.cons i9 (.cons ms .nil)))))))⟩
noncomputable def xm:S:=(.ret (.k (.bool false)))
noncomputable def i8:S:=(.ife (.or (.cons (.not (.isinst (.v 0) .tuple)) (.cons (.cmp (.b1 .len (.v 0)) .ne (.k (.int 4))) (.cons (.not (.call mY (.cons (.sub (.v 0) (.k (.int 0))) .nil))) .nil)))) (.cons xm .nil) .nil)
noncomputable def xl:S:=(.ret (.k (.bool false)))
noncomputable def eG:S:=(.ife (.or (.cons (.not (.call cV (.cons (.sub (.v 0) (.k (.int 2))) (.cons (.k (.int 4)) .nil)))) (.cons (.not (.call cV (.cons (.sub (.v 0) (.k (.int 3))) (.cons (.k (.int 3)) .nil)))) (.cons (.not (.call dG (.cons (.sub (.v 0) (.k (.int 3))) .nil))) .nil)))) (.cons xl .nil) .nil)
noncomputable def mq:S:=(.ret (.call xY (.cons (.sub (.v 0) (.k (.int 1))) (.cons (.b1 .len (.sub (.v 0) (.k (.int 2)))) (.cons (.b1 .len (.sub (.v 0) (.k (.int 3)))) .nil)))))
noncomputable def yg:Fn:=⟨1,10,(.cons i8 (.cons eG (.cons mq .nil)))⟩
noncomputable def r7:X:=(.comp true 1 [none,none,none] (.call xX (.cons (.v 1) .nil)) (.k (.bool true)) (.v 0))
noncomputable def xy:S:=(.ret (.k (.bool false)))
noncomputable def jd:S:=(.ife (.or (.cons (.not (.isinst (.v 0) .tuple)) (.cons (.not (.cmp2 (.k (.int 1)) .le (.b1 .len (.v 0)) .le (.k (.int 20)))) (.cons (.not (.b1 .all r7)) .nil)))) (.cons xy .nil) .nil)
noncomputable def mw:S:=(.asg 2 (.lst false .nil))
noncomputable def xw:S:=(.expr (.me .extend (.v 2) (.cons (.sub (.v 1) (.k (.int 3))) .nil)))
noncomputable def qG:S:=(.cons xw .nil)
noncomputable def mv:S:=(.for1 1 (.v 0) qG)
noncomputable def r6:X:=(.comp true 1 [none,none] (.sub (.v 1) (.k (.int 0))) (.k (.bool true)) (.v 0))
noncomputable def mu:S:=(.ret (.and (.cons (.call dG (.cons r6 .nil)) (.cons (.call dG (.cons (.v 2) .nil)) .nil))))
noncomputable def yh:Fn:=⟨1,9,(.cons jd (.cons mw (.cons mv (.cons mu .nil))))⟩
noncomputable def pA:S:=(.asg 1 (.dnew false))
noncomputable def r8:S:=(.asgSub (.v 1) (.v 3) (.v 2))
noncomputable def k7:S:=(.cons r8 .nil)
noncomputable def uG:S:=(.for1 3 (.sub (.v 2) (.k (.int 3))) k7)
noncomputable def nr:S:=(.cons uG .nil)
noncomputable def xB:S:=(.for1 2 (.v 0) nr)
noncomputable def xA:S:=(.ret (.v 1))
noncomputable def n5:Fn:=⟨1,4,(.cons pA (.cons xB (.cons xA .nil)))⟩
noncomputable def rL:S:=(.asg 1 (.call jS (.cons (.v 0) .nil)))
noncomputable def rK:S:=(.asg 2 (.lst false .nil))
noncomputable def rJ:S:=(.expr (.me .append (.v 2) (.cons (.v 4) .nil)))
noncomputable def ug:S:=(.ife (.and (.cons (.cmp (.v 4) .notin (.v 1)) (.cons (.cmp (.v 4) .notin (.v 2)) .nil))) (.cons rJ .nil) .nil)
noncomputable def m7:S:=(.cons ug .nil)
noncomputable def xb:S:=(.for1 4 (.sub (.v 3) (.k (.int 2))) m7)
noncomputable def qy:S:=(.cons xb .nil)
noncomputable def aas:S:=(.for1 3 (.v 0) qy)
noncomputable def aar:S:=(.ret (.v 2))
noncomputable def rM:Fn:=⟨1,6,(.cons rL (.cons rK (.cons aas (.cons aar .nil))))⟩
noncomputable def wg:S:=(.ret (.and (.cons (.isinst (.v 0) .int) (.cons (.not (.isinst (.v 0) .bool)) (.cons (.cmp2 (.v 1) .le (.v 0) .le (.v 2)) .nil)))))
noncomputable def my:Fn:=⟨3,6,(.cons wg .nil)⟩
noncomputable def rZ:S:=(.ret (.sub (.v 0) (.v 1)))
noncomputable def uF:S:=(.ife (.cmp (.v 1) .lt (.b1 .len (.v 0))) (.cons rZ .nil) .nil)
noncomputable def uE:S:=(.ret (.k (.int 0)))
noncomputable def ff:Fn:=⟨2,3,(.cons uF (.cons uE .nil))⟩
noncomputable def yI:S:=(.asg 1 (.bin .mod (.bin .add (.bin .mul (.v 0) (.k (.int 48271))) (.k (.int 11))) (.k (.int 2147483647))))
noncomputable def yH:S:=(.ret (.bin .mod (.bin .mul (.v 1) (.v 1)) (.k (.int 2147483629))))
noncomputable def lu:Fn:=⟨1,2,(.cons yI (.cons yH .nil))⟩
noncomputable def uC:S:=(.asg 1 (.lst true (.cons (.k (.str "sum")) (.cons (.k (.str "later")) (.cons (.k (.str "way")) (.cons (.k (.str "fixed")) (.cons (.k (.str "a9")) (.cons (.k (.str "b")) (.cons (.k (.str "times")) (.cons (.k (.str "choose")) (.cons (.k (.str "least")) (.cons (.k (.str "most")) (.cons (.k (.str "z0")) (.cons (.k (.str "put")) .nil))))))))))))))
noncomputable def pe:X:=(.comp true 1 [none,none,some 0,some 1] (.bin .add (.sub (.v 3) (.bin .mod (.bin .add (.bin .fdiv (.v 2) (.k (.int 9))) (.v 1)) (.k (.int 12)))) (.sub (.lst true (.cons (.k (.str "")) (.cons (.k (.str "x")) .nil))) (.bin .fdiv (.v 1) (.k (.int 12))))) (.k (.bool true)) (.range1 (.k (.int 24))))
noncomputable def uB:S:=(.ret pe)
noncomputable def jE:S:=(.ife (.cmp (.bin .mod (.v 0) (.k (.int 9))) .eq (.k (.int 8))) (.cons uC (.cons uB .nil)) .nil)
noncomputable def o9:S:=(.asg 3 (.bin .add (.k (.int 1)) (.bin .mod (.v 0) (.k (.int 8)))))
noncomputable def o8:S:=(.asg 4 (.bin .mod (.bin .fdiv (.v 0) (.k (.int 8))) (.v 3)))
noncomputable def o7:S:=(.asg 1 (.k (.str "abcdefghijklmnopqrstuvwxyz0123456789")))
noncomputable def o6:S:=(.asg 5 (.lst false .nil))
noncomputable def uA:S:=(.asg 6 (.sub (.v 1) (.bin .mod (.bin .add (.bin .fdiv (.v 0) (.k (.int 64))) (.v 2)) (.sub (.lst true (.cons (.k (.int 26)) (.cons (.k (.int 36)) .nil))) (.b1 .int (.cmp (.v 4) .gt (.k (.int 0))))))))
noncomputable def uz:S:=(.expr (.me .append (.v 5) (.cons (.bin .add (.bin .add (.bin .mul (.k (.str "m")) (.v 4)) (.v 6)) (.bin .mul (.k (.str "m")) (.bin .sub (.bin .sub (.v 3) (.k (.int 1))) (.v 4)))) .nil)))
noncomputable def i7:S:=(.cons uA (.cons uz .nil))
noncomputable def o5:S:=(.for1 2 (.range1 (.k (.int 24))) i7)
noncomputable def oZ:S:=(.ret (.v 5))
noncomputable def jV:Fn:=⟨1,9,(.cons jE (.cons o9 (.cons o8 (.cons o7 (.cons o6 (.cons o5 (.cons oZ .nil)))))))⟩
noncomputable def uj:S:=(.ret (.sub (.lst true (.cons (.k (.int 0)) (.cons (.k (.int 0)) (.cons (.k (.int 1)) (.cons (.k (.int 999999)) .nil))))) (.bin .mod (.bin .fdiv (.v 0) (.k (.int 4))) (.k (.int 4)))))
noncomputable def xf:S:=(.ife (.cmp (.bin .mod (.v 0) (.k (.int 4))) .eq (.k (.int 0))) (.cons uj .nil) .nil)
noncomputable def uh:S:=(.ret (.bin .mod (.bin .fdiv (.v 0) (.k (.int 4))) (.bin .pow (.k (.int 10)) (.k (.int 6)))))
noncomputable def xe:S:=(.ife (.cmp (.bin .mod (.v 0) (.k (.int 4))) .eq (.k (.int 1))) (.cons uh .nil) .nil)
noncomputable def xd:S:=(.ret (.bin .mod (.bin .fdiv (.v 0) (.k (.int 4))) (.k (.int 5))))
noncomputable def jU:Fn:=⟨1,1,(.cons xf (.cons xe (.cons xd .nil)))⟩
noncomputable def ml:S:=(.ret (.sub (.lst true (.cons (.lst true (.cons (.sub (.v 1) (.k (.int 0))) (.cons (.k .none) .nil))) (.cons (.lst true (.cons (.k .none) (.cons (.sub (.v 1) (.k (.int 0))) .nil))) .nil))) (.b1 .int (.cmp (.sub (.v 1) (.k (.int 1))) .ne (.k (.int 0))))))
noncomputable def b5:S:=(.ife (.cmp (.sub (.v 0) (.k (.int 0))) .eq (.k (.str "way"))) (.cons ml .nil) .nil)
noncomputable def pf:S:=(.asg 3 (.sub (.v 1) (.k (.int 0))))
noncomputable def mj:S:=(.asg 3 (.bin .mod (.b1 .sum (.v 1)) (.bin .pow (.k (.int 10)) (.k (.int 6)))))
noncomputable def cB:S:=(.ife (.cmp (.sub (.v 0) (.k (.int 0))) .eq (.k (.str "sum"))) (.cons mj .nil) .nil)
noncomputable def mi:S:=(.asg 3 (.k (.int 1)))
noncomputable def j9:S:=(.asg 3 (.bin .mod (.bin .mul (.v 3) (.v 4)) (.bin .pow (.k (.int 10)) (.k (.int 6)))))
noncomputable def k6:S:=(.cons j9 .nil)
noncomputable def mh:S:=(.for1 4 (.v 1) k6)
noncomputable def cA:S:=(.ife (.cmp (.sub (.v 0) (.k (.int 0))) .eq (.k (.str "times"))) (.cons mi (.cons mh .nil)) .nil)
noncomputable def h7:S:=(.asg 3 (.sub (.b1 .sorted (.v 1)) (.sub (.lst true (.cons (.k (.int 0)) (.cons (.neg (.k (.int 1))) .nil))) (.b1 .int (.cmp (.sub (.v 0) (.k (.int 0))) .eq (.k (.str "most")))))))
noncomputable def cz:S:=(.ife (.cmp (.sub (.v 0) (.k (.int 0))) .isin (.tup (.cons (.k (.str "least")) (.cons (.k (.str "most")) .nil)))) (.cons h7 .nil) .nil)
noncomputable def mf:S:=(.asg 3 (.sub (.v 0) (.k (.int 1))))
noncomputable def cy:S:=(.ife (.cmp (.sub (.v 0) (.k (.int 0))) .eq (.k (.str "fixed"))) (.cons mf .nil) .nil)
noncomputable def mc:S:=(.asg 3 (.sub (.v 1) (.bin .add (.k (.int 1)) (.b1 .int (.cmp (.sub (.v 1) (.k (.int 0))) .ne (.k (.int 0)))))))
noncomputable def cw:S:=(.ife (.cmp (.sub (.v 0) (.k (.int 0))) .eq (.k (.str "choose"))) (.cons mc .nil) .nil)
noncomputable def pg:X:=(.comp true 1 [none,none,some 3] (.v 2) (.k (.bool true)) (.range1 (.v 2)))
noncomputable def jG:S:=(.ret pg)
noncomputable def tG:Fn:=⟨3,9,(.cons b5 (.cons pf (.cons cB (.cons cA (.cons cz (.cons cy (.cons cw (.cons jG .nil))))))))⟩
noncomputable def yE:S:=(.asg 2 (.sub (.lst true (.cons (.k (.str "sum")) (.cons (.k (.str "times")) (.cons (.k (.str "least")) (.cons (.k (.str "most")) (.cons (.k (.str "fixed")) (.cons (.k (.str "later")) (.cons (.k (.str "later")) (.cons (.k (.str "way")) (.cons (.k (.str "choose")) (.cons (.k (.str "way")) (.cons (.k (.str "choose")) (.cons (.k (.str "sum")) .nil))))))))))))) (.v 1)))
noncomputable def v8:S:=(.ret (.tup (.cons (.k (.str "fixed")) (.cons (.call gR (.cons (.v 0) .nil)) .nil))))
noncomputable def yD:S:=(.ife (.cmp (.v 2) .eq (.k (.str "fixed"))) (.cons v8 .nil) .nil)
noncomputable def yC:S:=(.ret (.tup (.cons (.v 2) .nil)))
noncomputable def lq:Fn:=⟨2,4,(.cons yE (.cons yD (.cons yC .nil)))⟩
noncomputable def kK:S:=(.asg 2 (.call gS (.cons (.call aG (.cons (.v 0) (.cons (.v 1) .nil))) .nil)))
noncomputable def g6:S:=(.asg 3 (.sub (.lst true (.cons (.k (.int 1)) (.cons (.k (.int 2)) (.cons (.k (.int 3)) (.cons (.k (.int 4)) (.cons (.k (.int 6)) (.cons (.k (.int 8)) .nil))))))) (.bin .mod (.call aG (.cons (.v 0) (.cons (.bin .add (.v 1) (.k (.int 1))) .nil))) (.k (.int 6)))))
noncomputable def wc:S:=(.asg 3 (.bin .add (.k (.int 9)) (.bin .mod (.bin .fdiv (.call aG (.cons (.v 0) (.cons (.bin .add (.v 1) (.k (.int 1))) .nil))) (.k (.int 60))) (.k (.int 12)))))
noncomputable def fc:S:=(.ife (.cmp (.bin .mod (.bin .fdiv (.call aG (.cons (.v 0) (.cons (.bin .add (.v 1) (.k (.int 1))) .nil))) (.k (.int 6))) (.k (.int 10))) .eq (.k (.int 1))) (.cons wc .nil) .nil)
noncomputable def kJ:S:=(.asg 4 (.sub (.lst true (.cons (.k (.int 2)) (.cons (.k (.int 4)) (.cons (.k (.int 6)) (.cons (.k (.int 9)) .nil))))) (.bin .mod (.call aG (.cons (.v 0) (.cons (.bin .add (.v 1) (.k (.int 2))) .nil))) (.k (.int 4)))))
noncomputable def kI:S:=(.asg 5 (.lst false .nil))
noncomputable def yG:X:=(.comp false 1 [none,none,some 2] (.sub (.v 2) (.v 1)) (.k (.bool true)) (.range1 (.min2 (.k (.int 24)) (.bin .add (.v 4) (.v 3)))))
noncomputable def kH:S:=(.asg 7 yG)
noncomputable def kG:S:=(.asg 8 (.b1 (.list true) (.v 7)))
noncomputable def i5:S:=(.asg 9 (.call b4 (.cons (.bin .add (.call aG (.cons (.v 0) (.cons (.bin .add (.bin .add (.v 1) (.k (.int 3))) (.bin .mod (.v 6) (.k (.int 8)))) .nil))) (.bin .mul (.k (.int 977)) (.v 6))) .nil)))
noncomputable def i4:S:=(.asg 10 (.call p3 (.cons (.call b4 (.cons (.v 9) .nil)) (.cons (.bin .mod (.bin .fdiv (.v 9) (.k (.int 5))) (.k (.int 12))) .nil))))
noncomputable def i3:S:=(.asg 11 (.call b4 (.cons (.bin .add (.v 9) (.k (.int 1))) .nil)))
noncomputable def i0:S:=(.asg 12 (.sub (.lst true (.cons (.bin .add (.k (.int 1)) (.bin .mod (.v 11) (.k (.int 4)))) (.cons (.k (.int 1)) .nil))) (.b1 .int (.cmp (.sub (.v 10) (.k (.int 0))) .eq (.k (.str "later"))))))
noncomputable def iZ:S:=(.asg 12 (.fdget ["way", "choose"] [(.int 2),(.int 3)] (.sub (.v 10) (.k (.int 0))) (.v 12)))
noncomputable def iY:S:=(.asg 13 (.fdget ["way"] [(.int 2)] (.sub (.v 10) (.k (.int 0))) (.sub (.lst true (.cons (.k (.int 1)) (.cons (.k (.int 1)) (.cons (.k (.int 1)) (.cons (.k (.int 2)) (.cons (.k (.int 3)) .nil)))))) (.bin .mod (.bin .fdiv (.v 11) (.k (.int 4))) (.k (.int 5))))))
noncomputable def iX:S:=(.asg 13 (.min2 (.v 13) (.b1 .len (.v 7))))
noncomputable def iW:S:=(.ife (.or (.cons (.cmp (.v 13) .eq (.k (.int 0))) (.cons (.and (.cons (.cmp (.sub (.v 10) (.k (.int 0))) .eq (.k (.str "way"))) (.cons (.cmp (.v 13) .lt (.k (.int 2))) .nil))) .nil))) (.cons .brk .nil) .nil)
noncomputable def qB:X:=(.comp true 1 [none,none,none,none,some 11,some 8] (.sub (.v 5) (.bin .mod (.call b4 (.cons (.bin .add (.v 4) (.bin .mul (.k (.int 7)) (.v 1))) .nil)) (.b1 .len (.v 5)))) (.k (.bool true)) (.range1 (.v 12)))
noncomputable def nf:S:=(.asg 14 qB)
noncomputable def yF:X:=(.comp true 1 [none,none,none,none,some 7,some 11] (.me .pop (.v 4) (.cons (.bin .mod (.call b4 (.cons (.bin .add (.bin .add (.v 5) (.bin .mul (.k (.int 31)) (.v 1))) (.k (.int 5))) .nil)) (.b1 .len (.v 4))) .nil)) (.k (.bool true)) (.range1 (.v 13)))
noncomputable def nc:S:=(.asg 15 yF)
noncomputable def lY:S:=(.expr (.me .append (.v 5) (.cons (.tup (.cons (.sub (.v 2) (.bin .sub (.k (.int 23)) (.v 6))) (.cons (.v 10) (.cons (.b1 .tuple (.v 14)) (.cons (.b1 .tuple (.v 15)) .nil))))) .nil)))
noncomputable def gA:S:=(.cons i5 (.cons i4 (.cons i3 (.cons i0 (.cons iZ (.cons iY (.cons iX (.cons iW (.cons nf (.cons nc (.cons lY .nil)))))))))))
noncomputable def kF:S:=(.for1 6 (.range1 (.v 3)) gA)
noncomputable def wb:S:=(.expr (.me .append (.v 5) (.cons (.tup (.cons (.sub (.v 2) (.k (.int 0))) (.cons (.tup (.cons (.k (.str "sum")) .nil)) (.cons (.tup (.cons (.sub (.v 2) (.k (.int 0))) .nil)) (.cons (.tup (.cons (.sub (.v 2) (.k (.int 1))) .nil)) .nil))))) .nil)))
noncomputable def kE:S:=(.ife (.cmp (.v 5) .eq (.lst true .nil)) (.cons wb .nil) .nil)
noncomputable def kC:S:=(.ret (.b1 .tuple (.v 5)))
noncomputable def wd:Fn:=⟨2,26,(.cons kK (.cons g6 (.cons fc (.cons kJ (.cons kI (.cons kH (.cons kG (.cons kF (.cons kE (.cons kC .nil))))))))))⟩
noncomputable def l4:S:=(.asg 1 (.lst false .nil))
noncomputable def rX:S:=(.expr (.me .extend (.v 1) (.cons (.sub (.v 2) (.k (.int 3))) .nil)))
noncomputable def kX:S:=(.cons rX .nil)
noncomputable def uy:S:=(.for1 2 (.v 0) kX)
noncomputable def lZ:S:=(.asg 3 (.lst false .nil))
noncomputable def nX:S:=(.expr (.me .append (.v 3) (.cons (.v 4) .nil)))
noncomputable def qa:S:=(.ife (.and (.cons (.cmp (.v 4) .notin (.v 1)) (.cons (.cmp (.v 4) .notin (.v 3)) .nil))) (.cons nX .nil) .nil)
noncomputable def jp:S:=(.cons qa .nil)
noncomputable def rW:S:=(.for1 4 (.sub (.v 2) (.k (.int 2))) jp)
noncomputable def kW:S:=(.cons rW .nil)
noncomputable def ux:S:=(.for1 2 (.v 0) kW)
noncomputable def uw:S:=(.ret (.v 3))
noncomputable def kL:Fn:=⟨1,5,(.cons l4 (.cons uy (.cons lZ (.cons ux (.cons uw .nil)))))⟩
noncomputable def pi:S:=(.asg 1 (.lst false .nil))
noncomputable def rY:S:=(.expr (.me .extend (.v 1) (.cons (.sub (.v 2) (.k (.int 3))) .nil)))
noncomputable def uD:S:=(.ife (.cmp (.sub (.v 2) (.k (.int 1))) .eq (.tup (.cons (.k (.str "later")) .nil))) (.cons rY .nil) .nil)
noncomputable def np:S:=(.cons uD .nil)
noncomputable def xj:S:=(.for1 2 (.v 0) np)
noncomputable def xi:S:=(.ret (.v 1))
noncomputable def nY:Fn:=⟨1,3,(.cons pi (.cons xj (.cons xi .nil)))⟩
noncomputable def qA:S:=(.asg 4 (.lst false .nil))
noncomputable def kB:S:=(.asg 5 (.bin .mod (.call aG (.cons (.v 0) (.cons (.v 1) .nil))) (.k (.int 3))))
noncomputable def kU:S:=(.asg 9 (.call b4 (.cons (.bin .add (.bin .add (.call aG (.cons (.v 0) (.cons (.bin .add (.bin .add (.v 1) (.k (.int 1))) (.bin .mod (.bin .add (.v 6) (.v 8)) (.k (.int 6)))) .nil))) (.bin .mul (.k (.int 31)) (.v 6))) (.bin .mul (.k (.int 1009)) (.v 8))) .nil)))
noncomputable def jo:S:=(.expr (.me .append (.v 4) (.cons (.tup (.cons (.v 7) (.cons (.v 8) (.cons (.call gR (.cons (.call b4 (.cons (.v 9) .nil)) .nil)) .nil)))) .nil)))
noncomputable def kT:S:=(.ife (.or (.cons (.cmp (.v 5) .gt (.k (.int 0))) (.cons (.cmp (.bin .mod (.v 9) (.k (.int 3))) .gt (.k (.int 0))) .nil))) (.cons jo .nil) .nil)
noncomputable def hZ:S:=(.cons kU (.cons kT .nil))
noncomputable def nb:S:=(.for1 8 (.range1 (.v 3)) hZ)
noncomputable def oU:S:=(.cons nb .nil)
noncomputable def kA:S:=(.forT [6,7] (.enum (.call bY (.cons (.v 2) .nil))) oU)
noncomputable def na:S:=(.asg 9 (.call b4 (.cons (.bin .add (.call aG (.cons (.v 0) (.cons (.bin .add (.bin .add (.v 1) (.k (.int 1))) (.bin .mod (.v 6) (.k (.int 6)))) .nil))) (.k (.int 7))) .nil)))
noncomputable def kS:S:=(.expr (.me .append (.v 4) (.cons (.tup (.cons (.v 7) (.cons (.k (.int 0)) (.cons (.call gR (.cons (.call b4 (.cons (.v 9) .nil)) .nil)) .nil)))) .nil)))
noncomputable def m9:S:=(.ife (.cmp (.bin .mod (.v 9) (.k (.int 5))) .gt (.bin .sub (.v 5) (.k (.int 1)))) (.cons kS .nil) .nil)
noncomputable def jD:S:=(.cons na (.cons m9 .nil))
noncomputable def kz:S:=(.forT [6,7] (.enum (.call nS (.cons (.v 2) .nil))) jD)
noncomputable def ky:S:=(.ret (.v 4))
noncomputable def wa:Fn:=⟨4,17,(.cons qA (.cons kB (.cons kA (.cons kz (.cons ky .nil)))))⟩
noncomputable def ni:S:=(.asg 3 (.b1 (.list true) (.sub (.v 0) (.k (.int 2)))))
noncomputable def gH:S:=(.asg 3 (.lst true (.cons (.sub (.v 3) (.bin .add (.k (.int 1)) (.b1 .int (.cmp (.sub (.v 1) (.tup (.cons (.sub (.v 3) (.k (.int 0))) (.cons (.v 2) .nil)))) .ne (.k (.int 0)))))) .nil)))
noncomputable def nh:S:=(.ife (.and (.cons (.cmp (.sub (.v 0) (.k (.int 1))) .eq (.tup (.cons (.k (.str "choose")) .nil))) (.cons (.cmp (.tup (.cons (.sub (.v 3) (.k (.int 0))) (.cons (.v 2) .nil))) .isin (.v 1)) .nil))) (.cons gH .nil) .nil)
noncomputable def ng:S:=(.ret (.v 3))
noncomputable def l6:Fn:=⟨3,6,(.cons ni (.cons nh (.cons ng .nil)))⟩
noncomputable def l9:X:=(.comp true 1 [none,none,some 1,some 2] (.v 1) (.cmp (.tup (.cons (.v 1) (.cons (.v 3) .nil))) .notin (.v 2)) (.call fR (.cons (.v 0) (.cons (.v 1) (.cons (.v 2) .nil)))))
noncomputable def l8:S:=(.asg 3 l9)
noncomputable def l7:S:=(.ret (.sub (.bin .add (.v 3) (.lst true (.cons (.k .none) .nil))) (.k (.int 0))))
noncomputable def qC:Fn:=⟨3,5,(.cons l8 (.cons l7 .nil))⟩
noncomputable def py:X:=(.comp true 1 [none,none,some 1,some 2] (.me .get (.v 2) (.cons (.tup (.cons (.v 1) (.cons (.v 3) .nil))) .nil)) (.k (.bool true)) (.sub (.v 0) (.k (.int 2))))
noncomputable def pt:S:=(.asg 4 py)
noncomputable def pq:S:=(.asg 5 (.bin .add (.v 2) (.b1 .int (.cmp (.sub (.v 0) (.k (.int 1))) .eq (.tup (.cons (.k (.str "later")) .nil))))))
noncomputable def pn:S:=(.asg 6 (.call tx (.cons (.sub (.v 0) (.k (.int 1))) (.cons (.v 4) (.cons (.b1 .len (.sub (.v 0) (.k (.int 3)))) .nil)))))
noncomputable def ka:S:=(.asgSub (.v 1) (.tup (.cons (.sub (.sub (.v 0) (.k (.int 3))) (.v 7)) (.cons (.v 5) .nil))) (.sub (.v 6) (.v 7)))
noncomputable def h8:S:=(.ife (.and (.cons (.cmp (.sub (.v 6) (.v 7)) .isNot (.k .none)) (.cons (.cmp (.v 5) .lt (.v 3)) .nil))) (.cons ka .nil) .nil)
noncomputable def fE:S:=(.cons h8 .nil)
noncomputable def pj:S:=(.for1 7 (.range1 (.b1 .len (.v 6))) fE)
noncomputable def nZ:Fn:=⟨4,12,(.cons pt (.cons pq (.cons pn (.cons pj .nil))))⟩
noncomputable def uv:S:=(.ret (.k (.bool false)))
noncomputable def oX:S:=(.ife (.or (.cons (.not (.isinst (.v 0) .list)) (.cons (.cmp (.v 0) .ne (.v 1)) .nil))) (.cons uv .nil) .nil)
noncomputable def oY:X:=(.comp true 1 [none,none,none,none] (.v 1) (.isinst (.v 1) .bool) (.v 2))
noncomputable def rV:S:=(.ret (.k (.bool false)))
noncomputable def uu:S:=(.ife (.or (.cons (.not (.isinst (.v 2) .tuple)) (.cons (.cmp oY .ne (.lst true .nil)) .nil))) (.cons rV .nil) .nil)
noncomputable def i6:S:=(.cons uu .nil)
noncomputable def oW:S:=(.for1 2 (.v 0) i6)
noncomputable def oV:S:=(.ret (.k (.bool true)))
noncomputable def tF:Fn:=⟨2,6,(.cons oX (.cons oW (.cons oV .nil)))⟩
noncomputable def oS:S:=(.asg 4 (.lst false .nil))
noncomputable def p9:S:=(.expr (.me .append (.v 4) (.cons (.tup (.cons (.sub (.v 5) (.k (.int 0))) (.cons (.v 6) .nil))) .nil)))
noncomputable def j8:S:=(.ife (.and (.cons (.cmp (.tup (.cons (.sub (.v 5) (.k (.int 0))) (.cons (.v 6) .nil))) .notin (.v 2)) (.cons (.cmp (.call kt (.cons (.v 5) (.cons (.v 1) (.cons (.v 6) .nil)))) .is (.k .none)) .nil))) (.cons p9 .nil) .nil)
noncomputable def kR:S:=(.cons j8 .nil)
noncomputable def ut:S:=(.for1 6 (.range1 (.v 3)) kR)
noncomputable def v9:S:=(.cons ut .nil)
noncomputable def oR:S:=(.for1 5 (.v 0) v9)
noncomputable def oQ:S:=(.ret (.v 4))
noncomputable def tE:Fn:=⟨4,9,(.cons oS (.cons oR (.cons oQ .nil)))⟩
noncomputable def j7:S:=(.asg 6 (.lst false .nil))
noncomputable def f7:S:=(.asg 7 (.call vL (.cons (.v 4) (.cons (.v 5) (.cons (.v 1) (.cons (.v 3) .nil))))))
noncomputable def iV:S:=(.asg 9 (.call b4 (.cons (.bin .add (.call aG (.cons (.v 4) (.cons (.bin .add (.bin .add (.v 5) (.k (.int 8))) (.bin .mod (.v 8) (.k (.int 12)))) .nil))) (.bin .mul (.k (.int 31)) (.v 8))) .nil)))
noncomputable def iU:S:=(.asg 10 (.call nR (.cons (.v 1) (.cons (.v 2) (.cons (.v 6) (.cons (.v 3) .nil))))))
noncomputable def d4:S:=(.asgT [11,12,13] (.me .pop (.v 7) (.cons (.bin .mod (.bin .fdiv (.v 9) (.k (.int 3))) (.b1 .len (.v 7))) .nil)))
noncomputable def gV:S:=(.expr (.meth 323 dZ "put" (.v 0) (.cons (.v 11) (.cons (.v 12) (.cons (.v 13) .nil)))))
noncomputable def gU:S:=(.asgSub (.v 2) (.tup (.cons (.v 11) (.cons (.v 12) .nil))) (.v 13))
noncomputable def dI:S:=(.asgT [14,12] (.sub (.v 10) (.bin .mod (.bin .fdiv (.v 9) (.k (.int 3))) (.b1 .len (.v 10)))))
noncomputable def fY:S:=(.expr (.meth 323 eF "fire" (.v 0) (.cons (.v 14) (.cons (.v 12) .nil))))
noncomputable def fX:S:=(.expr (.me .append (.v 6) (.cons (.tup (.cons (.v 14) (.cons (.v 12) .nil))) .nil)))
noncomputable def rP:X:=(.comp true 1 [none,none,some 14] (.v 1) (.cmp (.sub (.v 1) (.k (.int 0))) .eq (.v 2)) (.v 1))
noncomputable def dH:S:=(.asg 15 (.sub rP (.k (.int 0))))
noncomputable def fW:S:=(.expr (.call fi (.cons (.v 15) (.cons (.v 2) (.cons (.v 12) (.cons (.v 3) .nil))))))
noncomputable def d5:S:=(.ife (.cmp (.v 10) .ne (.lst true .nil)) (.cons dI (.cons fY (.cons fX (.cons dH (.cons fW .nil))))) .nil)
noncomputable def dm:S:=(.ife (.and (.cons (.cmp (.v 7) .ne (.lst true .nil)) (.cons (.or (.cons (.cmp (.bin .mod (.v 9) (.k (.int 3))) .gt (.k (.int 0))) (.cons (.cmp (.v 10) .eq (.lst true .nil)) .nil))) .nil))) (.cons d4 (.cons gV (.cons gU .nil))) (.cons d5 .nil))
noncomputable def fw:S:=(.cons iV (.cons iU (.cons dm .nil)))
noncomputable def fZ:S:=(.for1 8 (.range1 (.bin .mod (.call aG (.cons (.v 4) (.cons (.bin .add (.v 5) (.k (.int 7))) .nil))) (.k (.int 40)))) fw)
noncomputable def fV:S:=(.ret (.v 6))
noncomputable def m8:Fn:=⟨6,23,(.cons j7 (.cons f7 (.cons fZ (.cons fV .nil))))⟩
noncomputable def lW:S:=(.asg 4 (.lst false .nil))
noncomputable def lX:X:=(.comp true 1 [none,none,some 1,some 6] (.v 1) (.cmp (.tup (.cons (.v 1) (.cons (.v 3) .nil))) .isin (.v 2)) (.sub (.v 5) (.k (.int 2))))
noncomputable def iT:S:=(.asg 7 lX)
noncomputable def nV:S:=(.expr (.me .append (.v 4) (.cons (.tup (.cons (.sub (.v 5) (.k (.int 0))) (.cons (.v 6) .nil))) .nil)))
noncomputable def iS:S:=(.ife (.and (.cons (.cmp (.v 7) .ne (.lst true .nil)) (.cons (.cmp (.tup (.cons (.sub (.v 5) (.k (.int 0))) (.cons (.v 6) .nil))) .notin (.v 2)) (.cons (.cmp (.call kt (.cons (.v 5) (.cons (.v 1) (.cons (.v 6) .nil)))) .isNot (.k .none)) .nil)))) (.cons nV .nil) .nil)
noncomputable def jn:S:=(.cons iT (.cons iS .nil))
noncomputable def rO:S:=(.for1 6 (.range1 (.v 3)) jn)
noncomputable def sZ:S:=(.cons rO .nil)
noncomputable def lV:S:=(.for1 5 (.v 0) sZ)
noncomputable def lU:S:=(.ret (.v 4))
noncomputable def qz:Fn:=⟨4,10,(.cons lW (.cons lV (.cons lU .nil)))⟩
noncomputable def kZ:S:=(.asg 7 (.meth 323 ku "ready" (.v 0) .nil))
noncomputable def kY:S:=(.asg 8 (.call nR (.cons (.v 1) (.cons (.v 2) (.cons (.v 3) (.cons (.v 4) .nil))))))
noncomputable def k5:S:=(.asg 7 (.call rz (.cons (.v 0) .nil)))
noncomputable def k4:S:=(.asg 8 (.call qo (.cons (.v 1) (.cons (.v 2) (.cons (.v 3) (.cons (.v 4) .nil))))))
noncomputable def nk:S:=(.ife (.cmp (.bin .mod (.bin .add (.v 6) (.v 5)) (.k (.int 2))) .eq (.k (.int 0))) (.cons kZ (.cons kY .nil)) (.cons k5 (.cons k4 .nil)))
noncomputable def ta:S:=(.ret (.k (.bool false)))
noncomputable def nj:S:=(.ife (.not (.call jR (.cons (.v 7) (.cons (.v 8) .nil)))) (.cons ta .nil) .nil)
noncomputable def jF:S:=(.cons nk (.cons nj .nil))
noncomputable def qE:S:=(.for1 6 (.range1 (.k (.int 2))) jF)
noncomputable def qD:S:=(.ret (.k (.bool true)))
noncomputable def we:Fn:=⟨6,14,(.cons qE (.cons qD .nil))⟩
noncomputable def aax:S:=(.asg 1 (.call vM (.cons (.v 0) (.cons (.k (.int 0)) .nil))))
noncomputable def aaw:S:=(.asg 2 (.bin .add (.k (.int 1)) (.bin .mod (.call aG (.cons (.v 0) (.cons (.k (.int 11)) .nil))) (.k (.int 6)))))
noncomputable def aav:S:=(.asg 3 (.new 323 hW (.cons (.v 1) (.cons (.v 2) .nil))))
noncomputable def aau:S:=(.asg 4 (.dnew true))
noncomputable def aat:S:=(.asg 5 (.call mX (.cons (.v 3) (.cons (.v 1) (.cons (.v 4) (.cons (.v 2) (.cons (.v 0) (.cons (.k (.int 12)) .nil))))))))
noncomputable def ada:S:=(.ret (.k (.bool false)))
noncomputable def ur:S:=(.ife (.not (.call iO (.cons (.v 3) (.cons (.v 1) (.cons (.v 4) (.cons (.v 5) (.cons (.v 2) (.cons (.bin .fdiv (.call aG (.cons (.v 0) (.cons (.k (.int 11)) .nil))) (.k (.int 6))) .nil)))))))) (.cons ada .nil) .nil)
noncomputable def uq:S:=(.asg 6 (.lst true (.cons (.meth 323 ku "ready" (.v 3) .nil) (.cons (.call rz (.cons (.v 3) .nil)) (.cons (.meth 323 kv "fired" (.v 3) .nil) .nil)))))
noncomputable def aay:X:=(.comp true 1 [none,none,none] (.b1 (.list true) (.v 1)) (.k (.bool true)) (.v 6))
noncomputable def un:S:=(.asg 8 aay)
noncomputable def ac9:S:=(.expr (.meth 323 eF "fire" (.v 3) (.cons (.v 9) (.cons (.v 10) .nil))))
noncomputable def ac8:S:=(.expr (.me .append (.v 5) (.cons (.tup (.cons (.v 9) (.cons (.v 10) .nil))) .nil)))
noncomputable def ago:X:=(.comp true 1 [none,none,some 9] (.v 1) (.cmp (.sub (.v 1) (.k (.int 0))) .eq (.v 2)) (.v 1))
noncomputable def v6:S:=(.asg 11 (.sub ago (.k (.int 0))))
noncomputable def ac7:S:=(.expr (.call fi (.cons (.v 11) (.cons (.v 4) (.cons (.v 10) (.cons (.v 2) .nil))))))
noncomputable def yf:S:=(.cons ac9 (.cons ac8 (.cons v6 (.cons ac7 .nil))))
noncomputable def p8:S:=(.forT [9,10] (.slice (.sub (.v 6) (.k (.int 0))) (.k .none) (.k (.int 1))) yf)
noncomputable def xh:S:=(.expr (.meth 323 dZ "put" (.v 3) (.cons (.v 12) (.cons (.v 10) (.cons (.v 10) .nil)))))
noncomputable def xg:S:=(.asgSub (.v 4) (.tup (.cons (.v 12) (.cons (.v 10) .nil))) (.v 10))
noncomputable def rQ:S:=(.ife (.cmp (.tup (.cons (.v 12) (.cons (.v 10) .nil))) .notin (.v 4)) (.cons xh (.cons xg .nil)) .nil)
noncomputable def nW:S:=(.cons rQ .nil)
noncomputable def vZ:S:=(.for1 10 (.range1 (.v 2)) nW)
noncomputable def ye:S:=(.cons vZ .nil)
noncomputable def um:S:=(.for1 12 (.call bY (.cons (.v 1) .nil)) ye)
noncomputable def rU:S:=(.asg 13 (.bin .fdiv (.call aG (.cons (.v 0) (.cons (.k (.int 11)) .nil))) (.k (.int 12))))
noncomputable def abf:S:=(.ret (.k (.bool false)))
noncomputable def rT:S:=(.ife (.or (.cons (.not (.call iO (.cons (.v 3) (.cons (.v 1) (.cons (.v 4) (.cons (.v 5) (.cons (.v 2) (.cons (.v 13) .nil)))))))) (.cons (.cmp (.v 6) .ne (.v 8)) .nil))) (.cons abf .nil) .nil)
noncomputable def tD:S:=(.expr (.me0 .clear (.v 7)))
noncomputable def v7:S:=(.cons tD .nil)
noncomputable def rS:S:=(.for1 7 (.v 6) v7)
noncomputable def rR:S:=(.ret (.and (.cons (.call iO (.cons (.v 3) (.cons (.v 1) (.cons (.v 4) (.cons (.v 5) (.cons (.v 2) (.cons (.k (.int 1)) .nil))))))) (.cons (.call jR (.cons (.meth 323 kv "fired" (.v 3) .nil) (.cons (.v 5) .nil))) .nil))))
noncomputable def adb:Fn:=⟨1,24,(.cons aax (.cons aaw (.cons aav (.cons aau (.cons aat (.cons ur (.cons uq (.cons un (.cons p8 (.cons um (.cons rU (.cons rT (.cons rS (.cons rR .nil))))))))))))))⟩
noncomputable def jw:S:=(.ife (.not (.call ir (.cons (.v 1) .nil))) (.cons .stk .nil) .nil)
noncomputable def jv:S:=(.ife (.not (.call dF (.cons (.v 2) (.cons (.k (.int 1)) (.cons (.k (.int 200)) .nil))))) (.cons .stk .nil) .nil)
noncomputable def qX:S:=(.asgAttr 323 (.v 0) "plan" (.v 1))
noncomputable def qW:S:=(.asgAttr 323 (.v 0) "turns" (.v 2))
noncomputable def qV:S:=(.asgAttr 323 (.v 0) "givers" (.call jS (.cons (.v 1) .nil)))
noncomputable def qU:S:=(.asgAttr 323 (.v 0) "outer" (.call mW (.cons (.v 1) .nil)))
noncomputable def qT:S:=(.asgAttr 323 (.v 0) "here" (.dnew true))
noncomputable def qS:S:=(.asgAttr 323 (.v 0) "gone" (.dnew true))
noncomputable def qR:S:=(.asgAttr 323 (.v 0) "order" (.lst false .nil))
noncomputable def ic:Fn:=⟨3,10,(.cons jw (.cons jv (.cons qX (.cons qW (.cons qV (.cons qU (.cons qT (.cons qS (.cons qR .nil)))))))))⟩
noncomputable def iv:S:=(.ife (.or (.cons (.not (.isinst (.v 1) .str)) (.cons (.and (.cons (.cmp (.v 1) .notin (.attr 323 (.v 0) "givers")) (.cons (.cmp (.v 1) .notin (.attr 323 (.v 0) "outer")) .nil))) .nil))) (.cons .stk .nil) .nil)
noncomputable def kc:Fn:=⟨2,5,(.cons iv .nil)⟩
noncomputable def jh:S:=(.ife (.not (.call dF (.cons (.v 1) (.cons (.k (.int 0)) (.cons (.bin .sub (.attr 323 (.v 0) "turns") (.k (.int 1))) .nil))))) (.cons .stk .nil) .nil)
noncomputable def k8:Fn:=⟨2,4,(.cons jh .nil)⟩
noncomputable def fg:S:=(.ret (.v 2))
noncomputable def dJ:S:=(.ife (.cmp (.sub (.v 2) (.k (.int 0))) .eq (.v 1)) (.cons fg .nil) .nil)
noncomputable def gF:S:=(.cons dJ .nil)
noncomputable def gW:S:=(.for1 2 (.attr 323 (.v 0) "plan") gF)
noncomputable def ji:S:=(.ife (.isinst (.v 1) .str) (.cons gW .nil) .nil)
noncomputable def k9:Fn:=⟨2,6,(.cons ji (.cons .stk .nil))⟩
noncomputable def pG:S:=(.expr (.meth 323 fS "need_place" (.v 0) (.cons (.v 1) .nil)))
noncomputable def pF:S:=(.expr (.meth 323 ei "need_turn" (.v 0) (.cons (.v 2) .nil)))
noncomputable def pE:S:=(.ife (.and (.cons (.cmp (.v 1) .isin (.attr 323 (.v 0) "givers")) (.cons (.or (.cons (.cmp (.sub (.sub (.sub (.attr 323 (.v 0) "givers") (.v 1)) (.k (.int 1))) (.k (.int 0))) .ne (.k (.str "later"))) (.cons (.cmp (.v 2) .gt (.k (.int 0))) .nil))) .nil))) (.cons .stk .nil) .nil)
noncomputable def pD:S:=(.ife (.not (.call iP (.cons (.v 3) .nil))) (.cons .stk .nil) .nil)
noncomputable def pC:S:=(.ife (.cmp (.tup (.cons (.v 1) (.cons (.v 2) .nil))) .isin (.attr 323 (.v 0) "here")) (.cons .stk .nil) .nil)
noncomputable def pB:S:=(.asgSub (.attr 323 (.v 0) "here") (.tup (.cons (.v 1) (.cons (.v 2) .nil))) (.v 3))
noncomputable def n9:Fn:=⟨4,8,(.cons pG (.cons pF (.cons pE (.cons pD (.cons pC (.cons pB .nil))))))⟩
noncomputable def gI:S:=(.asg 3 (.sub (.v 1) (.k (.int 2))))
noncomputable def jr:S:=(.asg 4 (.me .get (.attr 323 (.v 0) "here") (.cons (.tup (.cons (.sub (.v 3) (.k (.int 0))) (.cons (.v 2) .nil))) .nil)))
noncomputable def iz:S:=(.ret (.sub (.v 3) (.k (.int 0))))
noncomputable def dM:S:=(.ife (.cmp (.v 4) .is (.k .none)) (.cons iz .nil) .nil)
noncomputable def iw:S:=(.asg 3 (.slice (.v 3) (.k (.int 1)) (.k (.int 2))))
noncomputable def iy:S:=(.asg 3 (.slice (.v 3) (.k (.int 2)) (.k (.int 3))))
noncomputable def dL:S:=(.ife (.cmp (.v 4) .eq (.k (.int 0))) (.cons iw .nil) (.cons iy .nil))
noncomputable def de:S:=(.ife (.cmp (.sub (.sub (.v 1) (.k (.int 1))) (.k (.int 0))) .eq (.k (.str "choose"))) (.cons jr (.cons dM (.cons dL .nil))) .nil)
noncomputable def pH:S:=(.ret (.v 5))
noncomputable def fy:S:=(.ife (.cmp (.tup (.cons (.v 5) (.cons (.v 2) .nil))) .notin (.attr 323 (.v 0) "here")) (.cons pH .nil) .nil)
noncomputable def f9:S:=(.cons fy .nil)
noncomputable def cK:S:=(.for1 5 (.v 3) f9)
noncomputable def dc:S:=(.ret (.k .none))
noncomputable def pI:Fn:=⟨3,6,(.cons gI (.cons de (.cons cK (.cons dc .nil))))⟩
noncomputable def qb:S:=(.ret (.cmp (.tup (.cons (.v 1) (.cons (.v 2) .nil))) .isin (.attr 323 (.v 0) "gone")))
noncomputable def gJ:Fn:=⟨3,3,(.cons qb .nil)⟩
noncomputable def jt:S:=(.ret (.and (.cons (.not (.meth 323 b9 "has_fired" (.v 0) (.cons (.sub (.v 1) (.k (.int 0))) (.cons (.v 2) .nil)))) (.cons (.cmp (.meth 323 eE "missed" (.v 0) (.cons (.v 1) (.cons (.v 2) .nil))) .is (.k .none)) .nil))))
noncomputable def mD:Fn:=⟨3,3,(.cons jt .nil)⟩
noncomputable def nD:S:=(.asg 3 (.meth 323 kQ "need_step" (.v 0) (.cons (.v 1) .nil)))
noncomputable def nB:S:=(.expr (.meth 323 ei "need_turn" (.v 0) (.cons (.v 2) .nil)))
noncomputable def nA:S:=(.ife (.meth 323 b9 "has_fired" (.v 0) (.cons (.v 1) (.cons (.v 2) .nil))) (.cons .stk .nil) .nil)
noncomputable def ny:S:=(.ife (.cmp (.meth 323 eE "missed" (.v 0) (.cons (.v 3) (.cons (.v 2) .nil))) .isNot (.k .none)) (.cons .stk .nil) .nil)
noncomputable def nx:S:=(.asgSub (.attr 323 (.v 0) "gone") (.tup (.cons (.v 1) (.cons (.v 2) .nil))) (.k (.bool true)))
noncomputable def nw:S:=(.expr (.me .append (.attr 323 (.v 0) "order") (.cons (.tup (.cons (.v 1) (.cons (.v 2) .nil))) .nil)))
noncomputable def nE:X:=(.comp true 1 [none,none,some 0,some 2] (.me .get (.attr 323 (.v 2) "here") (.cons (.tup (.cons (.v 1) (.cons (.v 3) .nil))) .nil)) (.k (.bool true)) (.sub (.v 3) (.k (.int 2))))
noncomputable def nv:S:=(.asg 5 nE)
noncomputable def nu:S:=(.asg 6 (.bin .add (.v 2) (.b1 .int (.cmp (.sub (.sub (.v 3) (.k (.int 1))) (.k (.int 0))) .eq (.k (.str "later"))))))
noncomputable def fF:S:=(.ife (.cmp (.v 6) .eq (.attr 323 (.v 0) "turns")) (.cons .ret0 .nil) .nil)
noncomputable def ju:S:=(.asgSub (.attr 323 (.v 0) "here") (.tup (.cons (.v 4) (.cons (.v 6) .nil))) (.v 7))
noncomputable def lb:S:=(.ife (.cmp (.v 7) .isNot (.k .none)) (.cons ju .nil) .nil)
noncomputable def ia:S:=(.cons lb .nil)
noncomputable def jj:S:=(.forT [4,7] (.zip (.cons (.sub (.v 3) (.k (.int 3))) (.cons (.call rA (.cons (.sub (.v 3) (.k (.int 1))) (.cons (.v 5) (.cons (.b1 .len (.sub (.v 3) (.k (.int 3)))) .nil)))) .nil))) ia)
noncomputable def mF:Fn:=⟨3,14,(.cons nD (.cons nB (.cons nA (.cons ny (.cons nx (.cons nw (.cons nv (.cons nu (.cons fF (.cons jj .nil))))))))))⟩
noncomputable def qO:S:=(.expr (.meth 323 fS "need_place" (.v 0) (.cons (.v 1) .nil)))
noncomputable def qN:S:=(.expr (.meth 323 ei "need_turn" (.v 0) (.cons (.v 2) .nil)))
noncomputable def qM:S:=(.ret (.me .get (.attr 323 (.v 0) "here") (.cons (.tup (.cons (.v 1) (.cons (.v 2) .nil))) .nil)))
noncomputable def wk:Fn:=⟨3,3,(.cons qO (.cons qN (.cons qM .nil)))⟩
noncomputable def mB:S:=(.asg 1 (.lst false .nil))
noncomputable def n8:S:=(.expr (.me .append (.v 1) (.cons (.tup (.cons (.sub (.v 2) (.k (.int 0))) (.cons (.v 3) .nil))) .nil)))
noncomputable def jg:S:=(.ife (.meth 323 eS "is_ready" (.v 0) (.cons (.v 2) (.cons (.v 3) .nil))) (.cons n8 .nil) .nil)
noncomputable def jq:S:=(.cons jg .nil)
noncomputable def r9:S:=(.for1 3 (.range1 (.attr 323 (.v 0) "turns")) jq)
noncomputable def tc:S:=(.cons r9 .nil)
noncomputable def mA:S:=(.for1 2 (.attr 323 (.v 0) "plan") tc)
noncomputable def mz:S:=(.ret (.v 1))
noncomputable def qK:Fn:=⟨1,5,(.cons mB (.cons mA (.cons mz .nil)))⟩
noncomputable def mE:S:=(.ret (.b1 (.list false) (.attr 323 (.v 0) "order")))
noncomputable def qL:Fn:=⟨1,2,(.cons mE .nil)⟩
noncomputable def PP:mG:=⟨[wi,yb,lv,yc,aaA,aaq,yd,yi,jX,jf,nq,yg,yh,n5,rM,my,ff,lu,jV,jU,tG,lq,wd,kL,nY,wa,l6,qC,nZ,tF,tE,m8,qz,we,adb,ic,kc,k8,k9,n9,pI,gJ,mD,mF,wk,qK,qL]⟩
noncomputable def topN:Nat:=4000
end Mine
namespace Mine
open PySem
noncomputable def aM:bT->ac PV
 | .next _ σ=>.ok .none σ
 | .ret v _ σ=>.ok v σ
 | _=>.stuck
section
variable {α β:Type} {σ:ab} {ρ:aq} {C:bn} {n:Nat}
theorem aB {a:α} {f:α->ab->ac β}:(ac.ok a σ).bind f=f a σ:=rfl
theorem cO {a:α} {f:α->ab->bT}:(ac.ok a σ).toS ρ f=f a σ:=rfl
theorem ifF {a b:α}:(if false=true then a else b)=b:=rfl
theorem se {a b:Str}:bp .eq (.str a) (.str b) σ=.ok (a == b) σ:=rfl
theorem aiK {a b:Str}:bp .ne (.str a) (.str b) σ=.ok (!(a == b)) σ:=rfl
theorem gb {a b:Int}:bp .eq (.int a) (.int b) σ=.ok (a == b) σ:=rfl
theorem zQ {a b:Int}:bp .ne (.int a) (.int b) σ=.ok (!(a == b)) σ:=rfl
theorem lt_int {a b:Int}:bp .lt (.int a) (.int b) σ=.ok (decide (a < b)) σ:=rfl
theorem le_int {a b:Int}:bp .le (.int a) (.int b) σ=.ok (decide (a <= b)) σ:=rfl
theorem gt_int {a b:Int}:bp .gt (.int a) (.int b) σ=.ok (decide (a > b)) σ:=rfl
theorem add_int {a b:Int}:g9 .add (.int a) (.int b) σ=.ok (.int (a + b)) σ:=rfl
theorem sub_int {a b:Int}:g9 .sub (.int a) (.int b) σ=.ok (.int (a - b)) σ:=rfl
theorem mul_int {a b:Int} (h:a.natAbs < 2 ^ 60\/b.natAbs < 2 ^ 60):g9 .mul (.int a) (.int b) σ=.ok (.int (a * b)) σ:=by
 show (if sL a b=true then ac.ok (PV.int (a * b)) σ else .stuck)=_
 exact if_pos (decide_eq_true h)
theorem a9 {a b:Int} (h:0 < b):g9 .mod (.int a) (.int b) σ=.ok (.int (a % b)) σ:=by
 have e:a.fmod b=a % b:=Int.fmod_eq_emod_of_nonneg _ (Int.le_of_lt h)
 show (if b=0 then ac.stuck else .ok (PV.int (a.fmod b)) σ)=_
 rw [if_neg (Int.ne_of_gt h),e]
theorem d0 {a b:Int} (h:0 < b) (h2:b < 1073741824):g9 .fdiv (.int a) (.int b) σ=.ok (.int (a / b)) σ:=by
 have e:a.fdiv b=a / b:=Int.fdiv_eq_ediv_of_nonneg _ (Int.le_of_lt h)
 have:b ≠ 0/\b.natAbs < 1073741824:=⟨Int.ne_of_gt h,by grind⟩
 show (if b ≠ 0/\b.natAbs < 1073741824 then ac.ok (PV.int (a.fdiv b)) σ else .stuck)=_
 rw [if_pos this,e]
theorem add_str {a b:Str} (h:a.length + b.length <= ao):g9 .add (.str a) (.str b) σ=.ok (.str (a++b)) σ:=by
 show (if a.length + b.length <= ao then ac.ok (PV.str (a++b)) σ else .stuck)=_
 exact if_pos h
theorem ajo {a b:List PV} (h:a.length + b.length <= ao):g9 .add (.fl a) (.fl b) σ=.ok (.fl (a++b)) σ:=by
 show (if a.length + b.length <= ao then ac.ok (PV.fl (a++b)) σ else .stuck)=_
 exact if_pos h
theorem gw {f:List PV->ac PV} {a:PV} {xs:List PV} (h:aW σ a=some xs):gx f a σ=f xs:=by unfold gx; rw [h]
theorem gy {γ:Type} {g:List PV->Option γ} {f:γ->ac PV} {a:PV} {l:γ} (h:(a8 σ a).bind g=some l):cE g f a σ=f l:=by unfold cE; rw [h]
theorem len_str {s:Str} (h:s.length <= ao):cI .len (.str s) σ=.ok (.int s.length) σ:=by
 show (if s.length <= ao then ac.ok (PV.int s.length) σ else .stuck)=_
 exact if_pos h
theorem wZ {xs:List PV} (h:xs.length <= ao):cI .len (.tup xs) σ=.ok (.int xs.length) σ:=by
 show (if xs.length <= ao then ac.ok (PV.int xs.length) σ else .stuck)=_
 exact if_pos h
theorem z6 {xs:List PV} (h:xs.length <= ao):cI .len (.fl xs) σ=.ok (.int xs.length) σ:=by
 show (if xs.length <= ao then ac.ok (PV.int xs.length) σ else .stuck)=_
 exact if_pos h
theorem af7 {xs:List PV} (h:xs.length <= ao):cI (.list true) (.tup xs) σ=.ok (.fl xs) σ:=by
 show (if xs.length <= ao then ac.ok (PV.fl xs) σ else .stuck)=_
 exact if_pos h
theorem zi {xs:List PV} (h:xs.length <= ao):cI .tuple (.fl xs) σ=.ok (.tup xs) σ:=by
 show (if xs.length <= ao then ac.ok (PV.tup xs) σ else .stuck)=_
 exact if_pos h
theorem int_bool {b:Bool}:cI .int (.bool b) σ=.ok (.int (if b then 1 else 0)) σ:=rfl
theorem pW {xs:List PV} (h:xs.length <= ao):bU true xs σ=.ok (.fl xs) σ:=if_pos h
theorem aea {xs:List PV} (h:xs.length <= ao):bU false xs σ=.ok (.ref σ.length) (σ++[.lst xs]):=if_pos h
theorem sP {i:Int} {m:Nat} (h0:0 <= i) (h:i.toNat < m):b7 i m=some i.toNat:=by
 unfold b7
 rw [if_pos h0,if_pos h]
theorem fL {xs:List PV} {i:Int} {x:PV} (hl:xs.length <= ao) (h0:0 <= i) (h:xs[i.toNat]?=some x):eP (.fl xs) (.int i) σ=.ok x σ:=by
 have hi:=(cS h).1
 show (if xs.length <= ao then ac.ofOpt ((b7 i xs.length).bind (xs[·]?)) σ else .stuck)=_
 rw [if_pos hl,sP h0 hi]
 show ac.ofOpt xs[i.toNat]? σ=_
 rw [h]; rfl
theorem ahs {xs:List PV} {i:Int} {x:PV} (hl:xs.length <= ao) (h0:0 <= i) (h:xs[i.toNat]?=some x):eP (.tup xs) (.int i) σ=.ok x σ:=by
 have hi:=(cS h).1
 show (if xs.length <= ao then ac.ofOpt ((b7 i xs.length).bind (xs[·]?)) σ else .stuck)=_
 rw [if_pos hl,sP h0 hi]
 show ac.ofOpt xs[i.toNat]? σ=_
 rw [h]; rfl
theorem abv {xs:List PV} {r:Nat} {i:Int} {x:PV} (hr:σ[r]?=some (.lst xs)) (hl:xs.length <= ao) (h0:0 <= i) (h:xs[i.toNat]?=some x):eP (.ref r) (.int i) σ=.ok x σ:=by
 have hi:=(cS h).1
 have e:a8 σ (.ref r)=some xs:=by unfold a8; dsimp only; rw [hr]
 show (match a8 σ (.ref r) with
  | some xs=>iM xs i σ
  | none=>.stuck)=_
 rw [e]
 show (if xs.length <= ao then ac.ofOpt ((b7 i xs.length).bind (xs[·]?)) σ else .stuck)=_
 rw [if_pos hl,sP h0 hi]
 show ac.ofOpt xs[i.toNat]? σ=_
 rw [h]; rfl
theorem abu {s:Str} {i:Int} {c:Nat} (hl:s.cps.size <= ao) (h0:0 <= i) (h:s.cps.toList[i.toNat]?=some c):eP (.str s) (.int i) σ=.ok (.str ⟨#[c]⟩) σ:=by
 have hi:=(cS h).1
 have h':s.cps[i.toNat]?=some c:=by rw [<- Array.getElem?_toList]; exact h
 show (if s.cps.size <= ao then (match (b7 i s.cps.size).bind (s.cps[·]?) with
   | some c=>ac.ok (PV.str ⟨#[c]⟩) σ
   | none=>.stuck)
  else .stuck)=_
 rw [if_pos hl,sP h0 (by simpa using hi)]
 show (match s.cps[i.toNat]? with
   | some c=>ac.ok (PV.str ⟨#[c]⟩) σ
   | none=>.stuck)=_
 rw [h']
theorem xG {P:Nat->Prop}:∀ k,k < 0->P k:=fun zz h=>absurd h (Nat.not_lt_zero _)
theorem cb {P:Nat->Prop} {n:Nat} (h:∀ k,k < n->P k) (q:P n):∀ k,k < n + 1->P k:=fun k hk=>(Nat.lt_succ_iff_lt_or_eq.mp hk).elim (h k) fun e=>e ▸ q
theorem oM {P:Int->Prop} {n:Nat} (h:∀ k:Nat,k < n->P k) {w:Int} (h0:0 <= w) (h1:w < n):P w:=by
 obtain ⟨k,rfl⟩:=Int.eq_ofNat_of_zero_le h0
 exact h k (Int.ofNat_lt.mp h1)
theorem mL {w:Int} {n:Nat} (h0:0 <= w) (h1:w < n):w.toNat < n:=oM (P:=fun w=>w.toNat < n) (fun zz h=>h) h0 h1
theorem aaL {a:Int} {k N:Nat} (hN:N ≠ 0):((a + k) % N).toNat=((a % N).toNat + k) % N:=by
 have hz:(N:Int) ≠ 0:=Int.ofNat_ne_zero.mpr hN
 rw [<- Int.emod_add_emod]
 obtain ⟨m,hm⟩:=Int.eq_ofNat_of_zero_le (Int.emod_nonneg a hz)
 rw [hm,Int.toNat_natCast,<- Int.natCast_add,<- Int.natCast_emod,Int.toNat_natCast]
theorem aZ:ao=1000000:=rfl
theorem qg {f:PV->ab->ac (Option PV)} {g:PV->PV}:∀ (xs:List PV),(∀ x ∈ xs,f x σ=.ok (some (g x)) σ)->bM none f xs σ=.ok (xs.map g) σ
 | [],_=>if_pos trivial
 | x::xs,h=>by
  refine (if_pos trivial).trans ?_
  rw [h x List.mem_cons_self]
  show (bM none f xs σ).bind _=_
  rw [qg xs fun y hy=>h y (bG _ hy)]
  rfl
theorem eU {t:Nat} {cap:List (Option Nat)} {elt it:X} {xs:List PV} (g:PV->PV) (hit:evIt C it ρ σ=.ok (xs,none) σ) (hl:xs.length <= ao)
  (h:∀ x ∈ xs,ev C elt ((bt cap ρ).set t (some x)) σ=.ok (g x) σ) (hh:C.hd=false:=by first | rfl | assumption):ev C (.comp true t cap elt (.k (.bool true)) it) ρ σ=.ok (.fl (xs.map g)) σ:=by
 rw [iA,hh,hit]
 show eH xs.length (bM none (fun x σ=>((ac.ok true σ).bind fun b σ=>if b=true then (ev C elt ((bt cap ρ).set t (some x)) σ).bind fun v σ=>.ok (some v) σ else .ok none σ)) xs σ) _=_
 rw [qg (g:=g) xs fun x hx=>by
  show (ev C elt ((bt cap ρ).set t (some x)) σ).bind _=_
  rw [h x hx]; rfl]
 exact pW (by simpa using hl)
section
variable {a b c r:X} {σ₁ σ₂ σ₃:ab} {x y z:PV}
theorem ay {o:Op} {v:ac PV} (ha:ev C a ρ σ=.ok x σ₁) (hb:ev C b ρ σ₁=.ok y σ₂) (h:g9 o x y σ₂=v):ev C (.bin o a b) ρ σ=v:=by
 rw [ajd,ha,aB,hb,aB,h]
theorem bz {v:ac PV} (ha:ev C a ρ σ=.ok x σ₁) (hb:ev C b ρ σ₁=.ok y σ₂) (h:eP x y σ₂=v):ev C (.sub a b) ρ σ=v:=by
 rw [ai9,ha,aB,hb,aB,h]
theorem afC {o lo hi v:PV} {a b:Option Int} (h1:lJ lo=some a) (h2:lJ hi=some b) (h:slV σ o a b=some v):iK o lo hi σ=.ok v σ:=by
 unfold iK
 rw [h1,h2]
 show ac.ofOpt (slV σ o a b) σ=_
 rw [h]; rfl
theorem aie {v:ac PV} (ha:ev C a ρ σ=.ok x σ₁) (hb:ev C b ρ σ₁=.ok y σ₂) (hc:ev C c ρ σ₂=.ok z σ₃) (h:iK x y z σ₃=v):ev C (.slice a b c) ρ σ=v:=by
 rw [aaC,ha,aB,hb,aB,hc,aB,h]
theorem aj3 {k:B1}:nH false k x σ=cI k x σ:=rfl
theorem bO {k:B1} {v:ac PV} (ha:ev C a ρ σ=.ok x σ₁) (h:cI k x σ₁=v) (hh:C.hd=false:=by first | rfl | assumption):ev C (.b1 k a) ρ σ=v:=by
 rw [ahc,ha,aB,hh,aj3,h]
theorem aeX {v:ac PV} (ha:ev C a ρ σ=.ok x σ₁) (hb:ev C b ρ σ₁=.ok y σ₂) (h:sM x y σ₂=v) (hh:C.hd=false:=by first | rfl | assumption):ev C (.min2 a b) ρ σ=v:=by
 rw [abV,hh]
 show (ev C a ρ σ).bind _=_
 rw [ha,aB,hb,aB,h]
theorem a7 {f:Nat} {v:ac PV} (ha:ev C a ρ σ=.ok x σ₁) (h:C.call f [x] σ₁=v):ev C (.call f (.cons a .nil)) ρ σ=v:=by
 rw [sQ,d6,ha,aB,b6]; exact h
theorem cL {f:Nat} {v:ac PV} (ha:ev C a ρ σ=.ok x σ₁) (hb:ev C b ρ σ₁=.ok y σ₂) (h:C.call f [x,y] σ₂=v):ev C (.call f (.cons a (.cons b .nil))) ρ σ=v:=by
 rw [sQ,d6,ha,aB,d6,hb,aB,b6]; exact h
theorem gC {f:Nat} {v:ac PV} (ha:ev C a ρ σ=.ok x σ₁) (hb:ev C b ρ σ₁=.ok y σ₂) (hc:ev C c ρ σ₂=.ok z σ₃) (h:C.call f [x,y,z] σ₃=v):ev C (.call f (.cons a (.cons b (.cons c .nil)))) ρ σ=v:=by
 rw [sQ,d6,ha,aB,d6,hb,aB,d6,hc,aB,b6]; exact h
theorem fA {m:Me} {v:ac PV} (ha:ev C a ρ σ=.ok x σ₁) (hm:ub m x σ₁=true) (hb:ev C b ρ σ₁=.ok y σ₂) (h:mU m x [y] σ₂=v):ev C (.me m a (.cons b .nil)) ρ σ=v:=by
 rw [ahb,ha,aB,if_pos hm,d6,hb,aB,b6]; exact h
theorem uJ {t:Ty} {q:Bool} (ha:ev C a ρ σ=.ok x σ₁) (h:eB x t σ₁=.ok q σ₁):ev C (.isinst a t) ρ σ=.ok (.bool q) σ₁:=by
 rw [aeV,ha,aB,h]; rfl
theorem ek {o:Cm} {q:Bool} (ha:ev C a ρ σ=.ok x σ₁) (hb:ev C b ρ σ₁=.ok y σ₂) (h:bp o x y σ₂=.ok q σ₃):ev C (.cmp a o b) ρ σ=.ok (.bool q) σ₃:=by
 rw [ajc,ha,aB,hb,aB,h]; rfl
theorem lw {xs:X} {v:ac PV} (h:evAnd C xs ρ σ=v):ev C (.and xs) ρ σ=v:=h
theorem iB {v:ac PV} (h:ev C a ρ σ=v):evAnd C (.cons a .nil) ρ σ=v:=h
theorem eN {xs:X} {v:ac Bool} (h:tstAnd C xs ρ σ=v):tst C (.and xs) ρ σ=v:=h
theorem iH {xs:X} {v:ac Bool} (h:tstOr C xs ρ σ=v):tst C (.or xs) ρ σ=v:=h
theorem jI {v:ac PV} (ha:ev C a ρ σ=.ok (.bool true) σ₁) (hb:evAnd C (.cons b r) ρ σ₁=v):evAnd C (.cons a (.cons b r)) ρ σ=v:=by
 rw [jk,ha]; exact hb
theorem aU {o:Cm} {v:ac Bool} (ha:ev C a ρ σ=.ok x σ₁) (hb:ev C b ρ σ₁=.ok y σ₂) (h:bp o x y σ₂=v):tst C (.cmp a o b) ρ σ=v:=by
 rw [ahm,ha,aB,hb,aB,h]
theorem cT {q:Bool} (ha:tst C a ρ σ=.ok q σ₁):tst C (.not a) ρ σ=.ok (!q) σ₁:=by
 rw [ahl,ha]; rfl
theorem dB {f:Nat} {args:X} {q:Bool} (h:ev C (.call f args) ρ σ=.ok (.bool q) σ₁):tst C (.call f args) ρ σ=.ok q σ₁:=by
 rw [afq,h]; rfl
theorem aki {k:B1} {q:Bool} (h:ev C (.b1 k a) ρ σ=.ok (.bool q) σ₁):tst C (.b1 k a) ρ σ=.ok q σ₁:=by
 rw [air,h]; rfl
theorem zw {t:Ty} {q:Bool} (h:ev C (.isinst a t) ρ σ=.ok (.bool q) σ₁):tst C (.isinst a t) ρ σ=.ok q σ₁:=by
 rw [ach,h]; rfl
theorem fJ {v:ac Bool} (ha:tst C a ρ σ=.ok false σ₁) (h:tstOr C r ρ σ₁=v):tstOr C (.cons a r) ρ σ=v:=by
 rw [dT,ha]; exact h
theorem adG (ha:tst C a ρ σ=.ok true σ₁):tstOr C (.cons a r) ρ σ=.ok true σ₁:=by
 rw [dT,ha]; rfl
theorem wL {v:ac Bool} (ha:tst C a ρ σ=.ok true σ₁) (h:tstAnd C r ρ σ₁=v):tstAnd C (.cons a r) ρ σ=v:=by
 rw [dn,ha]; exact h
theorem abt (ha:tst C a ρ σ=.ok false σ₁):tstAnd C (.cons a r) ρ σ=.ok false σ₁:=by
 rw [dn,ha]; rfl
theorem rb {q p:Bool} (ha:tst C a ρ σ=.ok q σ₁) (h:q=false->tstOr C r ρ σ₁=.ok p σ₁):tstOr C (.cons a r) ρ σ=.ok (q || p) σ₁:=by
 rw [dT,ha,aB]
 cases q
 ·exact h rfl
 ·rfl
theorem fK {q:Bool} (ha:tst C a ρ σ=.ok q σ₁):tstOr C (.cons a .nil) ρ σ=.ok q σ₁:=by
 rw [dT,ha,aB]
 cases q <;> rfl
theorem ey {q p:Bool} (ha:tst C a ρ σ=.ok q σ₁) (h:q=true->tstAnd C r ρ σ₁=.ok p σ₁):tstAnd C (.cons a r) ρ σ=.ok (q && p) σ₁:=by
 rw [dn,ha,aB]
 cases q
 ·rfl
 ·exact h rfl
theorem dQ {q:Bool} (ha:tst C a ρ σ=.ok q σ₁):tstAnd C (.cons a .nil) ρ σ=.ok q σ₁:=by
 rw [dn,ha,aB]
 cases q <;> rfl
theorem sR {q p:Bool} (ha:ev C a ρ σ=.ok (.bool q) σ₁) (h:q=true->evAnd C (.cons b r) ρ σ₁=.ok (.bool p) σ₁):evAnd C (.cons a (.cons b r)) ρ σ=.ok (.bool (q && p)) σ₁:=by
 rw [jk,ha]
 cases q
 ·rfl
 ·exact h rfl
theorem oj {i j k:Int} (ha:ev C a ρ σ=.ok (.int i) σ) (hb:ev C b ρ σ=.ok (.int j) σ) (hc:ev C c ρ σ=.ok (.int k) σ):ev C (.cmp2 a .le b .le c) ρ σ=.ok (.bool (decide (i <= j) && decide (j <= k))) σ:=by
 rw [aid,ha,aB,hb,aB,le_int,aB]
 cases decide (i <= j)
 ·rfl
 ·rw [if_pos rfl,hc,aB,le_int]; rfl
theorem tf {i j k:Int} (ha:ev C a ρ σ=.ok (.int i) σ) (hb:ev C b ρ σ=.ok (.int j) σ) (hc:ev C c ρ σ=.ok (.int k) σ):tst C (.cmp2 a .le b .le c) ρ σ=.ok (decide (i <= j) && decide (j <= k)) σ:=by
 rw [afp,ha,aB,hb,aB,le_int,aB]
 cases decide (i <= j)
 ·rfl
 ·rw [if_pos rfl,hc,aB,le_int]; rfl
theorem aN {vs:List PV} (ha:ev C a ρ σ=.ok x σ₁) (h:evs C r ρ σ₁=.ok vs σ₂):evs C (.cons a r) ρ σ=.ok (x::vs) σ₂:=by
 rw [d6,ha,aB,h]; rfl
theorem g7 {xs:X} {vs:List PV} (h:evs C xs ρ σ=.ok vs σ₁) (hl:vs.length <= ao):ev C (.tup xs) ρ σ=.ok (.tup vs) σ₁:=by
 rw [ai8,h,aB,if_pos hl]
theorem ags {xs:X} {vs:List PV} (h:evs C xs ρ σ=.ok vs σ₁) (hl:vs.length <= ao):ev C (.lst true xs) ρ σ=.ok (.fl vs) σ₁:=by
 rw [ajb,h,aB,pW hl]
theorem abY {ks:List Str} {vals:List PV} {k:Str} (ha:ev C a ρ σ=.ok (.str k) σ₁) (hb:ev C b ρ σ₁=.ok y σ₂):ev C (.fdget ks vals a b) ρ σ=.ok ((kh k (ks.zip vals)).getD y) σ₂:=by
 rw [agq,ha,aB,hb,aB]; rfl
end
theorem aa {a r:S} {ρ':aq} {σ':ab} (h:ex C n a ρ σ=.next ρ' σ'):ex C n (.cons a r) ρ σ=ex C n r ρ' σ':=by
 show (match ex C n a ρ σ with | .next ρ σ=>ex C n r ρ σ | o=>o)=_
 rw [h]
theorem aj {a r:S} {v:PV} {ρ':aq} {σ':ab} (h:ex C n a ρ σ=.ret v ρ' σ'):ex C n (.cons a r) ρ σ=.ret v ρ' σ':=by
 show (match ex C n a ρ σ with | .next ρ σ=>ex C n r ρ σ | o=>o)=_
 rw [h]
theorem aeS {a r:S} {ρ':aq} {σ':ab} (h:ex C n a ρ σ=.brk ρ' σ'):ex C n (.cons a r) ρ σ=.brk ρ' σ':=by
 show (match ex C n a ρ σ with | .next ρ σ=>ex C n r ρ σ | o=>o)=_
 rw [h]
theorem aC {i:Nat} {x:X} {v:PV} {σ':ab} (h:ev C x ρ σ=.ok v σ'):ex C n (.asg i x) ρ σ=.next (ρ.set i (some v)) σ':=by
 show (ev C x ρ σ).toS ρ _=_
 rw [h]; rfl
theorem av {x:X} {v:PV} {σ':ab} (h:ev C x ρ σ=.ok v σ'):ex C n (.ret x) ρ σ=.ret v ρ σ':=by
 show (ev C x ρ σ).toS ρ _=_
 rw [h]; rfl
theorem bR {x:X} {σ':ab} (h:ev C x ρ σ=.ok .none σ'):ex C n (.expr x) ρ σ=.next ρ σ':=by
 show (ev C x ρ σ).toS ρ _=_
 rw [h]; rfl
theorem aI {c:X} {a b:S} {σ':ab} (h:tst C c ρ σ=.ok true σ'):ex C n (.ife c a b) ρ σ=ex C n a ρ σ':=by
 show (tst C c ρ σ).toS ρ _=_
 rw [h]; rfl
theorem pJ {c:X} {a b:S} {σ':ab} (h:tst C c ρ σ=.ok false σ'):ex C n (.ife c a b) ρ σ=ex C n b ρ σ':=by
 show (tst C c ρ σ).toS ρ _=_
 rw [h]; rfl
theorem az:ex C n .nil ρ σ=.next ρ σ:=rfl
theorem ah {c:X} {a:S} {σ':ab} (h:tst C c ρ σ=.ok false σ'):ex C n (.ife c a .nil) ρ σ=.next ρ σ':=(pJ h).trans az
section
variable {bnd:PV->aq->Option aq} {f:aq->ab->bT} {x:PV} {xs:List PV} {ρ₁ ρ₂:aq} {σ₂:ab}
theorem bB:aV none bnd f [] ρ σ=.next ρ σ:=if_pos trivial
theorem a5 (hb:bnd x ρ=some ρ₁) (h:f ρ₁ σ=.next ρ₂ σ₂):aV none bnd f (x::xs) ρ σ=aV none bnd f xs ρ₂ σ₂:=by
 refine (if_pos trivial).trans ?_
 rw [hb]; show oK _ (f ρ₁ σ)=_; rw [h]; rfl
theorem ah8 (hb:bnd x ρ=some ρ₁) (h:f ρ₁ σ=.brk ρ₂ σ₂):aV none bnd f (x::xs) ρ σ=.next ρ₂ σ₂:=by
 refine (if_pos trivial).trans ?_
 rw [hb]; show oK _ (f ρ₁ σ)=_; rw [h]; rfl
theorem bL {i:Nat} {it:X} {body:S} {ys:List PV} {σ₁:ab} {o:bT} (hit:evIt C it ρ σ=.ok (ys,none) σ₁) (h:aV none (bw i) (fun ρ σ=>ex C n body ρ σ) ys ρ σ₁=o) (hh:C.hd=false:=by first | rfl | assumption):ex C n (.for1 i it body) ρ σ=o:=by
 show (bif C.hd then bT.stuck else (evIt C it ρ σ).toS ρ _)=_
 rw [hh,hit]; exact h
end
theorem agB {P:mG} {d f:Nat} {vs:List PV} {fn:Fn} (hf:P.fns[f]?=some fn) (hl:vs.length=fn.params) :
  aJ P n (d + 1) f vs σ=aM (ex (lc P n 0 d) n fn.body (vs.map some++List.replicate (fn.slots - fn.params) none) σ):=by
 show (match P.fns[f]? with
  | some fn=>if vs.length=fn.params then
    match ex (lc P n 0 d) n fn.body (vs.map some++List.replicate (fn.slots - fn.params) none) σ with
    | .next _ σ=>ac.ok PV.none σ
    | .ret v _ σ=>.ok v σ
    | _=>.stuck
   else .stuck
  | none=>.stuck)=_
 rw [hf]
 dsimp only
 rw [if_pos hl]
 cases ex (lc P n 0 d) n fn.body (vs.map some++List.replicate (fn.slots - fn.params) none) σ <;> rfl
end
end Mine
namespace Mine
open PySem
end Mine
namespace Mine
open PySem
noncomputable def CC (d:Nat):bn:=lc PP topN 0 d
theorem a6 {d f:Nat} {vs:List PV} {σ:ab} {fn:Fn} (hf:PP.fns[f]?=some fn) (hl:vs.length=fn.params) :
  aJ PP topN (d + 1) f vs σ=aM (ex (CC d) topN fn.body (vs.map some++List.replicate (fn.slots - fn.params) none) σ):=agB hf hl
noncomputable def cn:List Nat:=("abcdefghijklmnopqrstuvwxyz" : Str).cps.toList
noncomputable def uf:List Nat:=("0123456789" : Str).cps.toList
structure di (s:Str):Prop where
 pos:1 <= s.length
 len:s.length <= 8
 fst:∀ c,s.cps.toList[0]?=some c->c ∈ cn
 all:∀ c ∈ s.cps.toList,c ∈ cn\/c ∈ uf
noncomputable def pQ (c:Nat):Bool:=cn.contains c || uf.contains c
noncomputable def eQ (s:Str):Bool:=decide (1 <= s.length) && decide (s.length <= 8) && (s.cps.toList.take 1).all (fun c=>cn.contains c) && s.cps.toList.all pQ
theorem t9 {s:Str} (h:eQ s=true):di s:=by
 simp only [eQ,pQ,Bool.and_eq_true,decide_eq_true_eq,List.all_eq_true,Bool.or_eq_true,List.contains_iff_mem] at h
 refine ⟨h.1.1.1,h.1.1.2,fun c hc=>?_,h.2⟩
 refine h.1.2 c ?_
 cases hq:s.cps.toList with
 | nil=>rw [hq] at hc; cases hc
 | cons x r=>rw [hq] at hc; simp at hc; subst hc; simp
theorem zT {s:Str} (h:di s):eQ s=true:=by
 simp only [eQ,pQ,Bool.and_eq_true,decide_eq_true_eq,List.all_eq_true,Bool.or_eq_true,List.contains_iff_mem]
 refine ⟨⟨⟨h.pos,h.len⟩,fun c hc=>h.fst c ?_⟩,h.all⟩
 cases hq:s.cps.toList with
 | nil=>rw [hq] at hc; simp at hc
 | cons x r=>rw [hq] at hc; simp at hc; simp [hc]
section
variable {d:Nat} {σ:ab}
theorem h0 {i:Int}:aJ PP topN (d + 1) iP [.int i] σ=.ok (.bool (decide (0 <= i) && decide (i <= 999999))) σ:=by
 rw [a6 (fn:=lv) rfl rfl]
 have:ex (CC d) topN lv.body [some (.int i),none,none,none,none] σ=.ret (.bool (decide (0 <= i) && decide (i <= 999999))) [some (.int i),none,none,none,none] σ:=
  aj (av (lw (jI (σ₁:=σ) rfl (jI (σ₁:=σ) rfl (iB (oj rfl rfl rfl))))))
 show aM (ex (CC d) topN lv.body [some (.int i),none,none,none,none] σ)=_
 rw [this]; rfl
theorem ad5 {c:Nat} {y:Str}:bp .notin (.str ⟨#[c]⟩) (.str y) σ=.ok (!(y.cps.toList.contains c)) σ:=rfl
theorem ajm {α:Type} {xs:List α} {g:α->Bool}:cI .all (.fl (xs.map fun x=>.bool (g x))) σ=.ok (.bool (xs.all g)) σ:=by
 have e:∀ xs:List α,cu (xs.map fun x=>.bool (g x))=some (xs.map g):=by
  intro xs
  induction xs with
  | nil=>rfl
  | cons x xs ih =>
   show (cu (xs.map fun x=>.bool (g x))).map (g x::·)=_
   rw [ih]; rfl
 refine (gy (σ:=σ) (a:=.fl _) (l:=xs.map g) (g:=cu) (e xs)).trans ?_
 rw [List.all_map]; rfl
theorem uR {C:bn} {ρ:aq} {α:Type} {t:Nat} {cap:List (Option Nat)} {elt it:X} {xs:List α} {w:α->PV} {g:α->Bool} (hit:evIt C it ρ σ=.ok (xs.map w,none) σ) (hl:xs.length <= ao)
  (h:∀ x ∈ xs,ev C elt ((bt cap ρ).set t (some (w x))) σ=.ok (.bool (g x)) σ) (hh:C.hd=false:=by first | rfl | assumption):ev C (.b1 .all (.comp true t cap elt (.k (.bool true)) it)) ρ σ=.ok (.bool (xs.all g)) σ:=by
 refine bO (x:=.fl (xs.map fun x=>.bool (g x))) (σ₁:=σ) ?_ ajm hh
 rw [iA,hh,hit]
 show eH xs.length (bM none (fun x σ=>((ac.ok true σ).bind fun b σ=>if b=true then (ev C elt ((bt cap ρ).set t (some x)) σ).bind fun v σ=>.ok (some v) σ else .ok none σ)) (xs.map w) σ) _=_
 have e:∀ ys:List α,(∀ x ∈ ys,ev C elt ((bt cap ρ).set t (some (w x))) σ=.ok (.bool (g x)) σ)->bM none (fun x σ=>((ac.ok true σ).bind fun b σ=>if b=true then (ev C elt ((bt cap ρ).set t (some x)) σ).bind fun v σ=>.ok (some v) σ else .ok none σ)) (ys.map w) σ=.ok (ys.map fun x=>.bool (g x)) σ:=by
  intro ys
  induction ys with
  | nil=>intro _; exact if_pos trivial
  | cons y ys ih =>
   intro hy
   refine (if_pos trivial).trans ?_
   dsimp only
   rw [aB,if_pos rfl,hy y List.mem_cons_self,aB,aB]
   rw [ih fun x hx=>hy x (bG _ hx)]
   rfl
 rw [e xs h]
 exact pW (by simpa using hl)
theorem h1 {s:Str} (hlen:s.length <= ao):aJ PP topN (d + 1) mY [.str s] σ=.ok (.bool (eQ s)) σ:=by
 rw [a6 (fn:=yi) rfl rfl]
 show aM (ex (CC d) topN (.cons je (.cons mx .nil)) [some (.str s),none,none,none,none,none,none] σ)=_
 have hsz:s.length=s.cps.toList.length:=by simp [Str.length]
 have e0:tst (CC d) (.or (.cons (.not (.isinst (.v 0) .str)) (.cons (.not (.cmp2 (.k (.int 1)) .le (.b1 .len (.v 0)) .le (.k (.int 8)))) (.cons (.cmp (.sub (.v 0) (.k (.int 0))) .notin (.k (.str "abcdefghijklmnopqrstuvwxyz"))) .nil)))) [some (.str s),none,none,none,none,none,none] σ =
   .ok (!(decide (1 <= s.length) && decide (s.length <= 8)) || !(s.cps.toList.take 1).all (fun c=>cn.contains c)) σ:=by
  refine iH (fJ (σ₁:=σ) rfl (rb ((cT (tf rfl (bO rfl (len_str hlen)) rfl)).trans ?_) fun hq=>fK ?_))
  ·rw [show decide ((1:Int) <= (s.length:Int))=decide (1 <= s.length) from decide_eq_decide.mpr (by grind),show decide ((s.length:Int) <= 8)=decide (s.length <= 8) from decide_eq_decide.mpr (by grind)]
  ·simp only [Bool.not_eq_false',Bool.and_eq_true,decide_eq_true_eq] at hq
   cases hx:s.cps.toList with
   | nil=>rw [hsz,hx] at hq; simp at hq
   | cons c r =>
    refine (aU (bz rfl rfl (abu (c:=c) (i:=0) hlen (by (exact Int.natCast_nonneg _)) (by rw [hx]; rfl))) rfl ad5).trans ?_
    show ac.ok (!cn.contains c) σ=_
    simp
 have e1:ex (CC d) topN mx [some (.str s),none,none,none,none,none,none] σ=.ret (.bool (s.cps.toList.all pQ)) [some (.str s),none,none,none,none,none,none] σ:=by
  refine av (uR (xs:=s.cps.toList) (w:=fun c=>.str ⟨#[c]⟩) (g:=pQ) rfl (by rw [<- hsz]; exact hlen) fun c hc=>?_)
  rw [aj1,nF]
  show (if cn.contains c=true then ac.ok (PV.bool (cn.contains c)) σ else _)=_
  unfold pQ
  cases q:cn.contains c with
  | true=>rfl
  | false=>rfl
 cases hq:(!(decide (1 <= s.length) && decide (s.length <= 8)) || !(s.cps.toList.take 1).all (fun c=>cn.contains c)) with
 | true =>
  rw [hq] at e0
  rw [aj (a:=je) ((aI e0).trans (aj (av rfl)))]
  have:eQ s=false:=by
   unfold eQ
   revert hq
   cases (decide (1 <= s.length) && decide (s.length <= 8)) <;> cases ((s.cps.toList.take 1).all fun c=>cn.contains c) <;> simp
  rw [this]; rfl
 | false =>
  rw [hq] at e0
  rw [aa (a:=je) (ah e0),aj e1]
  have:eQ s=s.cps.toList.all pQ:=by
   unfold eQ
   revert hq
   cases (decide (1 <= s.length) && decide (s.length <= 8)) <;> cases ((s.cps.toList.take 1).all fun c=>cn.contains c) <;> simp
  rw [this]; rfl
end
end Mine
namespace Mine
open PySem
noncomputable def j4 (l:List Str) (m:Nat):Bool:=(decide (1 <= l.length) && decide (l.length <= m)) && l.all eQ
section
variable {d:Nat} {σ:ab}
theorem wq {a b:Nat}:decide ((a:Int) <= (b:Int))=decide (a <= b):=decide_eq_decide.mpr (by grind)
theorem h2 {l:List Str} {m:Nat} (h:∀ n ∈ l,n.length <= ao) (hl:l.length <= ao):aJ PP topN (d + 2) cV [.tup (l.map .str),.int m] σ=.ok (.bool (j4 l m)) σ:=by
 have hlim:(l.map PV.str).length <= ao:=by rw [List.length_map]; exact hl
 rw [a6 (fn:=jX) rfl rfl]
 have:ex (CC (d + 1)) topN jX.body [some (.tup (l.map .str)),some (.int m),none,none,none,none] σ=.ret (.bool (j4 l m)) [some (.tup (l.map .str)),some (.int m),none,none,none,none] σ:=by
  refine aj (av (lw (jI (uJ rfl rfl) (sR ?_ fun zz=>iB ?_))))
  ·refine (oj (i:=((1:Nat):Int)) (k:=(m:Int)) rfl (bO rfl (wZ hlim)) rfl).trans ?_
   rw [List.length_map,wq,wq]
  ·exact uR (xs:=l) (w:=.str) (g:=eQ) rfl hl fun n hn=>a7 rfl (h1 (h n hn))
 show aM (ex (CC (d + 1)) topN jX.body [some (.tup (l.map .str)),some (.int m),none,none,none,none] σ)=_
 rw [this]; rfl
theorem tM:∀ l:List Str,dS (l.map .str)=some l
 | []=>rfl
 | x::l=>by
  show (dS (l.map .str)).map (x::·)=_
  rw [tM l]; rfl
theorem uL:∀ (l a:List Str),a.Nodup->(l.foldl (fun a x=>if a.any (· == x) then a else a++[x]) a).length <= a.length + l.length ∧
  ((l.foldl (fun a x=>if a.any (· == x) then a else a++[x]) a).length=a.length + l.length ↔ (a++l).Nodup)
 | [],a,h=>by simpa using h
 | x::l,a,h=>by
  rw [List.foldl_cons]
  cases hx:a.any (· == x) with
  | true =>
   rw [if_pos rfl]
   obtain ⟨h1,h2⟩:=uL l a h
   rw [List.length_cons]
   refine ⟨by grind,⟨fun q=>absurd q (by grind),fun q=>?_⟩⟩
   obtain ⟨y,hy,e⟩:=List.any_eq_true.mp hx
   have e:y=x:=by simpa using e
   subst e
   rw [List.nodup_append] at q
   exact absurd rfl (q.2.2 y hy y (by simp))
  | false =>
   rw [if_neg (by simp)]
   have hn:(a++[x]).Nodup:=by
    rw [List.nodup_append]
    refine ⟨h,by simp,fun y hy z hz e=>?_⟩
    rw [List.mem_singleton] at hz
    subst hz; subst e
    rw [List.any_eq_false] at hx
    exact hx y hy (by simp)
   obtain ⟨h1,h2⟩:=uL l (a++[x]) hn
   rw [List.length_append,List.length_singleton] at h1 h2
   rw [List.length_cons]
   refine ⟨by grind,?_⟩
   rw [List.append_assoc,List.singleton_append] at h2
   rw [<- h2]
   (grind)
theorem aeZ {l:List Str}:(cH l).length=l.length ↔ l.Nodup:=by
 have:=(uL l [] (by simp)).2
 rw [List.length_nil,Nat.zero_add,List.nil_append] at this
 exact this
noncomputable def dw (l:List Str):Bool:=(cH l).length == l.length
theorem te {l:List Str}:dw l=true ↔ l.Nodup:=by
 unfold dw; rw [beq_iff_eq]; exact aeZ
theorem aeq {v:PV} {l:List Str} (hv:aW σ v=some (l.map .str)) (hl:l.length <= 1000):cI .lenset v σ=.ok (.int (cH l).length) σ:=by
 have e:cI .lenset v σ=match (aW σ v).bind dS with
  | some l=>if l.length <= 1000 then .ok (.int (cH l).length) σ else .stuck
  | none=>.stuck:=by cases v <;> rfl
 rw [e,hv]
 show (match dS (l.map .str) with
  | some l=>if l.length <= 1000 then ac.ok (PV.int (cH l).length) σ else .stuck
  | none=>.stuck)=_
 rw [tM]
 dsimp only
 rw [if_pos hl]
theorem abG {v:PV} {xs:List PV} (hv:aW σ v=some xs) (hn:∀ s,v ≠ .str s) (hl:xs.length <= ao):cI .len v σ=.ok (.int xs.length) σ:=by
 have e:cI .len v σ=gx (fun xs=>if xs.length <= ao then .ok (.int xs.length) σ else .stuck) v σ:=by cases v <;> first | rfl | exact absurd rfl (hn _)
 rw [e,gw hv,if_pos hl]
theorem h3 {v:PV} {l:List Str} (hv:aW σ v=some (l.map .str)) (hn:∀ s,v ≠ .str s) (hl:l.length <= 1000):aJ PP topN (d + 1) dG [v] σ=.ok (.bool (dw l)) σ:=by
 rw [a6 (fn:=jf) rfl rfl]
 have:ex (CC d) topN jf.body [some v,none,none] σ=.ret (.bool (dw l)) [some v,none,none] σ:=by
  refine aj (av ?_)
  refine ek (q:=dw l) (bO rfl (aeq hv hl)) (bO rfl (abG hv hn (by rw [List.length_map]; exact aE hl (by decide)))) ?_
  rw [gb,List.length_map]
  unfold dw
  congr 1
  rw [Bool.eq_iff_iff]; simp only [beq_iff_eq]; (grind)
 show aM (ex (CC d) topN jf.body [some v,none,none] σ)=_
 rw [this]; rfl
inductive bD where
 | word (w:Str)
 | fixed (v:Int)
noncomputable def bD.pv:bD->PV
 | .word w=>.tup [.str w]
 | .fixed v=>.tup [.str "fixed",.int v]
inductive bX:bD->Nat->Nat->Prop where
 | sum (n g:Nat):bX (.word "sum") n g
 | times (n g:Nat):bX (.word "times") n g
 | least (n g:Nat):bX (.word "least") n g
 | most (n g:Nat):bX (.word "most") n g
 | later (g:Nat):bX (.word "later") 1 g
 | way:bX (.word "way") 2 2
 | choose (g:Nat):bX (.word "choose") 3 g
 | fixed (v:Int) (n g:Nat):0 <= v->v <= 999999->bX (.fixed v) n g
noncomputable def li:bD->Nat->Nat->Bool
 | .fixed v,_,_=>decide (0 <= v) && decide (v <= 999999)
 | .word w,n,g=>if w == ("fixed" : Str) then false else if w == ("later" : Str) then n == 1 else if w == ("way" : Str) then (n == 2 && g == 2) else if w == ("choose" : Str) then n == 3 else
   [("sum" : Str), "times", "least", "most"].any fun y=>y == w
set_option tactic.hygienic true in
theorem afI {r:bD} {n g:Nat} (h:li r n g=true):bX r n g:=by
 cases r with
 | fixed v =>
  simp only [li,Bool.and_eq_true,decide_eq_true_eq] at h
  exact .fixed v n g h.1 h.2
 | word w =>
  simp only [li] at h
  split at h
  ·cases h
  ·split at h
   ·rename_i q; rw [beq_iff_eq] at q h; subst q; subst h; exact .later g
   ·split at h
    ·rename_i q; rw [Bool.and_eq_true] at h; rw [beq_iff_eq] at q h; obtain ⟨h1,h2⟩:=h; rw [beq_iff_eq] at h2; subst q; subst h1; subst h2; exact .way
    ·split at h
     ·rename_i q; rw [beq_iff_eq] at q h; subst q; subst h; exact .choose g
     ·simp only [List.any_cons,List.any_nil,Bool.or_false,Bool.or_eq_true,beq_iff_eq] at h
      rcases h with q | q | q | q
      ·rw [<- q]; exact .sum n g
      ·rw [<- q]; exact .times n g
      ·rw [<- q]; exact .least n g
      ·rw [<- q]; exact .most n g
theorem afJ {r:bD} {n g:Nat} (h:bX r n g):li r n g=true:=by
 cases h with
 | fixed v n g q1 q2=>simp [li,q1,q2]
 | _=>rfl
theorem sU {n k:Nat}:((n:Int) == ((k:Nat):Int))=(n == k):=by
 rw [Bool.eq_iff_iff]; simp only [beq_iff_eq]; (grind)
theorem aej {w:Str}:bp .isin (.str w) (.tup [.str "sum",.str "times",.str "least",.str "most"]) σ=.ok ([("sum" : Str), "times", "least", "most"].any fun y=>y == w) σ:=rfl
theorem h4 {r:bD} {n g:Nat}:aJ PP topN (d + 2) xY [r.pv,.int n,.int g] σ=.ok (.bool (li r n g)) σ:=by
 rw [a6 (fn:=nq) rfl rfl]
 cases r with
 | fixed v =>
  have:ex (CC (d + 1)) topN nq.body [some (.tup [.str "fixed",.int v]),some (.int n),some (.int g),none,none,none,none,none,none] σ=.ret (.bool (li (.fixed v) n g)) [some (.tup [.str "fixed",.int v]),some (.int n),some (.int g),none,none,none,none,none,none] σ:=by
   refine (aa (a:=jc) (ρ':=[some (.tup [.str "fixed",.int v]),some (.int n),some (.int g),none,none,none,none,none,none]) (σ':=σ) rfl).trans (aj (a:=f8) ?_)
   refine (aI (σ':=σ) rfl).trans (aj (av ?_))
   exact lw (jI rfl (iB (a7 rfl h0)))
  show aM (ex (CC (d + 1)) topN nq.body [some (.tup [.str "fixed",.int v]),some (.int n),some (.int g),none,none,none,none,none,none] σ)=_
  rw [this]; rfl
 | word w =>
  show aM (ex (CC (d + 1)) topN (.cons jc (.cons f8 (.cons mt (.cons jb (.cons ja (.cons i9 (.cons ms .nil))))))) [some (.tup [.str w]),some (.int n),some (.int g),none,none,none,none,none,none] σ)=_
  have ts:∀ k:Str,tst (CC (d + 1)) (.cmp (.sub (.v 0) (.k (.int 0))) .eq (.k (.str k))) [some (.tup [.str w]),some (.int n),some (.int g),none,none,none,none,none,none] σ=.ok (w == k) σ:=fun k=>rfl
  rw [aa (a:=jc) (ρ':=[some (.tup [.str w]),some (.int n),some (.int g),none,none,none,none,none,none]) (σ':=σ) rfl]
  simp only [li]
  cases h1:w == ("fixed" : Str) with
  | true =>
   rw [aj (a:=f8) ((aI (σ':=σ) (by rw [ts,h1])).trans (aj (av (lw (v:=.ok (.bool false) σ) rfl))))]; rfl
  | false =>
   rw [aa (a:=f8) (ah (σ':=σ) (by rw [ts,h1]))]
   rw [aa (a:=mt) (ρ':=[some (.tup [.str w]),some (.int n),some (.int g),none,none,none,none,none,none]) (σ':=σ) rfl]
   cases h2:w == ("later" : Str) with
   | true =>
    rw [aj (a:=jb) ((aI (σ':=σ) (by rw [ts,h2])).trans (aj (av (ek (x:=.int n) (y:=.int ((1:Nat):Int)) (σ₁:=σ) (σ₂:=σ) rfl rfl (gb.trans (by rw [sU]))))))]; rfl
   | false =>
    rw [aa (a:=jb) (ah (σ':=σ) (by rw [ts,h2]))]
    cases h3:w == ("way" : Str) with
    | true =>
     rw [aj (a:=ja) ((aI (σ':=σ) (by rw [ts,h3])).trans (aj (av (lw (sR (q:=n == 2) (p:=g == 2) (ek (x:=.int n) (y:=.int ((2:Nat):Int)) (σ₁:=σ) (σ₂:=σ) rfl rfl (gb.trans (by rw [sU]))) fun zz=>iB (ek (x:=.int g) (y:=.int ((2:Nat):Int)) (σ₁:=σ) (σ₂:=σ) rfl rfl (gb.trans (by rw [sU]))))))))]; rfl
    | false =>
     rw [aa (a:=ja) (ah (σ':=σ) (by rw [ts,h3]))]
     cases h4:w == ("choose" : Str) with
     | true =>
      rw [aj (a:=i9) ((aI (σ':=σ) (by rw [ts,h4])).trans (aj (av (ek (x:=.int n) (y:=.int ((3:Nat):Int)) (σ₁:=σ) (σ₂:=σ) rfl rfl (gb.trans (by rw [sU]))))))]; rfl
     | false =>
      rw [aa (a:=i9) (ah (σ':=σ) (by rw [ts,h4]))]
      rw [aj (a:=ms) (av (ek (x:=.str w) (y:=.tup [.str "sum",.str "times",.str "least",.str "most"]) (σ₁:=σ) (σ₂:=σ) rfl rfl aej))]; rfl
end
end Mine
namespace Mine
open PySem
structure ae where
 name:Str
 rule:bD
 needs:List Str
 gives:List Str
noncomputable def ae.pv (s:ae):PV:=.tup [.str s.name,s.rule.pv,.tup (s.needs.map .str),.tup (s.gives.map .str)]
structure dg (s:ae):Prop where
 name:di s.name
 needs:∀ n ∈ s.needs,di n
 needs1:1 <= s.needs.length
 needs4:s.needs.length <= 4
 gives:∀ n ∈ s.gives,di n
 gives1:1 <= s.gives.length
 gives3:s.gives.length <= 3
 unlike:s.gives.Nodup
 rule:bX s.rule s.needs.length s.gives.length
structure bx (p:List ae):Prop where
 pos:1 <= p.length
 most:p.length <= 20
 steps:∀ s ∈ p,dg s
 names:(p.map (·.name)).Nodup
 gives:(p.flatMap (·.gives)).Nodup
noncomputable def aA (p:List ae):PV:=.tup (p.map ae.pv)
noncomputable def mN (s:ae):Bool:=eQ s.name && (j4 s.needs 4 && (j4 s.gives 3 && (dw s.gives && li s.rule s.needs.length s.gives.length)))
noncomputable def vn (p:List ae):Bool:=(decide (1 <= p.length) && decide (p.length <= 20)) && (p.all mN && (dw (p.map (·.name)) && dw (p.flatMap (·.gives))))
theorem vA {l:List Str} {m:Nat}:j4 l m=true ↔ (∀ n ∈ l,di n)/\1 <= l.length/\l.length <= m:=by
 simp only [j4,Bool.and_eq_true,decide_eq_true_eq,List.all_eq_true]
 exact ⟨fun h=>⟨fun n hn=>t9 (h.2 n hn),h.1⟩,fun h=>⟨h.2,fun n hn=>zT (h.1 n hn)⟩⟩
theorem xM {s:ae}:mN s=true ↔ dg s:=by
 simp only [mN,Bool.and_eq_true,vA,te]
 constructor
 ·rintro ⟨a,b,c,e,f⟩
  exact ⟨t9 a,b.1,b.2.1,b.2.2,c.1,c.2.1,c.2.2,e,afI f⟩
 ·intro h
  exact ⟨zT h.name,⟨h.needs,h.needs1,h.needs4⟩,⟨h.gives,h.gives1,h.gives3⟩,h.unlike,afJ h.rule⟩
theorem ad1 {p:List ae}:vn p=true ↔ bx p:=by
 simp only [vn,Bool.and_eq_true,te,decide_eq_true_eq,List.all_eq_true,xM]
 constructor
 ·rintro ⟨⟨a,b⟩,c,e,f⟩
  exact ⟨a,b,c,e,f⟩
 ·intro h
  exact ⟨⟨h.pos,h.most⟩,h.steps,h.names,h.gives⟩
structure ads (s:ae):Prop where
 name:s.name.length <= ao
 needs:∀ n ∈ s.needs,n.length <= ao
 needsl:s.needs.length <= ao
 gives:∀ n ∈ s.gives,n.length <= ao
 givesl:s.gives.length <= ao
section
variable {d:Nat} {σ:ab}
theorem acX {xs:List Str} (h:xs.length <= ao):cI .len (.tup (xs.map .str)) σ=.ok (.int xs.length) σ:=by
 rw [wZ (by rw [List.length_map]; exact h),List.length_map]
theorem aii {a b:Bool}:(!a || !b)=!(a && b):=by cases a <;> cases b <;> rfl
theorem h5 {s:ae} (h:ads s):aJ PP topN (d + 3) xX [s.pv] σ=.ok (.bool (mN s)) σ:=by
 rw [a6 (fn:=yg) rfl rfl]
 show aM (ex (CC (d + 2)) topN (.cons i8 (.cons eG (.cons mq .nil))) [some s.pv,none,none,none,none,none,none,none,none,none] σ)=_
 have e0:tst (CC (d + 2)) (.or (.cons (.not (.isinst (.v 0) .tuple)) (.cons (.cmp (.b1 .len (.v 0)) .ne (.k (.int 4))) (.cons (.not (.call mY (.cons (.sub (.v 0) (.k (.int 0))) .nil))) .nil)))) [some s.pv,none,none,none,none,none,none,none,none,none] σ=.ok (!eQ s.name) σ:=
  iH (fJ (σ₁:=σ) rfl (fJ (σ₁:=σ) rfl (fK (cT (dB (a7 (x:=.str s.name) (σ₁:=σ) rfl (h1 h.name)))))))
 unfold mN
 cases q0:eQ s.name with
 | false =>
  rw [q0] at e0
  rw [aj (a:=i8) ((aI e0).trans (aj (av rfl)))]; rfl
 | true =>
  rw [q0] at e0
  rw [aa (a:=i8) (ah e0)]
  cases q1:j4 s.needs 4 with
  | false =>
   have e1:tst (CC (d + 2)) (.or (.cons (.not (.call cV (.cons (.sub (.v 0) (.k (.int 2))) (.cons (.k (.int 4)) .nil)))) (.cons (.not (.call cV (.cons (.sub (.v 0) (.k (.int 3))) (.cons (.k (.int 3)) .nil)))) (.cons (.not (.call dG (.cons (.sub (.v 0) (.k (.int 3))) .nil))) .nil)))) [some s.pv,none,none,none,none,none,none,none,none,none] σ=.ok true σ:=
    iH (adG (cT (q:=false) (dB (cL (x:=.tup (s.needs.map .str)) (y:=.int ((4:Nat):Int)) (σ₁:=σ) (σ₂:=σ) rfl rfl ((h2 h.needs h.needsl).trans (by rw [q1]))))))
   rw [aj (a:=eG) ((aI e1).trans (aj (av rfl)))]; rfl
  | true =>
   cases q2:j4 s.gives 3 with
   | false =>
    have e1:tst (CC (d + 2)) (.or (.cons (.not (.call cV (.cons (.sub (.v 0) (.k (.int 2))) (.cons (.k (.int 4)) .nil)))) (.cons (.not (.call cV (.cons (.sub (.v 0) (.k (.int 3))) (.cons (.k (.int 3)) .nil)))) (.cons (.not (.call dG (.cons (.sub (.v 0) (.k (.int 3))) .nil))) .nil)))) [some s.pv,none,none,none,none,none,none,none,none,none] σ=.ok true σ:=
     iH (fJ (cT (q:=true) (dB (cL (x:=.tup (s.needs.map .str)) (y:=.int ((4:Nat):Int)) (σ₁:=σ) (σ₂:=σ) rfl rfl ((h2 h.needs h.needsl).trans (by rw [q1]))))) (adG (cT (q:=false) (dB (cL (x:=.tup (s.gives.map .str)) (y:=.int ((3:Nat):Int)) (σ₁:=σ) (σ₂:=σ) rfl rfl ((h2 h.gives h.givesl).trans (by rw [q2])))))))
    rw [aj (a:=eG) ((aI e1).trans (aj (av rfl)))]; rfl
   | true =>
    have g3:=(vA.mp q2).2.2
    have e1:tst (CC (d + 2)) (.or (.cons (.not (.call cV (.cons (.sub (.v 0) (.k (.int 2))) (.cons (.k (.int 4)) .nil)))) (.cons (.not (.call cV (.cons (.sub (.v 0) (.k (.int 3))) (.cons (.k (.int 3)) .nil)))) (.cons (.not (.call dG (.cons (.sub (.v 0) (.k (.int 3))) .nil))) .nil)))) [some s.pv,none,none,none,none,none,none,none,none,none] σ=.ok (!dw s.gives) σ:=
     iH (fJ (cT (q:=true) (dB (cL (x:=.tup (s.needs.map .str)) (y:=.int ((4:Nat):Int)) (σ₁:=σ) (σ₂:=σ) rfl rfl ((h2 h.needs h.needsl).trans (by rw [q1]))))) (fJ (cT (q:=true) (dB (cL (x:=.tup (s.gives.map .str)) (y:=.int ((3:Nat):Int)) (σ₁:=σ) (σ₂:=σ) rfl rfl ((h2 h.gives h.givesl).trans (by rw [q2])))))
      (fK (cT (dB (a7 (x:=.tup (s.gives.map .str)) (σ₁:=σ) rfl (h3 rfl (fun zz q=>by cases q) (aE g3 (by decide)))))))))
    cases q3:dw s.gives with
    | false =>
     rw [q3] at e1
     rw [aj (a:=eG) ((aI e1).trans (aj (av rfl)))]; rfl
    | true =>
     rw [q3] at e1
     rw [aa (a:=eG) (ah e1)]
     rw [aj (a:=mq) (av (gC (x:=s.rule.pv) (σ₁:=σ) rfl (bO (x:=.tup (s.needs.map .str)) (σ₁:=σ) rfl (acX h.needsl)) (bO (x:=.tup (s.gives.map .str)) (σ₁:=σ) rfl (acX h.givesl)) h4))]
     rfl
theorem vU {pl:PV} {σ₀:ab} {d:Nat}:∀ (p:List ae) (y:Option PV) (acc:List Str),acc.length + 3 * p.length <= 1000->(∀ s ∈ p,s.gives.length <= 3) ->
  ∃ y',aV none (bw 1) (fun ρ σ=>ex (CC d) topN qG ρ σ) (p.map ae.pv) [some pl,y,some (.ref σ₀.length),none,none,none,none,none,none] (σ₀++[.lst (acc.map .str)]) =
   .next [some pl,y',some (.ref σ₀.length),none,none,none,none,none,none] (σ₀++[.lst ((acc++p.flatMap (·.gives)).map .str)])
 | [],y,acc,_,_=>⟨y,by simpa using bB⟩
 | s::p,y,acc,h,hs=>by
  have hg:=hs s (by simp)
  obtain ⟨y',ih⟩:=vU (pl:=pl) (σ₀:=σ₀) (d:=d) p (some s.pv) (acc++s.gives) (by rw [List.length_append]; rw [List.length_cons] at h; (grind)) fun t ht=>hs t (bG _ ht)
  refine ⟨y',(a5 (ρ₁:=[some pl,some s.pv,some (.ref σ₀.length),none,none,none,none,none,none]) (ρ₂:=[some pl,some s.pv,some (.ref σ₀.length),none,none,none,none,none,none]) (σ₂:=σ₀++[.lst ((acc++s.gives).map .str)]) rfl ?_).trans (ih.trans (by simp [List.flatMap_cons]))⟩
  have hat:(σ₀++[MO.lst (acc.map .str)])[σ₀.length]?=some (.lst (acc.map .str)):=by simp
  refine (aa (bR (fA (m:=.extend) (x:=.ref σ₀.length) (σ₁:=σ₀++[.lst (acc.map .str)]) (σ₂:=σ₀++[.lst (acc.map .str)]) rfl ?_ (y:=.tup (s.gives.map .str)) rfl ?_))).trans az
  ·show eh (.ref σ₀.length) _=true
   unfold eh; dsimp only; rw [hat]
  ·show gB (.ref σ₀.length) (.tup (s.gives.map .str)) _=_
   unfold gB; dsimp only; rw [hat]; dsimp only
   rw [if_pos (by rw [List.length_map,List.length_map,aZ]; (grind))]
   simp
theorem abS:∀ (q:List ae),(∀ s ∈ q,s.gives.length <= 3)->(q.flatMap (·.gives)).length <= 3 * q.length
 | [],_=>by simp
 | s::q,hs=>by
  have h1:=abS q fun t ht=>hs t (bG _ ht)
  have h2:=hs s (by simp)
  rw [List.flatMap_cons,List.length_append,List.length_cons]; (grind)
theorem h6x {p:List ae} (h:∀ s ∈ p,ads s) (hl:p.length <= ao):∃ τ,aJ PP topN (d + 4) ir [aA p] σ=.ok (.bool (vn p)) (σ++τ):=by
 have hlim:(p.map ae.pv).length <= ao:=by rw [List.length_map]; exact hl
 have hlen:∀ {σ:ab},cI .len (aA p) σ=.ok (.int p.length) σ:=fun {σ}=>by
  show cI .len (.tup (p.map ae.pv)) σ=_
  rw [wZ hlim,List.length_map]
 rw [a6 (fn:=yh) rfl rfl]
 show ∃ τ,aM (ex (CC (d + 3)) topN (.cons jd (.cons mw (.cons mv (.cons mu .nil)))) [some (aA p),none,none,none,none,none,none,none,none] σ)=_
 have e0:tst (CC (d + 3)) (.or (.cons (.not (.isinst (.v 0) .tuple)) (.cons (.not (.cmp2 (.k (.int 1)) .le (.b1 .len (.v 0)) .le (.k (.int 20)))) (.cons (.not (.b1 .all r7)) .nil)))) [some (aA p),none,none,none,none,none,none,none,none] σ=.ok (!(decide (1 <= p.length) && decide (p.length <= 20)) || !p.all mN) σ:=by
  refine iH (fJ (σ₁:=σ) rfl (rb ((cT (tf (i:=((1:Nat):Int)) (k:=((20:Nat):Int)) rfl (bO rfl hlen) rfl)).trans (by rw [wq,wq])) fun zz=>fK (cT (aki (uR (xs:=p) (w:=ae.pv) (g:=mN) rfl hl fun s hs=>?_)))))
  exact a7 rfl (h5 (h s hs))
 rw [aii] at e0
 unfold vn
 rw [<- Bool.and_assoc]
 cases q0:((decide (1 <= p.length) && decide (p.length <= 20)) && p.all mN) with
 | false =>
  rw [q0] at e0
  exact ⟨[],by rw [aj (a:=jd) ((aI e0).trans (aj (av rfl))),List.append_nil]; rfl⟩
 | true =>
  rw [q0] at e0
  simp only [Bool.and_eq_true,decide_eq_true_eq,List.all_eq_true,xM] at q0
  obtain ⟨⟨p1,p20⟩,hs⟩:=q0
  have e1:ex (CC (d + 3)) topN mw [some (aA p),none,none,none,none,none,none,none,none] σ=.next [some (aA p),none,some (.ref σ.length),none,none,none,none,none,none] (σ++[.lst []]):=rfl
  obtain ⟨y',e2⟩:=vU (pl:=aA p) (σ₀:=σ) (d:=d + 3) p none [] (by simp; (grind)) fun s hq=>(hs s hq).gives3
  have e2':ex (CC (d + 3)) topN mv [some (aA p),none,some (.ref σ.length),none,none,none,none,none,none] (σ++[.lst []])=.next [some (aA p),y',some (.ref σ.length),none,none,none,none,none,none] (σ++[.lst ((p.flatMap (·.gives)).map .str)]):=
   bL (ys:=p.map ae.pv) (σ₁:=σ++[.lst []]) rfl e2
  have hgl:(p.flatMap (·.gives)).length <= 60:=by
   have h1:=abS p fun s hq=>(hs s hq).gives3
   (grind)
  have e3:ex (CC (d + 3)) topN mu [some (aA p),y',some (.ref σ.length),none,none,none,none,none,none] (σ++[.lst ((p.flatMap (·.gives)).map .str)])=.ret (.bool (dw (p.map (·.name)) && dw (p.flatMap (·.gives)))) [some (aA p),y',some (.ref σ.length),none,none,none,none,none,none] (σ++[.lst ((p.flatMap (·.gives)).map .str)]):=by
   have hat:(σ++[MO.lst ((p.flatMap (·.gives)).map .str)])[σ.length]?=some (.lst ((p.flatMap (·.gives)).map .str)):=by simp
   have c1:ev (CC (d + 3)) r6 [some (aA p),y',some (.ref σ.length),none,none,none,none,none,none] (σ++[.lst ((p.flatMap (·.gives)).map .str)])=.ok (.fl ((p.map (·.name)).map .str)) (σ++[.lst ((p.flatMap (·.gives)).map .str)]):=by
    refine (eU (fun x=>match x with | .tup (.str n::_)=>.str n | _=>.none) (xs:=p.map ae.pv) rfl hlim fun x hx=>?_).trans ?_
    ·obtain ⟨s,hs,rfl⟩:=List.mem_map.mp hx
     rfl
    ·rw [List.map_map,List.map_map]; rfl
   refine av (lw (sR (a7 c1 (h3 rfl (fun zz q=>by cases q) (by rw [List.length_map]; exact aE p20 (by decide)))) fun zz=>(iB (a7 rfl (h3 ?_ (fun zz q=>by cases q) (aE hgl (by decide)))))))
   unfold aW; dsimp only; rw [hat]
  refine ⟨[.lst ((p.flatMap (·.gives)).map .str)],?_⟩
  rw [aa (a:=jd) (ah e0),aa e1,aa e2',aj e3]; rfl
theorem h6 {p:List ae} (h:∀ s ∈ p,ads s) (hl:p.length <= ao):∃ σ',aJ PP topN (d + 4) ir [aA p] σ=.ok (.bool (vn p)) σ':=let ⟨_,e⟩:=h6x h hl; ⟨_,e⟩
end
section
variable {d:Nat} {σ:ab} {C:bn} {ρ:aq}
theorem jz {n:Nat} (h:n <= 100) {a:X} (ha:ev C a ρ σ=.ok (.int n) σ):evIt C (.range1 a) ρ σ=.ok (aF 0 1 n,none) σ:=by
 rw [oc,ha,aB]
 show (if 0 <= (n:Int)/\(n:Int) <= ao then ac.ok (aF 0 1 (n:Int).toNat,none) σ else .stuck)=_
 rw [if_pos ⟨by (exact Int.natCast_nonneg _),by rw [aZ]; (grind)⟩]; rfl
theorem rk {n:Nat} {x:PV} (h:x ∈ aF 0 1 n):∃ i:Nat,i < n/\x=.int i:=by
 obtain ⟨i,hi,rfl⟩:=List.mem_map.mp h
 exact ⟨i,List.mem_range.mp hi,by simp⟩
theorem dj {ws:List Str} (h:ws.length <= 100):(ws.map PV.str).length <= ao:=by rw [List.length_map]; exact aE h (by decide)
theorem afR {p:List ae} (hl:p.length <= 20):(p.map ae.pv).length <= ao:=by rw [List.length_map]; exact aE hl (by decide)
end
end Mine
namespace Mine
open PySem
section
variable {d:Nat} {σ:ab} {C:bn} {ρ:aq}
theorem h12 {l:List Int} (hl:l.length <= 63) {k:Nat}:aJ PP topN (d + 1) aG [.fl (l.map .int),.int k] σ=.ok (.int (l.getD k 0)) σ:=by
 rw [a6 (fn:=ff) rfl rfl]
 have hlim:(l.map PV.int).length <= ao:=by rw [List.length_map]; exact aE hl (by decide)
 have hlen:cI .len (.fl (l.map .int)) σ=.ok (.int l.length) σ:=by rw [z6 hlim,List.length_map]
 show aM (ex (CC d) topN ff.body [some (.fl (l.map .int)),some (.int k),none] σ)=_
 by_cases h:k < l.length
 ·have:ex (CC d) topN ff.body [some (.fl (l.map .int)),some (.int k),none] σ=.ret (.int (l.getD k 0)) [some (.fl (l.map .int)),some (.int k),none] σ:=by
   refine aj ((aI (σ':=σ) (aU (x:=.int k) (σ₁:=σ) rfl (bO (x:=.fl (l.map .int)) (σ₁:=σ) rfl hlen) ?_)).trans (aj (av (bz (x:=.fl (l.map .int)) (y:=.int k) (σ₁:=σ) (σ₂:=σ) rfl rfl (fL hlim (by (exact Int.natCast_nonneg _)) ?_)))))
   ·rw [lt_int,decide_eq_true (by (exact Int.ofNat_lt.mpr (by assumption)))]
   ·simp [h]
  rw [this]; rfl
 ·have:ex (CC d) topN ff.body [some (.fl (l.map .int)),some (.int k),none] σ=.ret (.int 0) [some (.fl (l.map .int)),some (.int k),none] σ:=by
   refine (aa (ρ':=[some (.fl (l.map .int)),some (.int k),none]) (σ':=σ) (ah (σ':=σ) (aU (x:=.int k) (σ₁:=σ) rfl (bO (x:=.fl (l.map .int)) (σ₁:=σ) rfl hlen) ?_))).trans (aj (av rfl))
   rw [lt_int,decide_eq_false (by (exact fun q=>(by assumption:¬ _) (Int.ofNat_lt.mp q)))]
  have e:l.getD k 0=0:=by simp [List.getD,Nat.not_lt.mp h]
  rw [this,e]; rfl
noncomputable def dq (p:Int):Int:=(p * 48271 + 11) % 2147483647 * ((p * 48271 + 11) % 2147483647) % 2147483629
theorem acI (p:Int):0 <= dq p:=Int.emod_nonneg _ (by decide)
theorem tA {p:Int}:aJ PP topN (d + 1) b4 [.int p] σ=.ok (.int (dq p)) σ:=by
 rw [a6 (fn:=lu) rfl rfl]
 have:ex (CC d) topN lu.body [some (.int p),none] σ=.ret (.int (dq p)) [some (.int p),some (.int ((p * 48271 + 11) % 2147483647))] σ:=by
  refine (aa (ρ':=[some (.int p),some (.int ((p * 48271 + 11) % 2147483647))]) (σ':=σ) (aC (ay (ay (ay (x:=.int p) (y:=.int 48271) (σ₁:=σ) (σ₂:=σ) rfl rfl (mul_int (.inr (by decide)))) (y:=.int 11) (σ₂:=σ) rfl add_int) (y:=.int 2147483647) (σ₂:=σ) rfl (a9 (by decide))))).trans (aj (av (ay (ay (x:=.int ((p * 48271 + 11) % 2147483647)) (y:=.int ((p * 48271 + 11) % 2147483647)) (σ₁:=σ) (σ₂:=σ) rfl rfl (mul_int (.inl ?_))) (y:=.int 2147483629) (σ₂:=σ) rfl (a9 (by decide)))))
  have h1:=Int.emod_nonneg (p * 48271 + 11) (show (2147483647:Int) ≠ 0 by decide)
  have h2:=Int.emod_lt_of_pos (p * 48271 + 11) (show (0:Int) < 2147483647 by decide)
  obtain ⟨w,hw⟩:=Int.eq_ofNat_of_zero_le h1
  rw [hw] at h2 ⊢
  exact Nat.lt_trans (Int.ofNat_lt.mp h2) (by decide)
 show aM (ex (CC d) topN lu.body [some (.int p),none] σ)=_
 rw [this]; rfl
theorem fdm {p a b:Int} (ha:0 < a) (ha2:a < 1073741824) (hb:0 < b) {x:X} (hx:ev C x ρ σ=.ok (.int p) σ):ev C (.bin .mod (.bin .fdiv x (.k (.int a))) (.k (.int b))) ρ σ=.ok (.int (p / a % b)) σ:=
 ay (ay hx (y:=.int a) (σ₂:=σ) rfl (d0 ha ha2)) (y:=.int b) (σ₂:=σ) rfl (a9 hb)
theorem h15 {p:Int}:∃ v,0 <= v/\v <= 999999/\∀ {d:Nat} {σ:ab},aJ PP topN (d + 1) gR [.int p] σ=.ok (.int v) σ:=by
 have m4:∀ {d:Nat} {σ:ab} (c:Int),tst (CC d) (.cmp (.bin .mod (.v 0) (.k (.int 4))) .eq (.k (.int c))) [some (.int p)] σ=.ok (p % 4 == c) σ:=fun {d σ} c =>
  aU (ay (x:=.int p) (y:=.int 4) (σ₁:=σ) (σ₂:=σ) rfl rfl (a9 (by decide))) (y:=.int c) (σ₂:=σ) rfl gb
 have n0:=Int.emod_nonneg (p / 4) (show (4:Int) ≠ 0 by decide)
 have n1:=Int.emod_lt_of_pos (p / 4) (show (0:Int) < 4 by decide)
 have fin:∀ {d:Nat} {σ:ab} {v:Int},ex (CC d) topN jU.body [some (.int p)] σ=.ret (.int v) [some (.int p)] σ->aJ PP topN (d + 1) gR [.int p] σ=.ok (.int v) σ:=fun {d σ v} h=>by
  rw [a6 (fn:=jU) rfl rfl]
  show aM (ex (CC d) topN jU.body [some (.int p)] σ)=_
  rw [h]; rfl
 by_cases h0:p % 4=0
 ·have hx:∃ v,0 <= v/\v <= 999999/\([PV.int 0,.int 0,.int 1,.int 999999])[(p / 4 % 4).toNat]?=some (.int v):=by
   refine oM (n:=4) (P:=fun w=>∃ v,0 <= v/\v <= 999999/\([PV.int 0,.int 0,.int 1,.int 999999])[w.toNat]?=some (.int v)) (cb (cb (cb (cb xG ?_) ?_) ?_) ?_) n0 n1
   ·exact ⟨0,by decide,by decide,rfl⟩
   ·exact ⟨0,by decide,by decide,rfl⟩
   ·exact ⟨1,by decide,by decide,rfl⟩
   ·exact ⟨999999,by decide,by decide,rfl⟩
  obtain ⟨v,v0,v1,hv⟩:=hx
  refine ⟨v,v0,v1,fun {d σ}=>fin (aj ((aI (σ':=σ) ((m4 0).trans (by rw [h0]; rfl))).trans (aj (av (bz (x:=.fl [PV.int 0,.int 0,.int 1,.int 999999]) (σ₁:=σ) rfl (fdm (by decide) (by decide) (by decide) rfl) (fL (by decide) n0 hv))))))⟩
 ·have k0:∀ {d:Nat} {σ:ab},tst (CC d) (.cmp (.bin .mod (.v 0) (.k (.int 4))) .eq (.k (.int 0))) [some (.int p)] σ=.ok false σ:=fun {d σ}=>(m4 0).trans (by rw [show (p % 4 == 0)=false from beq_eq_false_iff_ne.mpr h0])
  by_cases h1:p % 4=1
  ·have a0:=Int.emod_nonneg (p / 4) (show (1000000:Int) ≠ 0 by decide)
   have a1:=Int.emod_lt_of_pos (p / 4) (show (0:Int) < 1000000 by decide)
   refine ⟨p / 4 % 1000000,a0,by grind,fun {d σ}=>fin ((aa (ρ':=[some (.int p)]) (σ':=σ) (ah (σ':=σ) k0)).trans (aj ((aI (σ':=σ) ((m4 1).trans (by rw [h1]; rfl))).trans (aj (av (ay (ay (x:=.int p) (y:=.int 4) (σ₁:=σ) (σ₂:=σ) rfl rfl (d0 (by decide) (by decide))) (y:=.int 1000000) (σ₂:=σ) rfl (a9 (by decide))))))))⟩
  ·have a0:=Int.emod_nonneg (p / 4) (show (5:Int) ≠ 0 by decide)
   have a1:=Int.emod_lt_of_pos (p / 4) (show (0:Int) < 5 by decide)
   refine ⟨p / 4 % 5,a0,by grind,fun {d σ}=>fin ((aa (ρ':=[some (.int p)]) (σ':=σ) (ah (σ':=σ) k0)).trans ((aa (ρ':=[some (.int p)]) (σ':=σ) (ah (σ':=σ) ((m4 1).trans (by rw [show (p % 4 == 1)=false from beq_eq_false_iff_ne.mpr h1])))).trans (aj (av (fdm (by decide) (by decide) (by decide) rfl)))))⟩
inductive RK:bD->Prop where
 | sum:RK (.word "sum")
 | times:RK (.word "times")
 | least:RK (.word "least")
 | most:RK (.word "most")
 | later:RK (.word "later")
 | way:RK (.word "way")
 | choose:RK (.word "choose")
 | fixed (v:Int):0 <= v->v <= 999999->RK (.fixed v)
theorem h16 {p w:Int} (h0:0 <= w) (h1:w < 12):∃ r:bD,RK r/\∀ {d:Nat} {σ:ab},aJ PP topN (d + 2) p3 [.int p,.int w] σ=.ok r.pv σ:=by
 refine oM (n:=12) (P:=fun w=>∃ r:bD,RK r/\∀ {d:Nat} {σ:ab},aJ PP topN (d + 2) p3 [.int p,.int w] σ=.ok r.pv σ) (cb (cb (cb (cb (cb (cb (cb (cb (cb (cb (cb (cb xG ?_) ?_) ?_) ?_) ?_) ?_) ?_) ?_) ?_) ?_) ?_) ?_) h0 h1
 ·exact ⟨_,.sum,rfl⟩
 ·exact ⟨_,.times,rfl⟩
 ·exact ⟨_,.least,rfl⟩
 ·exact ⟨_,.most,rfl⟩
 ·obtain ⟨v,v0,v1,hv⟩:=h15 (p:=p)
  refine ⟨_,.fixed v v0 v1,fun {d σ}=>?_⟩
  rw [a6 (fn:=lq) rfl rfl]
  have:ex (CC (d + 1)) topN lq.body [some (.int p),some (.int 4),none,none] σ=.ret (.tup [.str "fixed",.int v]) [some (.int p),some (.int 4),some (.str "fixed"),none] σ:=
   (aa (ρ':=[some (.int p),some (.int 4),some (.str "fixed"),none]) (σ':=σ) rfl).trans (aj ((aI (σ':=σ) rfl).trans (aj (av (g7 (vs:=[.str "fixed",.int v]) (aN (x:=.str "fixed") (σ₁:=σ) rfl (aN (x:=.int v) (σ₁:=σ) (a7 (x:=.int p) (σ₁:=σ) rfl hv) rfl)) (show (2:Nat) <= ao by decide))))))
  show aM (ex (CC (d + 1)) topN lq.body [some (.int p),some (.int 4),none,none] σ)=_
  rw [this]; rfl
 ·exact ⟨_,.later,rfl⟩
 ·exact ⟨_,.later,rfl⟩
 ·exact ⟨_,.way,rfl⟩
 ·exact ⟨_,.choose,rfl⟩
 ·exact ⟨_,.way,rfl⟩
 ·exact ⟨_,.choose,rfl⟩
 ·exact ⟨_,.sum,rfl⟩
end
end Mine
namespace Mine
open PySem
noncomputable def iJ:List Str:=["sum", "later", "way", "fixed", "a9", "b", "times", "choose", "least", "most", "z0", "put"]
noncomputable def yZ (b k:Nat):Str:=(iJ.getD ((b + k) % 12) "")++(if k / 12=0 then ("" : Str) else "x")
noncomputable def oJ (b:Nat):List Str:=(List.range 24).map (yZ b)
noncomputable def vz:List Str->Bool
 | []=>true
 | x::r=>!(r.any (· == x)) && vz r
theorem xR:∀ {l:List Str},vz l=true->l.Nodup
 | [],_=>.nil
 | x::r,h=>by
  simp only [vz,Bool.and_eq_true,Bool.not_eq_true',List.any_eq_false,beq_iff_eq] at h
  exact List.nodup_cons.mpr ⟨fun q=>h.1 x q rfl,xR h.2⟩
noncomputable def vq (s:Str):Bool:=!(s.cps.toList.take 2 == [122,122]) && !(s.cps.toList.take 2 == [121,121])
noncomputable def hH (s:Str):Prop:=vq s=true
theorem zS:∀ b:Nat,b < 12->(oJ b).all vq=true:=by decide +kernel
theorem aa7:∀ b:Nat,b < 12->(vz (oJ b) && (oJ b).all eQ)=true:=by decide +kernel
theorem agX {n:Nat}:(Txt.mul "m" (n:Int)).cps.toList=List.replicate n 109:=by
 have hm:("m" : Str)=⟨#[109]⟩:=by decide +kernel
 rw [hm]
 unfold Txt.mul
 by_cases h1:(n:Int) < 1
 ·have:n=0:=by grind
  subst this; rw [if_pos h1]; rfl
 ·rw [if_neg h1]
  by_cases h2:n=1
  ·subst h2; rfl
  ·rw [if_neg (by
    have:((n:Int) == 1)=false:=beq_eq_false_iff_ne.mpr (by grind)
    rw [this]; decide)]
   have key:∀ (k:Nat) (acc:Array Nat),((List.replicate k (#[109]:Array Nat)).foldl (·++·) acc).toList=acc.toList++List.replicate k 109:=by
    intro k
    induction k with
    | zero=>intro acc; simp
    | succ k ih =>
     intro acc
     rw [List.replicate_succ,List.foldl_cons,ih]
     simp [List.replicate_succ]
   have:=key n #[]
   simpa using this
noncomputable def ce:List Nat:=("abcdefghijklmnopqrstuvwxyz0123456789" : Str).cps.toList
noncomputable def jJ (p q N b k:Nat):List Nat:=List.replicate p 109++ce.getD ((b + k) % N) 0::List.replicate q 109
noncomputable def gX (p q N b k:Nat):Str:=⟨(jJ p q N b k).toArray⟩
noncomputable def j3 (p q N b:Nat):List Str:=(List.range 24).map (gX p q N b)
theorem lF:ce.length=36/\ce.Nodup/\(∀ c ∈ ce,c ∈ cn\/c ∈ uf)/\(∀ i,i < 26->ce.getD i 0 ∈ cn)/\109 ∈ cn:=by decide +kernel
theorem ahG {p q:Nat} {x y:Nat} (h:List.replicate p 109++x::List.replicate q 109=List.replicate p 109++y::List.replicate q 109):x=y:=
 (List.cons.inj (List.append_cancel_left h)).1
theorem aiB {i j:Nat} (hi:i < 36) (hj:j < 36) (h:ce.getD i 0=ce.getD j 0):i=j:=by
 obtain ⟨h1,h2,_⟩:=lF
 have e1:ce.getD i 0=ce[i]'(by (exact aE (by assumption) (by decide))):=by simp [List.getD,h1,hi]
 have e2:ce.getD j 0=ce[j]'(by (exact aE (by assumption) (by decide))):=by simp [List.getD,h1,hj]
 rw [e1,e2] at h
 have e3:ce[i]?=ce[j]?:=by rw [List.getElem?_eq_getElem (by (exact aE (by assumption) (by decide))),List.getElem?_eq_getElem (by (exact aE (by assumption) (by decide))),h]
 exact (List.getElem?_inj (by (assumption)) h2).mp e3
theorem aa6 {p q N b:Nat} (hs:p + 1 + q <= 8) (hN:(p=0/\N=26)\/(0 < p/\N=36)):(j3 p q N b).Nodup/\∀ n ∈ j3 p q N b,di n:=by
 have hN1:24 <= N/\N <= 36:=by
  rcases hN with ⟨_,rfl⟩ | ⟨_,rfl⟩
  ·decide
  ·decide
 have hN0:0 < N:=Nat.lt_of_lt_of_le (by decide) hN1.1
 obtain ⟨f1,f2,f3,f4,f5⟩:=lF
 constructor
 ·unfold j3
  rw [List.Nodup,List.pairwise_map]
  refine List.Pairwise.imp_of_mem ?_ (List.nodup_range (n:=24))
  intro i j hi hj hne e
  have hi:=List.mem_range.mp hi
  have hj:=List.mem_range.mp hj
  have e1:jJ p q N b i=jJ p q N b j:=by
   have:=congrArg (fun s:Str=>s.cps.toList) e
   simpa [gX] using this
  have e2:=ahG e1
  have lt36:∀ {k:Nat},(b + k) % N < 36:=Nat.lt_of_lt_of_le (Nat.mod_lt _ hN0) hN1.2
  have e3:=aiB lt36 lt36 e2
  have key:∀ i j,j < 24->(b + i) % N=(b + j) % N->j <= i:=fun i j hj e=>by
   rcases Nat.le_total j i with h | h
   ·exact h
   ·have z:=Nat.sub_mod_eq_zero_of_mod_eq e.symm
    rw [Nat.add_sub_add_left,Nat.mod_eq_of_lt (Nat.lt_of_le_of_lt (Nat.sub_le _ _) (Nat.lt_of_lt_of_le hj hN1.1))] at z
    exact Nat.le_of_sub_eq_zero z
  exact hne (Nat.le_antisymm (key j i hi e3.symm) (key i j hj e3))
 ·intro n hn
  obtain ⟨k,hk,rfl⟩:=List.mem_map.mp hn
  have m1:(b + k) % N < N:=Nat.mod_lt _ hN0
  have hin:ce.getD ((b + k) % N) 0 ∈ ce:=by
   have hlt:(b + k) % N < ce.length:=by rw [f1]; exact Nat.lt_of_lt_of_le m1 hN1.2
   rw [List.getD_eq_getElem?_getD,List.getElem?_eq_getElem hlt]; exact List.getElem_mem hlt
  have hl:(gX p q N b k).length=p + 1 + q:=by
   show (jJ p q N b k).toArray.size=_
   simp [jJ]; (grind)
  refine ⟨by rw [hl]; exact aE (Nat.le_add_left 1 p) (Nat.le_add_right _ q),by rw [hl]; exact hs,fun c hc=>?_,fun c hc=>?_⟩
  ·have hc':(jJ p q N b k)[0]?=some c:=by simpa [gX] using hc
   rcases hN with ⟨rfl,rfl⟩ | ⟨hp,rfl⟩
   ·simp [jJ] at hc'
    subst hc'
    have:=f4 _ m1
    simpa [List.getD] using this
   ·obtain ⟨p',rfl⟩:∃ p',p=p' + 1:=⟨p - 1,by grind⟩
    simp [jJ,List.replicate_succ] at hc'
    subst hc'; exact f5
  ·have hc':c ∈ jJ p q N b k:=by simpa [gX] using hc
   simp only [jJ,List.mem_append,List.mem_cons,List.mem_replicate] at hc'
   rcases hc' with ⟨_,rfl⟩ | rfl | ⟨_,rfl⟩
   ·exact .inl f5
   ·exact f3 _ hin
   ·exact .inl f5
theorem tX {x y:Nat} {r:List Nat} {s:Str} (h:s.cps.toList=x::y::r) (q:x=109\/y=109):hH s:=by
 unfold hH vq
 rw [h]
 rcases q with rfl | rfl
 ·rfl
 ·show (!(x == 122 && (false && true)) && !(x == 121 && (false && true)))=true
  rw [Bool.false_and,Bool.and_false,Bool.and_false]; rfl
theorem zR {p q N b:Nat}:∀ n ∈ j3 p q N b,hH n:=by
 intro n hn
 obtain ⟨k,hk,rfl⟩:=List.mem_map.mp hn
 have e:(gX p q N b k).cps.toList=jJ p q N b k:=rfl
 generalize gX p q N b k=s at e
 unfold jJ at e
 cases p with
 | zero =>
  cases q with
  | zero=>unfold hH vq; rw [e]; show (!(_ && false) && !(_ && false))=true; rw [Bool.and_false,Bool.and_false]; rfl
  | succ q=>exact tX e (.inr rfl)
 | succ p =>
  cases p with
  | zero=>exact tX e (.inl rfl)
  | succ p=>exact tX e (.inl rfl)
end Mine
namespace Mine
open PySem
section
variable {d:Nat} {σ:ab} {C:bn} {ρ:aq}
theorem rm {n:Nat} {g:PV->PV} {f:Nat->Str} (h:∀ k,k < n->g (.int k)=.str (f k)):(aF 0 1 n).map g=((List.range n).map f).map .str:=by
 unfold aF
 rw [List.map_map,List.map_map]
 refine List.map_congr_left fun k hk=>?_
 show g (.int (0 + (k:Int) * 1))=.str (f k)
 rw [show (0 + (k:Int) * 1)=k by grind]
 exact h k (List.mem_range.mp hk)
theorem adM:∀ i,i < 12->(iJ.map PV.str)[i]?=some (.str (iJ.getD i "")):=fun i hi=>by
 rw [List.getElem?_map]
 have:iJ.length=12:=rfl
 simp [List.getD,this,hi]
theorem acD:∀ i,i < 12->(iJ.getD i ("" : Str)).length <= 8:=by decide +kernel
noncomputable abbrev R9 (a b c e f g h:Option PV):aq:=[a,b,c,e,f,g,h,none,none]
theorem aa8 {c:Int}:ev (CC d) pe (R9 (some (.int c)) (some (.fl (iJ.map .str))) none none none none none) σ=.ok (.fl ((oJ (c / 9 % 12).toNat).map .str)) σ:=by
 have n0:=Int.emod_nonneg (c / 9) (show (12:Int) ≠ 0 by decide)
 have n1:=Int.emod_lt_of_pos (c / 9) (show (0:Int) < 12 by decide)
 refine (eU (fun x=>match x with | .int i=>.str (yZ (c / 9 % 12).toNat i.toNat) | _=>.none) (jz (n:=24) (by decide) rfl) (by rw [show (aF 0 1 24).length=24 by simp [aF]]; decide) fun x hx=>?_).trans (by rw [rm (f:=yZ (c / 9 % 12).toNat) fun k hk=>by simp]; rfl)
 obtain ⟨k,hk,rfl⟩:=rk hx
 show _=ac.ok (PV.str (yZ (c / 9 % 12).toNat ((k:Int).toNat))) σ
 have hi:((c / 9 + k) % 12).toNat=((c / 9 % 12).toNat + k) % 12:=aaL (N:=12) (by decide)
 have hlt:((c / 9 % 12).toNat + k) % 12 < 12:=Nat.mod_lt _ (by decide)
 have h2:([PV.str "",.str "x"])[((k:Int) / 12).toNat]?=some (.str (if k / 12=0 then ("" : Str) else "x")):=by
  have e:((k:Int) / 12).toNat=k / 12:=rfl
  rw [e]
  exact cb (P:=fun i=>([PV.str "",.str "x"])[i]?=some (.str (if i=0 then ("" : Str) else "x"))) (cb xG rfl) rfl _ (Nat.div_lt_of_lt_mul hk)
 refine ay (x:=.str (iJ.getD (((c / 9 % 12).toNat + k) % 12) "")) (y:=.str (if k / 12=0 then ("" : Str) else "x")) (σ₁:=σ) (σ₂:=σ) ?_ ?_ ?_
 ·refine bz (x:=.fl (iJ.map .str)) (σ₁:=σ) rfl (ay (ay (ay (x:=.int c) (y:=.int 9) (σ₁:=σ) (σ₂:=σ) rfl rfl (d0 (by decide) (by decide))) (y:=.int k) (σ₂:=σ) rfl add_int) (y:=.int 12) (σ₂:=σ) rfl (a9 (by decide))) (fL (show (12:Nat) <= ao by decide) (Int.emod_nonneg _ (by decide)) ?_)
  rw [hi]; exact adM _ hlt
 ·exact bz (x:=.fl [.str "",.str "x"]) (σ₁:=σ) rfl (ay (x:=.int k) (y:=.int 12) (σ₁:=σ) (σ₂:=σ) rfl rfl (d0 (by decide) (by decide))) (fL (show (2:Nat) <= ao by decide) (by (exact Int.natCast_nonneg _)) h2)
 ·have l1:=acD _ hlt
  have l2:(if k / 12=0 then ("" : Str) else "x").length <= 1:=by split <;> decide +kernel
  rw [add_str (by rw [aZ]; (grind))]
  rfl
theorem abB {n:Int} (h0:0 <= n) (h1:n <= 100):g9 .mul (.str "m") (.int n) σ=.ok (.str (Txt.mul "m" n)) σ:=by
 show (if ("m" : Str).length <= 100/\0 <= n/\n <= 100 then ac.ok (PV.str (Txt.mul "m" n)) σ else .stuck)=_
 exact if_pos ⟨by decide +kernel,h0,h1⟩
theorem sq {σ₀:ab} {xs:List PV} {v:PV} (h:xs.length < 1000):mU .append (.ref σ₀.length) [v] (σ₀++[.lst xs])=.ok .none (σ₀++[.lst (xs++[v])]):=by
 have hat:(σ₀++[MO.lst xs])[σ₀.length]?=some (.lst xs):=by simp
 show eI (.ref σ₀.length) v (σ₀++[.lst xs])=_
 unfold eI; dsimp only; rw [hat]; dsimp only
 rw [if_pos (by rw [aZ]; (exact aE (by assumption) (by decide)))]
 simp
theorem j5 {σ₀ τ:ab} {xs:List PV} {m:Me} (hm:m=.append\/m=.extend\/m=.pop):ub m (.ref σ₀.length) (σ₀++.lst xs::τ)=true:=by
 have hat:(σ₀++MO.lst xs::τ)[σ₀.length]?=some (.lst xs):=by simp
 have:eh (.ref σ₀.length) (σ₀++.lst xs::τ)=true:=by unfold eh; dsimp only; rw [hat]
 rcases hm with rfl | rfl | rfl <;> exact this
theorem ajv {c:Int} {p q N k:Nat} (hs:p + 1 + q <= 8) (hN:(p=0/\N=26)\/(0 < p/\N=36)) (acc:List Str) (hacc:acc.length < 100) {z:Option PV} :
  ex (CC d) topN i7 (R9 (some (.int c)) (some (.str "abcdefghijklmnopqrstuvwxyz0123456789")) (some (.int k)) (some (.int ((p + 1 + q:Nat):Int))) (some (.int p)) (some (.ref σ.length)) z) (σ++[.lst (acc.map .str)]) =
   .next (R9 (some (.int c)) (some (.str "abcdefghijklmnopqrstuvwxyz0123456789")) (some (.int k)) (some (.int ((p + 1 + q:Nat):Int))) (some (.int p)) (some (.ref σ.length)) (some (.str ⟨#[ce.getD (((c / 64 % N).toNat + k) % N) 0]⟩))) (σ++[.lst ((acc++[gX p q N (c / 64 % N).toNat k]).map .str)]):=by
 obtain ⟨f1,f2,f3,f4,f5⟩:=lF
 have hN0:0 < N:=by grind
 have n0:=Int.emod_nonneg (c / 64) (show (N:Int) ≠ 0 by (exact Int.ofNat_ne_zero.mpr (Nat.ne_of_gt (by assumption))))
 have n1:=Int.emod_lt_of_pos (c / 64) (show (0:Int) < N by (exact Int.ofNat_lt.mpr (by assumption)))
 have hi:((c / 64 + k) % N).toNat=((c / 64 % N).toNat + k) % N:=aaL (Nat.ne_of_gt hN0)
 have hlt:((c / 64 % N).toNat + k) % N < N:=Nat.mod_lt _ hN0
 have hsel:([PV.int 26,.int 36])[((if decide ((p:Int) > 0)=true then 1 else 0:Int)).toNat]?=some (.int N):=by
  rcases hN with ⟨rfl,rfl⟩ | ⟨hp,rfl⟩
  ·rfl
  ·rw [decide_eq_true (by grind)]; rfl
 have hsel0:(0:Int) <= (if decide ((p:Int) > 0)=true then 1 else 0:Int):=by split <;> decide
 have s1:ex (CC d) topN (.asg 6 (.sub (.v 1) (.bin .mod (.bin .add (.bin .fdiv (.v 0) (.k (.int 64))) (.v 2)) (.sub (.lst true (.cons (.k (.int 26)) (.cons (.k (.int 36)) .nil))) (.b1 .int (.cmp (.v 4) .gt (.k (.int 0)))))))) (R9 (some (.int c)) (some (.str "abcdefghijklmnopqrstuvwxyz0123456789")) (some (.int k)) (some (.int ((p + 1 + q:Nat):Int))) (some (.int p)) (some (.ref σ.length)) z) (σ++[.lst (acc.map .str)]) =
   .next (R9 (some (.int c)) (some (.str "abcdefghijklmnopqrstuvwxyz0123456789")) (some (.int k)) (some (.int ((p + 1 + q:Nat):Int))) (some (.int p)) (some (.ref σ.length)) (some (.str ⟨#[ce.getD (((c / 64 % N).toNat + k) % N) 0]⟩))) (σ++[.lst (acc.map .str)]):=by
  generalize hS:σ++[MO.lst (acc.map .str)]=S
  refine aC (bz (x:=.str "abcdefghijklmnopqrstuvwxyz0123456789") (σ₁:=S) rfl (ay (ay (ay (x:=.int c) (y:=.int 64) (σ₁:=S) (σ₂:=S) rfl rfl (d0 (by decide) (by decide))) (y:=.int k) (σ₂:=S) rfl add_int) (y:=.int N) (σ₂:=S) (bz (x:=.fl [.int 26,.int 36]) (σ₁:=S) rfl (bO (ek (x:=.int p) (y:=.int 0) (σ₁:=S) (σ₂:=S) rfl rfl gt_int) int_bool) (fL (show (2:Nat) <= ao by decide) hsel0 hsel)) (a9 (by (exact Int.ofNat_lt.mpr (by assumption))))) (abu (by decide +kernel) (Int.emod_nonneg _ (by (exact Int.ofNat_ne_zero.mpr (Nat.ne_of_gt (by assumption))))) ?_))
  rw [hi]
  show ce[((c / 64 % N).toNat + k) % N]?=_
  simp [List.getD,f1,show ((c / 64 % N).toNat + k) % N < 36 by grind]
 refine (aa s1).trans ?_
 refine (aa (bR (fA (m:=.append) (x:=.ref σ.length) (σ₁:=σ++[.lst (acc.map .str)]) rfl (j5 (.inl rfl)) (y:=.str (gX p q N (c / 64 % N).toNat k)) (σ₂:=σ++[.lst (acc.map .str)]) ?_ (sq (by rw [List.length_map]; (exact aE (by assumption) (by decide))))))).trans (by rw [az,List.map_append]; rfl)
 generalize σ++[MO.lst (acc.map .str)]=S
 have hp:Txt.mul "m" (p:Int)=⟨(List.replicate p 109).toArray⟩:=Str.ext' (Array.toList_inj.mp (by rw [agX]))
 have hq:Txt.mul "m" (((p + 1 + q:Nat):Int) - 1 - p)=⟨(List.replicate q 109).toArray⟩:=by
  rw [show ((p + 1 + q:Nat):Int) - 1 - p=(q:Int) by grind]
  exact Str.ext' (Array.toList_inj.mp (by rw [agX]))
 refine ay (ay (ay (x:=.str "m") (y:=.int p) (σ₁:=S) (σ₂:=S) rfl rfl (abB (by (exact Int.natCast_nonneg _)) (by grind))) (y:=.str ⟨#[ce.getD (((c / 64 % N).toNat + k) % N) 0]⟩) (σ₂:=S) rfl (add_str ?_)) (ay (x:=.str "m") (σ₁:=S) rfl (ay (ay (x:=.int ((p + 1 + q:Nat):Int)) (y:=.int 1) (σ₁:=S) (σ₂:=S) rfl rfl sub_int) (y:=.int p) (σ₂:=S) rfl sub_int) (abB (by grind) (by grind))) ?_
 ·rw [hp,aZ]
  show (List.replicate p 109).toArray.size + 1 <= _
  simp; (grind)
 ·rw [hp,hq,add_str]
  ·congr 1
   refine congrArg PV.str (Str.ext' ?_)
   simp [Str.cps_append,gX,jJ]
  ·rw [Str.length_append,aZ]
   show (List.replicate p 109).toArray.size + 1 + (List.replicate q 109).toArray.size <= _
   simp; (exact aE (by assumption) (by decide))
theorem ag1 {c:Int} {p q N:Nat} (hs:p + 1 + q <= 8) (hN:(p=0/\N=26)\/(0 < p/\N=36)):∀ (n k:Nat) (acc:List Str) (y z:Option PV),acc.length=k->k + n <= 24->∃ y' z',
  aV none (bw 2) (fun ρ σ=>ex (CC d) topN i7 ρ σ) ((List.range' k n).map fun (i:Nat)=>PV.int i) (R9 (some (.int c)) (some (.str "abcdefghijklmnopqrstuvwxyz0123456789")) y (some (.int ((p + 1 + q:Nat):Int))) (some (.int p)) (some (.ref σ.length)) z) (σ++[.lst (acc.map .str)]) =
   .next (R9 (some (.int c)) (some (.str "abcdefghijklmnopqrstuvwxyz0123456789")) y' (some (.int ((p + 1 + q:Nat):Int))) (some (.int p)) (some (.ref σ.length)) z') (σ++[.lst ((acc++(List.range' k n).map (gX p q N (c / 64 % N).toNat)).map .str)])
 | 0,k,acc,y,z,_,_=>⟨y,z,by simpa using bB⟩
 | n + 1,k,acc,y,z,h1,h2=>by
  obtain ⟨y',z',ih⟩:=ag1 hs hN n (k + 1) (acc++[gX p q N (c / 64 % N).toNat k]) (some (.int k)) (some (.str ⟨#[ce.getD (((c / 64 % N).toNat + k) % N) 0]⟩)) (by rw [List.length_append,h1]; rfl) (by grind)
  refine ⟨y',z',?_⟩
  rw [List.range'_succ,List.map_cons]
  refine (a5 (ρ₁:=R9 (some (.int c)) (some (.str "abcdefghijklmnopqrstuvwxyz0123456789")) (some (.int k)) (some (.int ((p + 1 + q:Nat):Int))) (some (.int p)) (some (.ref σ.length)) z) rfl (ajv hs hN acc (by grind))).trans (ih.trans ?_)
  simp [List.append_assoc]
theorem h14 (c:Int):∃ names:List Str,names.length=24/\names.Nodup/\(∀ n ∈ names,di n)/\(∀ n ∈ names,hH n) ∧
  ((∀ d,aJ PP topN (d + 1) gS [.int c] []=.ok (.fl (names.map .str)) [])\/(∀ d,aJ PP topN (d + 1) gS [.int c] []=.ok (.ref 0) [.lst (names.map .str)])):=by
 have t0:∀ d,tst (CC d) (.cmp (.bin .mod (.v 0) (.k (.int 9))) .eq (.k (.int 8))) (R9 (some (.int c)) none none none none none none) []=.ok (c % 9 == 8) []:=fun d =>
  aU (ay (x:=.int c) (y:=.int 9) (σ₁:=[]) (σ₂:=[]) rfl rfl (a9 (by decide))) (y:=.int 8) (σ₂:=[]) rfl gb
 have fin:∀ {d:Nat} {v:PV} {ρ:aq} {σ:ab},ex (CC d) topN jV.body (R9 (some (.int c)) none none none none none none) []=.ret v ρ σ->aJ PP topN (d + 1) gS [.int c] []=.ok v σ:=fun {d v ρ σ} h=>by
  rw [a6 (fn:=jV) rfl rfl]
  show aM (ex (CC d) topN jV.body (R9 (some (.int c)) none none none none none none) [])=_
  rw [h]; rfl
 by_cases h9:c % 9=8
 ·have n0:=Int.emod_nonneg (c / 9) (show (12:Int) ≠ 0 by decide)
  have n1:=Int.emod_lt_of_pos (c / 9) (show (0:Int) < 12 by decide)
  have g:=aa7 (c / 9 % 12).toNat (mL (n:=12) n0 n1)
  rw [Bool.and_eq_true] at g
  refine ⟨oJ (c / 9 % 12).toNat,by simp [oJ],xR g.1,fun n hn=>t9 (List.all_eq_true.mp g.2 n hn),fun n hn=>List.all_eq_true.mp (zS (c / 9 % 12).toNat (mL (n:=12) n0 n1)) n hn,.inl fun d=>fin (aj (a:=jE) ((aI (σ':=[]) ((t0 d).trans (by rw [h9]; rfl))).trans ((aa (ρ':=R9 (some (.int c)) (some (.fl (iJ.map .str))) none none none none none) (σ':=[]) rfl).trans (aj (av aa8)))))⟩
 ·have a0:=Int.emod_nonneg c (show (8:Int) ≠ 0 by decide)
  have a1:=Int.emod_lt_of_pos c (show (0:Int) < 8 by decide)
  have b2:(0:Int) < 1 + c % 8:=Int.lt_of_lt_of_le (by decide) (Int.le_add_of_nonneg_right a0)
  have b0:=Int.emod_nonneg (c / 8) (Int.ne_of_gt b2)
  have b1:=Int.emod_lt_of_pos (c / 8) b2
  obtain ⟨p,hp⟩:=Int.eq_ofNat_of_zero_le b0
  obtain ⟨e,he⟩:=Int.eq_ofNat_of_zero_le a0
  rw [hp,he] at b1
  rw [he] at a1
  have hpe:p < 1 + e:=Int.ofNat_lt.mp b1
  rw [Nat.add_comm] at hpe
  have hq:1 + c % 8=((p + 1 + (e - p):Nat):Int):=by
   rw [he,Nat.add_right_comm,Nat.add_sub_cancel' (Nat.le_of_lt_succ hpe),Nat.add_comm]; rfl
  generalize e - p=q at hq
  have hs:p + 1 + q <= 8:=by rw [he] at hq; exact (Int.ofNat.inj hq:1 + e=p + 1 + q) ▸ Nat.add_le_add_left (Nat.le_of_lt_succ (Int.ofNat_lt.mp a1)) 1
  obtain ⟨N,hN⟩:∃ N:Nat,(p=0/\N=26)\/(0 < p/\N=36):=by
   rcases Nat.eq_zero_or_pos p with q | q
   ·exact ⟨26,.inl ⟨q,rfl⟩⟩
   ·exact ⟨36,.inr ⟨q,rfl⟩⟩
  have good:=aa6 (b:=(c / 64 % N).toNat) hs hN
  refine ⟨j3 p q N (c / 64 % N).toNat,by simp [j3],good.1,good.2,zR,.inr fun d=>?_⟩
  obtain ⟨y',z',hl⟩:=ag1 (d:=d) (σ:=[]) (c:=c) hs hN 24 0 [] none none rfl (by decide)
  refine fin (ρ:=R9 (some (.int c)) (some (.str "abcdefghijklmnopqrstuvwxyz0123456789")) y' (some (.int ((p + 1 + q:Nat):Int))) (some (.int p)) (some (.ref 0)) z') ?_
  have e0:ex (CC d) topN jE (R9 (some (.int c)) none none none none none none) []=.next (R9 (some (.int c)) none none none none none none) []:=(ah (σ':=[]) ((t0 d).trans (by rw [show (c % 9 == 8)=false from beq_eq_false_iff_ne.mpr h9])))
  have e1:ex (CC d) topN o9 (R9 (some (.int c)) none none none none none none) []=.next (R9 (some (.int c)) none none (some (.int ((p + 1 + q:Nat):Int))) none none none) []:=by
   refine aC ((ay (x:=.int 1) (σ₁:=[]) rfl (ay (x:=.int c) (y:=.int 8) (σ₁:=[]) (σ₂:=[]) rfl rfl (a9 (by decide))) add_int).trans ?_)
   rw [hq]
  have e2:ex (CC d) topN o8 (R9 (some (.int c)) none none (some (.int ((p + 1 + q:Nat):Int))) none none none) []=.next (R9 (some (.int c)) none none (some (.int ((p + 1 + q:Nat):Int))) (some (.int p)) none none) []:=by
   refine aC ((ay (ay (x:=.int c) (y:=.int 8) (σ₁:=[]) (σ₂:=[]) rfl rfl (d0 (by decide) (by decide))) (y:=.int ((p + 1 + q:Nat):Int)) (σ₂:=[]) rfl (a9 (by grind))).trans ?_)
   rw [<- hq,hp]
  have e5:ex (CC d) topN o5 (R9 (some (.int c)) (some (.str "abcdefghijklmnopqrstuvwxyz0123456789")) none (some (.int ((p + 1 + q:Nat):Int))) (some (.int p)) (some (.ref 0)) none) [.lst []] =
    .next (R9 (some (.int c)) (some (.str "abcdefghijklmnopqrstuvwxyz0123456789")) y' (some (.int ((p + 1 + q:Nat):Int))) (some (.int p)) (some (.ref 0)) z') [.lst ((j3 p q N (c / 64 % N).toNat).map .str)]:=by
   refine bL (ys:=(List.range' 0 24).map fun (i:Nat)=>PV.int i) (σ₁:=[.lst []]) ((jz (n:=24) (by decide) rfl).trans ?_) (hl.trans ?_)
   ·have:aF 0 1 24=(List.range' 0 24).map fun (i:Nat)=>PV.int i:=by
     unfold aF; rw [List.range_eq_range']; refine List.map_congr_left fun i zz=>?_; congr 1; (grind)
    rw [this]
   ·simp [j3,List.range_eq_range']
  exact (aa e0).trans ((aa e1).trans ((aa e2).trans ((aa (a:=o7) (ρ':=R9 (some (.int c)) (some (.str "abcdefghijklmnopqrstuvwxyz0123456789")) none (some (.int ((p + 1 + q:Nat):Int))) (some (.int p)) none none) (σ':=[]) rfl).trans ((aa (a:=o6) (ρ':=R9 (some (.int c)) (some (.str "abcdefghijklmnopqrstuvwxyz0123456789")) none (some (.int ((p + 1 + q:Nat):Int))) (some (.int p)) (some (.ref 0)) none) (σ':=[.lst []]) rfl).trans ((aa e5).trans (aj (a:=oZ) rfl))))))
end
end Mine
namespace Mine
open PySem
noncomputable abbrev gf (s nm many room pl k fr sp pick rule more nd gv wt md:Option PV):aq:=
 [s,some (.int 0),nm,many,room,pl,k,fr,sp,pick,rule,more,nd,gv,wt,md,none,none,none,none,none,none,none,none,none,none]
structure Pv where
 pk:Option PV
 rl:Option PV
 mr:Option PV
 nd:Option PV
 gv:Option PV
 wt:Option PV
 md:Option PV
noncomputable def RP (σn:ab) (l:List Int) (nmV:PV) (many room:Option PV) (spots:List Str) (k:Option PV) (v:Pv):aq:=gf (some (.fl (l.map .int))) (some nmV) many room (some (.ref σn.length)) k (some (.ref (σn.length + 1))) (some (.fl (spots.map .str))) v.pk v.rl v.mr v.nd v.gv v.wt v.md
noncomputable abbrev aY (σn:ab) (p:List PV) (f:List Str):ab:=σn++[.lst p,.lst (f.map .str)]
section
variable {d:Nat} {σ σn:ab} {C:bn} {ρ:aq}
theorem yj:∀ (f:List Str) (i:Nat),(f.map PV.str).eraseIdx i=(f.eraseIdx i).map .str
 | [],_=>rfl
 | _::_,0=>rfl
 | x::f,i + 1=>by
  show PV.str x::(f.map PV.str).eraseIdx i=PV.str x::(f.eraseIdx i).map .str
  rw [yj f i]
theorem wn:∀ (f:List Str) (i:Nat) (h:i < f.length),(f[i]::f.eraseIdx i).Perm f
 | [],_,h=>by simp at h
 | _::_,0,_=>.refl _
 | x::f,i + 1,h=>by
  have hi:i < f.length:=by simpa using h
  have:=wn f i hi
  show (f[i]'hi::x::f.eraseIdx i).Perm (x::f)
  exact (List.Perm.swap x _ _).trans (.cons x this)
theorem sW {p:List PV} {f:List Str}:(aY σn p f)[σn.length + 1]?=some (.lst (f.map .str)):=by simp [aY,List.getElem?_append_right]
theorem sV {p:List PV} {f:List Str}:(aY σn p f)[σn.length]?=some (.lst p):=by simp [aY,List.getElem?_append_right]
theorem z5 {p:List PV} {f:List Str} (h:f.length <= 100):cI .len (.ref (σn.length + 1)) (aY σn p f)=.ok (.int f.length) (aY σn p f):=by
 have hs:aW (aY σn p f) (.ref (σn.length + 1))=some (f.map .str):=by unfold aW; dsimp only; rw [sW]
 rw [abG hs (fun zz q=>by cases q) (dj h),List.length_map]
theorem afQ {p:List PV} {f:List Str} {i:Int} {x:Str} (h:f.length <= 100) (h0:0 <= i) (hx:f[i.toNat]?=some x) :
  mU .pop (.ref (σn.length + 1)) [.int i] (aY σn p f)=.ok (.str x) (aY σn p (f.eraseIdx i.toNat)):=by
 show tW (.ref (σn.length + 1)) (.int i) (aY σn p f)=_
 unfold tW; dsimp only; rw [sW]; dsimp only
 rw [if_pos ⟨h0,dj h⟩,List.getElem?_map,hx]
 dsimp only [Option.map_some]
 congr 1
 have e:aY σn p f=(σn++[.lst p])++[.lst (f.map .str)]:=by simp [aY]
 rw [e,List.set_append_right _ _ (by simp)]
 simp [aY,yj]
theorem abi {f:PV->ab->ac (Option PV)} {x v:PV} {xs ys:List PV} {σ₁ σ₂:ab} (h1:f x σ=.ok (some v) σ₁) (h2:bM none f xs σ₁=.ok ys σ₂):bM none f (x::xs) σ=.ok (v::ys) σ₂:=by
 refine (if_pos trivial).trans ?_
 rw [h1]; show (bM none f xs σ₁).bind _=_; rw [h2]; rfl
theorem aks {p:List PV} {more:Int}:∀ (js:List Nat) (f:List Str),js.length <= f.length->f.length <= 100->∃ made f',made.length=js.length/\(made++f').Perm f ∧
  bM none (fun x σ=>(tst (CC (d + 1)) (.k (.bool true)) (([none,none,none,none,some (.ref (σn.length + 1)),some (.int more)]:aq).set 1 (some x)) σ).bind fun b σ=>if b then (ev (CC (d + 1)) (.me .pop (.v 4) (.cons (.bin .mod (.call b4 (.cons (.bin .add (.bin .add (.v 5) (.bin .mul (.k (.int 31)) (.v 1))) (.k (.int 5))) .nil)) (.b1 .len (.v 4))) .nil)) (([none,none,none,none,some (.ref (σn.length + 1)),some (.int more)]:aq).set 1 (some x)) σ).bind fun v σ=>.ok (some v) σ else .ok none σ) (js.map fun (j:Nat)=>PV.int j) (aY σn p f) =
   .ok (made.map .str) (aY σn p f'):=by
 intro js
 induction js with
 | nil=>intro f _ _; exact ⟨[],f,rfl,.refl _,if_pos trivial⟩
 | cons j js ih =>
  intro f h1 h2
  have hf:0 < f.length:=by rw [List.length_cons] at h1; (grind)
  have n0:=Int.emod_nonneg (dq (more + 31 * j + 5)) (show ((f.length:Nat):Int) ≠ 0 by (exact Int.ofNat_ne_zero.mpr (Nat.ne_of_gt (by assumption))))
  have n1:=Int.emod_lt_of_pos (dq (more + 31 * j + 5)) (show (0:Int) < ((f.length:Nat):Int) by (exact Int.ofNat_lt.mpr (by assumption)))
  have hi:(dq (more + 31 * j + 5) % ((f.length:Nat):Int)).toNat < f.length:=by grind
  generalize hI:(dq (more + 31 * j + 5) % ((f.length:Nat):Int)).toNat=i at hi
  have hx:f[i]?=some f[i]:=by simp [hi]
  obtain ⟨made,f',m1,m2,m3⟩:=ih (f.eraseIdx i) (by rw [List.length_eraseIdx,if_pos hi]; rw [List.length_cons] at h1; (grind)) (aE (List.length_eraseIdx_le f i) h2)
  refine ⟨f[i]::made,f',by rw [List.length_cons,m1,List.length_cons],?_,?_⟩
  ·rw [List.cons_append]
   exact (List.Perm.cons _ m2).trans (wn f i hi)
  ·have e:ev (CC (d + 1)) (.me .pop (.v 4) (.cons (.bin .mod (.call b4 (.cons (.bin .add (.bin .add (.v 5) (.bin .mul (.k (.int 31)) (.v 1))) (.k (.int 5))) .nil)) (.b1 .len (.v 4))) .nil)) (([none,none,none,none,some (.ref (σn.length + 1)),some (.int more)]:aq).set 1 (some (.int j))) (aY σn p f)=.ok (.str f[i]) (aY σn p (f.eraseIdx i)):=by
    refine fA (m:=.pop) (x:=.ref (σn.length + 1)) (σ₁:=aY σn p f) rfl ?_ (y:=.int (dq (more + 31 * j + 5) % ((f.length:Nat):Int))) (σ₂:=aY σn p f) ?_ ?_
    ·show eh (.ref (σn.length + 1)) (aY σn p f)=true
     unfold eh; dsimp only; rw [sW]
    ·exact ay (a7 (ay (ay (x:=.int more) (σ₁:=aY σn p f) rfl (ay (x:=.int 31) (y:=.int j) (σ₁:=aY σn p f) (σ₂:=aY σn p f) rfl rfl (mul_int (.inl (by decide)))) add_int) (y:=.int 5) (σ₂:=aY σn p f) rfl add_int) tA) (bO (x:=.ref (σn.length + 1)) (σ₁:=aY σn p f) rfl (z5 h2)) (a9 (by (exact Int.ofNat_lt.mpr (by assumption))))
    ·rw [afQ h2 n0 (by rw [hI]; exact hx),hI]
   refine abi (σ₁:=aY σn p (f.eraseIdx i)) ?_ m3
   show ((ev _ _ _ _).bind fun v σ=>ac.ok (some v) σ)=_
   rw [e]; rfl
theorem akd {spots:List Str} {more:Int} {nd:Nat} (hs:1 <= spots.length) (hl:spots.length <= 100) (hn:nd <= 4) {s nm many room pl k fr pick rule gv wt md:Option PV} :
  ∃ wanted:List Str,wanted.length=nd/\(∀ w ∈ wanted,w ∈ spots)/\ev (CC (d + 1)) qB (gf s nm many room pl k fr (some (.fl (spots.map .str))) pick rule (some (.int more)) (some (.int nd)) gv wt md) σ=.ok (.fl (wanted.map .str)) σ:=by
 have hlim:=dj hl
 refine ⟨(List.range nd).map fun (j:Nat)=>spots.getD (dq (more + 7 * (j:Int)) % ((spots.length:Nat):Int)).toNat "",by simp,fun w hw=>?_,?_⟩
 ·obtain ⟨j,hj,rfl⟩:=List.mem_map.mp hw
  have n0:=Int.emod_nonneg (dq (more + 7 * j)) (show ((spots.length:Nat):Int) ≠ 0 by (exact Int.ofNat_ne_zero.mpr (Nat.ne_of_gt (by assumption))))
  have n1:=Int.emod_lt_of_pos (dq (more + 7 * j)) (show (0:Int) < ((spots.length:Nat):Int) by (exact Int.ofNat_lt.mpr (by assumption)))
  have hi:(dq (more + 7 * j) % ((spots.length:Nat):Int)).toNat < spots.length:=by grind
  have:spots.getD (dq (more + 7 * j) % ((spots.length:Nat):Int)).toNat "" = spots[(dq (more + 7 * j) % ((spots.length:Nat):Int)).toNat]:=by simp [List.getD,hi]
  rw [this]; exact List.getElem_mem hi
 ·refine (eU (fun x=>match x with | .int i=>.str (spots.getD (dq (more + 7 * i) % ((spots.length:Nat):Int)).toNat "") | _=>.none) (jz (n:=nd) (by (exact aE (by assumption) (by decide))) rfl) (by rw [show (aF 0 1 nd).length=nd by simp [aF]]; exact aE hn (by decide)) fun x hx=>?_).trans (by rw [rm (f:=fun (j:Nat)=>spots.getD (dq (more + 7 * (j:Int)) % ((spots.length:Nat):Int)).toNat "") fun k hk=>rfl])
  obtain ⟨j,hj,rfl⟩:=rk hx
  have n0:=Int.emod_nonneg (dq (more + 7 * j)) (show ((spots.length:Nat):Int) ≠ 0 by (exact Int.ofNat_ne_zero.mpr (Nat.ne_of_gt (by assumption))))
  have n1:=Int.emod_lt_of_pos (dq (more + 7 * j)) (show (0:Int) < ((spots.length:Nat):Int) by (exact Int.ofNat_lt.mpr (by assumption)))
  have hi:(dq (more + 7 * j) % ((spots.length:Nat):Int)).toNat < spots.length:=by grind
  have hlen:cI .len (.fl (spots.map .str)) σ=.ok (.int spots.length) σ:=by rw [z6 hlim,List.length_map]
  refine bz (x:=.fl (spots.map .str)) (σ₁:=σ) rfl (ay (a7 (ay (x:=.int more) (σ₁:=σ) rfl (ay (x:=.int 7) (y:=.int j) (σ₁:=σ) (σ₂:=σ) rfl rfl (mul_int (.inl (by decide)))) add_int) tA) (bO (x:=.fl (spots.map .str)) (σ₁:=σ) rfl hlen) (a9 (by (exact Int.ofNat_lt.mpr (by assumption))))) (fL hlim n0 ?_)
  rw [List.getElem?_map]
  simp [List.getD,hi]
end
end Mine
namespace Mine
open PySem
noncomputable def bD.head:bD->Str
 | .word w=>w
 | .fixed _ => "fixed"
noncomputable def x7 (more:Int):Nat:=[1,1,1,2,3].getD (more / 4 % 5).toNat 1
theorem aeM (more:Int):([PV.int 1,.int 1,.int 1,.int 2,.int 3])[(more / 4 % 5).toNat]?=some (.int (x7 more))/\1 <= x7 more/\x7 more <= 3:=by
 have n0:=Int.emod_nonneg (more / 4) (show (5:Int) ≠ 0 by decide)
 have n1:=Int.emod_lt_of_pos (more / 4) (show (0:Int) < 5 by decide)
 unfold x7
 generalize more / 4 % 5=x at n0 n1
 refine oM (n:=5) (P:=fun x=>([PV.int 1,.int 1,.int 1,.int 2,.int 3])[x.toNat]?=some (.int ([1,1,1,2,3].getD x.toNat 1:Nat))/\1 <= [1,1,1,2,3].getD x.toNat 1/\[1,1,1,2,3].getD x.toNat 1 <= 3) ?_ n0 n1
 refine cb (cb (cb (cb (cb xG ?_) ?_) ?_) ?_) ?_ <;> exact ⟨rfl,by decide,by decide⟩
theorem ah3 {r:bD} {σ:ab} (h:RK r):eP r.pv (.int 0) σ=.ok (.str r.head) σ:=by cases h <;> rfl
structure ajq (r:bD) (more:Int) (nd gv:Nat):Prop where
 n1:1 <= nd
 n4:nd <= 4
 g1:1 <= gv
 g3:gv <= 3
 ok:∀ g:Nat,((r.head == ("way" : Str))=true->g=2)->bX r nd g
 way:(r.head == ("way" : Str))=true->gv=2
 nd_eq:(kh r.head ((["way", "choose"]:List Str).zip [.int 2,.int 3])).getD (.int (if (r.head == ("later" : Str))=true then 1 else 1 + more % 4))=.int nd
 gv_eq:(kh r.head ((["way"]:List Str).zip [.int 2])).getD (.int (x7 more))=.int gv
theorem ahR {r:bD} (h:RK r) (more:Int):∃ nd gv,ajq r more nd gv:=by
 have m0:=Int.emod_nonneg more (show (4:Int) ≠ 0 by decide)
 have m1:=Int.emod_lt_of_pos more (show (0:Int) < 4 by decide)
 obtain ⟨_,g1,g3⟩:=aeM more
 have hn:(1 + more % 4)=(((1 + more % 4).toNat:Nat):Int):=by grind
 have oth:∀ (r:bD),(r.head == ("way" : Str))=false->(r.head == ("later" : Str))=false->(∀ n g,bX r n g)->kh r.head ((["way", "choose"]:List Str).zip [PV.int 2,.int 3])=none->kh r.head ((["way"]:List Str).zip [PV.int 2])=none->∃ nd gv,ajq r more nd gv:=by
  intro r a b c e f
  refine ⟨(1 + more % 4).toNat,x7 more,by grind,by grind,g1,g3,fun g zz=>c _ _,fun q=>(by rw [a] at q; cases q),?_,?_⟩
  ·rw [e,b]; show PV.int (1 + more % 4)=_; rw [<- hn]
  ·rw [f]; rfl
 cases h with
 | sum=>exact oth _ (by decide +kernel) (by decide +kernel) (fun n g=>.sum n g) rfl rfl
 | times=>exact oth _ (by decide +kernel) (by decide +kernel) (fun n g=>.times n g) rfl rfl
 | least=>exact oth _ (by decide +kernel) (by decide +kernel) (fun n g=>.least n g) rfl rfl
 | most=>exact oth _ (by decide +kernel) (by decide +kernel) (fun n g=>.most n g) rfl rfl
 | fixed v v0 v1=>exact oth _ (show (("fixed" : Str) == "way")=false by decide +kernel) (show (("fixed" : Str) == "later")=false by decide +kernel) (fun n g=>.fixed v n g v0 v1) rfl rfl
 | later =>
  refine ⟨1,x7 more,by decide,by decide,g1,g3,fun g zz=>.later g,fun q=>(by rw [show (bD.head (.word "later") == ("way" : Str))=false by decide +kernel] at q; cases q),?_,rfl⟩
  rw [show (bD.head (.word "later") == ("later" : Str))=true by decide +kernel]; rfl
 | way=>exact ⟨2,2,by decide,by decide,by decide,by decide,fun g hg=>by rw [hg (by decide +kernel)]; exact .way,fun zz=>rfl,rfl,rfl⟩
 | choose=>exact ⟨3,x7 more,by decide,by decide,g1,g3,fun g zz=>.choose g,fun q=>(by rw [show (bD.head (.word "choose") == ("way" : Str))=false by decide +kernel] at q; cases q),rfl,rfl⟩
section
variable {d:Nat} {σn:ab}
theorem aiq {l:List Int} (hl:l.length <= 63) {names spots free:List Str} {nmV:PV} {many room:Option PV} {steps:List ae} (hk:steps.length < 20)
  (hnm:∀ τ (i:Nat),i < 24->eP nmV (.int i) (σn++τ)=.ok (.str (names.getD i "")) (σn++τ)) (hsp:1 <= spots.length) (hsl:spots.length <= 100) (hfl:free.length <= 100)
  (hnames:∀ i,i < 24->di (names.getD i "")) (hspots:∀ n ∈ spots,di n) (hfree:∀ n ∈ free,di n) (hnd:free.Nodup) (v:Pv) :
  ∃ v':Pv,
   (ex (CC (d + 2)) topN gA (RP σn l nmV many room spots (some (.int steps.length)) v) (aY σn (steps.map ae.pv) free) =
    .brk (RP σn l nmV many room spots (some (.int steps.length)) v') (aY σn (steps.map ae.pv) free)) ∨
   ∃ s free',dg s/\s.name=names.getD (23 - steps.length) "" /\ (s.gives++free').Perm free ∧
    ex (CC (d + 2)) topN gA (RP σn l nmV many room spots (some (.int steps.length)) v) (aY σn (steps.map ae.pv) free) =
    .next (RP σn l nmV many room spots (some (.int steps.length)) v') (aY σn ((steps++[s]).map ae.pv) free'):=by
 obtain ⟨pk,rl,mr,nd,gv,wt,md⟩:=v
 generalize hkk:steps.length=k at hk
 have kk:(((3 + k % 8:Nat)):Int)=0 + 3 + (k:Int) % 8:=by grind
 generalize hpick:dq (l.getD (3 + k % 8) 0 + 977 * (k:Int))=pick
 have hp0:0 <= pick:=by rw [<- hpick]; exact acI _
 have w0:=Int.emod_nonneg (pick / 5) (show (12:Int) ≠ 0 by decide)
 have w1:=Int.emod_lt_of_pos (pick / 5) (show (0:Int) < 12 by decide)
 obtain ⟨r,hrk,hrule⟩:=h16 (p:=dq pick) w0 w1
 generalize hmore:dq (pick + 1)=more
 obtain ⟨n,g,K⟩:=ahR hrk more
 have m0:=Int.emod_nonneg more (show (4:Int) ≠ 0 by decide)
 have v0:=Int.emod_nonneg (more / 4) (show (5:Int) ≠ 0 by decide)
 have n1:=K.n1
 have n4:=K.n4
 have g1:=K.g1
 have g3:=K.g3
 generalize hS:aY σn (steps.map ae.pv) free=S
 have e0:ex (CC (d + 2)) topN i5 (RP σn l nmV many room spots (some (.int k)) ⟨pk,rl,mr,nd,gv,wt,md⟩) S =
   .next (RP σn l nmV many room spots (some (.int k)) ⟨(some (.int pick)),rl,mr,nd,gv,wt,md⟩) S:=by
  refine aC ((a7 (ay (cL (x:=.fl (l.map .int)) (y:=.int ((3 + k % 8:Nat):Int)) (σ₁:=S) (σ₂:=S) rfl ((ay (ay (x:=.int 0) (y:=.int 3) (σ₁:=S) (σ₂:=S) rfl rfl add_int) (ay (x:=.int k) (y:=.int 8) (σ₁:=S) (σ₂:=S) rfl rfl (a9 (by decide))) add_int).trans (by rw [kk])) (h12 hl)) (ay (x:=.int 977) (y:=.int k) (σ₁:=S) (σ₂:=S) rfl rfl (mul_int (.inl (by decide)))) add_int) tA).trans ?_)
  rw [hpick]
 have e1:ex (CC (d + 2)) topN i4 (RP σn l nmV many room spots (some (.int k)) ⟨(some (.int pick)),rl,mr,nd,gv,wt,md⟩) S =
   .next (RP σn l nmV many room spots (some (.int k)) ⟨(some (.int pick)),(some r.pv),mr,nd,gv,wt,md⟩) S:=
  aC (cL (a7 (x:=.int pick) (σ₁:=S) rfl tA) (fdm (by decide) (by decide) (by decide) rfl) hrule)
 have e2:ex (CC (d + 2)) topN i3 (RP σn l nmV many room spots (some (.int k)) ⟨(some (.int pick)),(some r.pv),mr,nd,gv,wt,md⟩) S =
   .next (RP σn l nmV many room spots (some (.int k)) ⟨(some (.int pick)),(some r.pv),(some (.int more)),nd,gv,wt,md⟩) S:=
  aC ((a7 (ay (x:=.int pick) (y:=.int 1) (σ₁:=S) (σ₂:=S) rfl rfl add_int) tA).trans (by rw [hmore]))
 have hd:∀ {nd gv wt md:Option PV},ev (CC (d + 2)) (.sub (.v 10) (.k (.int 0))) (RP σn l nmV many room spots (some (.int k)) ⟨(some (.int pick)),(some r.pv),(some (.int more)),nd,gv,wt,md⟩) S=.ok (.str r.head) S:=fun {nd gv wt md} =>
  bz (x:=r.pv) (y:=.int 0) (σ₁:=S) (σ₂:=S) rfl rfl (ah3 hrk)
 have e3:ex (CC (d + 2)) topN i0 (RP σn l nmV many room spots (some (.int k)) ⟨(some (.int pick)),(some r.pv),(some (.int more)),nd,gv,wt,md⟩) S =
   .next (RP σn l nmV many room spots (some (.int k)) ⟨(some (.int pick)),(some r.pv),(some (.int more)),(some (.int (if (r.head == ("later" : Str))=true then 1 else 1 + more % 4))),gv,wt,md⟩) S:=by
  refine aC (bz (x:=.fl [.int (1 + more % 4),.int 1]) (σ₁:=S) (ags (vs:=[.int (1 + more % 4),.int 1]) (aN (σ₁:=S) (ay (x:=.int 1) (σ₁:=S) rfl (ay (x:=.int more) (y:=.int 4) (σ₁:=S) (σ₂:=S) rfl rfl (a9 (by decide))) add_int) rfl) (show (2:Nat) <= ao by decide)) (bO (ek hd (y:=.str "later") (σ₂:=S) rfl se) int_bool) (fL (show (2:Nat) <= ao by decide) (by split <;> decide) ?_))
  cases (r.head == ("later" : Str)) <;> rfl
 have e4:ex (CC (d + 2)) topN iZ (RP σn l nmV many room spots (some (.int k)) ⟨(some (.int pick)),(some r.pv),(some (.int more)),(some (.int (if (r.head == ("later" : Str))=true then 1 else 1 + more % 4))),gv,wt,md⟩) S =
   .next (RP σn l nmV many room spots (some (.int k)) ⟨(some (.int pick)),(some r.pv),(some (.int more)),(some (.int n)),gv,wt,md⟩) S:=
  aC ((abY hd (y:=.int (if (r.head == ("later" : Str))=true then 1 else 1 + more % 4)) (σ₂:=S) rfl).trans (by rw [K.nd_eq]))
 have e5:ex (CC (d + 2)) topN iY (RP σn l nmV many room spots (some (.int k)) ⟨(some (.int pick)),(some r.pv),(some (.int more)),(some (.int n)),gv,wt,md⟩) S =
   .next (RP σn l nmV many room spots (some (.int k)) ⟨(some (.int pick)),(some r.pv),(some (.int more)),(some (.int n)),(some (.int g)),wt,md⟩) S:=
  aC ((abY hd (bz (x:=.fl [.int 1,.int 1,.int 1,.int 2,.int 3]) (σ₁:=S) rfl (fdm (by decide) (by decide) (by decide) rfl) (fL (show (5:Nat) <= ao by decide) v0 (aeM more).1))).trans (by rw [K.gv_eq]))
 have hmin:min (g:Int) (free.length:Int)=((min g free.length:Nat):Int):=by
  rcases Nat.le_total g free.length with h | h
  ·rw [Int.min_eq_left (Int.ofNat_le.mpr h),Nat.min_eq_left h]
  ·rw [Int.min_eq_right (Int.ofNat_le.mpr h),Nat.min_eq_right h]
 have e6:ex (CC (d + 2)) topN iX (RP σn l nmV many room spots (some (.int k)) ⟨(some (.int pick)),(some r.pv),(some (.int more)),(some (.int n)),(some (.int g)),wt,md⟩) S =
   .next (RP σn l nmV many room spots (some (.int k)) ⟨(some (.int pick)),(some r.pv),(some (.int more)),(some (.int n)),(some (.int ((min g free.length:Nat):Int))),wt,md⟩) S:=by
  refine aC (aeX (x:=.int g) (σ₁:=S) rfl (bO (x:=.ref (σn.length + 1)) (σ₁:=S) rfl (by rw [<- hS]; exact z5 hfl)) ?_)
  show ac.ok (PV.int (min (g:Int) (free.length:Int))) _=_
  rw [hmin,hS]
 generalize hgg:min g free.length=gg at e6
 have hw2:∀ {nd wt md:Option PV},tst (CC (d + 2)) (.and (.cons (.cmp (.sub (.v 10) (.k (.int 0))) .eq (.k (.str "way"))) (.cons (.cmp (.v 13) .lt (.k (.int 2))) .nil))) (RP σn l nmV many room spots (some (.int k)) ⟨(some (.int pick)),(some r.pv),(some (.int more)),nd,(some (.int gg)),wt,md⟩) S=.ok ((r.head == ("way" : Str)) && decide ((gg:Int) < 2)) S:=fun {nd wt md}=>by
  refine eN ?_
  rw [dn,aU hd (y:=.str "way") (σ₂:=S) rfl se,aB]
  cases r.head == ("way" : Str)
  ·rfl
  ·rw [if_pos rfl,dn,aU (x:=.int gg) (y:=.int 2) (σ₁:=S) (σ₂:=S) rfl rfl lt_int,aB]
   cases decide ((gg:Int) < 2) <;> rfl
 have cond:∀ {nd wt md:Option PV},tst (CC (d + 2)) (.or (.cons (.cmp (.v 13) .eq (.k (.int 0))) (.cons (.and (.cons (.cmp (.sub (.v 10) (.k (.int 0))) .eq (.k (.str "way"))) (.cons (.cmp (.v 13) .lt (.k (.int 2))) .nil))) .nil))) (RP σn l nmV many room spots (some (.int k)) ⟨(some (.int pick)),(some r.pv),(some (.int more)),nd,(some (.int gg)),wt,md⟩) S=.ok (((gg:Int) == 0) || ((r.head == ("way" : Str)) && decide ((gg:Int) < 2))) S:=fun {nd wt md}=>by
  refine iH ?_
  rw [dT,aU (x:=.int gg) (y:=.int 0) (σ₁:=S) (σ₂:=S) rfl rfl gb,aB]
  cases ((gg:Int) == 0)
  ·rw [ifF,dT,hw2,aB]
   cases ((r.head == ("way" : Str)) && decide ((gg:Int) < 2)) <;> rfl
  ·rfl
 have front:∀ rest,ex (CC (d + 2)) topN (.cons i5 (.cons i4 (.cons i3 (.cons i0 (.cons iZ (.cons iY (.cons iX rest)))))))
   (RP σn l nmV many room spots (some (.int k)) ⟨pk,rl,mr,nd,gv,wt,md⟩) S=ex (CC (d + 2)) topN rest (RP σn l nmV many room spots (some (.int k)) ⟨(some (.int pick)),(some r.pv),(some (.int more)),(some (.int n)),(some (.int gg)),wt,md⟩) S:=fun rest=>by
  rw [aa e0,aa e1,aa e2,aa e3,aa e4,aa e5,aa e6]
 by_cases hb:(((gg:Int) == 0) || ((r.head == ("way" : Str)) && decide ((gg:Int) < 2)))=true
 ·refine ⟨⟨some (.int pick),some r.pv,some (.int more),some (.int n),some (.int gg),wt,md⟩,.inl ((front _).trans (aeS (a:=iW) ((aI (σ':=S) (cond.trans (by rw [hb]))).trans (aeS rfl))))⟩
 ·have hb':(((gg:Int) == 0) || ((r.head == ("way" : Str)) && decide ((gg:Int) < 2)))=false:=by simpa using hb
  have hb1:=(Bool.or_eq_false_iff.mp hb').1
  have hb2:=(Bool.or_eq_false_iff.mp hb').2
  have gpos:1 <= gg:=by
   have:(gg:Int) ≠ 0:=beq_eq_false_iff_ne.mp hb1
   (grind)
  have gway:(r.head == ("way" : Str))=true->gg=2:=fun q=>by
   rw [q,Bool.true_and] at hb2
   have h1:=of_decide_eq_false hb2
   have h2:=K.way q
   (grind)
  obtain ⟨wanted,wl,win,hwant⟩:=akd (d:=d + 1) (σ:=S) (more:=more) hsp hsl n4 (s:=some (.fl (l.map .int))) (nm:=some nmV) (many:=many) (room:=room) (pl:=some (.ref σn.length)) (k:=some (.int k)) (fr:=some (.ref (σn.length + 1))) (pick:=some (.int pick)) (rule:=some r.pv) (gv:=some (.int gg)) (wt:=wt) (md:=md)
  obtain ⟨made,free',dl,dp,hdraw⟩:=aks (d:=d + 1) (σn:=σn) (p:=steps.map ae.pv) (more:=more) (List.range' 0 gg) free (by rw [List.length_range']; (grind)) hfl
  rw [List.length_range'] at dl
  rw [hS] at hdraw
  have e7:ex (CC (d + 2)) topN iW (RP σn l nmV many room spots (some (.int k)) ⟨(some (.int pick)),(some r.pv),(some (.int more)),(some (.int n)),(some (.int gg)),wt,md⟩) S=.next (RP σn l nmV many room spots (some (.int k)) ⟨(some (.int pick)),(some r.pv),(some (.int more)),(some (.int n)),(some (.int gg)),wt,md⟩) S:=
   (ah (σ':=S) (cond.trans (by rw [hb'])))
  have e8:ex (CC (d + 2)) topN nf (RP σn l nmV many room spots (some (.int k)) ⟨(some (.int pick)),(some r.pv),(some (.int more)),(some (.int n)),(some (.int gg)),wt,md⟩) S=.next (RP σn l nmV many room spots (some (.int k)) ⟨(some (.int pick)),(some r.pv),(some (.int more)),(some (.int n)),(some (.int gg)),(some (.fl (wanted.map .str))),md⟩) S:=aC hwant
  have e9:ex (CC (d + 2)) topN nc (RP σn l nmV many room spots (some (.int k)) ⟨(some (.int pick)),(some r.pv),(some (.int more)),(some (.int n)),(some (.int gg)),(some (.fl (wanted.map .str))),md⟩) S=.next (RP σn l nmV many room spots (some (.int k)) ⟨(some (.int pick)),(some r.pv),(some (.int more)),(some (.int n)),(some (.int gg)),(some (.fl (wanted.map .str))),(some (.fl (made.map .str)))⟩) (aY σn (steps.map ae.pv) free'):=by
   refine aC ?_
   show ev (CC (d + 2)) (.comp true 1 _ _ _ _) _ S=_
   rw [iA,show (CC (d + 2)).hd=false from rfl,jz (n:=gg) (by grind) rfl,aB]
   have hr:aF 0 1 gg=(List.range' 0 gg).map fun (j:Nat)=>PV.int j:=by
    unfold aF; rw [List.range_eq_range']; refine List.map_congr_left fun i zz=>?_; congr 1; (grind)
   rw [hr]
   dsimp only
   refine (congrArg (fun o:ac (List PV)=>eH ((List.range' 0 gg).map fun (j:Nat)=>PV.int j).length o fun ys σ=>bU true ys σ) hdraw).trans ?_
   exact pW (dj (by grind))
  have hat:(aY σn (steps.map ae.pv) free')[σn.length]?=some (.lst (steps.map ae.pv)):=sV
  have name_at:eP nmV (.int (23 - (k:Int))) (aY σn (steps.map ae.pv) free')=.ok (.str (names.getD (23 - k) "")) (aY σn (steps.map ae.pv) free'):=by
   rw [show (23 - (k:Int))=((23 - k:Nat):Int) by grind]
   exact hnm _ _ (by grind)
  have e10:ex (CC (d + 2)) topN lY (RP σn l nmV many room spots (some (.int k)) ⟨(some (.int pick)),(some r.pv),(some (.int more)),(some (.int n)),(some (.int gg)),(some (.fl (wanted.map .str))),(some (.fl (made.map .str)))⟩) (aY σn (steps.map ae.pv) free')=.next (RP σn l nmV many room spots (some (.int k)) ⟨(some (.int pick)),(some r.pv),(some (.int more)),(some (.int n)),(some (.int gg)),(some (.fl (wanted.map .str))),(some (.fl (made.map .str)))⟩) (aY σn ((steps++[(ae.mk (names.getD (23 - k) "") r wanted made)]).map ae.pv) free'):=by
   refine bR (fA (m:=.append) (x:=.ref σn.length) (σ₁:=aY σn (steps.map ae.pv) free') rfl (j5 (.inl rfl)) (y:=ae.pv (ae.mk (names.getD (23 - k) "") r wanted made)) (σ₂:=aY σn (steps.map ae.pv) free') ?_ ?_)
   ·exact g7 (vs:=[.str (names.getD (23 - k) ""),r.pv,.tup (wanted.map .str),.tup (made.map .str)]) (aN (bz (x:=nmV) (σ₁:=aY σn (steps.map ae.pv) free') rfl (ay (x:=.int 23) (y:=.int k) (σ₁:=aY σn (steps.map ae.pv) free') (σ₂:=aY σn (steps.map ae.pv) free') rfl rfl sub_int) name_at) (aN (x:=r.pv) (σ₁:=aY σn (steps.map ae.pv) free') rfl (aN (bO (x:=.fl (wanted.map .str)) (σ₁:=aY σn (steps.map ae.pv) free') rfl (zi (dj (by grind)))) (aN (bO (x:=.fl (made.map .str)) (σ₁:=aY σn (steps.map ae.pv) free') rfl (zi (dj (by grind)))) rfl)))) (show (4:Nat) <= ao by decide)
   ·show eI (.ref σn.length) _ _=_
    unfold eI; dsimp only; rw [hat]; dsimp only
    rw [if_pos (by rw [List.length_map,aZ,hkk]; (exact aE (by assumption) (by decide)))]
    congr 1
    show (σn++[MO.lst (steps.map ae.pv),.lst (free'.map .str)]).set σn.length _=_
    rw [List.set_append_right _ _ (Nat.le_refl _),Nat.sub_self]
    simp [aY]
  have madeIn:∀ w ∈ made,w ∈ free:=fun w hw=>dp.subset (List.mem_append_left _ hw)
  have hnd2:(made++free').Nodup:=dp.nodup_iff.mpr hnd
  refine ⟨⟨some (.int pick),some r.pv,some (.int more),some (.int n),some (.int gg),some (.fl (wanted.map .str)),some (.fl (made.map .str))⟩,.inr ⟨⟨names.getD (23 - k) "",r,wanted,made⟩,free',⟨hnames _ (by grind),fun w hw=>hspots w (win w hw),by show 1 <= wanted.length; grind,by show wanted.length <= 4; grind,fun w hw=>hfree w (madeIn w hw),by show 1 <= made.length; grind,by show made.length <= 3; grind,(List.nodup_append.mp hnd2).1,?_⟩,rfl,dp,?_⟩⟩
  ·show bX r wanted.length made.length
   rw [wl,dl]
   exact K.ok gg gway
  ·exact (front _).trans ((aa e7).trans ((aa e8).trans ((aa e9).trans ((aa e10).trans az))))
end
end Mine
namespace Mine
open PySem
structure Inv (names:List Str) (steps:List ae) (free:List Str):Prop where
 ok:∀ s ∈ steps,dg s
 nm:steps.map (·.name)=(List.range steps.length).map fun j=>names.getD (23 - j) ""
 nd:(steps.flatMap (·.gives)++free).Nodup
 fr:∀ n ∈ free,di n
 len:free.length <= 100
 fp:∀ n ∈ free,hH n
 gp:∀ s ∈ steps,∀ g ∈ s.gives,hH g
section
variable {d:Nat} {σn:ab}
theorem aiS {l:List Int} (hl:l.length <= 63) {names spots:List Str} {nmV:PV} {many room:Option PV}
  (hnm:∀ τ (i:Nat),i < 24->eP nmV (.int i) (σn++τ)=.ok (.str (names.getD i "")) (σn++τ)) (hsp:1 <= spots.length) (hsl:spots.length <= 100)
  (hnames:∀ i,i < 24->di (names.getD i "")) (hspots:∀ n ∈ spots,di n):∀ (n:Nat) (steps:List ae) (free:List Str) (kk:Option PV) (v:Pv),steps.length + n <= 20->Inv names steps free ->
  ∃ (steps':List ae) (free':List Str) (kk':Option PV) (v':Pv),steps'.length <= 20/\Inv names steps' free' ∧
   aV none (bw 6) (fun ρ σ=>ex (CC (d + 2)) topN gA ρ σ) ((List.range' steps.length n).map fun (i:Nat)=>PV.int i) (RP σn l nmV many room spots kk v) (aY σn (steps.map ae.pv) free) =
    .next (RP σn l nmV many room spots kk' v') (aY σn (steps'.map ae.pv) free'):=by
 intro n
 induction n with
 | zero=>intro steps free kk v h I; exact ⟨steps,free,kk,v,h,I,bB⟩
 | succ n ih =>
  intro steps free kk v h I
  rw [List.range'_succ,List.map_cons]
  obtain ⟨v',T⟩:=aiq (d:=d) (σn:=σn) hl (many:=many) (room:=room) (steps:=steps) (by grind) hnm hsp hsl I.len hnames hspots I.fr (List.nodup_append.mp I.nd).2.1 v
  rcases T with T | ⟨s,free',so,sn,sp,T⟩
  ·exact ⟨steps,free,some (.int steps.length),v',aE (Nat.le_add_right _ _) h,I,ah8 rfl T⟩
  ·have I':Inv names (steps++[s]) free':=by
    refine ⟨fun x hx=>?_,?_,?_,fun x hx=>I.fr x (sp.subset (List.mem_append_right _ hx)),?_,fun x hx=>I.fp x (sp.subset (List.mem_append_right _ hx)),fun x hx g hg=>?_⟩
    ·rcases List.mem_append.mp hx with q | q
     ·exact I.ok x q
     ·rw [List.mem_singleton.mp q]; exact so
    ·rw [List.map_append,I.nm,List.length_append,List.length_singleton,List.range_succ,List.map_append,List.map_singleton,List.map_singleton,sn]
    ·have:((steps++[s]).flatMap (·.gives)++free').Perm (steps.flatMap (·.gives)++free):=by
      rw [List.flatMap_append,List.append_assoc]
      refine List.Perm.append_left _ ?_
      simpa using sp
     exact this.nodup_iff.mpr I.nd
    ·have:=sp.length_eq
     rw [List.length_append] at this
     have:=I.len
     (grind)
    ·rcases List.mem_append.mp hx with q | q
     ·exact I.gp x q g hg
     ·rw [List.mem_singleton.mp q] at hg; exact I.fp g (sp.subset (List.mem_append_left _ hg))
   obtain ⟨steps2,free2,kk2,v2,q1,q2,q3⟩:=ih (steps++[s]) free' (some (.int steps.length)) v' (by rw [List.length_append,List.length_singleton]; (grind)) I'
   refine ⟨steps2,free2,kk2,v2,q1,q2,(a5 rfl T).trans ?_⟩
   rw [List.length_append,List.length_singleton] at q3
   exact q3
theorem sN {f:PV->Option PyData}:∀ {xs:List PV},(∀ x ∈ xs,∃ d,f x=some d)->∃ ds,xs.mapM f=some ds/\ds.length=xs.length
 | [],_=>⟨[],rfl,rfl⟩
 | x::xs,h=>by
  obtain ⟨e,he⟩:=h x (by simp)
  obtain ⟨es,hes,hl⟩:=sN (xs:=xs) fun y hy=>h y (bG _ hy)
  exact ⟨e::es,by rw [List.mapM_cons,he,hes]; rfl,by simp [hl]⟩
theorem zv {σ:ab} {m:Nat} (l:List Str):∃ e,bA (m + 2) σ (.tup (l.map .str))=some e:=by
 obtain ⟨ds,h,_⟩:=sN (f:=bA (m + 1) σ) (xs:=l.map .str) fun x hx=>by obtain ⟨w,_,rfl⟩:=List.mem_map.mp hx; exact ⟨.str w,rfl⟩
 exact ⟨.tuple ds,by show ((l.map PV.str).mapM (bA (m + 1) σ)).map PyData.tuple=_; rw [h]; rfl⟩
theorem afu {σ:ab} {m:Nat} (s:ae):∃ e,bA (m + 3) σ s.pv=some e:=by
 obtain ⟨ds,h,_⟩:=sN (f:=bA (m + 2) σ) (xs:=[.str s.name,s.rule.pv,.tup (s.needs.map .str),.tup (s.gives.map .str)]) fun x hx=>by
  simp only [List.mem_cons,List.not_mem_nil,or_false] at hx
  rcases hx with q | q | q | q
  ·subst q; exact ⟨.str s.name,rfl⟩
  ·subst q; cases s.rule with
   | word w=>exact ⟨.tuple [.str w],rfl⟩
   | fixed v=>exact ⟨.tuple [.str "fixed",.int v],rfl⟩
  ·subst q; exact zv _
  ·subst q; exact zv _
 exact ⟨.tuple ds,by show (([PV.str s.name,s.rule.pv,.tup (s.needs.map .str),.tup (s.gives.map .str)]).mapM (bA (m + 2) σ)).map PyData.tuple=_; rw [h]; rfl⟩
theorem ade {σ:ab} {i:Nat} {steps:List ae} (hat:σ[i]?=some (.lst (steps.map ae.pv))):bp .eq (.ref i) (.fl []) σ=.ok (decide (steps=[])) σ:=by
 obtain ⟨ds,h,hl⟩:=sN (f:=bA 15 σ) (xs:=steps.map ae.pv) fun x hx=>by obtain ⟨s,_,rfl⟩:=List.mem_map.mp hx; exact afu (m:=12) s
 have e:bA 16 σ (.ref i)=some (.list ds):=by
  show (match σ[i]? with | some (.lst xs)=>(xs.mapM (bA 15 σ)).map PyData.list | _=>none)=_
  rw [hat]; dsimp only; rw [h]; rfl
 show ac.ofOpt (eqv σ (.ref i) (.fl [])) σ=_
 unfold eqv
 rw [e]
 show ac.ok (PyData.eqv (.list ds) (.list [])) σ=_
 rw [List.length_map] at hl
 cases steps with
 | nil =>
  have:ds=[]:=List.eq_nil_of_length_eq_zero hl
  subst this; rfl
 | cons s steps =>
  cases ds with
  | nil=>simp at hl
  | cons x ds=>rw [show decide (s::steps=[])=false from decide_eq_false (by simp)]; rfl
theorem age {names:List Str} (hn:names.Nodup) (hl:names.length=24) {steps:List ae} {free:List Str} (I:Inv names steps free) (h1:1 <= steps.length) (h2:steps.length <= 20):bx steps:=by
 refine ⟨h1,h2,I.ok,?_,(List.nodup_append.mp I.nd).1⟩
 rw [I.nm,List.Nodup,List.pairwise_map]
 refine List.Pairwise.imp_of_mem ?_ (List.nodup_range (n:=steps.length))
 intro i j hi hj hne e
 have hi:=List.mem_range.mp hi
 have hj:=List.mem_range.mp hj
 have e1:names.getD (23 - i) "" = names[23 - i]'(by grind):=by simp [List.getD,show 23 - i < names.length by grind]
 have e2:names.getD (23 - j) "" = names[23 - j]'(by grind):=by simp [List.getD,show 23 - j < names.length by grind]
 rw [e1,e2] at e
 have e3:names[23 - i]?=names[23 - j]?:=by rw [List.getElem?_eq_getElem (by grind),List.getElem?_eq_getElem (by grind),e]
 have:=(List.getElem?_inj (by grind) hn).mp e3
 (grind)
theorem agf {names:List Str} (hl:names.length=24) {steps:List ae} {free:List Str} (I:Inv names steps free) {s:ae} (hs:s ∈ steps):s.name ∈ names:=by
 have h:s.name ∈ steps.map (·.name):=List.mem_map.mpr ⟨s,hs,rfl⟩
 rw [I.nm] at h
 obtain ⟨j,_,e⟩:=List.mem_map.mp h
 have e1:names.getD (23 - j) "" = names[23 - j]'(by grind):=by simp [List.getD,show 23 - j < names.length by grind]
 rw [<- e,e1]; exact List.getElem_mem _
theorem afY {names:List Str} (hl:names.length=24) {v:PV} (h:(v=.fl (names.map .str)/\σn=[])\/(v=.ref 0/\σn=[.lst (names.map .str)])):∀ τ (i:Nat),i < 24->eP v (.int i) (σn++τ)=.ok (.str (names.getD i "")) (σn++τ):=by
 intro τ i hi
 have hg:(names.map PV.str)[(i:Int).toNat]?=some (.str (names.getD i "")):=by
  rw [List.getElem?_map]
  simp [List.getD,show i < names.length by grind]
 have hlim:(names.map PV.str).length <= ao:=dj (by grind)
 rcases h with ⟨rfl,rfl⟩ | ⟨rfl,rfl⟩
 ·exact fL hlim (by (exact Int.natCast_nonneg _)) hg
 ·exact abv (by rfl) hlim (by (exact Int.natCast_nonneg _)) hg
end
end Mine
namespace Mine
open PySem
section
variable {d:Nat} {σ:ab}
theorem sg {l:List Int} (hl:l.length <= 63) {j:Nat} {a:X} {ρ:aq} (h0:ev (CC (d + 2)) (.v 0) ρ σ=.ok (.fl (l.map .int)) σ) (ha:ev (CC (d + 2)) a ρ σ=.ok (.int j) σ):ev (CC (d + 2)) (.call aG (.cons (.v 0) (.cons a .nil))) ρ σ=.ok (.int (l.getD j 0)) σ:=
 cL h0 ha (h12 hl)
theorem xP {xs:List Int} {ρ:aq} {C:bn} {a b:X} {i:Int} (ha:ev C a ρ σ=.ok (.fl (xs.map .int)) σ) (hb:ev C b ρ σ=.ok (.int i) σ) (hl:xs.length <= 100) (h0:0 <= i) (h1:i.toNat < xs.length):ev C (.sub a b) ρ σ=.ok (.int (xs.getD i.toNat 0)) σ:=by
 refine bz ha hb (fL (by rw [List.length_map]; exact aE hl (by decide)) h0 ?_)
 rw [List.getElem?_map]
 simp [List.getD,h1]
theorem af1 (a b:Nat):min (a:Int) (b:Int)=((min a b:Nat):Int):=by
 rcases Nat.le_total a b with h | h
 ·rw [Int.min_eq_left (Int.ofNat_le.mpr h),Nat.min_eq_left h]
 ·rw [Int.min_eq_right (Int.ofNat_le.mpr h),Nat.min_eq_right h]
theorem x8 {xs:List Str} {i:Nat} (h:i < xs.length):xs.getD i "" ∈ xs:=by
 rw [List.getD_eq_getElem?_getD,List.getElem?_eq_getElem h]; exact List.getElem_mem h
theorem h17 {l:List Int} (hl:l.length <= 63):∃ p σ',bx p/\(∀ s ∈ p,hH s.name/\∀ g ∈ s.gives,hH g)/\aJ PP topN (d + 3) vM [.fl (l.map .int),.int 0] []=.ok (aA p) σ':=by
 obtain ⟨names,nl,nn,nok,npl,hcall⟩:=h14 (l.getD 0 0)
 obtain ⟨nmV,σn,hc14,hform⟩:∃ nmV σn,(∀ d,aJ PP topN (d + 1) gS [.int (l.getD 0 0)] []=.ok nmV σn)/\((nmV=.fl (names.map .str)/\σn=[])\/(nmV=.ref 0/\σn=[.lst (names.map .str)])):=by
  rcases hcall with h | h
  ·exact ⟨_,_,h,.inl ⟨rfl,rfl⟩⟩
  ·exact ⟨_,_,h,.inr ⟨rfl,rfl⟩⟩
 have hnm:=afY (σn:=σn) nl hform
 have hnames:∀ i,i < 24->di (names.getD i ""):=fun i hi=>nok _ (x8 (nl ▸ hi))
 have hpl:∀ i,i < 24->hH (names.getD i ""):=fun i hi=>npl _ (x8 (nl ▸ hi))
 generalize hc1:l.getD 1 0=c1
 generalize hc2:l.getD 2 0=c2
 have m0:=Int.emod_nonneg c1 (show (6:Int) ≠ 0 by decide)
 have m1:=Int.emod_lt_of_pos c1 (show (0:Int) < 6 by decide)
 have r0:=Int.emod_nonneg c2 (show (4:Int) ≠ 0 by decide)
 have r1:=Int.emod_lt_of_pos c2 (show (0:Int) < 4 by decide)
 have w0:=Int.emod_nonneg (c1 / 60) (show (12:Int) ≠ 0 by decide)
 have w1:=Int.emod_lt_of_pos (c1 / 60) (show (0:Int) < 12 by decide)
 have cell1:∀ {a b c e f g h i j k o m n:Option PV} {σ:ab},ev (CC (d + 2)) (.call aG (.cons (.v 0) (.cons (.bin .add (.v 1) (.k (.int 1))) .nil))) (gf (some (.fl (l.map .int))) a b c e f g h i j k o m n none) σ=.ok (.int c1) σ:=fun {a b c e f g h i j k o m n σ}=>by
  rw [sg hl (j:=1) rfl (ay (x:=.int 0) (y:=.int 1) (σ₁:=σ) (σ₂:=σ) rfl rfl add_int),hc1]
 have cell2:∀ {a b c e f g h i j k o m n:Option PV} {σ:ab},ev (CC (d + 2)) (.call aG (.cons (.v 0) (.cons (.bin .add (.v 1) (.k (.int 2))) .nil))) (gf (some (.fl (l.map .int))) a b c e f g h i j k o m n none) σ=.ok (.int c2) σ:=fun {a b c e f g h i j k o m n σ}=>by
  rw [sg hl (j:=2) rfl (ay (x:=.int 0) (y:=.int 2) (σ₁:=σ) (σ₂:=σ) rfl rfl add_int),hc2]
 have e0:ex (CC (d + 2)) topN kK (gf (some (.fl (l.map .int))) none none none none none none none none none none none none none none) []=.next (gf (some (.fl (l.map .int))) (some nmV) none none none none none none none none none none none none none) σn:=
  aC (a7 (sg hl (j:=0) rfl rfl) (hc14 (d + 1)))
 obtain ⟨many,hm1,hm20,hmany⟩:∃ many:Nat,1 <= many/\many <= 20/\∀ rest,ex (CC (d + 2)) topN (.cons g6 (.cons fc rest)) (gf (some (.fl (l.map .int))) (some nmV) none none none none none none none none none none none none none) σn=ex (CC (d + 2)) topN rest (gf (some (.fl (l.map .int))) (some nmV) (some (.int many)) none none none none none none none none none none none none) σn:=by
  have hlist:∃ q:Nat,1 <= q/\q <= 20/\([1,2,3,4,6,8]:List Int).getD (c1 % 6).toNat 0=q:=by
   refine oM (n:=6) (P:=fun w=>∃ q:Nat,1 <= q/\q <= 20/\([1,2,3,4,6,8]:List Int).getD w.toNat 0=q) (cb (cb (cb (cb (cb (cb xG ?_) ?_) ?_) ?_) ?_) ?_) m0 m1
   ·exact ⟨1,by decide,by decide,rfl⟩
   ·exact ⟨2,by decide,by decide,rfl⟩
   ·exact ⟨3,by decide,by decide,rfl⟩
   ·exact ⟨4,by decide,by decide,rfl⟩
   ·exact ⟨6,by decide,by decide,rfl⟩
   ·exact ⟨8,by decide,by decide,rfl⟩
  obtain ⟨q,q1,q2,hq⟩:=hlist
  have e1:ex (CC (d + 2)) topN g6 (gf (some (.fl (l.map .int))) (some nmV) none none none none none none none none none none none none none) σn=.next (gf (some (.fl (l.map .int))) (some nmV) (some (.int q)) none none none none none none none none none none none none) σn:=by
   refine aC ((xP (xs:=[1,2,3,4,6,8]) rfl (ay cell1 (y:=.int 6) (σ₂:=σn) rfl (a9 (by decide))) (by decide) m0 (mL (n:=6) m0 m1)).trans ?_)
   rw [hq]
  have t2:tst (CC (d + 2)) (.cmp (.bin .mod (.bin .fdiv (.call aG (.cons (.v 0) (.cons (.bin .add (.v 1) (.k (.int 1))) .nil))) (.k (.int 6))) (.k (.int 10))) .eq (.k (.int 1))) (gf (some (.fl (l.map .int))) (some nmV) (some (.int q)) none none none none none none none none none none none none) σn=.ok (c1 / 6 % 10 == 1) σn:=
   aU (fdm (by decide) (by decide) (by decide) cell1) (y:=.int 1) (σ₂:=σn) rfl gb
  by_cases h10:(c1 / 6 % 10 == 1)=true
  ·obtain ⟨w,hw⟩:=Int.eq_ofNat_of_zero_le w0
   rw [hw] at w1
   refine ⟨9 + w,aE (by decide) (Nat.le_add_right 9 w),Nat.add_le_add_left (Nat.le_of_lt_succ (Int.ofNat_lt.mp w1)) 9,fun rest=>?_⟩
   rw [aa e1,aa (a:=fc) (ρ':=gf (some (.fl (l.map .int))) (some nmV) (some (.int ((9 + w:Nat):Int))) none none none none none none none none none none none none) (σ':=σn) ?_]
   refine (aI (σ':=σn) (t2.trans (by rw [h10]))).trans ((aa (aC ((ay (x:=.int 9) (σ₁:=σn) rfl (fdm (by decide) (by decide) (by decide) cell1) add_int).trans ?_))).trans az)
   rw [hw]; rfl
  ·refine ⟨q,q1,q2,fun rest=>?_⟩
   rw [aa e1,aa (a:=fc) (ah (σ':=σn) (t2.trans (by rw [show (c1 / 6 % 10 == 1)=false by simpa using h10])))]
 obtain ⟨room,hr2,hr9,hroom⟩:∃ room:Nat,2 <= room/\room <= 9/\([2,4,6,9]:List Int).getD (c2 % 4).toNat 0=room:=by
  refine oM (n:=4) (P:=fun w=>∃ room:Nat,2 <= room/\room <= 9/\([2,4,6,9]:List Int).getD w.toNat 0=room) (cb (cb (cb (cb xG ?_) ?_) ?_) ?_) r0 r1
  ·exact ⟨2,by decide,by decide,rfl⟩
  ·exact ⟨4,by decide,by decide,rfl⟩
  ·exact ⟨6,by decide,by decide,rfl⟩
  ·exact ⟨9,by decide,by decide,rfl⟩
 have e3:ex (CC (d + 2)) topN kJ (gf (some (.fl (l.map .int))) (some nmV) (some (.int many)) none none none none none none none none none none none none) σn=.next (gf (some (.fl (l.map .int))) (some nmV) (some (.int many)) (some (.int room)) none none none none none none none none none none none) σn:=by
  refine aC ((xP (xs:=[2,4,6,9]) rfl (ay cell2 (y:=.int 4) (σ₂:=σn) rfl (a9 (by decide))) (by decide) r0 (mL (n:=4) r0 r1)).trans ?_)
  rw [hroom]
 have e4:ex (CC (d + 2)) topN kI (gf (some (.fl (l.map .int))) (some nmV) (some (.int many)) (some (.int room)) none none none none none none none none none none none) σn=.next (gf (some (.fl (l.map .int))) (some nmV) (some (.int many)) (some (.int room)) (some (.ref σn.length)) none none none none none none none none none none) (σn++[.lst []]):=rfl
 obtain ⟨t,ht,ht1⟩:∃ t:Nat,min (24:Int) ((room:Int) + many)=t/\1 <= t/\t <= 24:=by
  refine ⟨min 24 (room + many),?_,Nat.le_min.mpr ⟨by decide,aE hm1 (Nat.le_add_left _ _)⟩,Nat.min_le_left _ _⟩
  exact af1 24 (room + many)
 have tl:(names.take t).length=t:=by rw [List.length_take,nl]; exact Nat.min_eq_left ht1.2
 have e5:ex (CC (d + 2)) topN kH (gf (some (.fl (l.map .int))) (some nmV) (some (.int many)) (some (.int room)) (some (.ref σn.length)) none none none none none none none none none none) (σn++[.lst []])=.next (gf (some (.fl (l.map .int))) (some nmV) (some (.int many)) (some (.int room)) (some (.ref σn.length)) none (some (.ref (σn.length + 1))) none none none none none none none none) (aY σn [] (names.take t)):=by
  refine aC ?_
  show ev (CC (d + 2)) (.comp false 1 _ _ _ _) _ _=_
  have hmin:ev (CC (d + 2)) (.min2 (.k (.int 24)) (.bin .add (.v 4) (.v 3))) (gf (some (.fl (l.map .int))) (some nmV) (some (.int many)) (some (.int room)) (some (.ref σn.length)) none none none none none none none none none none) (σn++[.lst []])=.ok (.int t) (σn++[.lst []]):=by
   refine aeX (x:=.int 24) (y:=.int ((room:Int) + many)) (σ₁:=σn++[.lst []]) (σ₂:=σn++[.lst []]) rfl (ay (x:=.int room) (y:=.int many) (σ₁:=σn++[.lst []]) (σ₂:=σn++[.lst []]) rfl rfl add_int) ?_
   show ac.ok (PV.int (min (24:Int) ((room:Int) + many))) _=_
   rw [ht]
  rw [iA,jz (n:=t) (aE ht1.2 (by decide)) hmin,aB]
  dsimp only
  rw [qg (g:=fun x=>match x with | .int i=>.str (names.getD i.toNat "") | _=>.none) _ fun x hx=>?_]
  ·show bU false _ _=_
   rw [rm (f:=fun k=>names.getD k "") fun k hk=>by simp,aea (dj (by simp; (grind)))]
   have hmap:(List.range t).map (fun k=>names.getD k "")=names.take t:=by
    refine List.ext_getElem (by simp; (grind)) fun i h1 h2=>?_
    simp [List.getD,show i < names.length by simp at h1; (grind)]
   rw [hmap]
   simp [aY]
  ·obtain ⟨k,hk,rfl⟩:=rk hx
   show ((ev _ _ _ _).bind fun v σ=>ac.ok (some v) σ)=_
   rw [bz (x:=nmV) (y:=.int k) (σ₁:=σn++[.lst []]) (σ₂:=σn++[.lst []]) rfl rfl (hnm [.lst []] k (Nat.lt_of_lt_of_le hk ht1.2))]
   simp [aB]
 have e6:ex (CC (d + 2)) topN kG (gf (some (.fl (l.map .int))) (some nmV) (some (.int many)) (some (.int room)) (some (.ref σn.length)) none (some (.ref (σn.length + 1))) none none none none none none none none) (aY σn [] (names.take t))=.next (RP σn l nmV (some (.int many)) (some (.int room)) (names.take t) none ⟨none,none,none,none,none,none,none⟩) (aY σn [] (names.take t)):=by
  refine aC (bO (x:=.ref (σn.length + 1)) (σ₁:=aY σn [] (names.take t)) rfl ?_)
  have:aW (aY σn [] (names.take t)) (.ref (σn.length + 1))=some ((names.take t).map .str):=by unfold aW; dsimp only; rw [sW]
  exact (gw this).trans (pW (dj (by rw [tl]; exact aE ht1.2 (by decide))))
 have I0:Inv names [] (names.take t):=⟨fun s hs=>(by cases hs),rfl,by simpa using nn.sublist (List.take_sublist _ _),fun n hn=>nok n (List.mem_of_mem_take hn),by grind,fun n hn=>npl n (List.mem_of_mem_take hn),fun s hs=>(by cases hs)⟩
 obtain ⟨steps,free,kk,v,sl,I,hloop⟩:=aiS (d:=d) (σn:=σn) hl (nmV:=nmV) (many:=some (.int many)) (room:=some (.int room)) (spots:=names.take t) hnm (by grind) (by grind) hnames (fun n hn=>nok n (List.mem_of_mem_take hn)) many [] (names.take t) none ⟨none,none,none,none,none,none,none⟩ (by simpa using hm20) I0
 have e7:ex (CC (d + 2)) topN kF (RP σn l nmV (some (.int many)) (some (.int room)) (names.take t) none ⟨none,none,none,none,none,none,none⟩) (aY σn [] (names.take t))=.next (RP σn l nmV (some (.int many)) (some (.int room)) (names.take t) kk v) (aY σn (steps.map ae.pv) free):=by
  refine bL (ys:=(List.range' 0 many).map fun (i:Nat)=>PV.int i) (σ₁:=aY σn [] (names.take t)) ((jz (n:=many) (by (exact aE (by assumption) (by decide))) rfl).trans ?_) hloop
  have:aF 0 1 many=(List.range' 0 many).map fun (i:Nat)=>PV.int i:=by
   unfold aF; rw [List.range_eq_range']; refine List.map_congr_left fun i zz=>?_; congr 1; (grind)
  rw [this]
 have tup_at:∀ {p:List ae} {f:List Str},p.length <= 20->cI .tuple (.ref σn.length) (aY σn (p.map ae.pv) f)=.ok (aA p) (aY σn (p.map ae.pv) f):=fun {p f} hp=>by
  have:aW (aY σn (p.map ae.pv) f) (.ref σn.length)=some (p.map ae.pv):=by unfold aW; dsimp only; rw [sV]
  exact (gw this).trans (if_pos (afR hp))
 obtain ⟨p,hp,hpp,e8⟩:∃ p,bx p/\(∀ s ∈ p,hH s.name/\∀ g ∈ s.gives,hH g)/\ex (CC (d + 2)) topN kE (RP σn l nmV (some (.int many)) (some (.int room)) (names.take t) kk v) (aY σn (steps.map ae.pv) free)=.next (RP σn l nmV (some (.int many)) (some (.int room)) (names.take t) kk v) (aY σn (p.map ae.pv) free):=by
  have tt:tst (CC (d + 2)) (.cmp (.v 5) .eq (.lst true .nil)) (RP σn l nmV (some (.int many)) (some (.int room)) (names.take t) kk v) (aY σn (steps.map ae.pv) free)=.ok (decide (steps=[])) (aY σn (steps.map ae.pv) free):=
   aU (x:=.ref σn.length) (y:=.fl []) (σ₁:=aY σn (steps.map ae.pv) free) (σ₂:=aY σn (steps.map ae.pv) free) rfl rfl (ade sV)
  by_cases he:steps=[]
  ·refine ⟨[ae.mk (names.getD 0 "") (.word "sum") [names.getD 0 ""] [names.getD 1 ""]],?_,fun s hs=>?_,?_⟩
   ·refine ⟨Nat.le_refl 1,(by show (1:Nat) <= 20; decide),fun s hs=>?_,by simp,by simp⟩
    rw [List.mem_singleton.mp hs]
    exact ⟨hnames 0 (by decide),fun n hn=>by rw [List.mem_singleton.mp hn]; exact hnames 0 (by decide),Nat.le_refl 1,(by show (1:Nat) <= 4; decide),fun n hn=>by rw [List.mem_singleton.mp hn]; exact hnames 1 (by decide),Nat.le_refl 1,(by show (1:Nat) <= 3; decide),by simp,.sum _ _⟩
   ·rw [List.mem_singleton.mp hs]
    exact ⟨hpl 0 (by decide),fun g hg=>by rw [List.mem_singleton.mp hg]; exact hpl 1 (by decide)⟩
   ·subst he
    refine (aI (σ':=aY σn [] free) (tt.trans (by rw [decide_eq_true rfl]; rfl))).trans ((aa (bR (fA (m:=.append) (x:=.ref σn.length) (σ₁:=aY σn [] free) rfl (j5 (.inl rfl)) (y:=ae.pv (ae.mk (names.getD 0 "") (.word "sum") [names.getD 0 ""] [names.getD 1 ""])) (σ₂:=aY σn [] free) ?_ ?_))).trans az)
    ·have n0:∀ {kk pk rl mr nd gv wt md sp:Option PV},ev (CC (d + 2)) (.sub (.v 2) (.k (.int 0))) (gf (some (.fl (l.map .int))) (some nmV) (some (.int many)) (some (.int room)) (some (.ref σn.length)) kk (some (.ref (σn.length + 1))) sp pk rl mr nd gv wt md) (aY σn [] free)=.ok (.str (names.getD 0 "")) (aY σn [] free):=fun {kk pk rl mr nd gv wt md sp} =>
      bz (x:=nmV) (y:=.int ((0:Nat):Int)) (σ₁:=aY σn [] free) (σ₂:=aY σn [] free) rfl rfl (hnm _ 0 (by decide))
     have n1:∀ {kk pk rl mr nd gv wt md sp:Option PV},ev (CC (d + 2)) (.sub (.v 2) (.k (.int 1))) (gf (some (.fl (l.map .int))) (some nmV) (some (.int many)) (some (.int room)) (some (.ref σn.length)) kk (some (.ref (σn.length + 1))) sp pk rl mr nd gv wt md) (aY σn [] free)=.ok (.str (names.getD 1 "")) (aY σn [] free):=fun {kk pk rl mr nd gv wt md sp} =>
      bz (x:=nmV) (y:=.int ((1:Nat):Int)) (σ₁:=aY σn [] free) (σ₂:=aY σn [] free) rfl rfl (hnm _ 1 (by decide))
     exact g7 (vs:=[.str (names.getD 0 ""),.tup [.str "sum"],.tup [.str (names.getD 0 "")],.tup [.str (names.getD 1 "")]]) (aN n0 (aN (x:=.tup [.str "sum"]) (σ₁:=aY σn [] free) rfl (aN (g7 (vs:=[.str (names.getD 0 "")]) (aN n0 rfl) (show (1:Nat) <= ao by decide)) (aN (g7 (vs:=[.str (names.getD 1 "")]) (aN n1 rfl) (show (1:Nat) <= ao by decide)) rfl)))) (show (4:Nat) <= ao by decide)
    ·show eI (.ref σn.length) _ _=_
     have hat:(aY σn [] free)[σn.length]?=some (.lst []):=sV
     unfold eI; dsimp only; rw [hat]; dsimp only
     rw [if_pos (by decide)]
     congr 1
     show (σn++[MO.lst [],.lst (free.map .str)]).set σn.length _=_
     rw [List.set_append_right _ _ (Nat.le_refl _),Nat.sub_self]
     simp [aY]
  ·refine ⟨steps,age nn nl I ?_ sl,fun s hs=>⟨npl _ (agf nl I hs),I.gp s hs⟩,(ah (tt.trans (by rw [decide_eq_false he])))⟩
   cases steps with
   | nil=>exact absurd rfl he
   | cons _ _=>simp
 refine ⟨p,aY σn (p.map ae.pv) free,hp,hpp,?_⟩
 rw [a6 (fn:=wd) rfl rfl]
 show aM (ex (CC (d + 2)) topN (.cons kK (.cons g6 (.cons fc (.cons kJ (.cons kI (.cons kH (.cons kG (.cons kF (.cons kE (.cons kC .nil)))))))))) (gf (some (.fl (l.map .int))) none none none none none none none none none none none none none none) [])=_
 rw [aa e0,hmany,aa e3,aa e4,aa e5,aa e6,aa e7,aa e8,aj (a:=kC) (av (bO (x:=.ref σn.length) (σ₁:=aY σn (p.map ae.pv) free) rfl (tup_at hp.most)))]
 rfl
end
end Mine
namespace Mine
open PySem
section
variable {d:Nat} {σ:ab}
theorem ahe {i a b:Int}:aJ PP topN (d + 1) dF [.int i,.int a,.int b] σ=.ok (.bool (decide (a <= i) && decide (i <= b))) σ:=by
 rw [a6 (fn:=my) rfl rfl]
 have:ex (CC d) topN my.body [some (.int i),some (.int a),some (.int b),none,none,none] σ=.ret (.bool (decide (a <= i) && decide (i <= b))) [some (.int i),some (.int a),some (.int b),none,none,none] σ:=
  aj (av (lw (jI (σ₁:=σ) rfl (jI (σ₁:=σ) rfl (iB (oj rfl rfl rfl))))))
 exact (congrArg aM this).trans rfl
theorem c6 {τ υ:ab} {m:MO}:(τ++m::υ)[τ.length]?=some m:=by simp
theorem ij {τ υ:ab} {m m':MO}:(τ++m::υ).set τ.length m'=τ++m'::υ:=by simp
theorem aff {es:List (Str × PV)} {k:Str}:k ∉ es.map (·.1)->ai k es=none:=by
 intro h
 unfold ai
 rw [List.find?_eq_none.mpr]
 ·rfl
 ·intro e he q
  exact h (List.mem_map.mpr ⟨e,he,of_decide_eq_true q⟩)
theorem aaK {es:List (Str × PV)} {k:Str} {v:PV} (h:k ∉ es.map (·.1)):cq k v es=es++[(k,v)]:=by
 unfold cq
 rw [if_neg]
 intro q
 obtain ⟨e,he,q⟩:=List.any_eq_true.mp q
 exact h (List.mem_map.mpr ⟨e,he,of_decide_eq_true q⟩)
theorem afe {es:List (Str × PV)} {k:Str}:(ai k es).isSome=decide (k ∈ es.map (·.1)):=by
 by_cases h:k ∈ es.map (·.1)
 ·rw [decide_eq_true h]
  obtain ⟨e,he,q⟩:=List.mem_map.mp h
  unfold ai
  rw [Option.isSome_map,List.find?_isSome]
  exact ⟨e,he,decide_eq_true q⟩
 ·rw [decide_eq_false h,aff h]; rfl
noncomputable def ba (p:List ae):List (Str × PV):=p.flatMap fun s=>s.gives.map fun g=>(g,s.pv)
theorem tB (p:List ae):(ba p).map (·.1)=p.flatMap (·.gives):=by
 unfold ba
 rw [List.map_flatMap]
 congr 1
 funext s
 rw [List.map_map]
 exact List.map_id _
theorem afz {r:Nat} {es:List (Str × PV)} {k:Str} {v:PV} {ρ:aq} (hr:σ[r]?=some (.ds es)) (hl:es.length < ao):bV (.ref r) (.str k) v ρ σ=.next ρ (σ.set r (.ds (cq k v es))):=by
 have e:((σ[r]?).bind fun m=>oH m (.str k) v)=some (.ds (cq k v es)):=by rw [hr]; exact if_pos hl
 unfold bV; dsimp only; rw [e]
theorem lE {r:Nat} {es:List ((Str × Int) × PV)} {x:Str} {j:Int} {v:PV} {ρ:aq} (hr:σ[r]?=some (.dp es)) (hl:es.length < ao):bV (.ref r) (.tup [.str x,.int j]) v ρ σ=.next ρ (σ.set r (.dp (cq (x,j) v es))):=by
 have e:((σ[r]?).bind fun m=>oH m (.tup [.str x,.int j]) v)=some (.dp (cq (x,j) v es)):=by rw [hr]; exact if_pos hl
 unfold bV; dsimp only; rw [e]
theorem ai5 {pl s:PV} {τ:ab}:∀ (gs:List Str) (y:Option PV) (es:List (Str × PV)),es.length + gs.length <= 1000->(es.map (·.1)++gs).Nodup ->
  ∃ y',aV none (bw 3) (fun ρ σ=>ex (CC d) topN k7 ρ σ) (gs.map .str) [some pl,some (.ref τ.length),some s,y] (τ++[.ds es]) =
   .next [some pl,some (.ref τ.length),some s,y'] (τ++[.ds (es++gs.map fun g=>(g,s))]):=by
 intro gs
 induction gs with
 | nil=>intro y es _ _; exact ⟨y,by simpa using bB⟩
 | cons g gs ih =>
  intro y es hl hn
  have hk:g ∉ es.map (·.1):=fun q=>(List.nodup_append.mp hn).2.2 g q g (by simp) rfl
  rw [List.length_cons] at hl
  obtain ⟨y',e⟩:=ih (some (.str g)) (es++[(g,s)]) (by rw [List.length_append]; show es.length + 1 + gs.length <= 1000; (grind)) (by simpa using hn)
  refine ⟨y',(a5 (ρ₁:=[some pl,some (.ref τ.length),some s,some (.str g)]) (ρ₂:=[some pl,some (.ref τ.length),some s,some (.str g)]) (σ₂:=τ++[.ds (es++[(g,s)])]) rfl ?_).trans (e.trans (by simp))⟩
  refine (aa ?_).trans az
  show bV (.ref τ.length) (.str g) s _ (τ++[.ds es])=_
  rw [afz c6 (by rw [aZ]; (grind)),ij,aaK hk]
theorem ah6 {pl:PV} {τ:ab}:∀ (p:List ae) (x y:Option PV) (es:List (Str × PV)),es.length + 3 * p.length <= 1000->(∀ s ∈ p,s.gives.length <= 3)->(es.map (·.1)++p.flatMap (·.gives)).Nodup ->
  ∃ x' y',aV none (bw 2) (fun ρ σ=>ex (CC d) topN nr ρ σ) (p.map ae.pv) [some pl,some (.ref τ.length),x,y] (τ++[.ds es]) =
   .next [some pl,some (.ref τ.length),x',y'] (τ++[.ds (es++ba p)]):=by
 intro p
 induction p with
 | nil=>intro x y es _ _ _; exact ⟨x,y,by simpa [ba] using bB⟩
 | cons s p ih =>
  intro x y es hl h3 hn
  have hs:=h3 s (by simp)
  rw [List.length_cons] at hl
  rw [List.flatMap_cons,<- List.append_assoc] at hn
  obtain ⟨y1,e1⟩:=ai5 (d:=d) (pl:=pl) (s:=s.pv) (τ:=τ) s.gives y es (by grind) (List.nodup_append.mp hn).1
  have hk:(es++s.gives.map fun g=>(g,s.pv)).map (·.1)=es.map (·.1)++s.gives:=by
   rw [List.map_append,List.map_map]; congr 1; exact List.map_id _
  obtain ⟨x',y',e2⟩:=ih (some s.pv) y1 (es++s.gives.map fun g=>(g,s.pv)) (by rw [List.length_append,List.length_map]; (grind)) (fun t ht=>h3 t (bG _ ht)) (by rw [hk]; exact hn)
  refine ⟨x',y',(a5 (ρ₁:=[some pl,some (.ref τ.length),some s.pv,y]) (ρ₂:=[some pl,some (.ref τ.length),some s.pv,y1]) (σ₂:=τ++[.ds (es++s.gives.map fun g=>(g,s.pv))]) rfl ?_).trans (e2.trans (by simp [ba]))⟩
  exact (aa (bL (ys:=s.gives.map .str) (σ₁:=τ++[.ds es]) rfl e1)).trans az
theorem xZ {p:List ae} (h:bx p):aJ PP topN (d + 1) jS [aA p] σ=.ok (.ref σ.length) (σ++[.ds (ba p)]):=by
 rw [a6 (fn:=n5) rfl rfl]
 obtain ⟨x',y',e⟩:=ah6 (d:=d) (pl:=aA p) (τ:=σ) p none none [] (by show 0 + 3 * p.length <= 1000; have:=h.most; (grind)) (fun s hs=>(h.steps s hs).gives3) (by simpa using h.gives)
 have:ex (CC d) topN n5.body [some (aA p),none,none,none] σ=.ret (.ref σ.length) [some (aA p),some (.ref σ.length),x',y'] (σ++[.ds (ba p)]):=by
  refine (aa (a:=pA) (ρ':=[some (aA p),some (.ref σ.length),none,none]) (σ':=σ++[.ds []]) rfl).trans ((aa (bL (ys:=p.map ae.pv) (σ₁:=σ++[.ds []]) rfl e)).trans ?_)
  exact aj (av rfl)
 exact (congrArg aM this).trans rfl
end
end Mine
namespace Mine
open PySem
section
variable {d:Nat} {σ:ab}
theorem adE {ns:List Str}:(ns.map PV.str).mapM (bA 16 σ)=some (ns.map PyData.str):=by
 induction ns with
 | nil=>rfl
 | cons n ns ih=>rw [List.map_cons,List.mapM_cons,ih]; rfl
theorem aei {ns:List Str} {g:Str}:iL σ (.str g) (ns.map .str)=some (decide (g ∈ ns)):=by
 unfold iL
 rw [adE]
 show some ((ns.map PyData.str).any fun y=>PyData.eqv y (.str g))=_
 congr 1
 rw [List.any_map]
 induction ns with
 | nil=>rfl
 | cons n ns ih =>
  rw [List.any_cons,ih]
  show (n == g || decide (g ∈ ns))=_
  by_cases q:n=g
  ·subst q; simp
  ·rw [beq_eq_false_iff_ne.mpr q]
   by_cases q2:g ∈ ns
   ·simp [q2]
   ·rw [decide_eq_false q2,decide_eq_false (by simp [q2]; exact fun z=>q z.symm)]; rfl
theorem lj {r:Nat} {ns:List Str} {g:Str} (h:σ[r]?=some (.lst (ns.map .str))):bp .notin (.str g) (.ref r) σ=.ok (!decide (g ∈ ns)) σ:=by
 show ac.ofOpt ((cj (.str g) (.ref r) σ).map (!·)) σ=_
 have:cj (.str g) (.ref r) σ=some (decide (g ∈ ns)):=by
  unfold cj
  dsimp only
  rw [h]
  exact aei
 rw [this]; rfl
theorem xQ {r:Nat} {es:List (Str × PV)} {g:Str} (h:σ[r]?=some (.ds es)):bp .notin (.str g) (.ref r) σ=.ok (!decide (g ∈ es.map (·.1))) σ:=by
 show ac.ofOpt ((cj (.str g) (.ref r) σ).map (!·)) σ=_
 have:cj (.str g) (.ref r) σ=some (decide (g ∈ es.map (·.1))):=by
  unfold cj
  dsimp only
  rw [h]
  exact congrArg some afe
 rw [this]; rfl
noncomputable def bE (G acc:List Str) (n:Str):List Str:=if (!decide (n ∈ G) && !decide (n ∈ acc))=true then acc++[n] else acc
noncomputable def wS (G ns:List Str):List Str:=ns.foldl (bE G) []
theorem nN {G acc:List Str} {n:Str}:(bE G acc n).length <= acc.length + 1:=by
 unfold bE; split
 ·simp
 ·(exact Nat.le_add_right _ _)
theorem wR {G:List Str}:∀ (ns acc:List Str),(ns.foldl (bE G) acc).length <= acc.length + ns.length:=by
 intro ns
 induction ns with
 | nil=>intro acc; exact Nat.le_refl _
 | cons n ns ih =>
  intro acc
  rw [List.foldl_cons,List.length_cons]
  have h1:=ih (bE G acc n)
  have h2:=nN (G:=G) (acc:=acc) (n:=n)
  (grind)
theorem ab2 {τ:ab} {xs:List PV} {v:PV} (h:xs.length < 1000):mU .append (.ref τ.length) [v] (τ++[.lst xs])=.ok .none (τ++[.lst (xs++[v])]):=sq h
theorem aiF {pl s:PV} {r:Nat} {es:List (Str × PV)} {τ:ab} {w:Option PV} (hr:τ[r]?=some (.ds es)):∀ (ns:List Str) (y:Option PV) (acc:List Str),acc.length + ns.length <= 900 ->
  ∃ y',aV none (bw 4) (fun ρ σ=>ex (CC d) topN m7 ρ σ) (ns.map .str) [some pl,some (.ref r),some (.ref τ.length),some s,y,w] (τ++[.lst (acc.map .str)]) =
   .next [some pl,some (.ref r),some (.ref τ.length),some s,y',w] (τ++[.lst ((ns.foldl (bE (es.map (·.1))) acc).map .str)]):=by
 intro ns
 induction ns with
 | nil=>intro y acc _; exact ⟨y,bB⟩
 | cons n ns ih =>
  intro y acc hl
  rw [List.length_cons] at hl
  obtain ⟨y',e⟩:=ih (some (.str n)) (bE (es.map (·.1)) acc n) (by have:=nN (G:=es.map (·.1)) (acc:=acc) (n:=n); (grind))
  refine ⟨y',(a5 (ρ₁:=[some pl,some (.ref r),some (.ref τ.length),some s,some (.str n),w]) (ρ₂:=[some pl,some (.ref r),some (.ref τ.length),some s,some (.str n),w]) (σ₂:=τ++[.lst ((bE (es.map (·.1)) acc n).map .str)]) rfl ?_).trans e⟩
  have hr':(τ++[MO.lst (acc.map .str)])[r]?=some (.ds es):=by
   rw [List.getElem?_append_left (cS hr).1]; exact hr
  have t:tst (CC d) (.and (.cons (.cmp (.v 4) .notin (.v 1)) (.cons (.cmp (.v 4) .notin (.v 2)) .nil))) [some pl,some (.ref r),some (.ref τ.length),some s,some (.str n),w] (τ++[.lst (acc.map .str)])=.ok (!decide (n ∈ es.map (·.1)) && !decide (n ∈ acc)) (τ++[.lst (acc.map .str)]):=
   eN (ey (aU (x:=.str n) (y:=.ref r) (σ₁:=τ++[.lst (acc.map .str)]) (σ₂:=τ++[.lst (acc.map .str)]) rfl rfl (xQ hr')) fun zz=>dQ (aU (x:=.str n) (y:=.ref τ.length) (σ₁:=τ++[.lst (acc.map .str)]) (σ₂:=τ++[.lst (acc.map .str)]) rfl rfl (lj c6)))
  unfold bE
  cases hq:(!decide (n ∈ es.map (·.1)) && !decide (n ∈ acc)) with
  | false =>
   rw [hq] at t
   exact (aa (ah t)).trans az
  | true =>
   rw [hq] at t
   rw [if_pos rfl]
   refine (aa ((aI t).trans ((aa (bR (fA (m:=.append) (x:=.ref τ.length) (σ₁:=τ++[.lst (acc.map .str)]) rfl ?_ (y:=.str n) (σ₂:=τ++[.lst (acc.map .str)]) rfl (ab2 (by rw [List.length_map]; (grind)))))).trans ?_))).trans az
   ·exact j5 (.inl rfl)
   ·rw [List.map_append]; exact az
theorem ahC {pl:PV} {r:Nat} {es:List (Str × PV)} {τ:ab} {w:Option PV} (hr:τ[r]?=some (.ds es)):∀ (p:List ae) (x y:Option PV) (acc:List Str),acc.length + 4 * p.length <= 900->(∀ s ∈ p,s.needs.length <= 4) ->
  ∃ x' y',aV none (bw 3) (fun ρ σ=>ex (CC d) topN qy ρ σ) (p.map ae.pv) [some pl,some (.ref r),some (.ref τ.length),x,y,w] (τ++[.lst (acc.map .str)]) =
   .next [some pl,some (.ref r),some (.ref τ.length),x',y',w] (τ++[.lst (((p.flatMap (·.needs)).foldl (bE (es.map (·.1))) acc).map .str)]):=by
 intro p
 induction p with
 | nil=>intro x y acc _ _; exact ⟨x,y,bB⟩
 | cons s p ih =>
  intro x y acc hl h4
  have hs:=h4 s (by simp)
  rw [List.length_cons] at hl
  obtain ⟨y1,e1⟩:=aiF (d:=d) (pl:=pl) (s:=s.pv) (w:=w) hr s.needs y acc (by grind)
  obtain ⟨x',y',e2⟩:=ih (some s.pv) y1 (s.needs.foldl (bE (es.map (·.1))) acc) (by have:=wR (G:=es.map (·.1)) s.needs acc; (grind)) fun t ht=>h4 t (bG _ ht)
  refine ⟨x',y',(a5 (ρ₁:=[some pl,some (.ref r),some (.ref τ.length),some s.pv,y,w]) (ρ₂:=[some pl,some (.ref r),some (.ref τ.length),some s.pv,y1,w]) (σ₂:=τ++[.lst ((s.needs.foldl (bE (es.map (·.1))) acc).map .str)]) rfl ?_).trans (e2.trans (by rw [List.flatMap_cons,List.foldl_append]))⟩
  exact (aa (bL (ys:=s.needs.map .str) (σ₁:=τ++[.lst (acc.map .str)]) rfl e1)).trans az
theorem afT {p:List ae} (h:bx p):aJ PP topN (d + 2) mW [aA p] σ=.ok (.ref (σ.length + 1)) (σ++[.ds (ba p),.lst ((wS (p.flatMap (·.gives)) (p.flatMap (·.needs))).map .str)]):=by
 rw [a6 (fn:=rM) rfl rfl]
 have hr:(σ++[MO.ds (ba p)])[σ.length]?=some (.ds (ba p)):=by simp
 obtain ⟨x',y',e⟩:=ahC (d:=d + 1) (pl:=aA p) (w:=none) hr p none none [] (by show 0 + 4 * p.length <= 900; have:=h.most; (grind)) fun s hs=>(h.steps s hs).needs4
 rw [tB] at e
 have hl:(σ++[MO.ds (ba p)]).length=σ.length + 1:=by simp
 rw [hl] at e
 have:ex (CC (d + 1)) topN rM.body [some (aA p),none,none,none,none,none] σ=.ret (.ref (σ.length + 1)) [some (aA p),some (.ref σ.length),some (.ref (σ.length + 1)),x',y',none] (σ++[.ds (ba p),.lst ((wS (p.flatMap (·.gives)) (p.flatMap (·.needs))).map .str)]):=by
  refine (aa (a:=rL) (ρ':=[some (aA p),some (.ref σ.length),none,none,none,none]) (σ':=σ++[.ds (ba p)]) (aC (a7 (x:=aA p) (σ₁:=σ) rfl (xZ h)))).trans ?_
  refine (aa (a:=rK) (ρ':=[some (aA p),some (.ref σ.length),some (.ref (σ++[MO.ds (ba p)]).length),none,none,none]) (σ':=σ++[.ds (ba p)]++[.lst []]) rfl).trans ?_
  rw [hl]
  refine (aa (bL (ys:=p.map ae.pv) (σ₁:=σ++[.ds (ba p)]++[.lst []]) rfl e)).trans ((aj (av rfl)).trans ?_)
  rw [List.append_assoc]; rfl
 exact (congrArg aM this).trans rfl
end
end Mine
namespace Mine
open PySem
section
variable {d:Nat} {σ:ab}
theorem af5 {pl:PV} {τ:ab} {u w:Option PV}:∀ (p:List ae) (x:Option PV) (acc:List Str),acc.length + 3 * p.length <= 900->(∀ s ∈ p,s.gives.length <= 3) ->
  ∃ x',aV none (bw 2) (fun ρ σ=>ex (CC d) topN kX ρ σ) (p.map ae.pv) [some pl,some (.ref τ.length),x,u,w] (τ++[.lst (acc.map .str)]) =
   .next [some pl,some (.ref τ.length),x',u,w] (τ++[.lst ((acc++p.flatMap (·.gives)).map .str)]):=by
 intro p
 induction p with
 | nil=>intro x acc _ _; exact ⟨x,by simpa using bB⟩
 | cons s p ih =>
  intro x acc hl h3
  have hg:=h3 s (by simp)
  rw [List.length_cons] at hl
  obtain ⟨x',e⟩:=ih (some s.pv) (acc++s.gives) (by rw [List.length_append]; (grind)) fun t ht=>h3 t (bG _ ht)
  refine ⟨x',(a5 (ρ₁:=[some pl,some (.ref τ.length),some s.pv,u,w]) (ρ₂:=[some pl,some (.ref τ.length),some s.pv,u,w]) (σ₂:=τ++[.lst ((acc++s.gives).map .str)]) rfl ?_).trans (e.trans (by simp [List.flatMap_cons]))⟩
  refine (aa (bR (fA (m:=.extend) (x:=.ref τ.length) (σ₁:=τ++[.lst (acc.map .str)]) (σ₂:=τ++[.lst (acc.map .str)]) rfl (j5 (.inr (.inl rfl))) (y:=.tup (s.gives.map .str)) rfl ?_))).trans az
  show gB (.ref τ.length) (.tup (s.gives.map .str)) _=_
  unfold gB; dsimp only; rw [c6]; dsimp only
  rw [if_pos (by rw [List.length_map,List.length_map,aZ]; (grind)),ij,List.map_append]
theorem ajE {pl s:PV} {r:Nat} {G:List Str} {τ:ab} (hr:τ[r]?=some (.lst (G.map .str))):∀ (ns:List Str) (y:Option PV) (acc:List Str),acc.length + ns.length <= 900 ->
  ∃ y',aV none (bw 4) (fun ρ σ=>ex (CC d) topN jp ρ σ) (ns.map .str) [some pl,some (.ref r),some s,some (.ref τ.length),y] (τ++[.lst (acc.map .str)]) =
   .next [some pl,some (.ref r),some s,some (.ref τ.length),y'] (τ++[.lst ((ns.foldl (bE G) acc).map .str)]):=by
 intro ns
 induction ns with
 | nil=>intro y acc _; exact ⟨y,bB⟩
 | cons n ns ih =>
  intro y acc hl
  rw [List.length_cons] at hl
  obtain ⟨y',e⟩:=ih (some (.str n)) (bE G acc n) (by have:=nN (G:=G) (acc:=acc) (n:=n); (grind))
  refine ⟨y',(a5 (ρ₁:=[some pl,some (.ref r),some s,some (.ref τ.length),some (.str n)]) (ρ₂:=[some pl,some (.ref r),some s,some (.ref τ.length),some (.str n)]) (σ₂:=τ++[.lst ((bE G acc n).map .str)]) rfl ?_).trans e⟩
  have hr':(τ++[MO.lst (acc.map .str)])[r]?=some (.lst (G.map .str)):=by
   rw [List.getElem?_append_left (cS hr).1]; exact hr
  have t:tst (CC d) (.and (.cons (.cmp (.v 4) .notin (.v 1)) (.cons (.cmp (.v 4) .notin (.v 3)) .nil))) [some pl,some (.ref r),some s,some (.ref τ.length),some (.str n)] (τ++[.lst (acc.map .str)])=.ok (!decide (n ∈ G) && !decide (n ∈ acc)) (τ++[.lst (acc.map .str)]):=
   eN (ey (aU (x:=.str n) (y:=.ref r) (σ₁:=τ++[.lst (acc.map .str)]) (σ₂:=τ++[.lst (acc.map .str)]) rfl rfl (lj hr')) fun zz=>dQ (aU (x:=.str n) (y:=.ref τ.length) (σ₁:=τ++[.lst (acc.map .str)]) (σ₂:=τ++[.lst (acc.map .str)]) rfl rfl (lj c6)))
  unfold bE
  cases hq:(!decide (n ∈ G) && !decide (n ∈ acc)) with
  | false =>
   rw [hq] at t
   exact (aa (ah t)).trans az
  | true =>
   rw [hq] at t
   rw [if_pos rfl]
   refine (aa ((aI t).trans ((aa (bR (fA (m:=.append) (x:=.ref τ.length) (σ₁:=τ++[.lst (acc.map .str)]) rfl ?_ (y:=.str n) (σ₂:=τ++[.lst (acc.map .str)]) rfl (ab2 (by rw [List.length_map]; (grind)))))).trans ?_))).trans az
   ·exact j5 (.inl rfl)
   ·rw [List.map_append]; exact az
theorem aiT {pl:PV} {r:Nat} {G:List Str} {τ:ab} (hr:τ[r]?=some (.lst (G.map .str))):∀ (p:List ae) (x y:Option PV) (acc:List Str),acc.length + 4 * p.length <= 900->(∀ s ∈ p,s.needs.length <= 4) ->
  ∃ x' y',aV none (bw 2) (fun ρ σ=>ex (CC d) topN kW ρ σ) (p.map ae.pv) [some pl,some (.ref r),x,some (.ref τ.length),y] (τ++[.lst (acc.map .str)]) =
   .next [some pl,some (.ref r),x',some (.ref τ.length),y'] (τ++[.lst (((p.flatMap (·.needs)).foldl (bE G) acc).map .str)]):=by
 intro p
 induction p with
 | nil=>intro x y acc _ _; exact ⟨x,y,bB⟩
 | cons s p ih =>
  intro x y acc hl h4
  have hs:=h4 s (by simp)
  rw [List.length_cons] at hl
  obtain ⟨y1,e1⟩:=ajE (d:=d) (pl:=pl) (s:=s.pv) hr s.needs y acc (by grind)
  obtain ⟨x',y',e2⟩:=ih (some s.pv) y1 (s.needs.foldl (bE G) acc) (by have:=wR (G:=G) s.needs acc; (grind)) fun t ht=>h4 t (bG _ ht)
  refine ⟨x',y',(a5 (ρ₁:=[some pl,some (.ref r),some s.pv,some (.ref τ.length),y]) (ρ₂:=[some pl,some (.ref r),some s.pv,some (.ref τ.length),y1]) (σ₂:=τ++[.lst ((s.needs.foldl (bE G) acc).map .str)]) rfl ?_).trans (e2.trans (by rw [List.flatMap_cons,List.foldl_append]))⟩
  exact (aa (bL (ys:=s.needs.map .str) (σ₁:=τ++[.lst (acc.map .str)]) rfl e1)).trans az
theorem tu {p:List ae} (h:bx p):aJ PP topN (d + 1) bY [aA p] σ=.ok (.ref (σ.length + 1)) (σ++[.lst ((p.flatMap (·.gives)).map .str),.lst ((wS (p.flatMap (·.gives)) (p.flatMap (·.needs))).map .str)]):=by
 rw [a6 (fn:=kL) rfl rfl]
 obtain ⟨x1,e1⟩:=af5 (d:=d) (pl:=aA p) (τ:=σ) (u:=none) (w:=none) p none [] (by show 0 + 3 * p.length <= 900; have:=h.most; (grind)) fun s hs=>(h.steps s hs).gives3
 rw [List.nil_append] at e1
 generalize hG:p.flatMap (·.gives)=G at e1
 have hr:(σ++[MO.lst (G.map .str)])[σ.length]?=some (.lst (G.map .str)):=by simp
 obtain ⟨x',y',e⟩:=aiT (d:=d) (pl:=aA p) hr p x1 none [] (by show 0 + 4 * p.length <= 900; have:=h.most; (grind)) fun s hs=>(h.steps s hs).needs4
 have hl:(σ++[MO.lst (G.map .str)]).length=σ.length + 1:=by simp
 rw [hl] at e
 have:ex (CC d) topN kL.body [some (aA p),none,none,none,none] σ=.ret (.ref (σ.length + 1)) [some (aA p),some (.ref σ.length),x',some (.ref (σ.length + 1)),y'] (σ++[.lst (G.map .str),.lst ((wS G (p.flatMap (·.needs))).map .str)]):=by
  refine (aa (a:=l4) (ρ':=[some (aA p),some (.ref σ.length),none,none,none]) (σ':=σ++[.lst []]) rfl).trans ?_
  refine (aa (bL (ys:=p.map ae.pv) (σ₁:=σ++[.lst []]) rfl e1)).trans ?_
  refine (aa (a:=lZ) (ρ':=[some (aA p),some (.ref σ.length),x1,some (.ref (σ++[MO.lst (G.map .str)]).length),none]) (σ':=σ++[.lst (G.map .str)]++[.lst []]) rfl).trans ?_
  rw [hl]
  refine (aa (bL (ys:=p.map ae.pv) (σ₁:=σ++[.lst (G.map .str)]++[.lst []]) rfl e)).trans ((aj (av rfl)).trans ?_)
  rw [List.append_assoc]; rfl
 exact (congrArg aM this).trans rfl
theorem acz {n:Str} {c:Nat} {v:PV} {ρ:aq} {τ υ:ab} {fs:List (Str × PV)} (h:fs.length < 100):fM c (.inst c τ.length) n v ρ (τ++.ns fs::υ)=.next ρ (τ++.ns (cq n v fs)::υ):=by
 unfold fM
 dsimp only
 rw [if_pos rfl,c6]
 dsimp only
 rw [if_pos h,ij]
theorem aic {c k:Nat} {n:Str} {o x:X} {v:PV} {C:bn} {ρ:aq} {τ υ υ':ab} {fs:List (Str × PV)} (hx:ev C x ρ (τ++.ns fs::υ)=.ok v (τ++.ns fs::υ')) (ho:ev C o ρ (τ++.ns fs::υ')=.ok (.inst c τ.length) (τ++.ns fs::υ')) (h:fs.length < 100) :
  ex C k (.asgAttr c o n x) ρ (τ++.ns fs::υ)=.next ρ (τ++.ns (cq n v fs)::υ'):=by
 show (ev C x ρ (τ++.ns fs::υ)).toS ρ (fun v σ=>(ev C o ρ σ).toS ρ fun o σ=>fM c o n v ρ σ)=_
 rw [hx]
 show (ev C o ρ (τ++.ns fs::υ')).toS ρ (fun o σ=>fM c o n v ρ σ)=_
 rw [ho]
 exact acz h
end
end Mine
namespace Mine
open PySem
section
variable {d:Nat} {σ:ab}
theorem aia {s:ae} (h:dg s):ads s:=by
 have k:∀ n,di n->n.length <= ao:=fun n q=>aE q.len (by decide)
 exact ⟨k _ h.name,fun n hn=>k n (h.needs n hn),aE h.needs4 (by decide),fun n hn=>k n (h.gives n hn),aE h.gives3 (by decide)⟩
theorem ad0 {p:List ae} (h:bx p):∃ τ,aJ PP topN (d + 4) ir [aA p] σ=.ok (.bool true) (σ++τ):=by
 obtain ⟨τ,e⟩:=h6x (d:=d) (σ:=σ) (fun s hs=>aia (h.steps s hs)) (aE h.most (by decide))
 rw [ad1.mpr h] at e
 exact ⟨τ,e⟩
end
end Mine
namespace Mine
open PySem
noncomputable def oN (p:List ae) (n:Nat) (g o h gn od:Nat):List (Str × PV):=[("plan",aA p),("turns",.int n),("givers",.ref g),("outer",.ref o),("here",.ref h),("gone",.ref gn),("order",.ref od)]
noncomputable def bZ (p:List ae):List Str:=wS (p.flatMap (·.gives)) (p.flatMap (·.needs))
structure tQ (p:List ae) (n:Nat) (es:List ((Str × Int) × PV)) (i g o h gn od:Nat) (σ:ab):Prop where
 ns:σ[i]?=some (.ns (oN p n g o h gn od))
 gv:σ[g]?=some (.ds (ba p))
 ot:σ[o]?=some (.lst ((bZ p).map .str))
 hr:σ[h]?=some (.dp es)
 ne:h ≠ i/\h ≠ g/\h ≠ o
theorem tQ.more {p:List ae} {n:Nat} {es:List ((Str × Int) × PV)} {i g o h gn od:Nat} {σ τ:ab} (b:tQ p n es i g o h gn od σ):tQ p n es i g o h gn od (σ++τ):=by
 have k:∀ {j:Nat} {m:MO},σ[j]?=some m->(σ++τ)[j]?=some m:=fun {j m} e=>by rw [List.getElem?_append_left (cS e).1]; exact e
 exact ⟨k b.ns,k b.gv,k b.ot,k b.hr,b.ne⟩
theorem tQ.other {p:List ae} {n:Nat} {es:List ((Str × Int) × PV)} {i g o h gn od j:Nat} {m:MO} {σ:ab} (b:tQ p n es i g o h gn od σ) (hj:j ≠ i/\j ≠ g/\j ≠ o/\j ≠ h):tQ p n es i g o h gn od (σ.set j m):=by
 have k:∀ {a:Nat},j ≠ a->(σ.set j m)[a]?=σ[a]?:=fun {a} e=>List.getElem?_set_ne e
 exact ⟨(k hj.1).trans b.ns,(k hj.2.1).trans b.gv,(k hj.2.2.1).trans b.ot,(k hj.2.2.2).trans b.hr,b.ne⟩
theorem tQ.put {p:List ae} {n:Nat} {es es':List ((Str × Int) × PV)} {i g o h gn od:Nat} {σ:ab} (b:tQ p n es i g o h gn od σ):tQ p n es' i g o h gn od (σ.set h (.dp es')):=by
 have k:∀ {a:Nat},h ≠ a->(σ.set h (.dp es'))[a]?=σ[a]?:=fun {a} e=>List.getElem?_set_ne e
 exact ⟨(k b.ne.1).trans b.ns,(k b.ne.2.1).trans b.gv,(k b.ne.2.2).trans b.ot,List.getElem?_set_self (cS b.hr).1,b.ne⟩
theorem acN:(("turns" : Str) ∉ (["plan"]:List Str))/\(("givers" : Str) ∉ (["plan", "turns"]:List Str))/\(("outer" : Str) ∉ (["plan", "turns", "givers"]:List Str))/\(("here" : Str) ∉ (["plan", "turns", "givers", "outer"]:List Str)) ∧
  (("gone" : Str) ∉ (["plan", "turns", "givers", "outer", "here"]:List Str))/\(("order" : Str) ∉ (["plan", "turns", "givers", "outer", "here", "gone"]:List Str)):=by decide +kernel
section
variable {d:Nat} {σ:ab}
theorem agh {p:List ae} {n:Nat} (h:bx p) (h1:1 <= n) (h2:n <= 200):∃ (υ:ab) (g o hr gn od:Nat),aJ PP topN (d + 5) hW [.inst af σ.length,aA p,.int n] (σ++[.ns []])=.ok .none (σ++υ)/\tQ p n [] σ.length g o hr gn od (σ++υ)/\σ.length < g/\σ.length < o/\σ.length < hr/\(σ.length < g/\g < o/\o < hr/\hr < gn/\gn < od)/\(σ++υ)[gn]?=some (.dp [])/\(σ++υ)[od]?=some (.lst []):=by
 obtain ⟨τ,hp⟩:=ad0 (d:=d) (σ:=σ++[.ns []]) h
 rw [a6 (fn:=ic) rfl rfl]
 obtain ⟨f1,f2,f3,f4,f5,f6⟩:=acN
 generalize lO:([some (.inst af σ.length),some (aA p),some (.int n),none,none,none,none,none,none,none]:aq)=ρ
 have o0:∀ {st:ab},ev (CC (d + 4)) (.v 0) ρ st=.ok (.inst af σ.length) st:=fun {st}=>by subst lO; rfl
 have o1:∀ {st:ab},ev (CC (d + 4)) (.v 1) ρ st=.ok (aA p) st:=fun {st}=>by subst lO; rfl
 have o2:∀ {st:ab},ev (CC (d + 4)) (.v 2) ρ st=.ok (.int n) st:=fun {st}=>by subst lO; rfl
 have s0:ex (CC (d + 4)) topN jw ρ (σ++[.ns []])=.next ρ (σ++.ns []::τ):=by
  have c1:ev (CC (d + 4)) (.call ir (.cons (.v 1) .nil)) ρ (σ++[.ns []])=.ok (.bool true) (σ++.ns []::τ):=by
   have c:ev (CC (d + 4)) (.call ir (.cons (.v 1) .nil)) ρ (σ++[.ns []])=.ok (.bool true) (σ++[.ns []]++τ):=a7 o1 hp
   rw [List.append_assoc] at c; exact c
  exact (ah (cT (q:=true) (dB c1)))
 have s1:ex (CC (d + 4)) topN jv ρ (σ++.ns []::τ)=.next ρ (σ++.ns []::τ):=by
  have c:aJ PP topN (d + 4) dF [.int n,.int 1,.int 200] (σ++.ns []::τ)=.ok (.bool true) (σ++.ns []::τ):=by
   rw [ahe,decide_eq_true (show (1:Int) <= n from Int.ofNat_le.mpr h1),decide_eq_true (show (n:Int) <= 200 from Int.ofNat_le.mpr h2)]; rfl
  exact (ah (cT (q:=true) (dB (gC (f:=dF) (y:=.int 1) (z:=.int 200) (σ₂:=σ++.ns []::τ) (σ₃:=σ++.ns []::τ) o2 rfl rfl c))))
 have at_:∀ {k:Str} {v:PV} {fs:List (Str × PV)} {υ υ':ab} {x:X},ev (CC (d + 4)) x ρ (σ++.ns fs::υ)=.ok v (σ++.ns fs::υ')->k ∉ fs.map (·.1)->fs.length < 100->ex (CC (d + 4)) topN (.asgAttr af (.v 0) k x) ρ (σ++.ns fs::υ)=.next ρ (σ++.ns (fs++[(k,v)])::υ'):=fun {k v fs υ υ' x} hx hk hl=>by
  rw [<- aaK hk]
  exact aic hx o0 hl
 have s2:=at_ (k := "plan") (fs:=[]) (υ:=τ) o1 (by simp) (by decide)
 have s3:=at_ (k := "turns") (fs:=[("plan",aA p)]) (υ:=τ) o2 f1 (by simp)
 have app:∀ {a b:ab} {m:MO},(σ++m::a)++b=σ++m::(a++b):=fun {a b m}=>by rw [List.append_assoc]; rfl
 have len:∀ {a:ab} {m:MO},(σ++m::a).length=σ.length + a.length + 1:=fun {a m}=>by rw [List.length_append,List.length_cons]; rfl
 have cv:∀ {x:X} {k:Nat} {a b:ab} {m:MO},ev (CC (d + 4)) x ρ (σ++m::a)=.ok (.ref ((σ++m::a).length + k)) ((σ++m::a)++b)->ev (CC (d + 4)) x ρ (σ++m::a)=.ok (.ref (σ.length + a.length + 1 + k)) (σ++m::(a++b)):=fun {x k a b m} c=>by
  rw [len,app] at c; exact c
 have s4:=at_ (k := "givers") (x:=.call jS (.cons (.v 1) .nil)) (fs:=[("plan",aA p),("turns",.int n)]) (υ:=τ) (υ':=τ++[.ds (ba p)]) (v:=.ref (σ.length + τ.length + 1)) (cv (k:=0) (a7 o1 (xZ (d:=d + 3) h))) f2 (by simp)
 have s5:=at_ (k := "outer") (x:=.call mW (.cons (.v 1) .nil)) (fs:=[("plan",aA p),("turns",.int n),("givers",.ref (σ.length + τ.length + 1))]) (υ:=τ++[.ds (ba p)]) (υ':=τ++[.ds (ba p)]++[.ds (ba p),.lst ((bZ p).map .str)]) (v:=.ref (σ.length + (τ++[MO.ds (ba p)]).length + 1 + 1)) (cv (k:=1) (a:=τ++[.ds (ba p)]) (b:=[.ds (ba p),.lst ((bZ p).map .str)]) (a7 (f:=mW) o1 (afT (d:=d + 2) h))) f3 (by simp)
 generalize agi:τ++[MO.ds (ba p)]++[.ds (ba p),.lst ((bZ p).map .str)]=gO at s5
 generalize hg:σ.length + τ.length + 1=g at s4 s5
 generalize ho:σ.length + (τ++[MO.ds (ba p)]).length + 1 + 1=o at s5
 have s6:=at_ (k := "here") (x:=.dnew true) (fs:=[("plan",aA p),("turns",.int n),("givers",.ref g),("outer",.ref o)]) (υ:=gO) (υ':=gO++[.dp []]) (v:=.ref (σ.length + gO.length + 1)) (cv (k:=0) rfl) f4 (by simp)
 generalize hh:σ.length + gO.length + 1=hr at s6
 have s7:=at_ (k := "gone") (x:=.dnew true) (fs:=[("plan",aA p),("turns",.int n),("givers",.ref g),("outer",.ref o),("here",.ref hr)]) (υ:=gO++[.dp []]) (υ':=gO++[.dp []]++[.dp []]) (v:=.ref (σ.length + (gO++[MO.dp []]).length + 1)) (cv (k:=0) rfl) f5 (by simp)
 generalize hgn:σ.length + (gO++[MO.dp []]).length + 1=gn at s7
 have s8:=at_ (k := "order") (x:=.lst false .nil) (fs:=[("plan",aA p),("turns",.int n),("givers",.ref g),("outer",.ref o),("here",.ref hr),("gone",.ref gn)]) (υ:=gO++[.dp []]++[.dp []]) (υ':=gO++[.dp []]++[.dp []]++[.lst []]) (v:=.ref (σ.length + (gO++[MO.dp []]++[MO.dp []]).length + 1)) (cv (k:=0) rfl) f6 (by simp)
 generalize hod:σ.length + (gO++[MO.dp []]++[MO.dp []]).length + 1=od at s8
 have body:ex (CC (d + 4)) topN ic.body ρ (σ++[.ns []])=.next ρ (σ++.ns (oN p n g o hr gn od)::(gO++[.dp []]++[.dp []]++[.lst []])):=
  (aa s0).trans ((aa s1).trans ((aa s2).trans ((aa s3).trans ((aa s4).trans ((aa s5).trans ((aa s6).trans ((aa s7).trans ((aa s8).trans az))))))))
 have l2:gO.length=τ.length + 3:=by subst agi; simp
 have ho':o=σ.length + τ.length + 3:=by subst ho; simp; (grind)
 have at2:∀ {j:Nat} {m:MO},gO[j]?=some m->(σ++.ns (oN p n g o hr gn od)::(gO++[.dp []]++[.dp []]++[.lst []]))[σ.length + j + 1]?=some m:=fun {j m} e=>by
  have hj:=(cS e).1
  rw [Nat.add_assoc,List.getElem?_append_right (Nat.le_add_right _ _),Nat.add_sub_cancel_left,List.getElem?_cons_succ,List.append_assoc,List.append_assoc,List.getElem?_append_left hj]; exact e
 have a0:σ.length < g:=hg ▸ Nat.lt_succ_of_le (Nat.le_add_right _ _)
 have a3:σ.length < o:=by rw [ho',Nat.add_assoc]; exact Nat.lt_add_of_pos_right (Nat.succ_pos _)
 have hh2:hr=σ.length + τ.length + 4:=by rw [<- hh,l2]; rfl
 have a1:g < hr:=by rw [hh2,<- hg]; exact Nat.add_lt_add_left (by decide) _
 have a2:o < hr:=by rw [hh2,ho']; exact Nat.lt_succ_self _
 refine ⟨_,g,o,hr,gn,od,by subst lO; exact (congrArg aM body).trans rfl,⟨?_,?_,?_,?_,?_⟩,?_⟩
 ·rw [List.getElem?_append_right (Nat.le_refl _),Nat.sub_self]; rfl
 ·have q:=at2 (j:=τ.length) (m:=.ds (ba p)) (by subst agi; simp)
  rw [hg] at q; exact q
 ·have q:=at2 (j:=τ.length + 2) (m:=.lst ((bZ p).map .str)) (by subst agi; simp)
  rw [show σ.length + (τ.length + 2) + 1=o from ho'.symm] at q; exact q
 ·rw [List.getElem?_append_right (Nat.le_of_lt (Nat.lt_trans a0 a1)),show hr - σ.length=gO.length + 1 from (by rw [<- hh,Nat.add_assoc,Nat.add_sub_cancel_left]),List.getElem?_cons_succ]
  simp
 ·exact ⟨Nat.ne_of_gt (Nat.lt_trans a0 a1),Nat.ne_of_gt a1,Nat.ne_of_gt a2⟩
 ·have hg2:gn=hr + 1:=by rw [<- hgn,<- hh,List.length_append]; rfl
  have ho2:od=gn + 1:=by rw [<- hod,<- hgn,List.length_append (bs:=[MO.dp []])]; rfl
  have go:g < o:=by rw [ho',<- hg]; exact Nat.add_lt_add_left (by decide) _
  have i2:∀ {k j:Nat} {m:MO} {l:ab},k=σ.length + j + 1->l[j]?=some m->(σ++.ns (oN p n g o hr gn od)::l)[k]?=some m:=fun {k j m l} hk e=>by
   rw [hk,Nat.add_assoc,List.getElem?_append_right (Nat.le_add_right _ _),Nat.add_sub_cancel_left,List.getElem?_cons_succ]; exact e
  refine ⟨a0,a3,Nat.lt_trans a0 a1,⟨a0,go,a2,hg2 ▸ Nat.lt_succ_self _,ho2 ▸ Nat.lt_succ_self _⟩,i2 (j:=gO.length + 1) ?_ ?_,i2 (j:=gO.length + 2) ?_ ?_⟩
  ·rw [hg2,<- hh]; rfl
  ·simp
  ·rw [ho2,hg2,<- hh]; rfl
  ·simp
end
theorem aa2 {G acc:List Str} {n x:Str}:x ∈ bE G acc n ↔ x ∈ acc\/(x=n/\n ∉ G):=by
 unfold bE
 by_cases h1:n ∈ G
 ·rw [decide_eq_true h1]
  exact ⟨.inl,fun h=>h.elim id fun z=>absurd h1 z.2⟩
 ·rw [decide_eq_false h1]
  by_cases h2:n ∈ acc
  ·rw [decide_eq_true h2]
   exact ⟨.inl,fun h=>h.elim id fun z=>z.1 ▸ h2⟩
  ·rw [decide_eq_false h2]
   show x ∈ acc++[n] ↔ _
   rw [List.mem_append,List.mem_singleton]
   exact ⟨fun h=>h.imp id fun z=>⟨z,h1⟩,fun h=>h.imp id fun z=>z.1⟩
theorem ahD {G:List Str} {x:Str}:∀ (ns acc:List Str),x ∈ ns.foldl (bE G) acc ↔ x ∈ acc\/(x ∈ ns/\x ∉ G):=by
 intro ns
 induction ns with
 | nil=>intro acc; exact ⟨.inl,fun h=>h.elim id fun z=>nomatch z.1⟩
 | cons n ns ih =>
  intro acc
  rw [List.foldl_cons,ih,aa2,List.mem_cons]
  constructor
  ·rintro ((h | ⟨rfl,h⟩) | h)
   ·exact .inl h
   ·exact .inr ⟨.inl rfl,h⟩
   ·exact .inr ⟨.inr h.1,h.2⟩
  ·rintro (h | ⟨rfl | h,h'⟩)
   ·exact .inl (.inl h)
   ·exact .inl (.inr ⟨rfl,h'⟩)
   ·exact .inr ⟨h,h'⟩
theorem tZ {p:List ae} {x:Str}:x ∈ bZ p ↔ x ∈ p.flatMap (·.needs)/\x ∉ p.flatMap (·.gives):=by
 unfold bZ wS
 rw [ahD]
 exact ⟨fun h=>h.elim (fun z=>nomatch z) id,.inr⟩
end Mine
namespace Mine
open PySem
theorem w6 {α:Type} {l:List α} (h:l.length=2):∃ a b,l=[a,b]:=by
 cases l with
 | nil=>contradiction
 | cons a l =>
  cases l with
  | nil=>exact nomatch Nat.succ.inj h
  | cons b l =>
   cases l with
   | nil=>exact ⟨a,b,rfl⟩
   | cons c l=>exact nomatch Nat.succ.inj (Nat.succ.inj h)
theorem w5 {α:Type} {l:List α} (h:l.length=3):∃ a b c,l=[a,b,c]:=by
 cases l with
 | nil=>contradiction
 | cons a l =>
  obtain ⟨b,c,rfl⟩:=w6 (Nat.succ.inj h)
  exact ⟨a,b,c,rfl⟩
section
variable {C:bn} {ρ:aq} {σ σ₁ σ₂:ab}
theorem cP {c i:Nat} {o:X} {n:Str} {v:PV} {fs:List (Str × PV)} (ho:ev C o ρ σ=.ok (.inst c i) σ₁) (hs:σ₁[i]?=some (.ns fs)) (hv:ai n fs=some v):ev C (.attr c o n) ρ σ=.ok v σ₁:=by
 rw [abX,ho,aB]
 unfold wB
 dsimp only
 rw [if_pos rfl,hs]
 dsimp only
 rw [hv]; rfl
theorem cC {c i f:Nat} {o args:X} {n:Str} {vs:List PV} {fs:List (Str × PV)} {r:ac PV} (ho:ev C o ρ σ=.ok (.inst c i) σ₁) (hs:σ₁[i]?=some (.ns fs)) (hn:ai n fs=none) (ha:evs C args ρ σ₁=.ok vs σ₂) (h:C.call f (.inst c i::vs) σ₂=r):ev C (.meth c f n o args) ρ σ=r:=by
 rw [abW,ho,aB]
 unfold mV
 dsimp only
 rw [if_pos rfl,hs]
 dsimp only
 rw [hn]
 dsimp only
 rw [ha]; exact h
end
section
variable {p:List ae} {n g o h gn od:Nat}
end
section
variable {C:bn} {ρ:aq} {σ:ab}
theorem adh {f:PV->ab->ac (Option PV)} {q:PV->Option PV}:∀ (xs:List PV),(∀ x ∈ xs,f x σ=.ok (q x) σ)->bM none f xs σ=.ok (xs.filterMap q) σ:=by
 intro xs
 induction xs with
 | nil=>intro _; exact if_pos trivial
 | cons x xs ih =>
  intro h
  refine (if_pos trivial).trans ?_
  rw [h x List.mem_cons_self]
  show (bM none f xs σ).bind _=_
  rw [ih fun y hy=>h y (bG _ hy)]
  show ac.ok (adg (q x) (xs.filterMap q)) σ=_
  rw [List.filterMap_cons]
  cases q x <;> rfl
theorem qe {t:Nat} {cap:List (Option Nat)} {elt cond it:X} {xs:List PV} (q:PV->Option PV) (hit:evIt C it ρ σ=.ok (xs,none) σ) (hl:xs.length <= ao)
  (hc:∀ x ∈ xs,tst C cond ((bt cap ρ).set t (some x)) σ=.ok (q x).isSome σ) (he:∀ x ∈ xs,∀ v,q x=some v->ev C elt ((bt cap ρ).set t (some x)) σ=.ok v σ) (hh:C.hd=false:=by first | rfl | assumption) :
  ev C (.comp true t cap elt cond it) ρ σ=.ok (.fl (xs.filterMap q)) σ:=by
 rw [iA,hh,hit]
 show eH xs.length (bM none (fun x σ=>((tst C cond ((bt cap ρ).set t (some x)) σ).bind fun b σ=>if b=true then (ev C elt ((bt cap ρ).set t (some x)) σ).bind fun v σ=>.ok (some v) σ else .ok none σ)) xs σ) _=_
 rw [adh (q:=q) xs fun x hx=>by
  show (tst C cond ((bt cap ρ).set t (some x)) σ).bind _=_
  rw [hc x hx,aB]
  cases hq:q x with
  | none=>rfl
  | some v =>
   show (ev C elt ((bt cap ρ).set t (some x)) σ).bind _=_
   rw [he x hx v hq]; rfl]
 exact pW (aE (List.length_filterMap_le _ _) hl)
theorem vT {r:Nat} {x:Str} {j:Int} {es:List ((Str × Int) × PV)} (h:σ[r]?=some (.dp es)):mU .get (.ref r) [.tup [.str x,.int j]] σ=.ok ((ai (x,j) es).getD .none) σ:=by
 show aal (.ref r) (.tup [.str x,.int j]) σ=_
 unfold aal; dsimp only; rw [h]; rfl
theorem vV {r:Nat} {es:List ((Str × Int) × PV)} (h:σ[r]?=some (.dp es)):ub .get (.ref r) σ=true:=by
 show vK (.ref r) σ=true
 unfold vK; dsimp only; rw [h]
theorem sO {r:Nat} {x:Str} {j:Int} {es:List ((Str × Int) × PV)} (h:σ[r]?=some (.dp es)):bp .isin (.tup [.str x,.int j]) (.ref r) σ=.ok (ai (x,j) es).isSome σ:=by
 show ac.ofOpt (cj (.tup [.str x,.int j]) (.ref r) σ) σ=_
 have:cj (.tup [.str x,.int j]) (.ref r) σ=some (ai (x,j) es).isSome:=by unfold cj; dsimp only; rw [h]; rfl
 rw [this]; rfl
theorem aix {r:Nat} {x:Str} {j:Int} {v:PV} {es:List ((Str × Int) × PV)} (h:σ[r]?=some (.dp es)) (hv:ai (x,j) es=some v):eP (.ref r) (.tup [.str x,.int j]) σ=.ok v σ:=by
 show pP (.ref r) (.tup [.str x,.int j]) σ=_
 unfold pP; dsimp only; rw [h]
 show ac.ofOpt (ai (x,j) es) σ=_
 rw [hv]; rfl
end
theorem xF {es:List ((Str × Int) × PV)} {k:Str × Int} {v:PV} (h:ai k es=none):cq k v es=es++[(k,v)]:=by
 unfold cq
 rw [if_neg]
 intro z
 obtain ⟨e,he,hk⟩:=List.any_eq_true.mp z
 unfold ai at h
 rw [Option.map_eq_none_iff,List.find?_eq_none] at h
 exact h e he hk
noncomputable def p7 (p:List ae) (x:Str):Option ae:=p.find? fun s=>decide (x ∈ s.gives)
noncomputable def dE:bD->Bool
 | .word w=>w == "later"
 | _=>false
noncomputable def gd (p:List ae) (x:Str) (j:Int):Bool:=
 match p7 p x with
 | some s=>!dE s.rule || decide (j > 0)
 | none=>false
theorem tO {x:Str}:∀ {p:List ae},ai x (ba p)=(p7 p x).map ae.pv:=by
 intro p
 induction p with
 | nil=>rfl
 | cons s p ih =>
  unfold p7
  rw [List.find?_cons]
  have e:ba (s::p)=(s.gives.map fun g=>(g,s.pv))++ba p:=rfl
  unfold ai at ih ⊢
  rw [e,List.find?_append]
  by_cases hx:x ∈ s.gives
  ·rw [decide_eq_true hx]
   have:∀ (l:List Str),x ∈ l->(l.map fun g=>(g,s.pv)).find? (fun e=>decide (e.1=x))=some (x,s.pv):=by
    intro l
    induction l with
    | nil=>intro h; contradiction
    | cons a l ih2 =>
     intro h
     rw [List.map_cons,List.find?_cons]
     by_cases ha:a=x
     ·subst ha; simp
     ·rw [decide_eq_false ha]
      exact ih2 ((List.mem_cons.mp h).resolve_left fun z=>ha z.symm)
   rw [this _ hx]; rfl
  ·rw [decide_eq_false hx]
   have:(s.gives.map fun g=>(g,s.pv)).find? (fun e=>decide (e.1=x))=none:=by
    rw [List.find?_eq_none]
    intro e he
    obtain ⟨g,hg,rfl⟩:=List.mem_map.mp he
    simp; rintro rfl; exact hx hg
   rw [this]
   exact ih
section
variable {σ:ab}
theorem ahY {r:Nat} {es:List (Str × PV)} {k:Str} (h:σ[r]?=some (.ds es)):bp .isin (.str k) (.ref r) σ=.ok (ai k es).isSome σ:=by
 show ac.ofOpt (cj (.str k) (.ref r) σ) σ=_
 have:cj (.str k) (.ref r) σ=some (ai k es).isSome:=by unfold cj; dsimp only; rw [h]
 rw [this]; rfl
theorem aiw {r:Nat} {es:List (Str × PV)} {k:Str} {v:PV} (h:σ[r]?=some (.ds es)) (hv:ai k es=some v):eP (.ref r) (.str k) σ=.ok v σ:=by
 show pP (.ref r) (.str k) σ=_
 unfold pP; dsimp only; rw [h]
 show ac.ofOpt (ai k es) σ=_
 rw [hv]; rfl
end
end Mine
namespace Mine
open PySem
noncomputable abbrev cQ:=List ((Str × Int) × PV)
structure Ix where
 i:Nat
 g:Nat
 o:Nat
 h:Nat
 gn:Nat
 od:Nat
structure Ix.Lt (X:Ix):Prop where
 a:X.i < X.g
 b:X.g < X.o
 c:X.o < X.h
 d:X.h < X.gn
 e:X.gn < X.od
structure Bo (p:List ae) (n:Nat) (es gs:cQ) (os:List PV) (X:Ix) (σ:ab):Prop where
 ns:σ[X.i]?=some (.ns (oN p n X.g X.o X.h X.gn X.od))
 gv:σ[X.g]?=some (.ds (ba p))
 ot:σ[X.o]?=some (.lst ((bZ p).map .str))
 hr:σ[X.h]?=some (.dp es)
 go:σ[X.gn]?=some (.dp gs)
 od:σ[X.od]?=some (.lst os)
 lt:X.Lt
structure gM (X:Ix) (σ σ':ab):Prop where
 len:σ.length <= σ'.length
 at_:∀ (j:Nat) (m:MO),j ≠ X.h->j ≠ X.gn->j ≠ X.od->σ[j]?=some m->σ'[j]?=some m
theorem gM.refl {X:Ix} {σ:ab}:gM X σ σ:=⟨Nat.le_refl _,fun zz zz zz zz zz h=>h⟩
theorem gM.trans {X:Ix} {a b c:ab} (k:gM X a b) (l:gM X b c):gM X a c:=⟨aE k.len l.len,fun j m h1 h2 h3 h=>l.at_ j m h1 h2 h3 (k.at_ j m h1 h2 h3 h)⟩
theorem bF {σ τ:ab} {j:Nat} {m:MO} (e:σ[j]?=some m):(σ++τ)[j]?=some m:=by rw [List.getElem?_append_left (cS e).1]; exact e
theorem aO {σ:ab} {j k:Nat} {m m':MO} (hj:k ≠ j) (e:σ[j]?=some m):(σ.set k m')[j]?=some m:=(List.getElem?_set_ne hj).trans e
theorem hY {σ:ab} {j:Nat} {m m':MO} (e:σ[j]?=some m):(σ.set j m')[j]?=some m':=List.getElem?_set_self (cS e).1
theorem gM.app {X:Ix} {σ τ:ab}:gM X σ (σ++τ):=⟨by rw [List.length_append]; exact Nat.le_add_right _ _,fun zz zz zz zz zz h=>bF h⟩
theorem gM.set {X:Ix} {σ:ab} {j:Nat} {m:MO} (hj:j=X.h\/j=X.gn\/j=X.od):gM X σ (σ.set j m):=⟨by rw [List.length_set]; exact Nat.le_refl _,fun k m' h1 h2 h3 h=>aO (fun q=>by
 subst q
 rcases hj with q | q | q
 ·exact h1 q
 ·exact h2 q
 ·exact h3 q) h⟩
section
variable {p:List ae} {n:Nat} {es gs:cQ} {os:List PV} {X:Ix} {σ:ab}
theorem Bo.more {τ:ab} (b:Bo p n es gs os X σ):Bo p n es gs os X (σ++τ):=⟨bF b.ns,bF b.gv,bF b.ot,bF b.hr,bF b.go,bF b.od,b.lt⟩
theorem Ix.Lt.hi (l:X.Lt):X.h ≠ X.i:=Nat.ne_of_gt (Nat.lt_trans l.a (Nat.lt_trans l.b l.c))
theorem Ix.Lt.hg (l:X.Lt):X.h ≠ X.g:=Nat.ne_of_gt (Nat.lt_trans l.b l.c)
theorem Ix.Lt.gi (l:X.Lt):X.gn ≠ X.i:=Nat.ne_of_gt (Nat.lt_trans l.a (Nat.lt_trans l.b (Nat.lt_trans l.c l.d)))
theorem Ix.Lt.gg (l:X.Lt):X.gn ≠ X.g:=Nat.ne_of_gt (Nat.lt_trans l.b (Nat.lt_trans l.c l.d))
theorem Ix.Lt.go (l:X.Lt):X.gn ≠ X.o:=Nat.ne_of_gt (Nat.lt_trans l.c l.d)
theorem Ix.Lt.oh (l:X.Lt):X.od ≠ X.h:=Nat.ne_of_gt (Nat.lt_trans l.d l.e)
theorem Ix.Lt.oo (l:X.Lt):X.od ≠ X.o:=Nat.ne_of_gt (Nat.lt_trans l.c (Nat.lt_trans l.d l.e))
theorem Ix.Lt.og (l:X.Lt):X.od ≠ X.g:=Nat.ne_of_gt (Nat.lt_trans l.b (Nat.lt_trans l.c (Nat.lt_trans l.d l.e)))
theorem Ix.Lt.oi (l:X.Lt):X.od ≠ X.i:=Nat.ne_of_gt (Nat.lt_trans l.a (Nat.lt_trans l.b (Nat.lt_trans l.c (Nat.lt_trans l.d l.e))))
theorem Bo.here {es':cQ} (b:Bo p n es gs os X σ):Bo p n es' gs os X (σ.set X.h (.dp es')):=
 ⟨aO b.lt.hi b.ns,aO b.lt.hg b.gv,aO (Nat.ne_of_gt b.lt.c) b.ot,hY b.hr,aO (Nat.ne_of_lt b.lt.d) b.go,aO b.lt.oh.symm b.od,b.lt⟩
theorem Bo.gone {gs':cQ} (b:Bo p n es gs os X σ):Bo p n es gs' os X (σ.set X.gn (.dp gs')):=
 ⟨aO b.lt.gi b.ns,aO b.lt.gg b.gv,aO b.lt.go b.ot,aO (Nat.ne_of_gt b.lt.d) b.hr,hY b.go,aO (Nat.ne_of_lt b.lt.e) b.od,b.lt⟩
theorem Bo.order {os':List PV} (b:Bo p n es gs os X σ):Bo p n es gs os' X (σ.set X.od (.lst os')):=
 ⟨aO b.lt.oi b.ns,aO b.lt.og b.gv,aO b.lt.oo b.ot,aO b.lt.oh b.hr,aO (Nat.ne_of_gt b.lt.e) b.go,hY b.od,b.lt⟩
end
noncomputable def dR:bD->Bool
 | .word w=>w == "choose"
 | _=>false
noncomputable def gu:PV->Bool
 | .int i=>i == 0
 | _=>false
noncomputable def sk (es:cQ) (s:ae) (t:Int):List Str:=
 if dR s.rule=true then (match s.needs with
  | [a,b,c]=>(match ai (a,t) es with
   | none=>[a]
   | some v=>if gu v=true then [b] else [c])
  | _=>[])
 else s.needs
noncomputable def cN (es:cQ) (s:ae) (t:Int):Option Str:=(sk es s t).find? fun x=>(ai (x,t) es).isNone
noncomputable def bc (es gs:cQ) (s:ae) (t:Int):Bool:=(ai (s.name,t) gs).isNone && (cN es s t).isNone
noncomputable def t5:Option Str->PV
 | some x=>.str x
 | none=>.none
noncomputable def d8 (es:cQ):Prop:=∀ k v,ai k es=some v->∃ i:Int,v=.int i/\0 <= i/\i <= 999999
section
variable {p:List ae} {n:Nat} {es gs:cQ} {os:List PV} {X:Ix} {σ:ab} {d:Nat}
theorem rB {x:Str} {t:Int} (b:Bo p n es gs os X σ):aJ PP topN (d + 1) b9 [.inst af X.i,.str x,.int t] σ=.ok (.bool (ai (x,t) gs).isSome) σ:=by
 rw [a6 (fn:=gJ) rfl rfl]
 have:ex (CC d) topN gJ.body [some (.inst af X.i),some (.str x),some (.int t)] σ=.ret (.bool (ai (x,t) gs).isSome) [some (.inst af X.i),some (.str x),some (.int t)] σ:=
  aj (av (ek (x:=.tup [.str x,.int t]) (σ₁:=σ) rfl (cP (i:=X.i) (σ₁:=σ) (v:=.ref X.gn) rfl b.ns rfl) (sO b.go)))
 exact (congrArg aM this).trans rfl
theorem t6 {r:Nat} {x:Str} {j:Int} {es:cQ} (h:σ[r]?=some (.dp es)):bp .notin (.tup [.str x,.int j]) (.ref r) σ=.ok (ai (x,j) es).isNone σ:=by
 show ac.ofOpt ((cj (.tup [.str x,.int j]) (.ref r) σ).map (!·)) σ=_
 have:cj (.tup [.str x,.int j]) (.ref r) σ=some (ai (x,j) es).isSome:=by unfold cj; dsimp only; rw [h]; rfl
 rw [this]
 cases ai (x,j) es <;> rfl
theorem abQ {bnd:PV->aq->Option aq} {f:aq->ab->bT} {x v:PV} {xs:List PV} {ρ ρ₁ ρ₂:aq} {σ₂:ab} (hb:bnd x ρ=some ρ₁) (h:f ρ₁ σ=.ret v ρ₂ σ₂):aV none bnd f (x::xs) ρ σ=.ret v ρ₂ σ₂:=by
 refine (if_pos trivial).trans ?_
 rw [hb]; show oK _ (f ρ₁ σ)=_; rw [h]; rfl
theorem aee {t:Int} {sp pl:PV} {y:Option PV} (b:Bo p n es gs os X σ):∀ (ns:List Str) (z:Option PV),∃ z',
  aV none (bw 5) (fun ρ σ=>ex (CC d) topN f9 ρ σ) (ns.map .str) [some (.inst af X.i),some sp,some (.int t),some pl,y,z] σ =
   match ns.find? fun x=>(ai (x,t) es).isNone with
   | some x=>.ret (.str x) [some (.inst af X.i),some sp,some (.int t),some pl,y,z'] σ
   | none=>.next [some (.inst af X.i),some sp,some (.int t),some pl,y,z'] σ:=by
 intro ns
 induction ns with
 | nil=>intro z; exact ⟨z,bB⟩
 | cons x ns ih =>
  intro z
  have tt:tst (CC d) (.cmp (.tup (.cons (.v 5) (.cons (.v 2) .nil))) .notin (.attr af (.v 0) "here")) [some (.inst af X.i),some sp,some (.int t),some pl,y,some (.str x)] σ=.ok (ai (x,t) es).isNone σ:=
   aU (x:=.tup [.str x,.int t]) (σ₁:=σ) rfl (cP (i:=X.i) (σ₁:=σ) (v:=.ref X.h) rfl b.ns rfl) (t6 b.hr)
  rw [List.find?_cons]
  cases hq:(ai (x,t) es).isNone with
  | true =>
   rw [hq] at tt
   exact ⟨some (.str x),abQ (ρ₁:=[some (.inst af X.i),some sp,some (.int t),some pl,y,some (.str x)]) rfl (aj (a:=fy) ((aI tt).trans (aj (av rfl))))⟩
  | false =>
   rw [hq] at tt
   obtain ⟨z',e⟩:=ih (some (.str x))
   exact ⟨z',(a5 (ρ₁:=[some (.inst af X.i),some sp,some (.int t),some pl,y,some (.str x)]) (ρ₂:=[some (.inst af X.i),some sp,some (.int t),some pl,y,some (.str x)]) (σ₂:=σ) rfl ((aa (a:=fy) (ah tt)).trans az)).trans e⟩
theorem ua {t:Int} {sp pl:PV} {y z:Option PV} {ns:List Str} (b:Bo p n es gs os X σ) (hp:evIt (CC d) (.v 3) [some (.inst af X.i),some sp,some (.int t),some pl,y,z] σ=.ok (ns.map .str,none) σ) :
  aM (ex (CC d) topN (.cons cK (.cons dc .nil)) [some (.inst af X.i),some sp,some (.int t),some pl,y,z] σ)=.ok (t5 (ns.find? fun x=>(ai (x,t) es).isNone)) σ:=by
 obtain ⟨z',e⟩:=aee (d:=d) (t:=t) (sp:=sp) (pl:=pl) (y:=y) b ns z
 have e2:=bL (C:=CC d) (n:=topN) (i:=5) (body:=f9) hp e
 cases hq:ns.find? fun x=>(ai (x,t) es).isNone with
 | none =>
  rw [hq] at e2
  exact (congrArg aM ((aa (a:=cK) e2).trans (aj (a:=dc) (av rfl)))).trans rfl
 | some x =>
  rw [hq] at e2
  exact (congrArg aM (aj (a:=cK) e2)).trans rfl
theorem mP {r:bD} {k g:Nat} (h:bX r k g):∃ w,(∀ σ,eP r.pv (.int 0) σ=.ok (.str w) σ)/\(w == "choose")=dR r/\(dR r=true->k=3):=by
 cases h <;> first | exact ⟨_,fun zz=>rfl,rfl,fun z=>by contradiction⟩ | exact ⟨_,fun zz=>rfl,rfl,fun zz=>rfl⟩ | exact ⟨"fixed",fun zz=>rfl,by decide +kernel,fun z=>by contradiction⟩ | skip
 all_goals refine ⟨_,fun zz=>rfl,rfl,fun z=>?_⟩
 all_goals (revert z; decide +kernel)
noncomputable def kg (_:ae):Prop:=True
theorem abD {s:ae} {t:Int} (b:Bo p n es gs os X σ) (hs:dg s) (hr:kg s) (hv:d8 es):aJ PP topN (d + 1) eE [.inst af X.i,s.pv,.int t] σ=.ok (t5 (cN es s t)) σ:=by
 rw [a6 (fn:=pI) rfl rfl]
 show aM (ex (CC d) topN (.cons gI (.cons de (.cons cK (.cons dc .nil)))) [some (.inst af X.i),some s.pv,some (.int t),none,none,none] σ)=_
 obtain ⟨w,hw1,hw2,hw3⟩:=mP hs.rule
 rw [aa (a:=gI) (ρ':=[some (.inst af X.i),some s.pv,some (.int t),some (.tup (s.needs.map .str)),none,none]) (σ':=σ) rfl]
 have tt:tst (CC d) (.cmp (.sub (.sub (.v 1) (.k (.int 1))) (.k (.int 0))) .eq (.k (.str "choose"))) [some (.inst af X.i),some s.pv,some (.int t),some (.tup (s.needs.map .str)),none,none] σ=.ok (dR s.rule) σ:=by
  rw [<- hw2]
  exact aU (x:=.str w) (σ₁:=σ) (bz (x:=s.rule.pv) (σ₁:=σ) rfl (y:=.int 0) (σ₂:=σ) rfl (hw1 σ)) (y:=.str "choose") (σ₂:=σ) rfl se
 unfold cN sk
 cases hc:dR s.rule with
 | false =>
  rw [hc] at tt
  rw [aa (a:=de) (ah tt),if_neg (by decide)]
  exact ua b rfl
 | true =>
  rw [hc] at tt
  rw [if_pos rfl]
  have h3:=hw3 hc
  obtain ⟨nm,rl,ns,gv⟩:=s
  dsimp only at h3 ⊢
  obtain ⟨x,y,z,rfl⟩:=w5 (show ns.length=3 from h3)
  dsimp only
  have g0:ev (CC d) (.me .get (.attr af (.v 0) "here") (.cons (.tup (.cons (.sub (.v 3) (.k (.int 0))) (.cons (.v 2) .nil))) .nil)) [some (.inst af X.i),some (ae.pv ⟨nm,rl,[x,y,z],gv⟩),some (.int t),some (.tup [.str x,.str y,.str z]),none,none] σ=.ok ((ai (x,t) es).getD .none) σ:=
   fA (cP (i:=X.i) (σ₁:=σ) (v:=.ref X.h) rfl b.ns rfl) (vV b.hr) (y:=.tup [.str x,.int t]) (σ₂:=σ) rfl (vT b.hr)
  have s1:∀ {o:bT},ex (CC d) topN (.cons dM (.cons dL .nil)) [some (.inst af X.i),some (ae.pv ⟨nm,rl,[x,y,z],gv⟩),some (.int t),some (.tup [.str x,.str y,.str z]),some ((ai (x,t) es).getD .none),none] σ=o->ex (CC d) topN de [some (.inst af X.i),some (ae.pv ⟨nm,rl,[x,y,z],gv⟩),some (.int t),some (.tup [.str x,.str y,.str z]),none,none] σ=o:=fun {o} ho =>
   (aI tt).trans ((aa (a:=jr) (aC g0)).trans ho)
  cases hx:ai (x,t) es with
  | none =>
   rw [hx] at s1
   refine (congrArg aM (aj (s1 (aj (a:=dM) ((aI (σ':=σ) rfl).trans (aj (a:=iz) (av (v:=.str x) (σ':=σ) rfl))))))).trans ?_
   show _=ac.ok (t5 ([x].find? fun x=>(ai (x,t) es).isNone)) σ
   rw [List.find?_cons,hx]; rfl
  | some v =>
   rw [hx] at s1
   obtain ⟨i,rfl,_⟩:=hv _ _ hx
   have t1:ex (CC d) topN dM [some (.inst af X.i),some (ae.pv ⟨nm,rl,[x,y,z],gv⟩),some (.int t),some (.tup [.str x,.str y,.str z]),some (.int i),none] σ=.next [some (.inst af X.i),some (ae.pv ⟨nm,rl,[x,y,z],gv⟩),some (.int t),some (.tup [.str x,.str y,.str z]),some (.int i),none] σ:=(ah (σ':=σ) rfl)
   have t2:tst (CC d) (.cmp (.v 4) .eq (.k (.int 0))) [some (.inst af X.i),some (ae.pv ⟨nm,rl,[x,y,z],gv⟩),some (.int t),some (.tup [.str x,.str y,.str z]),some (.int i),none] σ=.ok (i == 0) σ:=rfl
   show aM (ex (CC d) topN (.cons de (.cons cK (.cons dc .nil))) _ σ)=.ok (t5 ((if (i == 0)=true then [y] else [z]).find? _)) σ
   cases hi:(i == 0) with
   | true =>
    rw [hi] at t2
    refine (congrArg aM (aa (s1 ((aa t1).trans ((aa (a:=dL) ((aI t2).trans ((aa (a:=iw) (aC (v:=.tup [.str y]) (σ':=σ) rfl)).trans az))).trans az))))).trans ?_
    exact ua (ns:=[y]) b rfl
   | false =>
    rw [hi] at t2
    refine (congrArg aM (aa (s1 ((aa t1).trans ((aa (a:=dL) ((pJ t2).trans ((aa (a:=iy) (aC (v:=.tup [.str z]) (σ':=σ) rfl)).trans az))).trans az))))).trans ?_
    exact ua (ns:=[z]) b rfl
theorem adW {s:ae} {t:Int} (b:Bo p n es gs os X σ) (hs:dg s) (hr:kg s) (hv:d8 es):aJ PP topN (d + 2) eS [.inst af X.i,s.pv,.int t] σ=.ok (.bool (bc es gs s t)) σ:=by
 rw [a6 (fn:=mD) rfl rfl]
 have e1:ev (CC (d + 1)) (.meth af b9 "has_fired" (.v 0) (.cons (.sub (.v 1) (.k (.int 0))) (.cons (.v 2) .nil))) [some (.inst af X.i),some s.pv,some (.int t)] σ=.ok (.bool (ai (s.name,t) gs).isSome) σ:=
  cC (i:=X.i) (σ₁:=σ) (σ₂:=σ) (vs:=[.str s.name,.int t]) rfl b.ns rfl rfl (rB b)
 have e2:ev (CC (d + 1)) (.meth af eE "missed" (.v 0) (.cons (.v 1) (.cons (.v 2) .nil))) [some (.inst af X.i),some s.pv,some (.int t)] σ=.ok (t5 (cN es s t)) σ:=
  cC (i:=X.i) (σ₁:=σ) (σ₂:=σ) (vs:=[s.pv,.int t]) rfl b.ns rfl rfl (abD b hs hr hv)
 have e3:ev (CC (d + 1)) (.not (.meth af b9 "has_fired" (.v 0) (.cons (.sub (.v 1) (.k (.int 0))) (.cons (.v 2) .nil)))) [some (.inst af X.i),some s.pv,some (.int t)] σ=.ok (.bool (ai (s.name,t) gs).isNone) σ:=by
  rw [aja,e1]
  cases ai (s.name,t) gs <;> rfl
 have e4:ev (CC (d + 1)) (.cmp (.meth af eE "missed" (.v 0) (.cons (.v 1) (.cons (.v 2) .nil))) .is (.k .none)) [some (.inst af X.i),some s.pv,some (.int t)] σ=.ok (.bool (cN es s t).isNone) σ:=
  ek e2 (y:=.none) (σ₂:=σ) rfl (by cases cN es s t <;> rfl)
 exact (congrArg aM (aj (a:=jt) (av (lw (sR e3 fun zz=>iB e4))))).trans rfl
end
end Mine
namespace Mine
open PySem
noncomputable def db (vs:List PV):List Int:=(bS vs).getD []
noncomputable def sI (l:List Int):Int:=l.foldl (fun a x=>a * x % 1000000) 1
noncomputable def gQ:List Int->Int
 | []=>0
 | x::l=>l.foldl min x
noncomputable def jQ:List Int->Int
 | []=>0
 | x::l=>l.foldl max x
theorem oq:∀ l:List Int,bS (l.map .int)=some l:=by
 intro l
 induction l with
 | nil=>rfl
 | cons x l ih=>show (bS (l.map .int)).map (x::·)=_; rw [ih]; rfl
theorem cU {l:List Int}:db (l.map .int)=l:=by unfold db; rw [oq]; rfl
section
variable {d:Nat} {σ:ab}
theorem adZ {pl:PV} {w:Option PV}:∀ (l:List Int) (a:Int) (z:Option PV),(0 <= a/\a <= 999999)->(∀ x ∈ l,0 <= x/\x <= 999999)->∃ z',aV none (bw 2) (fun ρ σ=>ex (CC d) topN qx ρ σ) (l.map .int) [some pl,some (.int a),z,w] σ=.next [some pl,some (.int (l.foldl (fun a x=>a * x % 1000000) a)),z',w] σ:=by
 intro l
 induction l with
 | nil=>intro a z _ _; exact ⟨z,bB⟩
 | cons x l ih =>
  intro a z ha hl
  have hb:0 <= a * x % 1000000/\a * x % 1000000 <= 999999:=⟨Int.emod_nonneg _ (by decide),Int.le_of_lt_add_one (Int.emod_lt_of_pos _ (by decide))⟩
  obtain ⟨z',e⟩:=ih (a * x % 1000000) (some (.int x)) hb fun y hy=>hl y (bG _ hy)
  refine ⟨z',(a5 (ρ₁:=[some pl,some (.int a),some (.int x),w]) (ρ₂:=[some pl,some (.int (a * x % 1000000)),some (.int x),w]) (σ₂:=σ) rfl ?_).trans e⟩
  refine (aa (a:=oO) (aC (ay (ay (x:=.int a) (σ₁:=σ) rfl (y:=.int x) (σ₂:=σ) rfl (mul_int (.inl ?_))) (y:=.int 1000000) (σ₂:=σ) rfl (a9 (by decide))))).trans az
  (grind)
theorem afO {l:List Int} (h:∀ x ∈ l,0 <= x/\x <= 999999):aJ PP topN (d + 1) xW [.fl (l.map .int)] σ=.ok (.int (sI l)) σ:=by
 rw [a6 (fn:=yc) rfl rfl]
 obtain ⟨z,e⟩:=adZ (d:=d) (σ:=σ) (pl:=.fl (l.map .int)) (w:=none) l 1 none (by decide) h
 exact (congrArg aM ((aa (a:=rI) (ρ':=[some (.fl (l.map .int)),some (.int 1),none,none]) (σ':=σ) rfl).trans ((aa (a:=rH) (bL (ys:=l.map .int) (σ₁:=σ) rfl e)).trans (aj (a:=rG) (av rfl))))).trans rfl
theorem uQ {l:List Int}:(a8 σ (.fl (l.map .int))).bind bS=some l:=oq l
theorem adI {l:List Int} (hl:l.length <= 1000) (h:∀ x ∈ l,0 <= x/\x <= 999999):cI .sum (.fl (l.map .int)) σ=.ok (.int l.sum) σ:=by
 show cE bS (fun l=>if l.length <= 1000/\l.all (fun x=>decide (x.natAbs < 2 ^ 40)) then ac.ok (PV.int l.sum) σ else .stuck) (.fl (l.map .int)) σ=_
 rw [gy uQ]
 refine if_pos ⟨hl,List.all_eq_true.mpr fun x hx=>decide_eq_true ?_⟩
 have:=h x hx
 (grind)
theorem aiM {x:Int} {l:List Int}:cI .min (.fl ((x::l).map .int)) σ=.ok (.int (gQ (x::l))) σ:=by
 show cE bS (fun l=>match l with
  | x::l=>ac.ok (PV.int (l.foldl min x)) σ
  | []=>.stuck) (.fl ((x::l).map .int)) σ=_
 rw [gy uQ]; rfl
theorem aiO {x:Int} {l:List Int}:cI .max (.fl ((x::l).map .int)) σ=.ok (.int (jQ (x::l))) σ:=by
 show cE bS (fun l=>match l with
  | x::l=>ac.ok (PV.int (l.foldl max x)) σ
  | []=>.stuck) (.fl ((x::l).map .int)) σ=_
 rw [gy uQ]; rfl
noncomputable def ii:bD->List PV->PV
 | .fixed v,_=>.int v
 | .word w,vs =>
  if w == ("sum" : Str) then .int ((db vs).sum % 1000000) else
  if w == ("times" : Str) then .int (sI (db vs)) else
  if w == ("least" : Str) then .int (gQ (db vs)) else
  if w == ("most" : Str) then .int (jQ (db vs)) else
  if w == ("choose" : Str) then (if gu (vs.getD 0 .none)=true then vs.getD 1 .none else vs.getD 2 .none) else
  vs.getD 0 .none
noncomputable def wI:bD->Bool
 | .word w=>w == "way"
 | _=>false
noncomputable def fN (r:bD) (vs:List PV) (k:Nat):List PV:=
 if wI r=true then (if gu (vs.getD 1 .none)=true then [vs.getD 0 .none,.none] else [.none,vs.getD 0 .none]) else List.replicate k (ii r vs)
noncomputable def bC (v:PV):Prop:=∃ i:Int,v=.int i/\0 <= i/\i <= 999999
noncomputable def mJ (r:bD) (vs:List PV):Prop:=if dR r=true then bC (vs.getD 0 .none)/\bC (if gu (vs.getD 0 .none)=true then vs.getD 1 .none else vs.getD 2 .none) else ∀ v ∈ vs,bC v
theorem dY:∀ {vs:List PV},(∀ v ∈ vs,bC v)->∃ l:List Int,vs=l.map .int/\∀ x ∈ l,0 <= x/\x <= 999999:=by
 intro vs
 induction vs with
 | nil=>intro _; exact ⟨[],rfl,fun x hx=>by contradiction⟩
 | cons v vs ih =>
  intro h
  obtain ⟨l,rfl,hl⟩:=ih fun w hw=>h w (bG _ hw)
  obtain ⟨i,rfl,hi⟩:=h v List.mem_cons_self
  exact ⟨i::l,rfl,fun x hx=>by
   rcases List.mem_cons.mp hx with rfl | hx
   ·exact hi
   ·exact hl x hx⟩
end
end Mine
namespace Mine
open PySem
section
variable {d:Nat} {σ:ab}
theorem bC.get {vs:List PV} {i:Nat} (h:∀ v ∈ vs,bC v) (hi:i < vs.length):∃ x:Int,vs.getD i .none=.int x/\vs[i]?=some (.int x):=by
 obtain ⟨x,hx,_⟩:=h vs[i] (List.getElem_mem hi)
 exact ⟨x,by rw [List.getD_eq_getElem?_getD,List.getElem?_eq_getElem hi]; exact hx,by rw [List.getElem?_eq_getElem hi,hx]⟩
theorem oG {vs:List PV} {i:Nat} {x:PV} (hl:vs.length <= 100) (h:vs[i]?=some x):eP (.fl vs) (.int (i:Nat)) σ=.ok x σ:=
 fL (aE hl (by decide)) (Int.natCast_nonneg i) (by rw [Int.toNat_natCast]; exact h)
theorem aig {a b c:PV} (ha:∃ i:Int,a=.int i):aJ PP topN (d + 1) aad [.fl [a,b,c]] σ=.ok (if gu a=true then b else c) σ:=by
 obtain ⟨i,rfl⟩:=ha
 rw [a6 (fn:=aaA) rfl rfl]
 have t:tst (CC d) (.cmp (.sub (.v 0) (.k (.int 0))) .eq (.k (.int 0))) [some (.fl [.int i,b,c])] σ=.ok (i == 0) σ:=rfl
 show aM (ex (CC d) topN (.cons jW (.cons n7 .nil)) [some (.fl [.int i,b,c])] σ)=.ok (if (i == 0)=true then b else c) σ
 cases hi:(i == 0) with
 | true =>
  rw [hi] at t
  exact (congrArg aM (aj (a:=jW) ((aI t).trans (aj (a:=qJ) (av (v:=b) (σ':=σ) rfl))))).trans rfl
 | false =>
  rw [hi] at t
  exact (congrArg aM ((aa (a:=jW) (ah t)).trans (aj (a:=n7) (av (v:=c) (σ':=σ) rfl)))).trans rfl
theorem ahu {r:bD} {vs:List PV} {k:Nat} (h:bX r vs.length k) (hw:wI r=false) (hl:vs.length <= 100) (h1:1 <= vs.length) (he:mJ r vs):aJ PP topN (d + 2) aac [r.pv,.fl vs] σ=.ok (ii r vs) σ:=by
 rw [a6 (fn:=aaq) rfl rfl]
 show aM (ex (CC (d + 1)) topN (.cons cX (.cons cW (.cons du (.cons d3 (.cons fj (.cons gT (.cons jT (.cons nU .nil)))))))) [some r.pv,some (.fl vs),none,none,none,none,none,none,none] σ)=_
 generalize hk:vs.length=m at h
 cases h with
 | sum _ _ =>
  obtain ⟨l,rfl,hv⟩:=dY (show ∀ v ∈ vs,bC v from he)
  have e:ev (CC (d + 1)) (.bin .mod (.b1 .sum (.v 1)) (.k (.int 1000000))) [some (bD.pv (.word "sum")),some (.fl (l.map .int)),some (.str "sum"),none,none,none,none,none,none] σ=.ok (.int (l.sum % 1000000)) σ:=
   ay (bO (x:=.fl (l.map .int)) (σ₁:=σ) rfl (adI (by rw [List.length_map] at hl; (exact aE (by assumption) (by decide))) hv)) (y:=.int 1000000) (σ₂:=σ) rfl (a9 (by decide))
  refine (congrArg aM ((aa (a:=cX) (aC (v:=.str "sum") (σ':=σ) rfl)).trans (aj (a:=cW) ((aI (σ':=σ) rfl).trans (aj (a:=qw) (av e)))))).trans ?_
  show ac.ok (PV.int (l.sum % 1000000)) σ=ac.ok (.int ((db (l.map .int)).sum % 1000000)) σ
  rw [cU]
 | times _ _ =>
  obtain ⟨l,rfl,hv⟩:=dY (show ∀ v ∈ vs,bC v from he)
  refine (congrArg aM ((aa (a:=cX) (aC (v:=.str "times") (σ':=σ) rfl)).trans ((aa (a:=cW) (ah (σ':=σ) rfl)).trans (aj (a:=du) ((aI (σ':=σ) rfl).trans (aj (a:=qv) (av (a7 (x:=.fl (l.map .int)) (σ₁:=σ) rfl (afO hv))))))))).trans ?_
  show ac.ok (PV.int (sI l)) σ=ac.ok (.int (sI (db (l.map .int)))) σ
  rw [cU]
 | least _ _ =>
  obtain ⟨l,rfl,hv⟩:=dY (show ∀ v ∈ vs,bC v from he)
  cases l with
  | nil=>exact absurd h1 (by decide)
  | cons x l =>
  refine (congrArg aM ((aa (a:=cX) (aC (v:=.str "least") (σ':=σ) rfl)).trans ((aa (a:=cW) (ah (σ':=σ) rfl)).trans ((aa (a:=du) (ah (σ':=σ) rfl)).trans
   (aj (a:=d3) ((aI (σ':=σ) rfl).trans (aj (a:=qu) (av (bO (x:=.fl ((x::l).map .int)) (σ₁:=σ) rfl aiM))))))))).trans ?_
  show ac.ok (PV.int (gQ (x::l))) σ=ac.ok (.int (gQ (db ((x::l).map .int)))) σ
  rw [cU]
 | most _ _ =>
  obtain ⟨l,rfl,hv⟩:=dY (show ∀ v ∈ vs,bC v from he)
  cases l with
  | nil=>exact absurd h1 (by decide)
  | cons x l =>
  refine (congrArg aM ((aa (a:=cX) (aC (v:=.str "most") (σ':=σ) rfl)).trans ((aa (a:=cW) (ah (σ':=σ) rfl)).trans ((aa (a:=du) (ah (σ':=σ) rfl)).trans ((aa (a:=d3) (ah (σ':=σ) rfl)).trans
   (aj (a:=fj) ((aI (σ':=σ) rfl).trans (aj (a:=qt) (av (bO (x:=.fl ((x::l).map .int)) (σ₁:=σ) rfl aiO)))))))))).trans ?_
  show ac.ok (PV.int (jQ (x::l))) σ=ac.ok (.int (jQ (db ((x::l).map .int)))) σ
  rw [cU]
 | later _ =>
  have hx:vs[0]?=some (vs.getD 0 .none):=by rw [List.getD_eq_getElem?_getD,List.getElem?_eq_getElem (show 0 < vs.length from h1)]; rfl
  exact (congrArg aM ((aa (a:=cX) (aC (v:=.str "later") (σ':=σ) rfl)).trans ((aa (a:=cW) (ah (σ':=σ) rfl)).trans ((aa (a:=du) (ah (σ':=σ) rfl)).trans ((aa (a:=d3) (ah (σ':=σ) rfl)).trans ((aa (a:=fj) (ah (σ':=σ) rfl)).trans
   ((aa (a:=gT) (ah (σ':=σ) rfl)).trans ((aa (a:=jT) (ah (σ':=σ) rfl)).trans (aj (a:=nU) (av (bz (x:=.fl vs) (σ₁:=σ) rfl (y:=.int ((0:Nat):Int)) (σ₂:=σ) rfl (oG hl hx)))))))))))).trans rfl
 | way=>contradiction
 | choose _ =>
  obtain ⟨i,hi,_⟩:=(show bC (vs.getD 0 .none) from And.left he)
  obtain ⟨a,b,c,rfl⟩:=w5 hk
  exact (congrArg aM ((aa (a:=cX) (aC (v:=.str "choose") (σ':=σ) rfl)).trans ((aa (a:=cW) (ah (σ':=σ) rfl)).trans ((aa (a:=du) (ah (σ':=σ) rfl)).trans ((aa (a:=d3) (ah (σ':=σ) rfl)).trans ((aa (a:=fj) (ah (σ':=σ) rfl)).trans
   ((aa (a:=gT) (ah (σ':=σ) rfl)).trans (aj (a:=jT) ((aI (σ':=σ) rfl).trans (aj (a:=qp) (av (a7 (x:=.fl [a,b,c]) (σ₁:=σ) rfl (aig ⟨i,hi⟩))))))))))))).trans rfl
 | fixed v _ _ _ _ =>
  exact (congrArg aM ((aa (a:=cX) (aC (v:=.str "fixed") (σ':=σ) rfl)).trans ((aa (a:=cW) (ah (σ':=σ) rfl)).trans ((aa (a:=du) (ah (σ':=σ) rfl)).trans ((aa (a:=d3) (ah (σ':=σ) rfl)).trans ((aa (a:=fj) (ah (σ':=σ) rfl)).trans
   (aj (a:=gT) ((aI (σ':=σ) rfl).trans (aj (a:=qr) (av (v:=.int v) (σ':=σ) rfl)))))))))).trans rfl
theorem afU {r:bD} {vs:List PV} {k:Nat} (h:bX r vs.length k) (hl:vs.length <= 100) (h1:1 <= vs.length) (hk:k <= 100) (he:mJ r vs):aJ PP topN (d + 3) rA [r.pv,.fl vs,.int (k:Nat)] σ=.ok (.fl (fN r vs k)) σ:=by
 rw [a6 (fn:=yd) rfl rfl]
 show aM (ex (CC (d + 2)) topN (.cons fU (.cons lS (.cons lR .nil))) [some r.pv,some (.fl vs),some (.int (k:Nat)),none,none,none] σ)=_
 have tt:tst (CC (d + 2)) (.cmp (.sub (.v 0) (.k (.int 0))) .eq (.k (.str "way"))) [some r.pv,some (.fl vs),some (.int (k:Nat)),none,none,none] σ=.ok (wI r) σ:=by
  generalize vs.length=m at h
  cases h <;> rfl
 unfold fN
 cases hw:wI r with
 | true =>
  rw [hw] at tt
  rw [if_pos rfl]
  generalize hm:vs.length=m at h
  cases h with
  | way =>
   obtain ⟨a,b,rfl⟩:=w6 hm
   obtain ⟨j,rfl,_⟩:=(show ∀ v ∈ [a,b],bC v from he) b (by simp)
   have t2:tst (CC (d + 2)) (.cmp (.sub (.v 1) (.k (.int 1))) .eq (.k (.int 0))) [some (bD.pv (.word "way")),some (.fl [a,.int j]),some (.int ((2:Nat):Int)),none,none,none] σ=.ok (j == 0) σ:=rfl
   show _=ac.ok (PV.fl (if (j == 0)=true then [a,.none] else [.none,a])) σ
   cases hj:(j == 0) with
   | true =>
    rw [hj] at t2
    exact (congrArg aM (aj (a:=fU) ((aI tt).trans (aj (a:=jC) ((aI t2).trans (aj (a:=lT) (av (v:=.fl [a,.none]) (σ':=σ) rfl))))))).trans rfl
   | false =>
    rw [hj] at t2
    exact (congrArg aM (aj (a:=fU) ((aI tt).trans ((aa (a:=jC) (ah t2)).trans (aj (a:=oP) (av (v:=.fl [.none,a]) (σ':=σ) rfl)))))).trans rfl
  | _=>contradiction
 | false =>
  rw [hw] at tt
  rw [if_neg (by decide)]
  have s1:ex (CC (d + 2)) topN lS [some r.pv,some (.fl vs),some (.int (k:Nat)),none,none,none] σ=.next [some r.pv,some (.fl vs),some (.int (k:Nat)),some (ii r vs),none,none] σ:=
   aC (cL (x:=r.pv) (y:=.fl vs) (σ₁:=σ) (σ₂:=σ) rfl rfl (ahu h hw hl h1 he))
  have rng:evIt (CC (d + 2)) (.range1 (.v 2)) [some r.pv,some (.fl vs),some (.int (k:Nat)),some (ii r vs),none,none] σ=.ok (aF 0 1 k,none) σ:=by
   show (if 0 <= (k:Int)/\(k:Int) <= ao then ac.ok (aF 0 1 (k:Int).toNat,none) σ else .stuck)=_
   rw [if_pos ⟨by (exact Int.natCast_nonneg _),by rw [aZ]; (grind)⟩]; rfl
  have c:ev (CC (d + 2)) rN [some r.pv,some (.fl vs),some (.int (k:Nat)),some (ii r vs),none,none] σ=.ok (.fl ((aF 0 1 k).map fun zz=>ii r vs)) σ:=
   eU (fun zz=>ii r vs) rng (by rw [aZ]; simp [aF]; (exact aE (by assumption) (by decide))) fun x zz=>rfl
  rw [List.map_const',show (aF 0 1 k).length=k by simp [aF]] at c
  exact (congrArg aM ((aa (a:=fU) (ah tt)).trans ((aa s1).trans (aj (a:=lR) (av c))))).trans rfl
end
end Mine
namespace Mine
open PySem
section
variable {p:List ae} {n:Nat} {es gs:cQ} {os:List PV} {X:Ix} {σ:ab} {d:Nat}
theorem lL {t:Int} (b:Bo p n es gs os X σ) (h0:0 <= t) (h1:t < n):aJ PP topN (d + 2) ei [.inst af X.i,.int t] σ=.ok .none σ:=by
 rw [a6 (fn:=k8) rfl rfl]
 have c:aJ PP topN (d + 1) dF [.int t,.int 0,.int ((n:Int) - 1)] σ=.ok (.bool true) σ:=by
  rw [ahe,decide_eq_true h0,decide_eq_true (show t <= (n:Int) - 1 by grind)]; rfl
 have tt:tst (CC (d + 1)) (.not (.call dF (.cons (.v 1) (.cons (.k (.int 0)) (.cons (.bin .sub (.attr af (.v 0) "turns") (.k (.int 1))) .nil))))) [some (.inst af X.i),some (.int t),none,none] σ=.ok (!true) σ:=
  cT (dB (gC (x:=.int t) (σ₁:=σ) rfl (y:=.int 0) (σ₂:=σ) rfl (ay (cP (i:=X.i) (σ₁:=σ) (v:=.int n) rfl b.ns rfl) (y:=.int 1) (σ₂:=σ) rfl sub_int) c))
 exact (congrArg aM ((aa (a:=jh) (ah tt)).trans az)).trans rfl
theorem adK {i:Nat} {s:ae}:∀ (q:List ae) (z:Option PV),s ∈ q->(q.map (·.name)).Nodup->∃ z',aV none (bw 2) (fun ρ σ=>ex (CC d) topN gF ρ σ) (q.map ae.pv) [some (.inst af i),some (.str s.name),z,none,none,none] σ=.ret s.pv [some (.inst af i),some (.str s.name),z',none,none,none] σ:=by
 intro q
 induction q with
 | nil=>intro z h _; contradiction
 | cons a q ih =>
  intro z h hn
  rw [List.map_cons,List.nodup_cons] at hn
  have tt:tst (CC d) (.cmp (.sub (.v 2) (.k (.int 0))) .eq (.v 1)) [some (.inst af i),some (.str s.name),some a.pv,none,none,none] σ=.ok (a.name == s.name) σ:=rfl
  by_cases ha:a.name=s.name
  ·have:a=s:=by
    rcases List.mem_cons.mp h with rfl | h
    ·rfl
    ·exact absurd (List.mem_map.mpr ⟨s,h,ha.symm⟩) hn.1
   subst this
   rw [beq_self_eq_true] at tt
   exact ⟨some a.pv,abQ (ρ₁:=[some (.inst af i),some (.str a.name),some a.pv,none,none,none]) rfl (aj (a:=dJ) ((aI tt).trans (aj (a:=fg) (av rfl))))⟩
  ·rw [beq_eq_false_iff_ne.mpr ha] at tt
   obtain ⟨z',e⟩:=ih (some a.pv) ((List.mem_cons.mp h).resolve_left fun q=>ha (q ▸ rfl)) hn.2
   exact ⟨z',(a5 (ρ₁:=[some (.inst af i),some (.str s.name),some a.pv,none,none,none]) (ρ₂:=[some (.inst af i),some (.str s.name),some a.pv,none,none,none]) (σ₂:=σ) rfl ((aa (a:=dJ) (ah tt)).trans az)).trans e⟩
theorem wQ {o:Mine.X} {ρ:aq} (b:Bo p n es gs os X σ) (ho:ev (CC d) o ρ σ=.ok (.inst af X.i) σ):evIt (CC d) (.attr af o "plan") ρ σ=.ok (p.map ae.pv,none) σ:=by
 show (ev (CC d) (.attr af o "plan") ρ σ).bind kP=_
 rw [cP (v:=aA p) ho b.ns rfl]; rfl
theorem acM {s:ae} (b:Bo p n es gs os X σ) (hs:s ∈ p) (hn:(p.map (·.name)).Nodup):aJ PP topN (d + 1) kQ [.inst af X.i,.str s.name] σ=.ok s.pv σ:=by
 rw [a6 (fn:=k9) rfl rfl]
 obtain ⟨z,e⟩:=adK (d:=d) (σ:=σ) (i:=X.i) p none hs hn
 have e2:ex (CC d) topN gW [some (.inst af X.i),some (.str s.name),none,none,none,none] σ=.ret s.pv [some (.inst af X.i),some (.str s.name),z,none,none,none] σ:=
  bL (ys:=p.map ae.pv) (σ₁:=σ) (wQ b rfl) e
 exact (congrArg aM (aj (a:=ji) ((aI (σ':=σ) rfl).trans (aj e2)))).trans rfl
theorem vd {C:bn} {c f:Nat} {m:Str} {o args:Mine.X} {ρ:aq} {q:Bool} {σ₁:ab} (h:ev C (.meth c f m o args) ρ σ=.ok (.bool q) σ₁):tst C (.meth c f m o args) ρ σ=.ok q σ₁:=by
 show (ev C (.meth c f m o args) ρ σ).bind dA=_
 rw [h]; rfl
noncomputable def bq (es:cQ) (s:ae) (t:Int):List PV:=s.needs.map fun x=>(ai (x,t) es).getD .none
noncomputable def cD (s:ae) (t:Int):Int:=t + (if dE s.rule=true then 1 else 0)
noncomputable def fq (w:Int) (es:cQ) (e:Str × PV):cQ:=if fh e.2=true then es else cq (e.1,w) e.2 es
noncomputable def fC (n:Nat) (es:cQ) (s:ae) (t:Int):cQ:=if cD s t=n then es else (s.gives.zip (fN s.rule (bq es s t) s.gives.length)).foldl (fq (cD s t)) es
theorem sf {s:ae} {t:Int} (hs:dg s) (hv:d8 es) (hm:cN es s t=none):mJ s.rule (bq es s t):=by
 unfold mJ
 unfold cN sk at hm
 rw [List.find?_eq_none] at hm
 have got:∀ x,¬ (ai (x,t) es).isNone=true->bC ((ai (x,t) es).getD .none):=fun x hx=>by
  cases ha:ai (x,t) es with
  | none=>rw [ha] at hx; exact absurd rfl hx
  | some v=>exact hv _ _ ha
 obtain ⟨_,_,_,h3⟩:=mP hs.rule
 cases hc:dR s.rule with
 | false =>
  rw [hc,if_neg (by decide)] at hm
  rw [if_neg (by decide)]
  intro v hv'
  obtain ⟨x,hx,rfl⟩:=List.mem_map.mp hv'
  exact got x (hm x hx)
 | true =>
  rw [hc,if_pos rfl] at hm
  rw [if_pos rfl]
  have h3:=h3 hc
  obtain ⟨nm,rl,ns,gv⟩:=s
  dsimp only at h3 hm
  obtain ⟨x,y,z,rfl⟩:=w5 (show ns.length=3 from h3)
  dsimp only at hm
  cases ha:ai (x,t) es with
  | none =>
   rw [ha] at hm
   exact absurd (by rw [ha]; rfl) (hm x (by simp))
  | some v =>
   rw [ha] at hm
   show bC ((ai (x,t) es).getD .none)/\bC (if gu ((ai (x,t) es).getD .none)=true then (ai (y,t) es).getD .none else (ai (z,t) es).getD .none)
   rw [ha]
   refine ⟨hv _ _ ha,?_⟩
   dsimp only at hm
   show bC (if gu v=true then (ai (y,t) es).getD .none else (ai (z,t) es).getD .none)
   cases hz:gu v with
   | true=>rw [hz] at hm; exact got y (hm y (by simp))
   | false=>rw [hz] at hm; exact got z (hm z (by simp))
theorem tV {w:Int} {es:cQ} {e:Str × PV}:(fq w es e).length <= es.length + 1:=by
 unfold fq
 split
 ·exact Nat.le_succ _
 ·unfold cq
  split
  ·rw [List.length_map]; exact Nat.le_succ _
  ·rw [List.length_append]; exact Nat.le_refl _
theorem afL {w:Int}:∀ (l:List (Str × PV)) (es:cQ),(l.foldl (fq w) es).length <= es.length + l.length:=by
 intro l
 induction l with
 | nil=>intro es; exact Nat.le_refl _
 | cons e l ih =>
  intro es
  rw [List.foldl_cons,List.length_cons]
  have h1:=ih (fq w es e)
  have h2:=tV (w:=w) (es:=es) (e:=e)
  (grind)
theorem lP {w:Option (Nat × MO)} {bnd:PV->aq->Option aq} {f:aq->ab->bT} {ρ:aq} (hw:cJ w σ):aV w bnd f [] ρ σ=.next ρ σ:=if_pos hw
theorem j6 {w:Option (Nat × MO)} {bnd:PV->aq->Option aq} {f:aq->ab->bT} {x:PV} {xs:List PV} {ρ ρ₁ ρ₂:aq} {σ₂:ab} (hw:cJ w σ) (hb:bnd x ρ=some ρ₁) (h:f ρ₁ σ=.next ρ₂ σ₂):aV w bnd f (x::xs) ρ σ=aV w bnd f xs ρ₂ σ₂:=by
 refine (if_pos hw).trans ?_
 rw [hb]; show oK _ (f ρ₁ σ)=_; rw [h]; rfl
noncomputable def RF (i:Nat) (nm:Str) (t:Int) (sp:PV) (pl vs:Option PV) (w:Option PV) (v:Option PV):aq:=[some (.inst af i),some (.str nm),some (.int t),some sp,pl,vs,w,v,none,none,none,none,none,none]
theorem aeL {j:Nat} {nm:Str} {t w:Int} {sp:PV} {vs:Option PV} (hj:j ≠ X.h):∀ (l:List (Str × PV)) (es:cQ) (σ:ab) (y z:Option PV),σ[j]?=some .tp->Bo p n es gs os X σ->es.length + l.length < 900000 ->
  ∃ y' z' σ',aV (some (j,.tp)) (dX [4,7]) (fun ρ σ=>ex (CC d) topN ia ρ σ) (l.map fun e=>.tup [.str e.1,e.2]) (RF X.i nm t sp y vs (some (.int w)) z) σ=.next (RF X.i nm t sp y' vs (some (.int w)) z') σ'/\Bo p n (l.foldl (fq w) es) gs os X σ'/\gM X σ σ':=by
 intro l
 induction l with
 | nil=>intro es σ y z hw b _; exact ⟨y,z,σ,lP hw,b,.refl⟩
 | cons e l ih =>
  intro es σ y z hw b hl
  rw [List.length_cons] at hl
  obtain ⟨x,v⟩:=e
  have tt:tst (CC d) (.cmp (.v 7) .isNot (.k .none)) (RF X.i nm t sp (some (.str x)) vs (some (.int w)) (some v)) σ=.ok (!fh v) σ:=rfl
  have hb:dX [4,7] (.tup [.str x,v]) (RF X.i nm t sp y vs (some (.int w)) z)=some (RF X.i nm t sp (some (.str x)) vs (some (.int w)) (some v)):=rfl
  have fin:∀ {es':cQ} {σ₁:ab},es'=fq w es (x,v)->ex (CC d) topN lb (RF X.i nm t sp (some (.str x)) vs (some (.int w)) (some v)) σ=.next (RF X.i nm t sp (some (.str x)) vs (some (.int w)) (some v)) σ₁->Bo p n es' gs os X σ₁->gM X σ σ₁->σ₁[j]?=some .tp ->
    ∃ y' z' σ',aV (some (j,.tp)) (dX [4,7]) (fun ρ σ=>ex (CC d) topN ia ρ σ) (((x,v)::l).map fun e=>.tup [.str e.1,e.2]) (RF X.i nm t sp y vs (some (.int w)) z) σ=.next (RF X.i nm t sp y' vs (some (.int w)) z') σ'/\Bo p n (((x,v)::l).foldl (fq w) es) gs os X σ'/\gM X σ σ':=fun {es' σ₁} he h b1 k1 hw1=>by
   subst he
   obtain ⟨y',z',σ',e,b',k'⟩:=ih (fq w es (x,v)) σ₁ (some (.str x)) (some v) hw1 b1 (by have:=tV (w:=w) (es:=es) (e:=(x,v)); (grind))
   exact ⟨y',z',σ',(j6 (w:=some (j,.tp)) hw hb ((aa h).trans az)).trans e,b',k1.trans k'⟩
  cases hv:fh v with
  | true =>
   rw [hv] at tt
   exact fin (es':=es) (by unfold fq; exact (if_pos hv).symm) (ah tt) b .refl hw
  | false =>
   rw [hv] at tt
   refine fin (es':=cq (x,w) v es) (σ₁:=σ.set X.h (.dp (cq (x,w) v es))) (by unfold fq; exact (if_neg (by rw [hv]; decide)).symm) ((aI tt).trans ((aa (a:=ju) ?_).trans az)) b.here (.set (.inl rfl)) (aO (Ne.symm hj) hw)
   have ahr:ev (CC d) (.attr af (.v 0) "here") (RF X.i nm t sp (some (.str x)) vs (some (.int w)) (some v)) σ=.ok (.ref X.h) σ:=cP (i:=X.i) (σ₁:=σ) rfl b.ns rfl
   show (ev (CC d) (.v 7) (RF X.i nm t sp (some (.str x)) vs (some (.int w)) (some v)) σ).toS _ (fun v σ=>(ev (CC d) (.attr af (.v 0) "here") (RF X.i nm t sp (some (.str x)) vs (some (.int w)) (some v)) σ).toS _ fun o σ=>(ev (CC d) (.tup (.cons (.v 4) (.cons (.v 6) .nil))) (RF X.i nm t sp (some (.str x)) vs (some (.int w)) (some v)) σ).toS _ fun i σ=>bV o i v _ σ)=_
   rw [show ev (CC d) (.v 7) (RF X.i nm t sp (some (.str x)) vs (some (.int w)) (some v)) σ=.ok v σ from rfl,cO,ahr,cO,show ev (CC d) (.tup (.cons (.v 4) (.cons (.v 6) .nil))) (RF X.i nm t sp (some (.str x)) vs (some (.int w)) (some v)) σ=.ok (.tup [.str x,.int w]) σ from rfl,cO]
   exact lE b.hr (by rw [aZ]; (grind))
theorem qj {r:Nat} {xs:List PV} {v:PV} (h:σ[r]?=some (.lst xs)) (hl:xs.length < 900000):mU .append (.ref r) [v] σ=.ok .none (σ.set r (.lst (xs++[v]))):=by
 show eI (.ref r) v σ=_
 unfold eI; dsimp only; rw [h]; dsimp only
 exact if_pos (by rw [aZ]; (exact aE (by assumption) (by decide)))
theorem wV {r:Nat} {xs:List PV} (h:σ[r]?=some (.lst xs)):ub .append (.ref r) σ=true:=by
 show eh (.ref r) σ=true
 unfold eh; dsimp only; rw [h]
theorem vF {r:bD} {k g:Nat} (h:bX r k g):∃ w,(∀ σ,eP r.pv (.int 0) σ=.ok (.str w) σ)/\(w == "later")=dE r:=by
 cases h <;> first | exact ⟨_,fun zz=>rfl,rfl⟩ | exact ⟨"fixed",fun zz=>rfl,by decide +kernel⟩
theorem ab7:∀ (a:List Str) (b:List PV),iF (a.map .str) b=(a.zip b).map fun e=>.tup [.str e.1,e.2]:=by
 intro a
 induction a with
 | nil=>intro b; cases b <;> rfl
 | cons x a ih =>
  intro b
  cases b with
  | nil=>rfl
  | cons y b=>exact congrArg (_::·) (ih b)
theorem zL {r:bD} {vs:List PV} {k g:Nat} (h:bX r k g):(fN r vs g).length=g:=by
 unfold fN
 cases hw:wI r with
 | false=>rw [if_neg (by decide)]; exact List.length_replicate
 | true =>
  rw [if_pos rfl]
  cases h <;> first | contradiction | (split <;> rfl)
structure Did (p:List ae) (n:Nat) (es gs:cQ) (os:List PV) (X:Ix) (σ:ab) (r:ac PV) (v:PV) (σ':ab):Prop where
 e:r=.ok v σ'
 b:Bo p n es gs os X σ'
 k:gM X σ σ'
theorem aj0 {s:ae} {t:Int} (hp:bx p) (b:Bo p n es gs os X σ) (hs:s ∈ p) (hr:kg s) (hv:d8 es) (h0:0 <= t) (h1:t < n) (hg:ai (s.name,t) gs=none) (hm:cN es s t=none)
  (l1:es.length < 800000) (l2:gs.length < 800000) (l3:os.length < 800000) :
  ∃ σ',Did p n (fC n es s t) (gs++[((s.name,t),.bool true)]) (os++[.tup [.str s.name,.int t]]) X σ (aJ PP topN (d + 4) eF [.inst af X.i,.str s.name,.int t] σ) .none σ':=by
 have so:=hp.steps s hs
 rw [a6 (fn:=mF) rfl rfl]
 have s0:ex (CC (d + 3)) topN nD [some (.inst af X.i),some (.str s.name),some (.int t),none,none,none,none,none,none,none,none,none,none,none] σ=.next (RF X.i s.name t s.pv none none none none) σ:=
  aC (cC (i:=X.i) (σ₁:=σ) (σ₂:=σ) (vs:=[.str s.name]) rfl b.ns rfl rfl (acM b hs hp.names))
 have s1:ex (CC (d + 3)) topN nB (RF X.i s.name t s.pv none none none none) σ=.next (RF X.i s.name t s.pv none none none none) σ:=
  bR (cC (i:=X.i) (σ₁:=σ) (σ₂:=σ) (vs:=[.int t]) rfl b.ns rfl rfl (lL b h0 h1))
 have s2:ex (CC (d + 3)) topN nA (RF X.i s.name t s.pv none none none none) σ=.next (RF X.i s.name t s.pv none none none none) σ:=by
  have c:=rB (d:=d + 2) (x:=s.name) (t:=t) b
  rw [hg] at c
  exact (ah (vd (cC (i:=X.i) (σ₁:=σ) (σ₂:=σ) (vs:=[.str s.name,.int t]) rfl b.ns rfl rfl c)))
 have s3:ex (CC (d + 3)) topN ny (RF X.i s.name t s.pv none none none none) σ=.next (RF X.i s.name t s.pv none none none none) σ:=by
  have c:=abD (d:=d + 2) (t:=t) b so hr hv
  rw [hm] at c
  exact (ah (aU (cC (i:=X.i) (σ₁:=σ) (σ₂:=σ) (vs:=[s.pv,.int t]) rfl b.ns rfl rfl c) (y:=.none) (σ₂:=σ) rfl rfl))
 have s4:ex (CC (d + 3)) topN nx (RF X.i s.name t s.pv none none none none) σ=.next (RF X.i s.name t s.pv none none none none) (σ.set X.gn (.dp (gs++[((s.name,t),.bool true)]))):=by
  have ag:ev (CC (d + 3)) (.attr af (.v 0) "gone") (RF X.i s.name t s.pv none none none none) σ=.ok (.ref X.gn) σ:=cP (i:=X.i) (σ₁:=σ) rfl b.ns rfl
  show (ac.ok (PV.bool true) σ).toS _ (fun v σ=>(ev (CC (d + 3)) (.attr af (.v 0) "gone") (RF X.i s.name t s.pv none none none none) σ).toS _ fun o σ=>(ev (CC (d + 3)) (.tup (.cons (.v 1) (.cons (.v 2) .nil))) (RF X.i s.name t s.pv none none none none) σ).toS _ fun i σ=>bV o i v _ σ)=_
  rw [cO,ag,cO,show ev (CC (d + 3)) (.tup (.cons (.v 1) (.cons (.v 2) .nil))) (RF X.i s.name t s.pv none none none none) σ=.ok (.tup [.str s.name,.int t]) σ from rfl,cO,lE b.go (by rw [aZ]; (exact aE (by assumption) (by decide))),xF hg]
 have b1:Bo p n es (gs++[((s.name,t),.bool true)]) os X (σ.set X.gn (.dp (gs++[((s.name,t),.bool true)]))):=b.gone
 have k1:gM X σ (σ.set X.gn (.dp (gs++[((s.name,t),.bool true)]))):=.set (.inr (.inl rfl))
 generalize σ.set X.gn (.dp (gs++[((s.name,t),.bool true)]))=aX at s4 b1 k1
 generalize gs++[((s.name,t),.bool true)]=gs1 at b1 ⊢
 have s5:ex (CC (d + 3)) topN nw (RF X.i s.name t s.pv none none none none) aX=.next (RF X.i s.name t s.pv none none none none) (aX.set X.od (.lst (os++[.tup [.str s.name,.int t]]))):=
  bR (fA (cP (i:=X.i) (σ₁:=aX) (v:=.ref X.od) rfl b1.ns rfl) (wV b1.od) (y:=.tup [.str s.name,.int t]) (σ₂:=aX) rfl (qj b1.od (by (exact aE (by assumption) (by decide)))))
 have b2:Bo p n es gs1 (os++[.tup [.str s.name,.int t]]) X (aX.set X.od (.lst (os++[.tup [.str s.name,.int t]]))):=b1.order
 have k2:=k1.trans (gM.set (X:=X) (σ:=aX) (m:=.lst (os++[.tup [.str s.name,.int t]])) (.inr (.inr rfl)))
 generalize aX.set X.od (.lst (os++[.tup [.str s.name,.int t]]))=aR at s5 b2 k2
 generalize os++[.tup [.str s.name,.int t]]=os1 at b2 ⊢
 have nl:(s.needs.map PV.str).length <= ao:=by rw [List.length_map]; exact aE so.needs4 (by decide)
 have s6:ex (CC (d + 3)) topN nv (RF X.i s.name t s.pv none none none none) aR=.next (RF X.i s.name t s.pv none (some (.fl (bq es s t))) none none) aR:=by
  have c:ev (CC (d + 3)) nE (RF X.i s.name t s.pv none none none none) aR=.ok (.fl ((s.needs.map PV.str).map fun v=>match v with | .str x=>(ai (x,t) es).getD .none | _=>.none)) aR:=
   eU (xs:=s.needs.map .str) _ rfl nl fun v hv'=>by
    obtain ⟨x,_,rfl⟩:=List.mem_map.mp hv'
    exact fA (cP (i:=X.i) (σ₁:=aR) (v:=.ref X.h) rfl b2.ns rfl) (vV b2.hr) (y:=.tup [.str x,.int t]) (σ₂:=aR) rfl (vT b2.hr)
  rw [List.map_map] at c
  exact aC c
 obtain ⟨w,hw1,hw2⟩:=vF so.rule
 have s7:ex (CC (d + 3)) topN nu (RF X.i s.name t s.pv none (some (.fl (bq es s t))) none none) aR=.next (RF X.i s.name t s.pv none (some (.fl (bq es s t))) (some (.int (cD s t))) none) aR:=by
  have c:ev (CC (d + 3)) (.cmp (.sub (.sub (.v 3) (.k (.int 1))) (.k (.int 0))) .eq (.k (.str "later"))) (RF X.i s.name t s.pv none (some (.fl (bq es s t))) none none) aR=.ok (.bool (dE s.rule)) aR:=by
   rw [<- hw2]
   exact ek (bz (x:=s.rule.pv) (σ₁:=aR) rfl (y:=.int 0) (σ₂:=aR) rfl (hw1 aR)) (y:=.str "later") (σ₂:=aR) rfl se
  exact aC (ay (x:=.int t) (σ₁:=aR) rfl (bO c int_bool) add_int)
 have t8:tst (CC (d + 3)) (.cmp (.v 6) .eq (.attr af (.v 0) "turns")) (RF X.i s.name t s.pv none (some (.fl (bq es s t))) (some (.int (cD s t))) none) aR=.ok (cD s t == (n:Int)) aR:=
  aU (x:=.int (cD s t)) (σ₁:=aR) rfl (cP (i:=X.i) (σ₁:=aR) (v:=.int n) rfl b2.ns rfl) gb
 have pre:∀ {o:bT},ex (CC (d + 3)) topN (.cons fF (.cons jj .nil)) (RF X.i s.name t s.pv none (some (.fl (bq es s t))) (some (.int (cD s t))) none) aR=o->ex (CC (d + 3)) topN mF.body [some (.inst af X.i),some (.str s.name),some (.int t),none,none,none,none,none,none,none,none,none,none,none] σ=o:=fun {o} ho =>
  (aa s0).trans ((aa s1).trans ((aa s2).trans ((aa s3).trans ((aa s4).trans ((aa s5).trans ((aa s6).trans ((aa s7).trans ho)))))))
 unfold fC
 by_cases hw:cD s t=n
 ·rw [beq_iff_eq.mpr hw] at t8
  rw [if_pos hw]
  exact ⟨aR,(congrArg aM (pre (aj (a:=fF) ((aI t8).trans (aj (a:=.ret0) rfl))))).trans rfl,b2,k2⟩
 ·rw [beq_eq_false_iff_ne.mpr hw] at t8
  rw [if_neg hw]
  have vl:(bq es s t).length=s.needs.length:=List.length_map _
  have out:=afU (d:=d) (σ:=aR) (r:=s.rule) (vs:=bq es s t) (k:=s.gives.length) (by rw [vl]; exact so.rule) (by rw [vl]; exact aE so.needs4 (by decide)) (by rw [vl]; exact so.needs1) (aE so.gives3 (by decide)) (sf so hv hm)
  have ol:(fN s.rule (bq es s t) s.gives.length).length=s.gives.length:=zL so.rule
  generalize fN s.rule (bq es s t) s.gives.length=us at out ol ⊢
  have it:evIt (CC (d + 3)) (.zip (.cons (.sub (.v 3) (.k (.int 3))) (.cons (.call rA (.cons (.sub (.v 3) (.k (.int 1))) (.cons (.v 5) (.cons (.b1 .len (.sub (.v 3) (.k (.int 3)))) .nil)))) .nil))) (RF X.i s.name t s.pv none (some (.fl (bq es s t))) (some (.int (cD s t))) none) aR=.ok ((s.gives.zip us).map fun e=>.tup [.str e.1,e.2],some (aR.length,.tp)) (aR++[.tp]):=by
   rw [agr,aN (x:=.tup (s.gives.map .str)) (σ₁:=aR) rfl (aN (gC (x:=s.rule.pv) (σ₁:=aR) rfl (y:=.fl (bq es s t)) (σ₂:=aR) rfl (bO (x:=.tup (s.gives.map .str)) (σ₁:=aR) rfl (acX (aE so.gives3 (by decide)))) out) (b6)),aB]
   show (if (s.gives.map PV.str).length=us.length/\us.length <= ao then ac.ok (iF (s.gives.map .str) us,some (aR.length,MO.tp)) (aR++[.tp]) else .stuck)=_
   rw [if_pos ⟨by rw [List.length_map,ol],by rw [ol]; exact aE so.gives3 (by decide)⟩,ab7]
  obtain ⟨y',z',σ',e,b',k'⟩:=aeL (d:=d + 3) (n:=n) (j:=aR.length) (nm:=s.name) (t:=t) (w:=cD s t) (sp:=s.pv) (vs:=some (.fl (bq es s t))) (X:=X) (Nat.ne_of_gt (cS b2.hr).1) (s.gives.zip us) es (aR++[.tp]) none none (by simp) b2.more (by rw [List.length_zip,ol,Nat.min_self]; have:=so.gives3; (grind))
  have s9:ex (CC (d + 3)) topN jj (RF X.i s.name t s.pv none (some (.fl (bq es s t))) (some (.int (cD s t))) none) aR=.next (RF X.i s.name t s.pv y' (some (.fl (bq es s t))) (some (.int (cD s t))) z') σ':=by
   show (evIt (CC (d + 3)) _ _ aR).toS _ _=_
   rw [it]; exact e
  exact ⟨σ',(congrArg aM (pre ((aa (a:=fF) (ah t8)).trans ((aa s9).trans az)))).trans rfl,b',(k2.trans .app).trans k'⟩
end
end Mine
namespace Mine
open PySem
theorem yo {κ:Type} [DecidableEq κ] {k k':κ} {v:PV} {es:List (κ × PV)}:ai k (cq k' v es)=if k=k' then some v else ai k es:=uS
theorem nI {κ:Type} [DecidableEq κ] {k k':κ} {v:PV} {es:List (κ × PV)} (h:ai k' es=none):ai k (es++[(k',v)])=if k=k' then some v else ai k es:=by
 unfold ai at h ⊢
 rw [List.find?_append]
 by_cases hk:k=k'
 ·subst hk
  rw [if_pos rfl,Option.map_eq_none_iff.mp h]
  simp
 ·rw [if_neg hk]
  have:[(k',v)].find? (fun e=>decide (e.1=k))=none:=by simp [Ne.symm hk]
  rw [this,Option.or_none]
theorem yn {w:Int} {k:Str × Int}:∀ (l:List (Str × PV)) (es:cQ),k.2 ≠ w\/k.1 ∉ l.map (·.1)->ai k (l.foldl (fq w) es)=ai k es:=by
 intro l
 induction l with
 | nil=>intro es _; rfl
 | cons e l ih =>
  intro es h
  rw [List.foldl_cons,ih]
  ·unfold fq
   split
   ·rfl
   ·rw [yo,if_neg]
    rintro rfl
    rcases h with h | h
    ·exact h rfl
    ·exact h (by simp)
  ·rcases h with h | h
   ·exact .inl h
   ·exact .inr fun q=>h (bG _ q)
theorem d8.puts {w:Int}:∀ (l:List (Str × PV)) (es:cQ),d8 es->(∀ e ∈ l,bC e.2\/e.2=.none)->d8 (l.foldl (fq w) es):=by
 intro l
 induction l with
 | nil=>intro es h _; exact h
 | cons e l ih =>
  intro es h hl
  refine ih _ ?_ fun x hx=>hl x (bG _ hx)
  unfold fq
  rcases hl e List.mem_cons_self with hv | hv
  ·split
   ·exact h
   ·intro k v hk
    rw [yo] at hk
    by_cases hq:k=(e.1,w)
    ·rw [if_pos hq] at hk
     obtain rfl:=oi hk
     exact hv
    ·rw [if_neg hq] at hk; exact h k v hk
  ·rw [if_pos (by rw [hv]; rfl)]; exact h
theorem oC {i:Int} (h0:0 <= i) (h1:i <= 999999):bC (.int i):=⟨i,rfl,h0,h1⟩
theorem abR {f:Int->Int->Int} (hf:∀ a b:Int,f a b=a\/f a b=b):∀ (l:List Int) (a:Int),(0 <= a/\a <= 999999)->(∀ x ∈ l,0 <= x/\x <= 999999)->0 <= l.foldl f a/\l.foldl f a <= 999999:=by
 intro l
 induction l with
 | nil=>intro a h _; exact h
 | cons x l ih =>
  intro a h hl
  refine ih _ ?_ fun y hy=>hl y (bG _ hy)
  rcases hf a x with q | q
  ·rw [q]; exact h
  ·rw [q]; exact hl x List.mem_cons_self
theorem aeg (a b:Int):min a b=a\/min a b=b:=by grind
theorem aen (a b:Int):max a b=a\/max a b=b:=by grind
theorem abC {i:Int}:bC (.int (i % 1000000)):=oC (Int.emod_nonneg _ (by decide)) (Int.le_of_lt_add_one (Int.emod_lt_of_pos _ (by decide)))
theorem afP:∀ (l:List Int) (a:Int),(0 <= a/\a <= 999999)->bC (.int (l.foldl (fun a x=>a * x % 1000000) a)):=by
 intro l
 induction l with
 | nil=>intro a h; exact oC h.1 h.2
 | cons x l ih=>intro a h; obtain ⟨i,hi,h0,h1⟩:=abC (i:=a * x); cases hi; exact ih _ ⟨h0,h1⟩
theorem vg {r:bD} {vs:List PV} {k:Nat} (h:bX r vs.length k) (h1:1 <= vs.length) (he:mJ r vs):bC (ii r vs):=by
 have at0:(∀ v ∈ vs,bC v)->bC (vs.getD 0 .none):=fun hv=>by
  rw [List.getD_eq_getElem?_getD,List.getElem?_eq_getElem (show 0 < vs.length from h1)]
  exact hv _ (List.getElem_mem _)
 generalize hk:vs.length=m at h
 cases h with
 | sum _ _=>exact abC
 | times _ _=>exact afP _ 1 (by decide)
 | least _ _ =>
  obtain ⟨l,rfl,hv⟩:=dY (show ∀ v ∈ vs,bC v from he)
  show bC (.int (gQ (db (l.map .int))))
  rw [cU]
  cases l with
  | nil=>exact absurd h1 (by decide)
  | cons x l=>obtain ⟨a,b⟩:=abR (f:=min) aeg l x (hv x List.mem_cons_self) fun y hy=>hv y (bG _ hy); exact oC a b
 | most _ _ =>
  obtain ⟨l,rfl,hv⟩:=dY (show ∀ v ∈ vs,bC v from he)
  show bC (.int (jQ (db (l.map .int))))
  rw [cU]
  cases l with
  | nil=>exact absurd h1 (by decide)
  | cons x l=>obtain ⟨a,b⟩:=abR (f:=max) aen l x (hv x List.mem_cons_self) fun y hy=>hv y (bG _ hy); exact oC a b
 | later _=>exact at0 he
 | way=>exact at0 he
 | choose _=>exact he.2
 | fixed v _ _ a b=>exact oC a b
theorem ahB {r:bD} {vs:List PV} {k:Nat} (h:bX r vs.length k) (h1:1 <= vs.length) (he:mJ r vs):∀ u ∈ fN r vs k,bC u\/u=.none:=by
 unfold fN
 cases hw:wI r with
 | false =>
  rw [if_neg (by decide)]
  intro u hu
  rw [List.eq_of_mem_replicate hu]
  exact .inl (vg h h1 he)
 | true =>
  rw [if_pos rfl]
  have hs:=vg h h1 he
  generalize vs.length=m at h
  cases h with
  | way =>
   have hs:bC (vs.getD 0 .none):=hs
   intro u hu
   split at hu
   ·rcases List.mem_cons.mp hu with rfl | hu
    ·exact .inl hs
    ·exact .inr (List.mem_singleton.mp hu)
   ·rcases List.mem_cons.mp hu with rfl | hu
    ·exact .inr rfl
    ·rw [List.mem_singleton.mp hu]; exact .inl hs
  | _=>contradiction
theorem d8.fire {n:Nat} {es:cQ} {s:ae} {t:Int} (hs:dg s) (hv:d8 es) (hm:cN es s t=none):d8 (fC n es s t):=by
 unfold fC
 split
 ·exact hv
 ·have vl:(bq es s t).length=s.needs.length:=List.length_map _
  refine hv.puts _ _ fun e he=>?_
  exact ahB (k:=s.gives.length) (by rw [vl]; exact hs.rule) (by rw [vl]; exact hs.needs1) (sf hs hv hm) e.2 (List.of_mem_zip he).2
end Mine
namespace Mine
open PySem
structure cm where
 es:cQ
 gs:cQ
 os:List PV
noncomputable def cm.fire (n:Nat) (B:cm) (s:ae) (t:Int):cm:=⟨fC n B.es s t,B.gs++[((s.name,t),.bool true)],B.os++[.tup [.str s.name,.int t]]⟩
noncomputable def cm.rdy (B:cm) (s:ae) (t:Int):Bool:=bc B.es B.gs s t
theorem cm.rdy_of {B:cm} {s:ae} {t:Int} (h:B.rdy s t=true):ai (s.name,t) B.gs=none/\cN B.es s t=none:=by
 obtain ⟨a,b⟩:=cM h
 exact ⟨Option.isNone_iff_eq_none.mp a,Option.isNone_iff_eq_none.mp b⟩
inductive da (p:List ae) (n:Nat) (A:cm):cm->List (ae × Int)->Prop
 | nil:da p n A A []
 | snoc {B:cm} {l:List (ae × Int)} {s:ae} {t:Int} (h:da p n A B l) (hs:s ∈ p) (h0:0 <= t) (h1:t < n) (hr:B.rdy s t=true):da p n A (B.fire n s t) (l++[(s,t)])
section
variable {p:List ae} {n:Nat} {A B:cm} {l:List (ae × Int)}
theorem da.trans {D:cm} {k:List (ae × Int)} (h:da p n A B l) (h2:da p n B D k):da p n A D (l++k):=by
 induction h2 with
 | nil=>rw [List.append_nil]; exact h
 | snoc h2 hs h0 h1 hr ih=>rw [<- List.append_assoc]; exact .snoc ih hs h0 h1 hr
theorem da.val (hp:bx p) (h:da p n A B l) (hv:d8 A.es):d8 B.es:=by
 induction h with
 | nil=>exact hv
 | snoc h hs h0 h1 hr ih=>exact ih.fire (hp.steps _ hs) (cm.rdy_of hr).2
structure eX (B:cm) (m:Nat):Prop where
 es:B.es.length <= 3 * m
 gs:B.gs.length <= m
 os:B.os.length <= m
theorem agj {es:cQ} {s:ae} {t:Int} (hs:dg s):(fC n es s t).length <= es.length + 3:=by
 unfold fC
 split
 ·exact Nat.le_add_right _ _
 ·refine aE (afL _ _) (Nat.add_le_add_left ?_ _)
  rw [List.length_zip]
  exact aE (Nat.min_le_left _ _) hs.gives3
theorem eX.fire {m:Nat} {s:ae} {t:Int} (hs:dg s) (h:eX B m):eX (B.fire n s t) (m + 1):=
 ⟨by have:=agj (n:=n) (es:=B.es) (t:=t) hs; have:=h.es; show (fC n B.es s t).length <= _; (grind),by show (B.gs++[_]).length <= _; rw [List.length_append]; exact Nat.succ_le_succ h.gs,by show (B.os++[_]).length <= _; rw [List.length_append]; exact Nat.succ_le_succ h.os⟩
noncomputable def left (p:List ae) (B:cm) (t:Int):Nat:=p.countP fun s=>(ai (s.name,t) B.gs).isNone
theorem adf {f g:ae->Bool} {s:ae} (h:∀ x,g x=true->f x=true) (hf:f s=true) (hg:g s=false):∀ {p:List ae},s ∈ p->p.countP g + 1 <= p.countP f:=by
 intro p
 induction p with
 | nil=>intro h; contradiction
 | cons a p ih =>
  intro hs
  rw [List.countP_cons,List.countP_cons]
  have le:p.countP g <= p.countP f:=List.countP_mono_left fun x zz=>h x
  rcases List.mem_cons.mp hs with rfl | hs
  ·rw [hf,hg]; simp; exact le
  ·have:=ih hs
   cases ha:g a with
   | true=>rw [h a ha]; simp; (assumption)
   | false=>simp; (exact aE (by assumption) (Nat.le_add_right _ _))
theorem da.left {t:Int} (h:da p n A B l) (ht:∀ e ∈ l,e.2=t):left p B t + l.length <= left p A t:=by
 induction h with
 | nil=>exact Nat.le_refl _
 | @snoc B l s t' h hs h0 h1 hr ih =>
  have:=ih fun e he=>ht e (List.mem_append_left _ he)
  obtain rfl:t'=t:=ht (s,t') (List.mem_append_right _ (List.mem_singleton.mpr rfl))
  have hg:=(cm.rdy_of hr).1
  have key:∀ x,ai (x,t') (B.fire n s t').gs=if (x,t')=(s.name,t') then some (.bool true) else ai (x,t') B.gs:=fun x=>nI hg
  have c:Mine.left p (B.fire n s t') t' + 1 <= Mine.left p B t':=by
   refine adf (s:=s) (fun x hx=>?_) (by rw [hg]; rfl) ?_ hs
   ·rw [key] at hx
    by_cases q:(x.name,t')=(s.name,t')
    ·rw [if_pos q] at hx; contradiction
    ·rw [if_neg q] at hx; exact hx
   ·rw [key,if_pos rfl]; rfl
  rw [List.length_append]
  show _ + (l.length + 1) <= _
  (grind)
theorem da.rdy {t:Int} {s:ae} (h:da p n A B l) (ht:∀ e ∈ l,t < e.2):B.rdy s t=A.rdy s t:=by
 induction h with
 | nil=>rfl
 | @snoc B l s' t' h hs h0 h1 hr ih =>
  rw [<- ih fun e he=>ht e (List.mem_append_left _ he)]
  have lt:t < t':=ht (s',t') (List.mem_append_right _ (List.mem_singleton.mpr rfl))
  have hg:=(cm.rdy_of hr).1
  have e1:∀ x,ai (x,t) (B.fire n s' t').gs=ai (x,t) B.gs:=fun x=>(nI hg).trans (if_neg fun q=>Int.ne_of_lt lt (Prod.mk.inj q).2)
  have e2:∀ x,ai (x,t) (B.fire n s' t').es=ai (x,t) B.es:=fun x=>by
   show ai (x,t) (fC n B.es s' t')=_
   unfold fC
   split
   ·rfl
   ·refine yn _ _ (.inl (Int.ne_of_lt ?_))
    unfold cD
    split
    ·exact Int.lt_add_one_of_le (Int.le_of_lt lt)
    ·rw [Int.add_zero]; exact lt
  show bc _ _ _ _=bc _ _ _ _
  unfold bc cN
  have e3:sk (B.fire n s' t').es s t=sk B.es s t:=by
   unfold sk
   split
   ·split
    ·rw [e2]
    ·rfl
   ·rfl
  rw [e1,e3]
  refine congrArg (fun f=>(ai (s.name,t) B.gs).isNone && ((sk B.es s t).find? f).isNone) (funext fun x=>?_)
  rw [e2]
end
noncomputable abbrev Bob (p:List ae) (n:Nat) (B:cm) (X:Ix) (σ:ab):Prop:=Bo p n B.es B.gs B.os X σ
end Mine
namespace Mine
open PySem
noncomputable def kj (p:List ae) (x:Str):Bool:=decide (x ∈ p.flatMap (·.gives)) || decide (x ∈ bZ p)
section
variable {p:List ae} {n:Nat} {es gs:cQ} {os:List PV} {X:Ix} {σ:ab} {d:Nat}
theorem ql {x:Str} (b:Bo p n es gs os X σ) (h:kj p x=true):aJ PP topN (d + 1) fS [.inst af X.i,.str x] σ=.ok .none σ:=by
 rw [a6 (fn:=kc) rfl rfl]
 have tt:tst (CC d) (.or (.cons (.not (.isinst (.v 1) .str)) (.cons (.and (.cons (.cmp (.v 1) .notin (.attr af (.v 0) "givers")) (.cons (.cmp (.v 1) .notin (.attr af (.v 0) "outer")) .nil))) .nil))) [some (.inst af X.i),some (.str x),none,none,none] σ=.ok (!kj p x) σ:=by
  refine iH (fJ (cT (q:=true) (zw (uJ (x:=.str x) (σ₁:=σ) rfl rfl))) (fK ((eN (ey (aU (x:=.str x) (σ₁:=σ) rfl (cP (i:=X.i) (σ₁:=σ) (v:=.ref X.g) rfl b.ns rfl) (xQ b.gv)) fun zz=>dQ (aU (x:=.str x) (σ₁:=σ) rfl (cP (i:=X.i) (σ₁:=σ) (v:=.ref X.o) rfl b.ns rfl) (lj b.ot)))).trans ?_)))
  rw [tB]
  unfold kj
  rw [Bool.not_or]
 rw [h] at tt
 exact (congrArg aM ((aa (a:=iv) (ah tt)).trans az)).trans rfl
theorem aiD {x:Str} {j i:Int} (hp:bx p) (b:Bo p n es gs os X σ) (h1:kj p x=true) (h0:0 <= j) (hj:j < n) (hb:gd p x j=false) (hv:0 <= i/\i <= 999999) (ha:ai (x,j) es=none) (hl:es.length < 900000) :
  aJ PP topN (d + 4) dZ [.inst af X.i,.str x,.int j,.int i] σ=.ok .none (σ.set X.h (.dp (es++[((x,j),.int i)]))):=by
 rw [a6 (fn:=n9) rfl rfl]
 show aM (ex (CC (d + 3)) topN n9.body [some (.inst af X.i),some (.str x),some (.int j),some (.int i),none,none,none,none] σ)=_
 generalize lO:([some (.inst af X.i),some (.str x),some (.int j),some (.int i),none,none,none,none]:aq)=ρ
 have v0:∀ {τ:ab},ev (CC (d + 3)) (.v 0) ρ τ=.ok (.inst af X.i) τ:=fun {τ}=>by subst lO; rfl
 have v1:∀ {τ:ab},ev (CC (d + 3)) (.v 1) ρ τ=.ok (.str x) τ:=fun {τ}=>by subst lO; rfl
 have v2:∀ {τ:ab},ev (CC (d + 3)) (.v 2) ρ τ=.ok (.int j) τ:=fun {τ}=>by subst lO; rfl
 have v3:∀ {τ:ab},ev (CC (d + 3)) (.v 3) ρ τ=.ok (.int i) τ:=fun {τ}=>by subst lO; rfl
 have s0:ex (CC (d + 3)) topN pG ρ σ=.next ρ σ:=bR (cC v0 b.ns rfl (aN v1 rfl) (ql b h1))
 have s1:ex (CC (d + 3)) topN pF ρ σ=.next ρ σ:=bR (cC v0 b.ns rfl (aN v2 rfl) (lL b h0 hj))
 have agv:=cP (n := "givers") (v:=.ref X.g) (v0 (τ:=σ)) b.ns rfl
 have ahr:=cP (n := "here") (v:=.ref X.h) (v0 (τ:=σ)) b.ns rfl
 have key:ev (CC (d + 3)) (.tup (.cons (.v 1) (.cons (.v 2) .nil))) ρ σ=.ok (.tup [.str x,.int j]) σ:=g7 (vs:=[.str x,.int j]) (aN v1 (aN v2 rfl)) (show (2:Nat) <= ao by decide)
 have t2:tst (CC (d + 3)) (.and (.cons (.cmp (.v 1) .isin (.attr af (.v 0) "givers")) (.cons (.or (.cons (.cmp (.sub (.sub (.sub (.attr af (.v 0) "givers") (.v 1)) (.k (.int 1))) (.k (.int 0))) .ne (.k (.str "later"))) (.cons (.cmp (.v 2) .gt (.k (.int 0))) .nil))) .nil))) ρ σ=.ok (gd p x j) σ:=by
  have c1:=aU v1 agv (ahY (k:=x) b.gv)
  rw [tO,Option.isSome_map] at c1
  unfold gd
  cases hg:p7 p x with
  | none =>
   rw [hg] at c1
   exact eN (abt c1)
  | some s =>
   rw [hg] at c1
   have hs:s ∈ p:=List.mem_of_find?_eq_some hg
   obtain ⟨w,hw1,hw2⟩:=vF (hp.steps s hs).rule
   have c2:ev (CC (d + 3)) (.sub (.attr af (.v 0) "givers") (.v 1)) ρ σ=.ok s.pv σ:=bz agv v1 (aiw b.gv (by rw [tO,hg]; rfl))
   have c4:ev (CC (d + 3)) (.sub (.sub (.sub (.attr af (.v 0) "givers") (.v 1)) (.k (.int 1))) (.k (.int 0))) ρ σ=.ok (.str w) σ:=bz (bz c2 (y:=.int 1) (σ₂:=σ) rfl (v:=.ok s.rule.pv σ) rfl) (y:=.int 0) (σ₂:=σ) rfl (hw1 σ)
   have c5:=aU c4 (y:=.str "later") (σ₂:=σ) (b:=.k (.str "later")) rfl aiK
   rw [hw2] at c5
   exact eN (wL c1 (dQ (iH (rb c5 fun zz=>fK (aU v2 (y:=.int 0) (σ₂:=σ) rfl gt_int)))))
 rw [hb] at t2
 have s2:ex (CC (d + 3)) topN pE ρ σ=.next ρ σ:=(ah t2)
 have t3:tst (CC (d + 3)) (.not (.call iP (.cons (.v 3) .nil))) ρ σ=.ok (!true) σ:=by
  have c:aJ PP topN (d + 3) iP [.int i] σ=.ok (.bool (decide (0 <= i) && decide (i <= 999999))) σ:=Mine.h0
  rw [decide_eq_true hv.1,decide_eq_true hv.2] at c
  exact cT (dB (a7 v3 c))
 have s3:ex (CC (d + 3)) topN pD ρ σ=.next ρ σ:=(ah t3)
 have t4:=aU key ahr (sO (x:=x) (j:=j) b.hr)
 rw [ha] at t4
 have s4:ex (CC (d + 3)) topN pC ρ σ=.next ρ σ:=(ah t4)
 have s5:ex (CC (d + 3)) topN pB ρ σ=.next ρ (σ.set X.h (.dp (es++[((x,j),.int i)]))):=by
  show (ev (CC (d + 3)) (.v 3) ρ σ).toS ρ (fun v σ=>(ev (CC (d + 3)) (.attr af (.v 0) "here") ρ σ).toS ρ fun o σ=>(ev (CC (d + 3)) (.tup (.cons (.v 1) (.cons (.v 2) .nil))) ρ σ).toS ρ fun i σ=>bV o i v ρ σ)=_
  rw [v3,cO,ahr,cO,key,cO,lE b.hr (by rw [aZ]; (exact aE (by assumption) (by decide))),xF ha]
 exact (congrArg aM ((aa s0).trans ((aa s1).trans ((aa s2).trans ((aa s3).trans ((aa s4).trans ((aa s5).trans az))))))).trans rfl
theorem aeR (b:Bo p n es gs os X σ) (hl:os.length <= 900000):aJ PP topN (d + 1) kv [.inst af X.i] σ=.ok (.ref σ.length) (σ++[.lst os]):=by
 rw [a6 (fn:=qL) rfl rfl]
 have e:ev (CC d) (.b1 (.list false) (.attr af (.v 0) "order")) [some (.inst af X.i),none] σ=.ok (.ref σ.length) (σ++[.lst os]):=by
  refine bO (cP (i:=X.i) (σ₁:=σ) (v:=.ref X.od) rfl b.ns rfl) ?_
  show gx (fun xs=>bU false xs σ) (.ref X.od) σ=_
  rw [gw (show aW σ (.ref X.od)=some os by unfold aW; dsimp only; rw [b.od])]
  exact aea (by rw [aZ]; omega)
 exact (congrArg aM (aj (a:=mE) (av e))).trans rfl
end
end Mine
namespace Mine
open PySem
theorem uc {s:ae} {x:Str} (hx:x ∈ s.gives):∀ {p:List ae},(p.flatMap (·.gives)).Nodup->s ∈ p->p7 p x=some s:=by
 intro p
 induction p with
 | nil=>intro _ h; contradiction
 | cons a p ih =>
  intro hg hs
  rw [List.flatMap_cons,List.nodup_append] at hg
  unfold p7
  rw [List.find?_cons]
  by_cases ha:x ∈ a.gives
  ·rw [decide_eq_true ha]
   rcases List.mem_cons.mp hs with rfl | hs
   ·rfl
   ·exact absurd rfl (hg.2.2 x ha x (List.mem_flatMap.mpr ⟨s,hs,hx⟩))
  ·rw [decide_eq_false ha]
   rcases List.mem_cons.mp hs with rfl | hs
   ·exact absurd hx ha
   ·exact ih hg.2.1 hs
theorem ahh {g:List Str} {l:List PV} {x:Str} (h:x ∈ (g.zip l).map (·.1)):x ∈ g:=by
 obtain ⟨e,he,rfl⟩:=List.mem_map.mp h
 exact (List.of_mem_zip he).1
section
variable {p:List ae} {n:Nat} {A B:cm} {l:List (ae × Int)} {es:cQ} {s:ae} {t:Int}
theorem x6 {x:Str} {j:Int} (hp:bx p) (hs:s ∈ p) (h0:0 <= t) (hb:gd p x j=false):ai (x,j) (fC n es s t)=ai (x,j) es:=by
 unfold fC
 split
 ·rfl
 ·refine yn _ _ ?_
  by_cases hx:x ∈ s.gives
  ·refine .inl fun q=>?_
   unfold gd at hb
   rw [uc hx hp.gives hs] at hb
   obtain ⟨h1,h2⟩:=Bool.or_eq_false_iff.mp hb
   have h1:dE s.rule=true:=by cases hl:dE s.rule <;> rw [hl] at h1 <;> first | rfl | contradiction
   have q:j=t + (if dE s.rule=true then 1 else 0):=q
   rw [if_pos h1] at q
   have:=of_decide_eq_false h2
   (grind)
  ·exact .inr fun q=>hx (ahh q)
theorem da.free {x:Str} {j:Int} (hp:bx p) (h:da p n A B l) (hb:gd p x j=false):ai (x,j) B.es=ai (x,j) A.es:=by
 induction h with
 | nil=>rfl
 | snoc h hs h0 h1 hr ih=>exact (x6 hp hs h0 hb).trans ih
theorem abM {κ:Type} [DecidableEq κ] {k:κ} {es:List (κ × PV)}:(ai k es).isSome=true ↔ k ∈ es.map (·.1):=by
 unfold ai
 rw [Option.isSome_map,List.find?_isSome,List.mem_map]
 exact ⟨fun ⟨e,he,q⟩=>⟨e,he,of_decide_eq_true q⟩,fun ⟨e,he,q⟩=>⟨e,he,decide_eq_true q⟩⟩
structure Gk (p:List ae) (n:Nat) (B:cm):Prop where
 nodup:(B.gs.map (·.1)).Nodup
 inn:∀ k:Str × Int,k ∈ B.gs.map (·.1)->∃ s ∈ p,k.1=s.name/\0 <= k.2/\k.2 < (n:Int)
 os:B.os=B.gs.map fun e=>.tup [.str e.1.1,.int e.1.2]
theorem da.gk (h:da p n A B l) (g:Gk p n A):Gk p n B:=by
 induction h with
 | nil=>exact g
 | @snoc B l s t h hs h0 h1 hr ih =>
  have hg:=(cm.rdy_of hr).1
  have nin:(s.name,t) ∉ B.gs.map (·.1):=fun q=>by
   have:=abM.mpr q
   rw [hg] at this; contradiction
  refine ⟨?_,fun k hk=>?_,?_⟩
  ·show ((B.gs++[((s.name,t),PV.bool true)]).map (·.1)).Nodup
   rw [List.map_append,List.nodup_append]
   refine ⟨ih.nodup,List.nodup_cons.mpr ⟨List.not_mem_nil,List.nodup_nil⟩,fun a ha b hb q=>?_⟩
   rw [List.mem_singleton.mp hb] at q
   have q:a=(s.name,t):=q
   rw [q] at ha; exact nin ha
  ·have hk:k ∈ (B.gs++[((s.name,t),PV.bool true)]).map (·.1):=hk
   rw [List.map_append] at hk
   rcases List.mem_append.mp hk with hk | hk
   ·exact ih.inn k hk
   ·rw [List.mem_singleton.mp hk]
    exact ⟨s,hs,rfl,h0,h1⟩
  ·show B.os++[_]=(B.gs++[((s.name,t),PV.bool true)]).map _
   rw [List.map_append,ih.os]; rfl
theorem da.count (h:da p n A B l):B.gs.length=A.gs.length + l.length:=by
 induction h with
 | nil=>rfl
 | @snoc B l s t h hs h0 h1 hr ih =>
  show (B.gs++[((s.name,t),PV.bool true)]).length=_
  rw [List.length_append,List.length_append,ih]; rfl
end
theorem z0:((0:Nat):Int) <= 0:=Int.le_refl 0
theorem ad7 {α:Type} [DecidableEq α]:∀ (l k:List α),l.Nodup->(∀ x ∈ l,x ∈ k)->l.length <= k.length:=by
 intro l
 induction l with
 | nil=>intro k _ _; exact Nat.zero_le _
 | cons a l ih =>
  intro k hn hk
  rw [List.nodup_cons] at hn
  have ha:=hk a List.mem_cons_self
  have:=ih (k.erase a) hn.2 fun x hx=>(List.mem_erase_of_ne (fun e:x=a=>hn.1 (by rw [<- e]; exact hx))).mpr (hk x (bG _ hx))
  rw [List.length_erase_of_mem ha] at this
  have:=List.length_pos_of_mem ha
  rw [List.length_cons]; (grind)
theorem Gk.len {p:List ae} {n:Nat} {B:cm} (g:Gk p n B):B.gs.length <= p.length * n:=by
 have:=ad7 _ ((p.map (·.name)).flatMap fun x=>(List.range n).map fun (t:Nat)=>(x,(t:Int))) g.nodup fun k hk=>by
  obtain ⟨s,hs,h1,h2,h3⟩:=g.inn k hk
  obtain ⟨x,t⟩:=k
  obtain ⟨t,rfl⟩:=Int.eq_ofNat_of_zero_le h2
  rw [List.mem_flatMap]
  refine ⟨x,List.mem_map.mpr ⟨s,hs,Eq.symm h1⟩,List.mem_map.mpr ⟨t,List.mem_range.mpr (by have:(t:Int) < n:=h3; (exact Int.ofNat_lt.mp (by assumption))),rfl⟩⟩
 rw [List.length_map,List.length_flatMap] at this
 have c:∀ l:List Str,(l.map fun x=>((List.range n).map fun (t:Nat)=>(x,(t:Int))).length).sum=l.length * n:=by
  intro l
  induction l with
  | nil=>simp
  | cons a l ih=>rw [List.map_cons,List.sum_cons,ih,List.length_map,List.length_range,List.length_cons,Nat.succ_mul,Nat.add_comm]
 rw [c,List.length_map] at this
 exact this
theorem abP {p:List ae} {x:Str} {j:Int} (h:∀ s ∈ p,x ∈ s.gives->dE s.rule=true/\j <= 0):gd p x j=false:=by
 unfold gd
 cases hg:p7 p x with
 | none=>rfl
 | some s =>
  have hs:=List.mem_of_find?_eq_some hg
  have hx:x ∈ s.gives:=of_decide_eq_true (List.find?_some (p:=fun s:ae=>decide (x ∈ s.gives)) hg)
  obtain ⟨h1,h2⟩:=h s hs hx
  show (!dE s.rule || decide (j > 0))=false
  rw [h1,decide_eq_false (by grind)]; rfl
noncomputable def cm.put (B:cm) (x:Str) (j i:Int):cm:=⟨B.es++[((x,j),.int i)],B.gs,B.os⟩
end Mine
namespace Mine
open PySem
section
variable {d:Nat} {σ:ab} {es:cQ} {tk:Nat} {s:ae} {t:Int}
theorem wP {r:bD} {k g:Nat} (h:bX r k g):bp .eq r.pv (.tup [.str "later"]) σ=.ok (dE r) σ/\bp .eq r.pv (.tup [.str "choose"]) σ=.ok (dR r) σ:=by
 have:∀ w v:Str,bp .eq (.tup [.str w]) (.tup [.str v]) σ=.ok (w == v) σ:=fun w v=>by
  show ac.ofOpt (some ((w == v) && true)) σ=_
  rw [Bool.and_true]; rfl
 cases h <;> first | exact ⟨this _ _,this _ _⟩ | exact ⟨rfl,rfl⟩
noncomputable def lk (es:cQ) (s:ae) (t:Int):List Str:=
 if dR s.rule=true then (match s.needs with
  | [a,b,c]=>(match ai (a,t) es with
   | none=>[a,b,c]
   | some v=>if gu v=true then [b] else [c])
  | l=>l)
 else s.needs
theorem ad9 (hs:dg s):((lk es s t).find? fun x=>(ai (x,t) es).isNone)=cN es s t:=by
 obtain ⟨_,_,_,h3⟩:=mP hs.rule
 unfold lk cN sk
 cases hc:dR s.rule with
 | false=>rfl
 | true =>
  have h3:=h3 hc
  rw [if_pos rfl,if_pos rfl]
  obtain ⟨nm,rl,ns,gv⟩:=s
  obtain ⟨a,b,c,rfl⟩:=w5 (show ns.length=3 from h3)
  dsimp only
  cases ha:ai (a,t) es with
  | none =>
   dsimp only
   rw [List.find?_cons,List.find?_cons (a:=a) (as:=[]),ha]; rfl
  | some v=>rfl
theorem ahE (hs:dg s) (h:σ[tk]?=some (.dp es)) (hv:d8 es):aJ PP topN (d + 1) fR [s.pv,.ref tk,.int t] σ=.ok (.fl ((lk es s t).map .str)) σ:=by
 rw [a6 (fn:=l6) rfl rfl]
 have s0:ex (CC d) topN ni [some s.pv,some (.ref tk),some (.int t),none,none,none] σ=.next [some s.pv,some (.ref tk),some (.int t),some (.fl (s.needs.map .str)),none,none] σ:=
  aC (bO (x:=.tup (s.needs.map .str)) (σ₁:=σ) rfl (af7 (by rw [List.length_map]; exact aE hs.needs4 (by decide))))
 have tt:tst (CC d) (.cmp (.sub (.v 0) (.k (.int 1))) .eq (.tup (.cons (.k (.str "choose")) .nil))) [some s.pv,some (.ref tk),some (.int t),some (.fl (s.needs.map .str)),none,none] σ=.ok (dR s.rule) σ:=
  aU (x:=s.rule.pv) (y:=.tup [.str "choose"]) (σ₁:=σ) (σ₂:=σ) rfl rfl (wP hs.rule).2
 have fin:∀ {l:List Str},ex (CC d) topN nh [some s.pv,some (.ref tk),some (.int t),some (.fl (s.needs.map .str)),none,none] σ=.next [some s.pv,some (.ref tk),some (.int t),some (.fl (l.map .str)),none,none] σ->aM (ex (CC d) topN l6.body [some s.pv,some (.ref tk),some (.int t),none,none,none] σ)=.ok (.fl (l.map .str)) σ:=fun {l} h =>
  (congrArg aM ((aa s0).trans ((aa h).trans (aj (a:=ng) (av rfl))))).trans rfl
 unfold lk
 obtain ⟨_,_,_,h3⟩:=mP hs.rule
 cases hc:dR s.rule with
 | false =>
  rw [hc] at tt
  rw [if_neg (by decide)]
  exact fin (ah (eN (abt tt)))
 | true =>
  rw [hc] at tt
  have h3:=h3 hc
  rw [if_pos rfl]
  obtain ⟨nm,rl,ns,gv⟩:=s
  obtain ⟨a,b,c,rfl⟩:=w5 (show ns.length=3 from h3)
  dsimp only
  have key:ev (CC d) (.tup (.cons (.sub (.v 3) (.k (.int 0))) (.cons (.v 2) .nil))) [some (ae.pv ⟨nm,rl,[a,b,c],gv⟩),some (.ref tk),some (.int t),some (.fl [.str a,.str b,.str c]),none,none] σ=.ok (.tup [.str a,.int t]) σ:=rfl
  have t2:=aU key (b:=.v 1) (y:=.ref tk) (σ₂:=σ) rfl (sO h)
  cases ha:ai (a,t) es with
  | none =>
   rw [ha] at t2
   exact fin (l:=[a,b,c]) (ah (eN (wL tt (dQ t2))))
  | some v =>
   rw [ha] at t2
   obtain ⟨i,rfl,_⟩:=hv _ _ ha
   dsimp only
   have e1:ev (CC d) (.b1 .int (.cmp (.sub (.v 1) (.tup (.cons (.sub (.v 3) (.k (.int 0))) (.cons (.v 2) .nil)))) .ne (.k (.int 0)))) [some (ae.pv ⟨nm,rl,[a,b,c],gv⟩),some (.ref tk),some (.int t),some (.fl [.str a,.str b,.str c]),none,none] σ=.ok (.int (if (!(i == 0))=true then 1 else 0)) σ:=
    bO (ek (bz (x:=.ref tk) (σ₁:=σ) rfl key (aix h ha)) (y:=.int 0) (σ₂:=σ) rfl zQ) int_bool
   have e2:ev (CC d) (.sub (.v 3) (.bin .add (.k (.int 1)) (.b1 .int (.cmp (.sub (.v 1) (.tup (.cons (.sub (.v 3) (.k (.int 0))) (.cons (.v 2) .nil)))) .ne (.k (.int 0)))))) [some (ae.pv ⟨nm,rl,[a,b,c],gv⟩),some (.ref tk),some (.int t),some (.fl [.str a,.str b,.str c]),none,none] σ=.ok (.str (if gu (.int i)=true then b else c)) σ:=by
    refine bz (x:=.fl [.str a,.str b,.str c]) (σ₁:=σ) rfl (ay (x:=.int 1) (σ₁:=σ) rfl e1 add_int) ?_
    show _=ac.ok (PV.str (if (i == 0)=true then b else c)) σ
    cases (i == 0) <;> rfl
   have e3:=(aI (n:=topN) (a:=.cons gH .nil) (b:=.nil) (eN (wL tt (dQ t2)))).trans ((aa (a:=gH) (aC (ags (aN e2 b6) (show (1:Nat) <= ao by decide)))).trans az)
   cases hz:gu (.int i) with
   | true=>rw [hz] at e3; exact fin (l:=[b]) e3
   | false=>rw [hz] at e3; exact fin (l:=[c]) e3
theorem zV (hs:dg s) (h:σ[tk]?=some (.dp es)) (hv:d8 es):aJ PP topN (d + 2) kt [s.pv,.ref tk,.int t] σ=.ok (t5 (cN es s t)) σ:=by
 rw [a6 (fn:=qC) rfl rfl,<- ad9 hs]
 have nl:(lk es s t).length <= 4:=by
  unfold lk
  split
  ·split
   ·split
    ·exact Nat.le_of_ble_eq_true rfl
    ·split <;> exact Nat.le_of_ble_eq_true rfl
   ·exact hs.needs4
  ·exact hs.needs4
 have it:evIt (CC (d + 1)) (.call fR (.cons (.v 0) (.cons (.v 1) (.cons (.v 2) .nil)))) [some s.pv,some (.ref tk),some (.int t),none,none] σ=.ok ((lk es s t).map .str,none) σ:=by
  show (ev (CC (d + 1)) (.call fR (.cons (.v 0) (.cons (.v 1) (.cons (.v 2) .nil)))) [some s.pv,some (.ref tk),some (.int t),none,none] σ).bind kP=_
  rw [show ev (CC (d + 1)) (.call fR (.cons (.v 0) (.cons (.v 1) (.cons (.v 2) .nil)))) [some s.pv,some (.ref tk),some (.int t),none,none] σ=.ok (.fl ((lk es s t).map .str)) σ from gC (x:=s.pv) (y:=.ref tk) (z:=.int t) (σ₁:=σ) (σ₂:=σ) (σ₃:=σ) rfl rfl rfl (ahE hs h hv)]; rfl
 generalize lk es s t=ns at nl it
 have c0:ev (CC (d + 1)) l9 [some s.pv,some (.ref tk),some (.int t),none,none] σ=.ok (.fl ((ns.filter fun x=>(ai (x,t) es).isNone).map .str)) σ:=by
  refine (qe (fun y=>match y with | .str x=>if (ai (x,t) es).isNone=true then some (.str x) else none | _=>none) it (by rw [List.length_map]; exact aE nl (by decide)) (fun y hy=>?_) (fun y hy v hv=>?_)).trans ?_
  ·obtain ⟨x,hx,rfl⟩:=List.mem_map.mp hy
   refine (aU (x:=.tup [.str x,.int t]) (y:=.ref tk) (σ₁:=σ) (σ₂:=σ) rfl rfl (t6 h)).trans ?_
   dsimp only
   cases (ai (x,t) es).isNone <;> rfl
  ·obtain ⟨x,hx,rfl⟩:=List.mem_map.mp hy
   dsimp only at hv
   split at hv
   ·obtain rfl:=oi hv; rfl
   ·contradiction
  ·refine congrArg (fun l=>ac.ok (PV.fl l) σ) ?_
   rw [List.filterMap_map,<- List.filterMap_eq_filter,List.map_filterMap]
   refine congrArg (fun f=>ns.filterMap f) (funext fun x=>?_)
   show (if (ai (x,t) es).isNone=true then some (PV.str x) else none)=_
   unfold Option.guard
   split <;> rfl
 have e1:ev (CC (d + 1)) (.sub (.bin .add (.v 3) (.lst true (.cons (.k .none) .nil))) (.k (.int 0))) [some s.pv,some (.ref tk),some (.int t),some (.fl ((ns.filter fun x=>(ai (x,t) es).isNone).map .str)),none] σ=.ok (t5 (ns.find? fun x=>(ai (x,t) es).isNone)) σ:=by
  rw [<- List.head?_filter]
  have fl:=List.length_filter_le (fun x=>(ai (x,t) es).isNone) ns
  generalize ns.filter (fun x=>(ai (x,t) es).isNone)=fs at fl
  refine bz (ay (x:=.fl (fs.map .str)) (σ₁:=σ) rfl (y:=.fl [.none]) (σ₂:=σ) rfl (ajo (by rw [List.length_map,aZ]; show _ + 1 <= _; (grind)))) (y:=.int ((0:Nat):Int)) (σ₂:=σ) rfl (oG (by rw [List.length_append,List.length_map]; show _ + 1 <= _; (grind)) ?_)
  cases fs <;> rfl
 exact (congrArg aM ((aa (a:=l8) (aC c0)).trans (aj (a:=l7) (av e1)))).trans rfl
end
end Mine
namespace Mine
open PySem
theorem xO {x:Int} {l:List Int}:(be (x::l))[0]?=some (gQ (x::l))/\(be (x::l))[l.length]?=some (jQ (x::l)):=by
 have pm:(be (x::l)).Perm (x::l):=List.mergeSort_perm _ _
 have pw:(be (x::l)).Pairwise fun a b=>a <= b:=by
  refine (List.pairwise_mergeSort (le:=fun a b=>decide (a <= b)) (fun a b c h1 h2=>?_) (fun a b=>?_) (x::l)).imp fun h=>of_decide_eq_true h
  ·exact decide_eq_true (Int.le_trans (of_decide_eq_true h1) (of_decide_eq_true h2))
  ·rw [Bool.or_eq_true,decide_eq_true_eq,decide_eq_true_eq]; exact Int.le_total a b
 have least:∀ (l:List Int) (a:Int),(l.foldl min a=a\/l.foldl min a ∈ l)/\l.foldl min a <= a/\∀ y ∈ l,l.foldl min a <= y:=by
  intro l
  induction l with
  | nil=>intro a; exact ⟨.inl rfl,Int.le_refl _,fun y hy=>nomatch hy⟩
  | cons b l ih =>
   intro a
   obtain ⟨h1,h2,h3⟩:=ih (min a b)
   rw [List.foldl_cons]
   refine ⟨?_,Int.le_trans h2 (Int.min_le_left _ _),fun y hy=>?_⟩
   ·rcases h1 with h1 | h1
    ·rw [h1]
     rcases aeg a b with q | q
     ·exact .inl q
     ·rw [q]; exact .inr List.mem_cons_self
    ·exact .inr (bG _ h1)
   ·rcases List.mem_cons.mp hy with rfl | hy
    ·exact Int.le_trans h2 (Int.min_le_right _ _)
    ·exact h3 y hy
 have most:∀ (l:List Int) (a:Int),(l.foldl max a=a\/l.foldl max a ∈ l)/\a <= l.foldl max a/\∀ y ∈ l,y <= l.foldl max a:=by
  intro l
  induction l with
  | nil=>intro a; exact ⟨.inl rfl,Int.le_refl _,fun y hy=>nomatch hy⟩
  | cons b l ih =>
   intro a
   obtain ⟨h1,h2,h3⟩:=ih (max a b)
   rw [List.foldl_cons]
   refine ⟨?_,Int.le_trans (Int.le_max_left _ _) h2,fun y hy=>?_⟩
   ·rcases h1 with h1 | h1
    ·rw [h1]
     rcases aen a b with q | q
     ·exact .inl q
     ·rw [q]; exact .inr List.mem_cons_self
    ·exact .inr (bG _ h1)
   ·rcases List.mem_cons.mp hy with rfl | hy
    ·exact Int.le_trans (Int.le_max_right _ _) h2
    ·exact h3 y hy
 obtain ⟨a1,a2,a3⟩:=least l x
 obtain ⟨b1,b2,b3⟩:=most l x
 have len:(be (x::l)).length=l.length + 1:=pm.length_eq
 have h0:0 < (be (x::l)).length:=by rw [len]; exact Nat.succ_pos _
 have h1:l.length < (be (x::l)).length:=by rw [len]; exact Nat.lt_succ_self _
 rw [List.getElem?_eq_getElem h0,List.getElem?_eq_getElem h1]
 have at_:∀ y,y ∈ x::l->∃ i,∃ h:i < (be (x::l)).length,(be (x::l))[i]=y:=fun y hy=>List.getElem_of_mem (pm.mem_iff.mpr hy)
 have le:∀ (i j:Nat) (hi:i < (be (x::l)).length) (hj:j < (be (x::l)).length),i <= j->(be (x::l))[i] <= (be (x::l))[j]:=fun i j hi hj h=>by
  rcases Nat.lt_or_eq_of_le h with h | rfl
  ·exact List.pairwise_iff_getElem.mp pw i j hi hj h
  ·exact Int.le_refl _
 have in_:∀ (i:Nat) (hi:i < (be (x::l)).length),(be (x::l))[i] ∈ x::l:=fun i hi=>pm.mem_iff.mp (List.getElem_mem hi)
 constructor
 ·refine congrArg some (Int.le_antisymm ?_ ?_)
  ·obtain ⟨i,hi,e⟩:=at_ (gQ (x::l)) (List.mem_cons.mpr a1)
   exact e ▸ le 0 i h0 hi (Nat.zero_le _)
  ·rcases List.mem_cons.mp (in_ 0 h0) with q | q
   ·rw [q]; exact a2
   ·exact a3 _ q
 ·refine congrArg some (Int.le_antisymm ?_ ?_)
  ·rcases List.mem_cons.mp (in_ l.length h1) with q | q
   ·rw [q]; exact b2
   ·exact b3 _ q
  ·obtain ⟨i,hi,e⟩:=at_ (jQ (x::l)) (List.mem_cons.mpr b1)
   exact e ▸ le i l.length hi h1 (by grind)
section
variable {d:Nat} {σ:ab}
theorem xN {l:List Int} (hl:l.length < 64):cI .sorted (.fl (l.map .int)) σ=.ok (.fl ((be l).map .int)) σ:=by
 show cE sF (fun l=>ac.ok (PV.fl l) σ) (.fl (l.map .int)) σ=_
 refine gy ?_
 show sF (l.map .int)=_
 unfold sF
 rw [oq]
 exact if_pos hl
theorem acr {pl mn:PV} {z:Option PV}:∀ (l:List Int) (a:Int) (y:Option PV),(0 <= a/\a <= 999999)->(∀ x ∈ l,0 <= x/\x <= 999999)->∃ y',aV none (bw 4) (fun ρ σ=>ex (CC d) topN k6 ρ σ) (l.map .int) [z,some pl,some mn,some (.int a),y,none,none,none,none] σ=.next [z,some pl,some mn,some (.int (l.foldl (fun a x=>a * x % 1000000) a)),y',none,none,none,none] σ:=by
 intro l
 induction l with
 | nil=>intro a y _ _; exact ⟨y,bB⟩
 | cons x l ih =>
  intro a y ha hl
  have hb:0 <= a * x % 1000000/\a * x % 1000000 <= 999999:=⟨Int.emod_nonneg _ (by decide),Int.le_of_lt_add_one (Int.emod_lt_of_pos _ (by decide))⟩
  obtain ⟨y',e⟩:=ih (a * x % 1000000) (some (.int x)) hb fun y hy=>hl y (bG _ hy)
  refine ⟨y',(a5 (ρ₁:=[z,some pl,some mn,some (.int a),some (.int x),none,none,none,none]) (ρ₂:=[z,some pl,some mn,some (.int (a * x % 1000000)),some (.int x),none,none,none,none]) (σ₂:=σ) rfl ?_).trans e⟩
  refine (aa (a:=j9) (aC (ay (ay (x:=.int a) (σ₁:=σ) rfl (y:=.int x) (σ₂:=σ) rfl (mul_int (.inl ?_))) (y:=.int 1000000) (σ₂:=σ) rfl (a9 (by decide))))).trans az
  (grind)
theorem fT {rp:PV} {vs:List PV} {v:PV} {k:Nat} {y:Option PV} (hk:k <= 100):aM (ex (CC d) topN (.cons jG .nil) [some rp,some (.fl vs),some (.int (k:Nat)),some v,y,none,none,none,none] σ)=.ok (.fl (List.replicate k v)) σ:=by
 have rng:evIt (CC d) (.range1 (.v 2)) [some rp,some (.fl vs),some (.int (k:Nat)),some v,y,none,none,none,none] σ=.ok (aF 0 1 k,none) σ:=by
  show (if 0 <= (k:Int)/\(k:Int) <= ao then ac.ok (aF 0 1 (k:Int).toNat,none) σ else .stuck)=_
  rw [if_pos ⟨Int.natCast_nonneg k,by rw [aZ]; (grind)⟩]; rfl
 have c:ev (CC d) pg [some rp,some (.fl vs),some (.int (k:Nat)),some v,y,none,none,none,none] σ=.ok (.fl ((aF 0 1 k).map fun zz=>v)) σ:=
  eU (fun zz=>v) rng (by rw [aZ]; simp [aF]; exact aE hk (by decide)) fun x zz=>rfl
 rw [List.map_const',show (aF 0 1 k).length=k by simp [aF]] at c
 exact (congrArg aM (aj (a:=jG) (av c))).trans rfl
theorem acY {r:bD} {vs:List PV} {k:Nat} (h:bX r vs.length k) (hl:vs.length <= 10) (h1:1 <= vs.length) (hk:k <= 100) (he:mJ r vs):aJ PP topN (d + 1) tx [r.pv,.fl vs,.int (k:Nat)] σ=.ok (.fl (fN r vs k)) σ:=by
 rw [a6 (fn:=tG) rfl rfl]
 have lim_:vs.length <= 100:=aE hl (by decide)
 have hx:vs[0]?=some (vs.getD 0 .none):=by rw [List.getD_eq_getElem?_getD,List.getElem?_eq_getElem (show 0 < vs.length from h1)]; rfl
 have skip:∀ {a:S} {b:List S} {ρ:aq} {c:X} {t:S},a=.ife c t .nil->tst (CC d) c ρ σ=.ok false σ->ex (CC d) topN a ρ σ=.next ρ σ:=fun {a b ρ c t} e h=>by rw [e]; exact (ah h)
 have s1:∀ {rp:PV},ex (CC d) topN pf [some rp,some (.fl vs),some (.int (k:Nat)),none,none,none,none,none,none] σ=.next [some rp,some (.fl vs),some (.int (k:Nat)),some (vs.getD 0 .none),none,none,none,none,none] σ:=fun {rp} =>
  aC (bz (x:=.fl vs) (σ₁:=σ) rfl (y:=.int ((0:Nat):Int)) (σ₂:=σ) rfl (oG lim_ hx))
 generalize hm:vs.length=m at h
 cases h with
 | sum _ _ =>
  obtain ⟨l,rfl,hv⟩:=dY (show ∀ v ∈ vs,bC v from he)
  have e:ev (CC d) (.bin .mod (.b1 .sum (.v 1)) (.bin .pow (.k (.int 10)) (.k (.int 6)))) [some (bD.pv (.word "sum")),some (.fl (l.map .int)),some (.int (k:Nat)),some ((l.map PV.int).getD 0 .none),none,none,none,none,none] σ=.ok (.int (l.sum % 1000000)) σ:=
   ay (bO (x:=.fl (l.map .int)) (σ₁:=σ) rfl (adI (by rw [List.length_map] at hl; exact aE hl (by decide)) hv)) (y:=.int 1000000) (σ₂:=σ) rfl (a9 (by decide))
  refine (congrArg aM ((aa (a:=b5) (ah (σ':=σ) rfl)).trans ((aa s1).trans ((aa (a:=cB) ((aI (σ':=σ) rfl).trans ((aa (a:=mj) (aC e)).trans az))).trans
   ((aa (a:=cA) (ah (σ':=σ) rfl)).trans ((aa (a:=cz) (ah (σ':=σ) rfl)).trans ((aa (a:=cy) (ah (σ':=σ) rfl)).trans (aa (a:=cw) (ah (σ':=σ) rfl))))))))).trans ((fT hk).trans ?_)
  show ac.ok (PV.fl (List.replicate k (.int (l.sum % 1000000)))) σ=ac.ok (.fl (List.replicate k (.int ((db (l.map .int)).sum % 1000000)))) σ
  rw [cU]
 | times _ _ =>
  obtain ⟨l,rfl,hv⟩:=dY (show ∀ v ∈ vs,bC v from he)
  obtain ⟨y,e⟩:=acr (d:=d) (σ:=σ) (pl:=.fl (l.map .int)) (mn:=.int (k:Nat)) (z:=some (bD.pv (.word "times"))) l 1 none (by decide) hv
  refine (congrArg aM ((aa (a:=b5) (ah (σ':=σ) rfl)).trans ((aa s1).trans ((aa (a:=cB) (ah (σ':=σ) rfl)).trans
   ((aa (a:=cA) ((aI (σ':=σ) rfl).trans ((aa (a:=mi) (aC (v:=.int 1) (σ':=σ) rfl)).trans ((aa (a:=mh) (bL (ys:=l.map .int) (σ₁:=σ) rfl e)).trans az)))).trans ((aa (a:=cz) (ah (σ':=σ) rfl)).trans ((aa (a:=cy) (ah (σ':=σ) rfl)).trans (aa (a:=cw) (ah (σ':=σ) rfl))))))))).trans ((fT hk).trans ?_)
  show ac.ok (PV.fl (List.replicate k (.int (sI l)))) σ=ac.ok (.fl (List.replicate k (.int (sI (db (l.map .int)))))) σ
  rw [cU]
 | least _ _ =>
  obtain ⟨l,rfl,hv⟩:=dY (show ∀ v ∈ vs,bC v from he)
  cases l with
  | nil=>exact absurd h1 (by decide)
  | cons x l =>
  have so:=xO (x:=x) (l:=l)
  have sl:((be (x::l)).map PV.int).length <= 100:=by rw [List.length_map,show (be (x::l)).length=(x::l).length from (List.mergeSort_perm _ _).length_eq,<- List.length_map (f:=PV.int)]; exact lim_
  have e:ev (CC d) (.sub (.b1 .sorted (.v 1)) (.sub (.lst true (.cons (.k (.int 0)) (.cons (.neg (.k (.int 1))) .nil))) (.b1 .int (.cmp (.sub (.v 0) (.k (.int 0))) .eq (.k (.str "most")))))) [some (bD.pv (.word "least")),some (.fl ((x::l).map .int)),some (.int (k:Nat)),some (((x::l).map PV.int).getD 0 .none),none,none,none,none,none] σ=.ok (.int (gQ (x::l))) σ:=
   bz (bO (x:=.fl ((x::l).map .int)) (σ₁:=σ) rfl (xN (by rw [List.length_map] at hl; (exact Nat.lt_of_le_of_lt (by assumption) (by decide))))) (y:=.int ((0:Nat):Int)) (σ₂:=σ) rfl (oG sl (by rw [List.getElem?_map,so.1]; rfl))
  refine (congrArg aM ((aa (a:=b5) (ah (σ':=σ) rfl)).trans ((aa s1).trans ((aa (a:=cB) (ah (σ':=σ) rfl)).trans
   ((aa (a:=cA) (ah (σ':=σ) rfl)).trans ((aa (a:=cz) ((aI (σ':=σ) rfl).trans ((aa (a:=h7) (aC e)).trans az))).trans ((aa (a:=cy) (ah (σ':=σ) rfl)).trans (aa (a:=cw) (ah (σ':=σ) rfl))))))))).trans ((fT hk).trans ?_)
  show ac.ok (PV.fl (List.replicate k (.int (gQ (x::l))))) σ=ac.ok (.fl (List.replicate k (.int (gQ (db ((x::l).map .int)))))) σ
  rw [cU]
 | most _ _ =>
  obtain ⟨l,rfl,hv⟩:=dY (show ∀ v ∈ vs,bC v from he)
  cases l with
  | nil=>exact absurd h1 (by decide)
  | cons x l =>
  have so:=xO (x:=x) (l:=l)
  have sl:((be (x::l)).map PV.int).length=l.length + 1:=by rw [List.length_map]; exact (List.mergeSort_perm _ _).length_eq
  have ll:l.length + 1 <= 100:=by rw [List.length_map] at lim_; exact lim_
  have e:ev (CC d) (.sub (.b1 .sorted (.v 1)) (.sub (.lst true (.cons (.k (.int 0)) (.cons (.neg (.k (.int 1))) .nil))) (.b1 .int (.cmp (.sub (.v 0) (.k (.int 0))) .eq (.k (.str "most")))))) [some (bD.pv (.word "most")),some (.fl ((x::l).map .int)),some (.int (k:Nat)),some (((x::l).map PV.int).getD 0 .none),none,none,none,none,none] σ=.ok (.int (jQ (x::l))) σ:=by
   refine bz (bO (x:=.fl ((x::l).map .int)) (σ₁:=σ) rfl (xN (by rw [List.length_map] at hl; (grind)))) (y:=.int (-1)) (σ₂:=σ) rfl ?_
   show (match a8 σ (.fl ((be (x::l)).map PV.int)) with
    | some xs=>iM xs (-1) σ
    | none=>.stuck)=_
   show (if ((be (x::l)).map PV.int).length <= ao then ac.ofOpt ((b7 (-1) ((be (x::l)).map PV.int).length).bind (((be (x::l)).map PV.int)[·]?)) σ else .stuck)=_
   rw [if_pos (by rw [sl,aZ]; (exact aE (by assumption) (by decide))),sl,show b7 (-1) (l.length + 1)=some l.length by unfold b7; rw [if_neg (by decide)]; simp; (grind)]
   show ac.ofOpt (((be (x::l)).map PV.int)[l.length]?) σ=_
   rw [List.getElem?_map,so.2]; rfl
  refine (congrArg aM ((aa (a:=b5) (ah (σ':=σ) rfl)).trans ((aa s1).trans ((aa (a:=cB) (ah (σ':=σ) rfl)).trans
   ((aa (a:=cA) (ah (σ':=σ) rfl)).trans ((aa (a:=cz) ((aI (σ':=σ) rfl).trans ((aa (a:=h7) (aC e)).trans az))).trans ((aa (a:=cy) (ah (σ':=σ) rfl)).trans (aa (a:=cw) (ah (σ':=σ) rfl))))))))).trans ((fT hk).trans ?_)
  show ac.ok (PV.fl (List.replicate k (.int (jQ (x::l))))) σ=ac.ok (.fl (List.replicate k (.int (jQ (db ((x::l).map .int)))))) σ
  rw [cU]
 | later _ =>
  exact (congrArg aM ((aa (a:=b5) (ah (σ':=σ) rfl)).trans ((aa s1).trans ((aa (a:=cB) (ah (σ':=σ) rfl)).trans
   ((aa (a:=cA) (ah (σ':=σ) rfl)).trans ((aa (a:=cz) (ah (σ':=σ) rfl)).trans ((aa (a:=cy) (ah (σ':=σ) rfl)).trans (aa (a:=cw) (ah (σ':=σ) rfl))))))))).trans (fT hk)
 | way =>
  obtain ⟨a,b,rfl⟩:=w6 hm
  obtain ⟨j,rfl,_⟩:=(show ∀ v ∈ [a,b],bC v from he) b (by simp)
  have e:ev (CC d) (.sub (.lst true (.cons (.lst true (.cons (.sub (.v 1) (.k (.int 0))) (.cons (.k .none) .nil))) (.cons (.lst true (.cons (.k .none) (.cons (.sub (.v 1) (.k (.int 0))) .nil))) .nil))) (.b1 .int (.cmp (.sub (.v 1) (.k (.int 1))) .ne (.k (.int 0))))) [some (bD.pv (.word "way")),some (.fl [a,.int j]),some (.int ((2:Nat):Int)),none,none,none,none,none,none] σ=.ok (.fl (if gu (.int j)=true then [a,.none] else [.none,a])) σ:=by
   refine bz (x:=.fl [.fl [a,.none],.fl [.none,a]]) (σ₁:=σ) rfl (bO (ek (x:=.int j) (y:=.int 0) (σ₁:=σ) (σ₂:=σ) rfl rfl zQ) int_bool) ?_
   show _=ac.ok (PV.fl (if (j == 0)=true then [a,.none] else [.none,a])) σ
   cases (j == 0) <;> rfl
  exact (congrArg aM (aj (a:=b5) ((aI (σ':=σ) rfl).trans (aj (a:=ml) (av e))))).trans rfl
 | choose _ =>
  obtain ⟨i,hi,_⟩:=(show bC (vs.getD 0 .none) from And.left he)
  obtain ⟨a,b,c,rfl⟩:=w5 hm
  obtain rfl:a=.int i:=hi
  have e:ev (CC d) (.sub (.v 1) (.bin .add (.k (.int 1)) (.b1 .int (.cmp (.sub (.v 1) (.k (.int 0))) .ne (.k (.int 0)))))) [some (bD.pv (.word "choose")),some (.fl [.int i,b,c]),some (.int (k:Nat)),some (.int i),none,none,none,none,none] σ=.ok (if gu (.int i)=true then b else c) σ:=by
   refine bz (x:=.fl [.int i,b,c]) (σ₁:=σ) rfl (ay (x:=.int 1) (σ₁:=σ) rfl (bO (ek (x:=.int i) (y:=.int 0) (σ₁:=σ) (σ₂:=σ) rfl rfl zQ) int_bool) add_int) ?_
   show _=ac.ok (if (i == 0)=true then b else c) σ
   cases (i == 0) <;> rfl
  exact (congrArg aM ((aa (a:=b5) (ah (σ':=σ) rfl)).trans ((aa s1).trans ((aa (a:=cB) (ah (σ':=σ) rfl)).trans
   ((aa (a:=cA) (ah (σ':=σ) rfl)).trans ((aa (a:=cz) (ah (σ':=σ) rfl)).trans ((aa (a:=cy) (ah (σ':=σ) rfl)).trans (aa (a:=cw) ((aI (σ':=σ) rfl).trans ((aa (a:=mc) (aC e)).trans az)))))))))).trans (fT hk)
 | fixed v _ _ _ _ =>
  exact (congrArg aM ((aa (a:=b5) (ah (σ':=σ) rfl)).trans ((aa s1).trans ((aa (a:=cB) (ah (σ':=σ) rfl)).trans
   ((aa (a:=cA) (ah (σ':=σ) rfl)).trans ((aa (a:=cz) (ah (σ':=σ) rfl)).trans ((aa (a:=cy) ((aI (σ':=σ) rfl).trans ((aa (a:=mf) (aC (v:=.int v) (σ':=σ) rfl)).trans az))).trans (aa (a:=cw) (ah (σ':=σ) rfl))))))))).trans (fT hk)
end
end Mine
namespace Mine
open PySem
section
variable {d:Nat} {σ:ab} {es:cQ} {tk n:Nat} {s:ae}
noncomputable def iD (sp:PV) (tk:Nat) (t:Int) (n:Nat) (vs:List PV) (w:Int) (us:List PV) (z:Option PV):aq:=[some sp,some (.ref tk),some (.int t),some (.int (n:Nat)),some (.fl vs),some (.int w),some (.fl us),z,none,none,none,none]
theorem ac6 {t w:Int} {vs us:List PV} (hu:us.length=s.gives.length) (hg:s.gives.length <= 3) (hw:w < n) (hk:tk < σ.length):∀ (k a:Nat) (es:cQ) (z:Option PV),a + k=s.gives.length->es.length + 3 < 900000 + a ->
  ∃ z',aV none (bw 7) (fun ρ σ=>ex (CC d) topN fE ρ σ) ((List.range' a k).map fun (i:Nat)=>PV.int (0 + (i:Int) * 1)) (iD s.pv tk t n vs w us z) (σ.set tk (.dp es))=.next (iD s.pv tk t n vs w us z') (σ.set tk (.dp (((s.gives.zip us).drop a).foldl (fq w) es))):=by
 intro k
 induction k with
 | zero =>
  intro a es z ha _
  refine ⟨z,bB.trans ?_⟩
  rw [List.drop_eq_nil_of_le (by rw [List.length_zip,hu,Nat.min_self]; (grind))]; rfl
 | succ k ih =>
  intro a es z ha hl
  have ag:a < s.gives.length:=by grind
  have au:a < us.length:=by grind
  have hd:(s.gives.zip us).drop a=(s.gives[a],us[a])::(s.gives.zip us).drop (a + 1):=by
   rw [List.drop_eq_getElem_cons (by rw [List.length_zip,hu,Nat.min_self]; exact ag),List.getElem_zip]
  have hh:(σ.set tk (.dp es))[tk]?=some (.dp es):=List.getElem?_set_self hk
  have e1:∀ {τ:ab},ev (CC d) (.sub (.v 6) (.v 7)) (iD s.pv tk t n vs w us (some (.int (a:Int)))) τ=.ok us[a] τ:=fun {τ}=>bz (x:=.fl us) (y:=.int (a:Int)) (σ₁:=τ) (σ₂:=τ) rfl rfl (oG (by grind) (List.getElem?_eq_getElem au))
  have t1:tst (CC d) (.and (.cons (.cmp (.sub (.v 6) (.v 7)) .isNot (.k .none)) (.cons (.cmp (.v 5) .lt (.v 3)) .nil))) (iD s.pv tk t n vs w us (some (.int (a:Int)))) (σ.set tk (.dp es))=.ok (!fh us[a]) (σ.set tk (.dp es)):=by
   refine eN ((ey (aU e1 (y:=.none) (σ₂:=σ.set tk (.dp es)) rfl (v:=.ok (!fh us[a]) (σ.set tk (.dp es))) rfl) fun zz=>dQ (aU (x:=.int w) (y:=.int (n:Nat)) (σ₁:=σ.set tk (.dp es)) (σ₂:=σ.set tk (.dp es)) rfl rfl lt_int)).trans ?_)
   rw [decide_eq_true hw,Bool.and_true]
  have hb:bw 7 (PV.int (0 + (a:Int) * 1)) (iD s.pv tk t n vs w us z)=some (iD s.pv tk t n vs w us (some (.int (a:Int)))):=by
   rw [show (0:Int) + (a:Int) * 1=a by grind]; rfl
  obtain ⟨z',e⟩:=ih (a + 1) (fq w es (s.gives[a],us[a])) (some (.int (a:Int))) (by grind) (by have:=tV (w:=w) (es:=es) (e:=(s.gives[a],us[a])); grind)
  refine ⟨z',?_⟩
  rw [List.range'_succ,List.map_cons,hd,List.foldl_cons]
  refine (a5 hb ((aa (a:=h8) ?_).trans az)).trans e
  unfold fq
  cases hv:fh us[a] with
  | true =>
   rw [hv] at t1
   rw [if_pos rfl]
   exact (ah t1)
  | false =>
   rw [hv] at t1
   rw [if_neg (by decide)]
   refine (aI t1).trans ((aa (a:=ka) ?_).trans az)
   have e2:ev (CC d) (.tup (.cons (.sub (.sub (.v 0) (.k (.int 3))) (.v 7)) (.cons (.v 5) .nil))) (iD s.pv tk t n vs w us (some (.int (a:Int)))) (σ.set tk (.dp es))=.ok (.tup [.str s.gives[a],.int w]) (σ.set tk (.dp es)):=
    g7 (vs:=[.str s.gives[a],.int w]) (aN (bz (x:=.tup (s.gives.map .str)) (y:=.int (a:Int)) (σ₁:=σ.set tk (.dp es)) (σ₂:=σ.set tk (.dp es)) rfl rfl (ahs (by rw [List.length_map,aZ]; (exact aE (by assumption) (by decide))) (Int.natCast_nonneg a) (by rw [Int.toNat_natCast,List.getElem?_map,List.getElem?_eq_getElem ag]; rfl))) (aN (x:=.int w) (σ₁:=σ.set tk (.dp es)) rfl b6)) (show (2:Nat) <= ao by decide)
   show (ev (CC d) (.sub (.v 6) (.v 7)) (iD s.pv tk t n vs w us (some (.int (a:Int)))) (σ.set tk (.dp es))).toS _ (fun v σ=>(ev (CC d) (.v 1) (iD s.pv tk t n vs w us (some (.int (a:Int)))) σ).toS _ fun o σ=>(ev (CC d) (.tup (.cons (.sub (.sub (.v 0) (.k (.int 3))) (.v 7)) (.cons (.v 5) .nil))) (iD s.pv tk t n vs w us (some (.int (a:Int)))) σ).toS _ fun i σ=>bV o i v _ σ)=_
   rw [e1,cO,show ev (CC d) (.v 1) (iD s.pv tk t n vs w us (some (.int (a:Int)))) (σ.set tk (.dp es))=.ok (.ref tk) (σ.set tk (.dp es)) from rfl,cO,e2,cO,lE hh (by rw [aZ]; (grind)),List.set_set]
theorem adS {t w:Int} {vs us:List PV} (hu:us.length <= 3) (hw:¬ w < n):∀ (k a:Nat) (z:Option PV),a + k=us.length ->
  ∃ z',aV none (bw 7) (fun ρ σ=>ex (CC d) topN fE ρ σ) ((List.range' a k).map fun (i:Nat)=>PV.int (0 + (i:Int) * 1)) (iD s.pv tk t n vs w us z) σ=.next (iD s.pv tk t n vs w us z') σ:=by
 intro k
 induction k with
 | zero=>intro a z _; exact ⟨z,bB⟩
 | succ k ih =>
  intro a z ha
  have au:a < us.length:=by grind
  have t1:tst (CC d) (.and (.cons (.cmp (.sub (.v 6) (.v 7)) .isNot (.k .none)) (.cons (.cmp (.v 5) .lt (.v 3)) .nil))) (iD s.pv tk t n vs w us (some (.int (a:Int)))) σ=.ok false σ:=by
   refine eN ((ey (aU (bz (x:=.fl us) (y:=.int (a:Int)) (σ₁:=σ) (σ₂:=σ) rfl rfl (oG (by (exact aE (by assumption) (by decide))) (List.getElem?_eq_getElem au))) (y:=.none) (σ₂:=σ) rfl (v:=.ok (!fh us[a]) σ) rfl) fun zz=>dQ (aU (x:=.int w) (y:=.int (n:Nat)) (σ₁:=σ) (σ₂:=σ) rfl rfl lt_int)).trans ?_)
   rw [decide_eq_false hw,Bool.and_false]
  have hb:bw 7 (PV.int (0 + (a:Int) * 1)) (iD s.pv tk t n vs w us z)=some (iD s.pv tk t n vs w us (some (.int (a:Int)))):=by
   rw [show (0:Int) + (a:Int) * 1=a by grind]; rfl
  obtain ⟨z',e⟩:=ih (a + 1) (some (.int (a:Int))) (by grind)
  refine ⟨z',?_⟩
  rw [List.range'_succ,List.map_cons]
  exact (a5 hb ((aa (a:=h8) (ah t1)).trans az)).trans e
theorem acZ {t:Int} (hs:dg s) (h:σ[tk]?=some (.dp es)) (hv:d8 es) (hm:cN es s t=none) (h1:t < n) (hl:es.length < 800000):aJ PP topN (d + 2) fi [s.pv,.ref tk,.int t,.int (n:Nat)] σ=.ok .none (σ.set tk (.dp (fC n es s t))):=by
 rw [a6 (fn:=nZ) rfl rfl]
 have vl:(bq es s t).length=s.needs.length:=List.length_map _
 have hk:tk < σ.length:=(cS h).1
 have c0:ev (CC (d + 1)) py [some s.pv,some (.ref tk),some (.int t),some (.int (n:Nat)),none,none,none,none,none,none,none,none] σ=.ok (.fl (bq es s t)) σ:=by
  refine (eU (xs:=s.needs.map .str) (fun y=>match y with | .str x=>(ai (x,t) es).getD .none | _=>.none) rfl (by rw [List.length_map]; exact aE hs.needs4 (by decide)) (fun y hy=>?_)).trans ?_
  ·obtain ⟨x,hx,rfl⟩:=List.mem_map.mp hy
   exact fA (x:=.ref tk) (σ₁:=σ) rfl (vV h) (y:=.tup [.str x,.int t]) (σ₂:=σ) rfl (vT h)
  ·rw [List.map_map]; rfl
 have s1:ex (CC (d + 1)) topN pq [some s.pv,some (.ref tk),some (.int t),some (.int (n:Nat)),some (.fl (bq es s t)),none,none,none,none,none,none,none] σ=.next [some s.pv,some (.ref tk),some (.int t),some (.int (n:Nat)),some (.fl (bq es s t)),some (.int (cD s t)),none,none,none,none,none,none] σ:=
  aC (ay (x:=.int t) (σ₁:=σ) rfl (bO (ek (x:=s.rule.pv) (y:=.tup [.str "later"]) (σ₁:=σ) (σ₂:=σ) rfl rfl (wP hs.rule).1) int_bool) add_int)
 have g:=acY (d:=d) (σ:=σ) (r:=s.rule) (vs:=bq es s t) (k:=s.gives.length) (by rw [vl]; exact hs.rule) (by rw [vl]; exact aE hs.needs4 (by decide)) (by rw [vl]; exact hs.needs1) (aE hs.gives3 (by decide)) (sf hs hv hm)
 have s2:ex (CC (d + 1)) topN pn [some s.pv,some (.ref tk),some (.int t),some (.int (n:Nat)),some (.fl (bq es s t)),some (.int (cD s t)),none,none,none,none,none,none] σ=.next (iD s.pv tk t n (bq es s t) (cD s t) (fN s.rule (bq es s t) s.gives.length) none) σ:=
  aC (gC (x:=s.rule.pv) (y:=.fl (bq es s t)) (σ₁:=σ) (σ₂:=σ) rfl rfl (bO (x:=.tup (s.gives.map .str)) (σ₁:=σ) rfl (acX (aE hs.gives3 (by decide)))) g)
 have ul:=zL (vs:=bq es s t) hs.rule
 have it:evIt (CC (d + 1)) (.range1 (.b1 .len (.v 6))) (iD s.pv tk t n (bq es s t) (cD s t) (fN s.rule (bq es s t) s.gives.length) none) σ=.ok ((List.range' 0 s.gives.length).map fun (i:Nat)=>PV.int (0 + (i:Int) * 1),none) σ:=by
  rw [oc,bO (C:=CC (d + 1)) (a:=.v 6) (x:=.fl (fN s.rule (bq es s t) s.gives.length)) (σ₁:=σ) rfl (z6 (by rw [ul,aZ]; have:=hs.gives3; (exact aE (by assumption) (by decide)))),aB,ul]
  show (if 0 <= (s.gives.length:Int)/\(s.gives.length:Int) <= ao then ac.ok (aF 0 1 (s.gives.length:Int).toNat,none) σ else .stuck)=_
  rw [if_pos ⟨Int.natCast_nonneg _,by have:=hs.gives3; rw [aZ]; (grind)⟩,<- List.range_eq_range']; rfl
 have fin:∀ {z':Option PV} {σ':ab},aV none (bw 7) (fun ρ σ=>ex (CC (d + 1)) topN fE ρ σ) ((List.range' 0 s.gives.length).map fun (i:Nat)=>PV.int (0 + (i:Int) * 1)) (iD s.pv tk t n (bq es s t) (cD s t) (fN s.rule (bq es s t) s.gives.length) none) σ=.next (iD s.pv tk t n (bq es s t) (cD s t) (fN s.rule (bq es s t) s.gives.length) z') σ'->aM (ex (CC (d + 1)) topN nZ.body [some s.pv,some (.ref tk),some (.int t),some (.int (n:Nat)),none,none,none,none,none,none,none,none] σ)=.ok .none σ':=fun {z' σ'} e =>
  (congrArg aM ((aa (a:=pt) (aC c0)).trans ((aa s1).trans ((aa s2).trans ((aa (a:=pj) (bL it e)).trans az))))).trans rfl
 have self:σ.set tk (.dp es)=σ:=by
  have e:=(cS h).2
  rw [<- e]; exact List.set_getElem_self hk
 have wl:cD s t <= t + 1:=by
  unfold cD
  split <;> (grind)
 unfold fC
 by_cases hw:cD s t=n
 ·rw [if_pos hw,self]
  obtain ⟨z',e⟩:=adS (d:=d + 1) (σ:=σ) (tk:=tk) (s:=s) (n:=n) (t:=t) (w:=cD s t) (vs:=bq es s t) (us:=fN s.rule (bq es s t) s.gives.length) (by rw [ul]; exact hs.gives3) (by grind) s.gives.length 0 none (by rw [ul]; (exact Nat.zero_add _))
  exact fin e
 ·rw [if_neg hw]
  obtain ⟨z',e⟩:=ac6 (d:=d + 1) (σ:=σ) (tk:=tk) (s:=s) (n:=n) (t:=t) (w:=cD s t) (vs:=bq es s t) (us:=fN s.rule (bq es s t) s.gives.length) ul hs.gives3 (by grind) hk s.gives.length 0 es none (by (exact Nat.zero_add _)) (by grind)
  rw [self,List.drop_zero] at e
  exact fin e
end
end Mine
namespace Mine
open PySem
noncomputable def bh (k:Str × Int):PV:=.tup [.str k.1,.int k.2]
noncomputable def d9 (k:Str × Int):PyData:=.tuple [.str k.1,.int k.2]
theorem ac0 (a b:Str × Int):PyData.eqv (d9 a) (d9 b)=decide (a=b):=by
 show (a.1 == b.1 && (a.2 == b.2 && true))=_
 rw [Bool.and_true,Bool.eq_iff_iff,Bool.and_eq_true,beq_iff_eq,beq_iff_eq,decide_eq_true_eq]
 exact ⟨fun h=>Prod.ext h.1 h.2,fun h=>h ▸ ⟨rfl,rfl⟩⟩
section
variable {d:Nat} {σ:ab}
theorem oF {n:Nat}:∀ (l:List (Str × Int)),(l.map bh).mapM (bA (n + 2) σ)=some (l.map d9):=by
 intro l
 induction l with
 | nil=>rfl
 | cons q l ih=>rw [List.map_cons,List.mapM_cons,ih]; rfl
theorem ahI {k:Str × Int} {l:List (Str × Int)}:iL σ (bh k) (l.map bh)=some (decide (k ∈ l)):=by
 unfold iL
 rw [oF (n:=14) l]
 show some ((l.map d9).any fun y=>PyData.eqv y (d9 k))=_
 refine congrArg some ?_
 rw [List.any_map,Bool.eq_iff_iff,List.any_eq_true,decide_eq_true_eq]
 exact ⟨fun ⟨x,hx,e⟩=>by
  have e:PyData.eqv (d9 x) (d9 k)=true:=e
  rw [ac0] at e
  exact of_decide_eq_true e ▸ hx,fun h=>⟨k,h,by
  show PyData.eqv (d9 k) (d9 k)=true
  rw [ac0]; exact decide_eq_true rfl⟩⟩
theorem ad6 {r:Nat} {k:Str × Int} {l:List (Str × Int)} (h:σ[r]?=some (.lst (l.map bh))):bp .notin (bh k) (.ref r) σ=.ok (!decide (k ∈ l)) σ:=by
 show ac.ofOpt ((cj (bh k) (.ref r) σ).map (!·)) σ=_
 have:cj (bh k) (.ref r) σ=some (decide (k ∈ l)):=by unfold cj; dsimp only; rw [h]; exact ahI
 rw [this]; rfl
theorem wo:∀ (l:List (Str × Int)),PyData.eqv (.list (l.map d9)) (.list (l.map d9))=true:=by
 intro l
 show PyData.eqvAll _ _=true
 induction l with
 | nil=>rfl
 | cons q l ih =>
  rw [List.map_cons]
  show (PyData.eqv (d9 q) (d9 q) && PyData.eqvAll _ _)=true
  rw [ih,ac0,decide_eq_true rfl]; rfl
theorem adF {r:Nat} {l:List (Str × Int)} (h:σ[r]?=some (.lst (l.map bh))):bA 16 σ (.ref r)=some (.list (l.map d9)):=by
 show (match σ[r]? with | some (.lst xs)=>(xs.mapM (bA 15 σ)).map PyData.list | _=>none)=_
 rw [h]
 show ((l.map bh).mapM (bA 15 σ)).map PyData.list=_
 rw [oF (n:=13) l]; rfl
theorem ahM {r:Nat} {xs:List PV} (h:σ[r]?=some (.lst xs)):eB (.ref r) .list σ=.ok true σ:=by
 have e:a8 σ (.ref r)=some xs:=by unfold a8; dsimp only; rw [h]
 show (match a8 σ (.ref r) with | some _=>ac.ok true σ | none=>.stuck)=_
 rw [e]
theorem ahQ {a b:Option PV} {q:Str × Int}:ex (CC d) topN i6 [a,b,some (bh q),none,none,none] σ=.next [a,b,some (bh q),none,none,none] σ:=by
 have c0:ev (CC d) oY [a,b,some (bh q),none,none,none] σ=.ok (.fl []) σ:=by
  refine (qe (fun zz=>none) (xs:=[.str q.1,.int q.2]) rfl (show (2:Nat) <= ao by decide) (fun x hx=>?_) (fun x hx v hv=>by contradiction)).trans rfl
  rcases List.mem_cons.mp hx with rfl | hx
  ·rfl
  ·rw [List.mem_singleton.mp hx]; rfl
 exact (aa (ah (σ':=σ) (iH (fJ (σ₁:=σ) rfl (fK (aU c0 (y:=.fl []) (σ₂:=σ) rfl rfl)))))).trans az
theorem ahP {w:Option (Nat × MO)} {a b:Option PV} (hw:cJ w σ):∀ (l:List (Str × Int)) (y:Option PV),∃ y',aV w (bw 2) (fun ρ σ=>ex (CC d) topN i6 ρ σ) (l.map bh) [a,b,y,none,none,none] σ=.next [a,b,y',none,none,none] σ:=by
 intro l
 induction l with
 | nil=>intro y; exact ⟨y,lP hw⟩
 | cons q l ih =>
  intro y
  obtain ⟨y',e⟩:=ih (some (bh q))
  exact ⟨y',(j6 hw (ρ₁:=[a,b,some (bh q),none,none,none]) rfl ahQ).trans e⟩
theorem ai1 {C:bn} {x:X} {ρ:aq} {r:Nat} {xs:List PV} (h:evIt C x ρ σ=(ev C x ρ σ).bind kP) (hx:ev C x ρ σ=.ok (.ref r) σ) (hr:σ[r]?=some (.lst xs)):evIt C x ρ σ=.ok (xs,some (r,.lst xs)) σ:=by
 rw [h,hx]
 show kP (.ref r) σ=_
 unfold kP ak ie
 dsimp only
 rw [hr]
theorem ru {r q:Nat} {l:List (Str × Int)} (hr:σ[r]?=some (.lst (l.map bh))) (hq:σ[q]?=some (.lst (l.map bh))):aJ PP topN (d + 1) jR [.ref r,.ref q] σ=.ok (.bool true) σ:=by
 rw [a6 (fn:=tF) rfl rfl]
 obtain ⟨y',e⟩:=ahP (d:=d) (a:=some (.ref r)) (b:=some (.ref q)) (w:=some (r,.lst (l.map bh))) hr l none
 have ne:bp .ne (.ref r) (.ref q) σ=.ok false σ:=by
  show ac.ofOpt ((eqv σ (.ref r) (.ref q)).map (!·)) σ=_
  unfold eqv
  rw [adF hr,adF hq]
  show ac.ofOpt (some (!PyData.eqv _ _)) σ=_
  rw [wo]; rfl
 have s0:ex (CC d) topN oX [some (.ref r),some (.ref q),none,none,none,none] σ=.next [some (.ref r),some (.ref q),none,none,none,none] σ:=
  (ah (σ':=σ) (iH (fJ (σ₁:=σ) (cT (q:=true) (zw (uJ (x:=.ref r) (σ₁:=σ) rfl (ahM hr)))) (fK (aU (x:=.ref r) (y:=.ref q) (σ₁:=σ) (σ₂:=σ) rfl rfl ne)))))
 have s1:ex (CC d) topN oW [some (.ref r),some (.ref q),none,none,none,none] σ=.next [some (.ref r),some (.ref q),y',none,none,none] σ:=by
  show (evIt (CC d) (.v 0) [some (.ref r),some (.ref q),none,none,none,none] σ).toS _ _=_
  rw [ai1 (r:=r) rfl rfl hr]; exact e
 exact (congrArg aM ((aa s0).trans ((aa s1).trans (aj (a:=oV) (av rfl))))).trans rfl
theorem acF {C:bn} {N n:Nat} {E:Option PV->Option PV->Option PV->aq} {ss ts:Nat} {rng:X} {body:S} {τ:ab} {pick:ae->Nat->List PV} (hd:C.hd=false)
  (hb1:∀ v a b c,bw ss v (E a b c)=some (E (some v) b c)) (hb2:∀ v a b c,bw ts v (E a b c)=some (E a (some v) c))
  (hr:∀ (s:ae) b c acc,evIt C rng (E (some s.pv) b c) (τ++[.lst acc])=.ok (aF 0 1 n,none) (τ++[.lst acc])) (hp:∀ s t,(pick s t).length <= 1):∀ (q:List ae),
  (∀ s ∈ q,∀ t,t < n->∀ acc c,acc.length < 900->∃ c',ex C N body (E (some s.pv) (some (.int (t:Nat))) c) (τ++[.lst acc])=.next (E (some s.pv) (some (.int (t:Nat))) c') (τ++[.lst (acc++pick s t)])) ->
  ∀ a b c acc,acc.length + q.length * n < 900->∃ a' b' c',aV none (bw ss) (fun ρ σ=>ex C N (.cons (.for1 ts rng body) .nil) ρ σ) (q.map ae.pv) (E a b c) (τ++[.lst acc])=.next (E a' b' c') (τ++[.lst (acc++q.flatMap fun s=>(List.range n).flatMap (pick s))]):=by
 intro q
 induction q with
 | nil=>intro _ a b c acc _; exact ⟨a,b,c,bB.trans (by rw [List.flatMap_nil,List.append_nil])⟩
 | cons s q ih =>
  intro hbody a b c acc hl
  rw [List.length_cons,Nat.succ_mul] at hl
  have inner:∀ (k i:Nat) (b c:Option PV) (acc:List PV),i + k=n->acc.length + k < 900->∃ b' c',aV none (bw ts) (fun ρ σ=>ex C N body ρ σ) ((List.range' i k).map fun (i:Nat)=>PV.int (0 + (i:Int) * 1)) (E (some s.pv) b c) (τ++[.lst acc])=.next (E (some s.pv) b' c') (τ++[.lst (acc++(List.range' i k).flatMap (pick s))])/\(acc++(List.range' i k).flatMap (pick s)).length <= acc.length + k:=by
   intro k
   induction k with
   | zero=>intro i b c acc _ _; exact ⟨b,c,bB.trans (by rw [List.range'_zero,List.flatMap_nil,List.append_nil]),by rw [List.range'_zero,List.flatMap_nil,List.append_nil]; exact Nat.le_refl _⟩
   | succ k ik =>
    intro i b c acc hi hk
    obtain ⟨c1,e1⟩:=hbody s List.mem_cons_self i (by grind) acc c (by grind)
    have pl:=hp s i
    have al:(acc++pick s i).length <= acc.length + 1:=by rw [List.length_append]; (grind)
    obtain ⟨b',c',e2,l2⟩:=ik (i + 1) (some (.int (i:Nat))) c1 (acc++pick s i) (by grind) (by grind)
    rw [List.range'_succ,List.flatMap_cons,<- List.append_assoc,List.map_cons]
    refine ⟨b',c',(a5 (ρ₁:=E (some s.pv) (some (.int (i:Nat))) c) ?_ e1).trans e2,by grind⟩
    rw [show (0:Int) + (i:Int) * 1=i by grind]
    exact hb2 _ _ _ _
  obtain ⟨b1,c1,e1,l1⟩:=inner n 0 b c acc (Nat.zero_add n) (by grind)
  rw [<- List.range_eq_range'] at e1 l1
  obtain ⟨a',b',c',e2⟩:=ih (fun s hs=>hbody s (bG _ hs)) (some s.pv) b1 c1 (acc++(List.range n).flatMap (pick s)) (by grind)
  refine ⟨a',b',c',(a5 (hb1 _ _ _ _) ((aa (bL (hr s b c acc) e1)).trans az)).trans ?_⟩
  rw [e2,List.flatMap_cons,List.append_assoc]
end
end Mine
namespace Mine
open PySem
noncomputable def jP (c:Bool) (s:ae) (t:Nat):List PV:=if c=true then [bh (s.name,(t:Int))] else []
theorem mR {c:Bool} {s:ae} {t:Nat}:(jP c s t).length <= 1:=by
 unfold jP
 split
 ·exact Nat.le_refl _
 ·exact Nat.zero_le _
noncomputable def sK (p:List ae) (n:Nat) (f:ae->Int->Bool):List PV:=p.flatMap fun s=>(List.range n).flatMap fun (t:Nat)=>jP (f s (t:Int)) s t
noncomputable def sG (es:cQ) (s:ae) (t:Int):Bool:=s.needs.any fun x=>(ai (x,t) es).isSome
noncomputable def ef (es gs:cQ) (s:ae) (t:Int):Bool:=(ai (s.name,t) gs).isNone && ((cN es s t).isSome && sG es s t)
section
variable {p:List ae} {n:Nat} {es gs:cQ} {os:List PV} {X:Ix} {σ:ab} {d:Nat} {tk gl:Nat}
theorem wD {C:bn} {N fs:Nat} {x y:Mine.X} {ρ:aq} {τ:ab} {acc:List PV} {s:ae} {t:Nat} {c:Mine.X} {b:Bool} (hl:acc.length < 900) (hc:tst C c ρ (τ++[.lst acc])=.ok b (τ++[.lst acc])) (hf:∀ σ,ev C (.v fs) ρ σ=.ok (.ref τ.length) σ) (hx:∀ σ,ev C x ρ σ=.ok (.str s.name) σ) (hy:∀ σ,ev C y ρ σ=.ok (.int (t:Nat)) σ) :
  ex C N (.ife c (.cons (.expr (.me .append (.v fs) (.cons (.tup (.cons x (.cons y .nil))) .nil))) .nil) .nil) ρ (τ++[.lst acc])=.next ρ (τ++[.lst (acc++jP b s t)]):=by
 cases b with
 | false=>exact (pJ hc).trans (az.trans (by rw [show jP false s t=[] from rfl,List.append_nil]))
 | true =>
  refine (aI hc).trans ((aa (bR (fA (hf _) (j5 (.inl rfl)) (g7 (vs:=[.str s.name,.int (t:Nat)]) (aN (hx _) (aN (hy _) b6)) (show (2:Nat) <= ao by decide)) (sq (by (exact aE (by assumption) (by decide))))))).trans az)
theorem lG {C:bn} {x:Mine.X} {ρ:aq} (h:ev C x ρ σ=.ok (.int (n:Nat)) σ) (hn:n <= 200):evIt C (.range1 x) ρ σ=.ok (aF 0 1 n,none) σ:=by
 rw [oc,h,aB]
 show (if 0 <= (n:Int)/\(n:Int) <= ao then ac.ok (aF 0 1 (n:Int).toNat,none) σ else .stuck)=_
 rw [if_pos ⟨Int.natCast_nonneg n,by rw [aZ]; (grind)⟩]; rfl
theorem sJ (hp:bx p) (hn:n <= 6):p.length * n < 900:=Nat.lt_of_le_of_lt (Nat.mul_le_mul hp.most hn) (by decide)
theorem ahF {l:List Str}:bp .ne (.fl (l.map .str)) (.fl []) σ=.ok (!l.isEmpty) σ:=by
 show ac.ofOpt ((eqv σ (.fl (l.map .str)) (.fl [])).map (!·)) σ=_
 have ts:∀ l:List Str,(l.map PV.str).mapM (bA 15 σ)=some (l.map PyData.str):=by
  intro l
  induction l with
  | nil=>rfl
  | cons a l ih=>rw [List.map_cons,List.mapM_cons,ih]; rfl
 have e:bA 16 σ (.fl (l.map .str))=some (.list (l.map PyData.str)):=by
  show ((l.map PV.str).mapM (bA 15 σ)).map PyData.list=_
  rw [ts]; rfl
 unfold eqv
 rw [e]
 cases l <;> rfl
theorem ab0 (hp:bx p) (hpl:∀ s ∈ p,kg s) (hn:n <= 6) (b:Bo p n es gs os X σ) (hv:d8 es):aJ PP topN (d + 3) ku [.inst af X.i] σ=.ok (.ref σ.length) (σ++[.lst (sK p n (bc es gs))]):=by
 rw [a6 (fn:=qK) rfl rfl]
 obtain ⟨a',b',c',e⟩:=acF (C:=CC (d + 2)) (N:=topN) (n:=n) (E:=fun a b c=>[some (.inst af X.i),some (.ref σ.length),a,b,c]) (ss:=2) (ts:=3) (rng:=.range1 (.attr af (.v 0) "turns")) (body:=jq) (τ:=σ) (pick:=fun s t=>jP (bc es gs s (t:Int)) s t) rfl (fun zz zz zz zz=>rfl) (fun zz zz zz zz=>rfl)
  (fun s b' c acc=>lG (cP (i:=X.i) (σ₁:=σ++[.lst acc]) rfl b.more.ns rfl) (by (exact aE (by assumption) (by decide)))) (fun zz zz=>mR) p (fun s hs t ht acc c hl=>⟨c,(aa (a:=jg) (wD (s:=s) (t:=t) hl (vd (cC (i:=X.i) (σ₁:=σ++[.lst acc]) (σ₂:=σ++[.lst acc]) (vs:=[s.pv,.int (t:Nat)]) rfl b.more.ns rfl rfl (adW b.more (hp.steps s hs) (hpl s hs) hv))) (fun zz=>rfl) (fun zz=>rfl) (fun zz=>rfl))).trans az⟩) none none none [] (by rw [List.length_nil,Nat.zero_add]; exact sJ hp hn)
 exact (congrArg aM ((aa (a:=mB) (ρ':=[some (.inst af X.i),some (.ref σ.length),none,none,none]) (σ':=σ++[.lst []]) rfl).trans ((aa (a:=mA) (bL (wQ b.more rfl) e)).trans (aj (a:=mz) (av rfl))))).trans rfl
theorem abO {x:Str} {t:Int} (g:os=gs.map fun e=>.tup [.str e.1.1,.int e.1.2]) (h:σ[gl]?=some (.lst os)):bp .notin (.tup [.str x,.int t]) (.ref gl) σ=.ok (ai (x,t) gs).isNone σ:=by
 have e:os=(gs.map (·.1)).map bh:=by rw [g,List.map_map]; rfl
 rw [e] at h
 refine (ad6 (k:=(x,t)) h).trans ?_
 refine congrArg (ac.ok · σ) ?_
 have hi:=abM (k:=(x,t)) (es:=gs)
 cases ha:ai (x,t) gs with
 | none =>
  rw [ha] at hi
  rw [decide_eq_false fun q=>by have:=hi.mpr q; contradiction]; rfl
 | some v =>
  rw [ha] at hi
  rw [decide_eq_true (hi.mp rfl)]; rfl
theorem abF (hp:bx p) (hn:n <= 6) (htk:σ[tk]?=some (.dp es)) (hgl:σ[gl]?=some (.lst os)) (g:os=gs.map fun e=>.tup [.str e.1.1,.int e.1.2]) (hv:d8 es):aJ PP topN (d + 3) nR [aA p,.ref tk,.ref gl,.int (n:Nat)] σ=.ok (.ref σ.length) (σ++[.lst (sK p n (bc es gs))]):=by
 rw [a6 (fn:=tE) rfl rfl]
 obtain ⟨a',b',c',e⟩:=acF (C:=CC (d + 2)) (N:=topN) (n:=n) (E:=fun a b c=>[some (aA p),some (.ref tk),some (.ref gl),some (.int (n:Nat)),some (.ref σ.length),a,b,c,none]) (ss:=5) (ts:=6) (rng:=.range1 (.v 3)) (body:=kR) (τ:=σ) (pick:=fun s t=>jP (bc es gs s (t:Int)) s t) rfl (fun zz zz zz zz=>rfl) (fun zz zz zz zz=>rfl)
  (fun s b' c acc=>lG rfl (by (exact aE (by assumption) (by decide)))) (fun zz zz=>mR) p (fun s hs t ht acc c hl=>⟨c,(aa (a:=j8) (wD (s:=s) (t:=t) hl (eN (ey (aU (x:=.tup [.str s.name,.int (t:Nat)]) (y:=.ref gl) (σ₁:=σ++[.lst acc]) (σ₂:=σ++[.lst acc]) rfl rfl (abO g (bF hgl))) fun zz=>dQ (aU (gC (x:=s.pv) (y:=.ref tk) (z:=.int (t:Nat)) (σ₁:=σ++[.lst acc]) (σ₂:=σ++[.lst acc]) (σ₃:=σ++[.lst acc]) rfl rfl rfl (zV (d:=d) (hp.steps s hs) (bF htk) hv)) (y:=.none) (σ₂:=σ++[.lst acc]) rfl (by cases cN es s (t:Int) <;> rfl)))) (fun zz=>rfl) (fun zz=>rfl) (fun zz=>rfl))).trans az⟩) none none none [] (by rw [List.length_nil,Nat.zero_add]; exact sJ hp hn)
 exact (congrArg aM ((aa (a:=oS) (ρ':=[some (aA p),some (.ref tk),some (.ref gl),some (.int (n:Nat)),some (.ref σ.length),none,none,none,none]) (σ':=σ++[.lst []]) rfl).trans ((aa (a:=oR) (bL (ys:=p.map ae.pv) (σ₁:=σ++[.lst []]) rfl e)).trans (aj (a:=oQ) (av rfl))))).trans rfl
theorem aj4 {x:Str} {t:Int} (b:Bo p n es gs os X σ) (h1:kj p x=true) (h0:0 <= t) (hn:t < n):aJ PP topN (d + 3) vN [.inst af X.i,.str x,.int t] σ=.ok ((ai (x,t) es).getD .none) σ:=by
 rw [a6 (fn:=wk) rfl rfl]
 have s0:ex (CC (d + 2)) topN qO [some (.inst af X.i),some (.str x),some (.int t)] σ=.next [some (.inst af X.i),some (.str x),some (.int t)] σ:=bR (cC (i:=X.i) (σ₁:=σ) (σ₂:=σ) (vs:=[.str x]) rfl b.ns rfl rfl (ql b h1))
 have s1:ex (CC (d + 2)) topN qN [some (.inst af X.i),some (.str x),some (.int t)] σ=.next [some (.inst af X.i),some (.str x),some (.int t)] σ:=bR (cC (i:=X.i) (σ₁:=σ) (σ₂:=σ) (vs:=[.int t]) rfl b.ns rfl rfl (lL b h0 hn))
 exact (congrArg aM ((aa s0).trans ((aa s1).trans (aj (a:=qM) (av (fA (cP (i:=X.i) (σ₁:=σ) (v:=.ref X.h) rfl b.ns rfl) (vV b.hr) (y:=.tup [.str x,.int t]) (σ₂:=σ) rfl (vT b.hr))))))).trans rfl
theorem afX {s:ae} {x:Str} (hs:s ∈ p) (hx:x ∈ s.needs):kj p x=true:=by
 unfold kj
 by_cases h:x ∈ p.flatMap (·.gives)
 ·rw [decide_eq_true h]; rfl
 ·rw [decide_eq_true (tZ.mpr ⟨List.mem_flatMap.mpr ⟨s,hs,hx⟩,h⟩),Bool.or_true]
theorem ajl {l:List Bool}:cI .any (.fl (l.map .bool)) σ=.ok (.bool (l.any id)) σ:=by
 show cE cu (fun l=>ac.ok (PV.bool (l.any id)) σ) (.fl (l.map .bool)) σ=_
 refine gy ?_
 show cu (l.map .bool)=some l
 induction l with
 | nil=>rfl
 | cons a l ih=>show (cu (l.map .bool)).map (a::·)=_; rw [ih]; rfl
theorem aeE {s:ae} {t:Int} (hp:bx p) (b:Bo p n es gs os X σ) (hs:s ∈ p) (h0:0 <= t) (hn:t < n) (hv:d8 es):aJ PP topN (d + 4) p4 [.inst af X.i,s.pv,.int t] σ=.ok (.bool (sG es s t)) σ:=by
 rw [a6 (fn:=wi) rfl rfl]
 have c0:ev (CC (d + 3)) qI [some (.inst af X.i),some s.pv,some (.int t),none] σ=.ok (.fl ((s.needs.map fun x=>(ai (x,t) es).isSome).map .bool)) σ:=by
  refine (eU (xs:=s.needs.map .str) (fun y=>match y with | .str x=>.bool (ai (x,t) es).isSome | _=>.none) rfl (by rw [List.length_map]; exact aE (hp.steps s hs).needs4 (by decide)) (fun y hy=>?_)).trans ?_
  ·obtain ⟨x,hx,rfl⟩:=List.mem_map.mp hy
   refine ek (cC (i:=X.i) (σ₁:=σ) (σ₂:=σ) (vs:=[.str x,.int t]) rfl b.ns rfl rfl (aj4 (d:=d) b (afX hs hx) h0 hn)) (y:=.none) (σ₂:=σ) rfl ?_
   cases ha:ai (x,t) es with
   | none=>rfl
   | some v=>obtain ⟨i,rfl,_⟩:=hv _ _ ha; rfl
  ·rw [List.map_map,List.map_map]; rfl
 refine (congrArg aM (aj (a:=qH) (av (bO c0 ajl)))).trans ?_
 show ac.ok (PV.bool _) σ=_
 rw [List.any_map]; rfl
theorem ae6 (hp:bx p) (hpl:∀ s ∈ p,kg s) (hn:n <= 6) (b:Bo p n es gs os X σ) (hv:d8 es):aJ PP topN (d + 5) rz [.inst af X.i] σ=.ok (.ref σ.length) (σ++[.lst (sK p n (ef es gs))]):=by
 rw [a6 (fn:=yb) rfl rfl]
 obtain ⟨a',b',c',e⟩:=acF (C:=CC (d + 4)) (N:=topN) (n:=n) (E:=fun a b c=>[some (.inst af X.i),some (.ref σ.length),a,b,c,none]) (ss:=2) (ts:=3) (rng:=.range1 (.attr af (.v 0) "turns")) (body:=m6) (τ:=σ) (pick:=fun s t=>jP (ef es gs s (t:Int)) s t) rfl (fun zz zz zz zz=>rfl) (fun zz zz zz zz=>rfl)
  (fun s b' c acc=>lG (cP (i:=X.i) (σ₁:=σ++[.lst acc]) rfl b.more.ns rfl) (by (exact aE (by assumption) (by decide)))) (fun zz zz=>mR) p (fun s hs t ht acc c hl=>⟨c,(aa (a:=lQ) (wD (s:=s) (t:=t) (b:=ef es gs s (t:Int)) hl (by
   have b2:Bo p n es gs os X (σ++[.lst acc]):=b.more
   generalize σ++[MO.lst acc]=aR at b2
   have t1:tst (CC (d + 4)) (.not (.meth af b9 "has_fired" (.v 0) (.cons (.sub (.v 2) (.k (.int 0))) (.cons (.v 3) .nil)))) [some (.inst af X.i),some (.ref σ.length),some s.pv,some (.int (t:Nat)),c,none] (aR)=.ok (!(ai (s.name,(t:Int)) gs).isSome) (aR):=cT (vd (cC (i:=X.i) (σ₁:=aR) (σ₂:=aR) (vs:=[.str s.name,.int (t:Nat)]) rfl b2.ns rfl rfl (rB (d:=d + 3) b2)))
   have t2:tst (CC (d + 4)) (.not (.meth af eS "is_ready" (.v 0) (.cons (.v 2) (.cons (.v 3) .nil)))) [some (.inst af X.i),some (.ref σ.length),some s.pv,some (.int (t:Nat)),c,none] (aR)=.ok (!bc es gs s (t:Int)) (aR):=cT (vd (cC (i:=X.i) (σ₁:=aR) (σ₂:=aR) (vs:=[s.pv,.int (t:Nat)]) rfl b2.ns rfl rfl (adW (d:=d + 2) b2 (hp.steps s hs) (hpl s hs) hv)))
   have t3:tst (CC (d + 4)) (.call p4 (.cons (.v 0) (.cons (.v 2) (.cons (.v 3) .nil)))) [some (.inst af X.i),some (.ref σ.length),some s.pv,some (.int (t:Nat)),c,none] (aR)=.ok (sG es s (t:Int)) (aR):=dB (gC (x:=.inst af X.i) (y:=s.pv) (z:=.int (t:Nat)) (σ₁:=aR) (σ₂:=aR) (σ₃:=aR) rfl rfl rfl (aeE (d:=d) hp b2 hs (Int.natCast_nonneg t) (by (exact Int.ofNat_lt.mpr (by assumption))) hv))
   refine eN ((ey t1 fun zz=>ey t2 fun zz=>dQ t3).trans (congrArg (ac.ok · _) ?_))
   unfold ef bc
   cases ai (s.name,(t:Int)) gs <;> cases cN es s (t:Int) <;> rfl) (fun zz=>rfl) (fun zz=>rfl) (fun zz=>rfl))).trans az⟩) none none none [] (by rw [List.length_nil,Nat.zero_add]; exact sJ hp hn)
 exact (congrArg aM ((aa (a:=rF) (ρ':=[some (.inst af X.i),some (.ref σ.length),none,none,none,none]) (σ':=σ++[.lst []]) rfl).trans ((aa (a:=rE) (bL (wQ b.more rfl) e)).trans (aj (a:=rC) (av rfl))))).trans rfl
theorem aiR (hp:bx p) (hn:n <= 6) (htk:σ[tk]?=some (.dp es)) (hgl:σ[gl]?=some (.lst os)) (g:os=gs.map fun e=>.tup [.str e.1.1,.int e.1.2]) (hv:d8 es):aJ PP topN (d + 3) qo [aA p,.ref tk,.ref gl,.int (n:Nat)] σ=.ok (.ref σ.length) (σ++[.lst (sK p n (ef es gs))]):=by
 rw [a6 (fn:=qz) rfl rfl]
 obtain ⟨a',b',c',e⟩:=acF (C:=CC (d + 2)) (N:=topN) (n:=n) (E:=fun a b c=>[some (aA p),some (.ref tk),some (.ref gl),some (.int (n:Nat)),some (.ref σ.length),a,b,c,none,none]) (ss:=5) (ts:=6) (rng:=.range1 (.v 3)) (body:=jn) (τ:=σ) (pick:=fun s t=>jP (ef es gs s (t:Int)) s t) rfl (fun zz zz zz zz=>rfl) (fun zz zz zz zz=>rfl)
  (fun s b' c acc=>lG rfl (by (exact aE (by assumption) (by decide)))) (fun zz zz=>mR) p (fun s hs t ht acc c hl=>by
   have c0:ev (CC (d + 2)) lX [some (aA p),some (.ref tk),some (.ref gl),some (.int (n:Nat)),some (.ref σ.length),some s.pv,some (.int (t:Nat)),c,none,none] (σ++[.lst acc])=.ok (.fl ((s.needs.filter fun x=>(ai (x,(t:Int)) es).isSome).map .str)) (σ++[.lst acc]):=by
    refine (qe (xs:=s.needs.map .str) (fun y=>match y with | .str x=>if (ai (x,(t:Int)) es).isSome=true then some (.str x) else none | _=>none) rfl (by rw [List.length_map]; exact aE (hp.steps s hs).needs4 (by decide)) (fun y hy=>?_) (fun y hy v hv=>?_)).trans ?_
    ·obtain ⟨x,hx,rfl⟩:=List.mem_map.mp hy
     refine (aU (x:=.tup [.str x,.int (t:Nat)]) (y:=.ref tk) (σ₁:=σ++[.lst acc]) (σ₂:=σ++[.lst acc]) rfl rfl (sO (bF htk))).trans ?_
     dsimp only
     cases (ai (x,(t:Int)) es).isSome <;> rfl
    ·obtain ⟨x,hx,rfl⟩:=List.mem_map.mp hy
     dsimp only at hv
     split at hv
     ·obtain rfl:=oi hv; rfl
     ·contradiction
    ·refine congrArg (fun l=>ac.ok (PV.fl l) _) ?_
     rw [List.filterMap_map,<- List.filterMap_eq_filter,List.map_filterMap]
     refine congrArg (fun f=>s.needs.filterMap f) (funext fun x=>?_)
     show (if (ai (x,(t:Int)) es).isSome=true then some (PV.str x) else none)=_
     unfold Option.guard
     split <;> rfl
   refine ⟨some (.fl ((s.needs.filter fun x=>(ai (x,(t:Int)) es).isSome).map .str)),(aa (a:=iT) (aC c0)).trans ((aa (a:=iS) (wD (s:=s) (t:=t) (b:=ef es gs s (t:Int)) hl ?_ (fun zz=>rfl) (fun zz=>rfl) (fun zz=>rfl))).trans az)⟩
   have t1:tst (CC (d + 2)) (.cmp (.v 7) .ne (.lst true .nil)) [some (aA p),some (.ref tk),some (.ref gl),some (.int (n:Nat)),some (.ref σ.length),some s.pv,some (.int (t:Nat)),some (.fl ((s.needs.filter fun x=>(ai (x,(t:Int)) es).isSome).map .str)),none,none] (σ++[.lst acc])=.ok (sG es s (t:Int)) (σ++[.lst acc]):=by
    refine (aU (x:=.fl _) (y:=.fl []) (σ₁:=σ++[.lst acc]) (σ₂:=σ++[.lst acc]) rfl rfl ahF).trans (congrArg (ac.ok · _) ?_)
    unfold sG
    rw [Bool.eq_iff_iff,Bool.not_eq_true',List.isEmpty_eq_false_iff,List.any_eq_true]
    exact ⟨fun h=>by
     obtain ⟨x,hx⟩:=List.exists_mem_of_ne_nil _ h
     obtain ⟨h1,h2⟩:=List.mem_filter.mp hx
     exact ⟨x,h1,h2⟩,fun ⟨x,h1,h2⟩=>List.ne_nil_of_mem (List.mem_filter.mpr ⟨h1,h2⟩)⟩
   refine eN ((ey t1 fun zz=>ey (aU (x:=.tup [.str s.name,.int (t:Nat)]) (y:=.ref gl) (σ₁:=σ++[.lst acc]) (σ₂:=σ++[.lst acc]) rfl rfl (abO g (bF hgl))) fun zz=>dQ (aU (gC (x:=s.pv) (y:=.ref tk) (z:=.int (t:Nat)) (σ₁:=σ++[.lst acc]) (σ₂:=σ++[.lst acc]) (σ₃:=σ++[.lst acc]) rfl rfl rfl (zV (d:=d) (hp.steps s hs) (bF htk) hv)) (y:=.none) (σ₂:=σ++[.lst acc]) rfl (v:=.ok (cN es s (t:Int)).isSome (σ++[.lst acc])) (by cases cN es s (t:Int) <;> rfl))).trans (congrArg (ac.ok · _) ?_))
   unfold ef
   cases sG es s (t:Int) <;> cases ai (s.name,(t:Int)) gs <;> cases cN es s (t:Int) <;> rfl) none none none [] (by rw [List.length_nil,Nat.zero_add]; exact sJ hp hn)
 exact (congrArg aM ((aa (a:=lW) (ρ':=[some (aA p),some (.ref tk),some (.ref gl),some (.int (n:Nat)),some (.ref σ.length),none,none,none,none,none]) (σ':=σ++[.lst []]) rfl).trans ((aa (a:=lV) (bL (ys:=p.map ae.pv) (σ₁:=σ++[.lst []]) rfl e)).trans (aj (a:=lU) (av rfl))))).trans rfl
end
end Mine
namespace Mine
open PySem
noncomputable def bQ (p:List ae) (n:Nat) (f:ae->Int->Bool):List (Str × Int):=p.flatMap fun s=>(List.range n).flatMap fun (t:Nat)=>if f s (t:Int)=true then [(s.name,(t:Int))] else []
theorem jA {p:List ae} {n:Nat} {f:ae->Int->Bool}:sK p n f=(bQ p n f).map bh:=by
 unfold sK bQ
 rw [List.map_flatMap]
 refine congrArg (fun g=>p.flatMap g) (funext fun s=>?_)
 rw [List.map_flatMap]
 refine congrArg (fun g=>(List.range n).flatMap g) (funext fun t=>?_)
 unfold jP
 split <;> rfl
theorem abI {p:List ae} {n:Nat} {f:ae->Int->Bool} {k:Str × Int} (h:k ∈ bQ p n f):∃ s ∈ p,∃ t:Nat,t < n/\k=(s.name,(t:Int))/\f s (t:Int)=true:=by
 obtain ⟨s,hs,h⟩:=List.mem_flatMap.mp h
 obtain ⟨t,ht,h⟩:=List.mem_flatMap.mp h
 cases hf:f s (t:Int) with
 | false=>rw [hf] at h; exact absurd h List.not_mem_nil
 | true=>rw [hf] at h; exact ⟨s,hs,t,List.mem_range.mp ht,List.mem_singleton.mp h,hf⟩
theorem abJ {p:List ae} {n:Nat} {f:ae->Int->Bool}:(bQ p n f).length <= p.length * n:=by
 induction p with
 | nil=>exact Nat.zero_le _
 | cons s q ih =>
  have inner:∀ m:List Nat,(m.flatMap fun (t:Nat)=>if f s (t:Int)=true then [(s.name,(t:Int))] else []).length <= m.length:=by
   intro m
   induction m with
   | nil=>exact Nat.zero_le _
   | cons x m im =>
    rw [List.flatMap_cons,List.length_append,List.length_cons,Nat.add_comm]
    refine Nat.add_le_add im ?_
    split
    ·exact Nat.le_refl _
    ·exact Nat.zero_le _
  have h:=inner (List.range n)
  rw [List.length_range] at h
  unfold bQ
  rw [List.flatMap_cons,List.length_append,List.length_cons,Nat.succ_mul,Nat.add_comm]
  exact Nat.add_le_add ih h
structure Cx where
 p:List ae
 n:Nat
 X:Ix
 tk:Nat
 gl:Nat
 l:List Int
structure c9 (Γ:Cx) (B:cm) (σ:ab):Prop where
 bo:Bob Γ.p Γ.n B Γ.X σ
 tk:σ[Γ.tk]?=some (.dp B.es)
 gl:σ[Γ.gl]?=some (.lst B.os)
 ok:d8 B.es
 gk:Gk Γ.p Γ.n B
theorem c9.more {Γ:Cx} {B:cm} {σ τ:ab} (h:c9 Γ B σ):c9 Γ B (σ++τ):=⟨h.bo.more,bF h.tk,bF h.gl,h.ok,h.gk⟩
structure gN (Γ:Cx):Prop where
 hp:bx Γ.p
 hpl:∀ s ∈ Γ.p,kg s
 hl:Γ.l.length <= 63
 hn1:1 <= Γ.n
 hn:Γ.n <= 6
section
variable {Γ:Cx} {B:cm} {σ:ab} {d:Nat}
theorem jH {C:bn} {ρ:aq} {σ σ₁:ab} {f:Nat} {xs:Mine.X} {vs:List PV} {v:ac PV} (h:evs C xs ρ σ=.ok vs σ₁) (hc:C.call f vs σ₁=v):ev C (.call f xs) ρ σ=v:=by
 rw [sQ,h]; exact hc
noncomputable def tP (Γ:Cx) (bit:Int) (k a b:Option PV):aq:=[some (.inst af Γ.X.i),some (aA Γ.p),some (.ref Γ.tk),some (.ref Γ.gl),some (.int (Γ.n:Nat)),some (.int bit),k,a,b,none,none,none,none,none]
theorem zY {bit k:Int} {a b:Option PV} (H:gN Γ) (S:c9 Γ B σ):∃ τ a' b',ex (CC (d + 5)) topN jF (tP Γ bit (some (.int k)) a b) σ=.next (tP Γ bit (some (.int k)) a' b') (σ++τ):=by
 have tt:tst (CC (d + 5)) (.cmp (.bin .mod (.bin .add (.v 6) (.v 5)) (.k (.int 2))) .eq (.k (.int 0))) (tP Γ bit (some (.int k)) a b) σ=.ok ((k + bit) % 2 == 0) σ:=
  aU (ay (x:=.int (k + bit)) (σ₁:=σ) rfl (y:=.int 2) (σ₂:=σ) rfl (a9 (by decide))) (y:=.int 0) (σ₂:=σ) rfl gb
 have fin:∀ (l:List (Str × Int)) (r q:Nat) (τ:ab),(σ++τ)[r]?=some (.lst (l.map bh))->(σ++τ)[q]?=some (.lst (l.map bh))->ex (CC (d + 5)) topN nk (tP Γ bit (some (.int k)) a b) σ=.next (tP Γ bit (some (.int k)) (some (.ref r)) (some (.ref q))) (σ++τ)->∃ τ a' b',ex (CC (d + 5)) topN jF (tP Γ bit (some (.int k)) a b) σ=.next (tP Γ bit (some (.int k)) a' b') (σ++τ):=fun l r q τ g1 g2 e=>by
  refine ⟨τ,some (.ref r),some (.ref q),(aa e).trans ?_⟩
  generalize σ++τ=aR at g1 g2
  have t2:tst (CC (d + 5)) (.not (.call jR (.cons (.v 7) (.cons (.v 8) .nil)))) (tP Γ bit (some (.int k)) (some (.ref r)) (some (.ref q))) aR=.ok (!true) aR:=
   cT (dB (cL (x:=.ref r) (y:=.ref q) (σ₁:=aR) (σ₂:=aR) rfl rfl (ru (d:=d + 4) (l:=l) g1 g2)))
  exact (aa (a:=nj) (ah t2)).trans az
 have two:∀ {m:MO},(σ++[m]++[m])[σ.length]?=some m/\(σ++[m]++[m])[(σ++[m]).length]?=some m:=fun {m}=>⟨bF c6,c6⟩
 cases hq:((k + bit) % 2 == 0) with
 | true =>
  rw [hq] at tt
  have c1:=ab0 (d:=d + 2) H.hp H.hpl H.hn S.bo S.ok
  rw [jA] at c1
  have S2:c9 Γ B (σ++[.lst ((bQ Γ.p Γ.n (bc B.es B.gs)).map bh)]):=S.more
  have c2:=abF (d:=d + 2) H.hp H.hn S2.tk S2.gl S2.gk.os S2.ok
  rw [jA] at c2
  refine fin (bQ Γ.p Γ.n (bc B.es B.gs)) σ.length (σ++[MO.lst ((bQ Γ.p Γ.n (bc B.es B.gs)).map bh)]).length ([.lst ((bQ Γ.p Γ.n (bc B.es B.gs)).map bh)]++[.lst ((bQ Γ.p Γ.n (bc B.es B.gs)).map bh)]) (by rw [<- List.append_assoc]; exact two.1) (by rw [<- List.append_assoc]; exact two.2) ?_
  rw [<- List.append_assoc]
  exact ((aI tt).trans ((aa (a:=kZ) (aC (cC (i:=Γ.X.i) (σ₁:=σ) (σ₂:=σ) (vs:=[]) rfl S.bo.ns rfl rfl c1))).trans ((aa (a:=kY) (aC (jH (vs:=[aA Γ.p,.ref Γ.tk,.ref Γ.gl,.int (Γ.n:Nat)]) rfl c2))).trans az)))
 | false =>
  rw [hq] at tt
  have c1:=ae6 (d:=d) H.hp H.hpl H.hn S.bo S.ok
  rw [jA] at c1
  have S2:c9 Γ B (σ++[.lst ((bQ Γ.p Γ.n (ef B.es B.gs)).map bh)]):=S.more
  have c2:=aiR (d:=d + 2) H.hp H.hn S2.tk S2.gl S2.gk.os S2.ok
  rw [jA] at c2
  refine fin (bQ Γ.p Γ.n (ef B.es B.gs)) σ.length (σ++[MO.lst ((bQ Γ.p Γ.n (ef B.es B.gs)).map bh)]).length ([.lst ((bQ Γ.p Γ.n (ef B.es B.gs)).map bh)]++[.lst ((bQ Γ.p Γ.n (ef B.es B.gs)).map bh)]) (by rw [<- List.append_assoc]; exact two.1) (by rw [<- List.append_assoc]; exact two.2) ?_
  rw [<- List.append_assoc]
  exact ((pJ tt).trans ((aa (a:=k5) (aC (a7 (x:=.inst af Γ.X.i) (σ₁:=σ) rfl c1))).trans ((aa (a:=k4) (aC (jH (vs:=[aA Γ.p,.ref Γ.tk,.ref Γ.gl,.int (Γ.n:Nat)]) rfl c2))).trans az)))
theorem aeu {bit:Int} (H:gN Γ) (S:c9 Γ B σ):∃ τ,aJ PP topN (d + 6) iO [.inst af Γ.X.i,aA Γ.p,.ref Γ.tk,.ref Γ.gl,.int (Γ.n:Nat),.int bit] σ=.ok (.bool true) (σ++τ):=by
 rw [a6 (fn:=we) rfl rfl]
 obtain ⟨τ1,a1,b1,e1⟩:=zY (d:=d) (bit:=bit) (k:=0) (a:=none) (b:=none) H S
 obtain ⟨gO,a2,b2,e2⟩:=zY (d:=d) (bit:=bit) (k:=1) (a:=a1) (b:=b1) H (S.more (τ:=τ1))
 refine ⟨τ1++gO,?_⟩
 rw [<- List.append_assoc]
 exact (congrArg aM ((aa (a:=qE) (bL (ys:=[.int 0,.int 1]) (σ₁:=σ) rfl ((a5 (ρ₁:=tP Γ bit (some (.int 0)) none none) rfl e1).trans ((a5 (ρ₁:=tP Γ bit (some (.int 1)) a1 b1) rfl e2).trans bB)))).trans (aj (a:=qD) (av rfl)))).trans rfl
end
end Mine
namespace Mine
open PySem
noncomputable def bJ (p:List ae):List Str:=(p.filter fun s=>dE s.rule).flatMap (·.gives)
section
variable {d:Nat} {σ:ab}
theorem ahN {pl:PV} {τ:ab}:∀ (p:List ae) (x:Option PV) (acc:List Str),acc.length + 3 * p.length <= 900->(∀ s ∈ p,dg s) ->
  ∃ x',aV none (bw 2) (fun ρ σ=>ex (CC d) topN np ρ σ) (p.map ae.pv) [some pl,some (.ref τ.length),x] (τ++[.lst (acc.map .str)]) =
   .next [some pl,some (.ref τ.length),x'] (τ++[.lst ((acc++bJ p).map .str)]):=by
 intro p
 induction p with
 | nil=>intro x acc _ _; exact ⟨x,by simpa [bJ] using bB⟩
 | cons s p ih =>
  intro x acc hl h3
  have hs:=h3 s (by simp)
  have hg:=hs.gives3
  rw [List.length_cons] at hl
  have t:tst (CC d) (.cmp (.sub (.v 2) (.k (.int 1))) .eq (.tup (.cons (.k (.str "later")) .nil))) [some pl,some (.ref τ.length),some s.pv] (τ++[.lst (acc.map .str)])=.ok (dE s.rule) (τ++[.lst (acc.map .str)]):=
   aU (x:=s.rule.pv) (y:=.tup [.str "later"]) (σ₁:=τ++[.lst (acc.map .str)]) (σ₂:=τ++[.lst (acc.map .str)]) rfl rfl (wP hs.rule).1
  cases hq:dE s.rule with
  | false =>
   rw [hq] at t
   obtain ⟨x',e⟩:=ih (some s.pv) acc (by grind) fun t ht=>h3 t (bG _ ht)
   have e0:bJ (s::p)=bJ p:=by unfold bJ; rw [List.filter_cons,hq,if_neg (by decide)]
   rw [e0]
   refine ⟨x',(a5 (ρ₁:=[some pl,some (.ref τ.length),some s.pv]) (ρ₂:=[some pl,some (.ref τ.length),some s.pv]) (σ₂:=τ++[.lst (acc.map .str)]) rfl ?_).trans e⟩
   exact (aa (ah t)).trans az
  | true =>
   rw [hq] at t
   obtain ⟨x',e⟩:=ih (some s.pv) (acc++s.gives) (by rw [List.length_append]; (grind)) fun t ht=>h3 t (bG _ ht)
   have e0:bJ (s::p)=s.gives++bJ p:=by unfold bJ; rw [List.filter_cons,hq,if_pos rfl,List.flatMap_cons]
   rw [e0,<- List.append_assoc]
   refine ⟨x',(a5 (ρ₁:=[some pl,some (.ref τ.length),some s.pv]) (ρ₂:=[some pl,some (.ref τ.length),some s.pv]) (σ₂:=τ++[.lst ((acc++s.gives).map .str)]) rfl ?_).trans e⟩
   refine (aa ((aI t).trans ?_)).trans az
   refine (aa (bR (fA (m:=.extend) (x:=.ref τ.length) (σ₁:=τ++[.lst (acc.map .str)]) (σ₂:=τ++[.lst (acc.map .str)]) rfl (j5 (.inr (.inl rfl))) (y:=.tup (s.gives.map .str)) rfl ?_))).trans az
   show gB (.ref τ.length) (.tup (s.gives.map .str)) _=_
   unfold gB; dsimp only; rw [c6]; dsimp only
   rw [if_pos (by rw [List.length_map,List.length_map,aZ]; (grind)),ij,List.map_append]
theorem aev {p:List ae} (h:bx p):aJ PP topN (d + 1) nS [aA p] σ=.ok (.ref σ.length) (σ++[.lst ((bJ p).map .str)]):=by
 rw [a6 (fn:=nY) rfl rfl]
 obtain ⟨x',e⟩:=ahN (d:=d) (pl:=aA p) (τ:=σ) p none [] (by show 0 + 3 * p.length <= 900; have:=h.most; (grind)) h.steps
 rw [List.nil_append] at e
 have:ex (CC d) topN nY.body [some (aA p),none,none] σ=.ret (.ref σ.length) [some (aA p),some (.ref σ.length),x'] (σ++[.lst ((bJ p).map .str)]):=
  (aa (a:=pi) (ρ':=[some (aA p),some (.ref σ.length),none]) (σ':=σ++[.lst []]) rfl).trans ((aa (bL (ys:=p.map ae.pv) (σ₁:=σ++[.lst []]) rfl e)).trans (aj (av rfl)))
 exact (congrArg aM this).trans rfl
end
theorem ya {p:List ae} {x:Str}:x ∈ bJ p ↔ ∃ s ∈ p,dE s.rule=true/\x ∈ s.gives:=by
 unfold bJ
 rw [List.mem_flatMap]
 exact ⟨fun ⟨s,h,hx⟩=>⟨s,(List.mem_filter.mp h).1,(List.mem_filter.mp h).2,hx⟩,fun ⟨s,h,hl,hx⟩=>⟨s,List.mem_filter.mpr ⟨h,hl⟩,hx⟩⟩
theorem abe {p:List ae} (h:bx p):(bJ p).Nodup:=by
 have:=h.gives
 unfold List.Nodup at this
 rw [List.pairwise_flatMap] at this
 unfold bJ List.Nodup
 rw [List.pairwise_flatMap]
 exact ⟨fun s hs=>this.1 s (List.mem_filter.mp hs).1,this.2.filter _⟩
set_option tactic.hygienic true in
theorem ad3 {G:List Str}:∀ (ns acc:List Str),acc.Nodup->(ns.foldl (bE G) acc).Nodup:=by
 intro ns
 induction ns with
 | nil=>intro acc h; exact h
 | cons n ns ih =>
  intro acc h
  rw [List.foldl_cons]
  refine ih _ ?_
  unfold bE
  split
  ·rename_i hc
   rw [List.nodup_append]
   refine ⟨h,List.nodup_cons.mpr ⟨List.not_mem_nil,List.nodup_nil⟩,fun a ha b hb e=>?_⟩
   rw [List.mem_singleton.mp hb] at e
   rw [e] at ha
   rw [decide_eq_true ha] at hc
   simp at hc
  ·exact h
noncomputable abbrev Pt:=Str × Nat × Int
noncomputable def bg (e:Pt):PV:=.tup [.str e.1,.int (e.2.1:Nat),.int e.2.2]
structure agK (p:List ae) (n:Nat) (e:Pt):Prop where
 plc:kj p e.1=true
 free:gd p e.1 (e.2.1:Nat)=false
 lt:e.2.1 < n
 val:0 <= e.2.2/\e.2.2 <= 999999
structure fb (p:List ae) (n:Nat) (l:List Pt):Prop where
 nodup:(l.map fun e=>(e.1,e.2.1)).Nodup
 ok:∀ e ∈ l,agK p n e
theorem fb.snoc {p:List ae} {n:Nat} {l:List Pt} {e:Pt} (h:fb p n l) (he:agK p n e) (hn:∀ q ∈ l,(q.1,q.2.1) ≠ (e.1,e.2.1)):fb p n (l++[e]):=by
 refine ⟨?_,fun q hq=>?_⟩
 ·rw [List.map_append,List.nodup_append]
  refine ⟨h.nodup,List.nodup_cons.mpr ⟨List.not_mem_nil,List.nodup_nil⟩,fun a ha b hb=>?_⟩
  obtain ⟨q,hq,rfl⟩:=List.mem_map.mp ha
  rw [List.mem_singleton.mp hb]
  exact hn q hq
 ·rcases List.mem_append.mp hq with hq | hq
  ·exact h.ok q hq
  ·rw [List.mem_singleton.mp hq]; exact he
theorem pS {p:List ae} {x:Str} {j:Int} (h:x ∈ bZ p):gd p x j=false/\kj p x=true:=by
 refine ⟨abP fun s hs hx=>absurd (List.mem_flatMap.mpr ⟨s,hs,hx⟩) (tZ.mp h).2,?_⟩
 unfold kj
 rw [decide_eq_true h,Bool.or_true]
theorem ac4 {p:List ae} {x:Str} (hp:bx p) (h:x ∈ bJ p):gd p x ((0:Nat):Int)=false/\kj p x=true:=by
 obtain ⟨s,hs,hl,hx⟩:=ya.mp h
 refine ⟨abP fun s' hs' hx'=>?_,?_⟩
 ·have:=(uc hx' hp.gives hs').symm.trans (uc hx hp.gives hs)
  obtain rfl:=oi this
  exact ⟨hl,Int.le_refl 0⟩
 ·unfold kj
  rw [decide_eq_true (List.mem_flatMap.mpr ⟨s,hs,hx⟩)]; rfl
section
variable {p:List ae} {n:Nat} {τ:ab} {d:Nat} {l:List Int} {ro at_:Nat} {wh:Int} {wt:Option (Nat × MO)}
noncomputable def dh (l:List Int) (at_:Nat) (p:List ae) (n ro:Nat) (wh:Int) (j x t k:Option PV):aq:=some (.fl (l.map .int))::some (.int (at_:Nat))::some (aA p)::some (.int (n:Nat))::some (.ref ro)::some (.int wh)::j::x::t::k::List.replicate 7 none
theorem afc {C:bn} {N f:Nat} {ρ:aq} {y:X} {e:Pt} {acc:List Pt} (hro:ro < τ.length) (hl:acc.length < 900) (hf:∀ σ,ev C (.v f) ρ σ=.ok (.ref ro) σ) (hy:ev C y ρ (τ.set ro (.lst (acc.map bg)))=.ok (bg e) (τ.set ro (.lst (acc.map bg)))) :
  ex C N (.expr (.me .append (.v f) (.cons y .nil))) ρ (τ.set ro (.lst (acc.map bg)))=.next ρ (τ.set ro (.lst ((acc++[e]).map bg))):=by
 have g:(τ.set ro (.lst (acc.map bg)))[ro]?=some (.lst (acc.map bg)):=List.getElem?_set_self hro
 refine (bR (fA (hf _) (wV g) hy (qj g (by rw [List.length_map]; (exact aE (by assumption) (by decide)))))).trans ?_
 rw [List.set_set,List.map_append]; rfl
theorem aaE {C:bn} {ρ:aq} {σ:ab} {x:X} {k:Nat} (hl:l.length <= 63) (hC:∀ vs σ,C.call aG vs σ=aJ PP topN (d + 1) aG vs σ) (h0:ev C (.v 0) ρ σ=.ok (.fl (l.map .int)) σ) (hx:ev C x ρ σ=.ok (.int (k:Nat)) σ):ev C (.call aG (.cons (.v 0) (.cons x .nil))) ρ σ=.ok (.int (l.getD k 0)) σ:=cL h0 hx ((hC _ _).trans (h12 hl))
theorem ajB {x:Str} {j:Nat} (hl:l.length <= 63) (hx:x ∈ bZ p) (hro:ro < τ.length):∀ (k a:Nat) (acc:List Pt) (t z:Option PV),a + k=n->acc.length + k < 900->fb p n acc->(∀ e ∈ acc,e.1=x->e.2.1 < a) ->
  ∃ acc' t' z',aV none (bw 8) (fun ρ σ=>ex (CC (d + 1)) topN hZ ρ σ) ((List.range' a k).map fun (i:Nat)=>PV.int (0 + (i:Int) * 1)) (dh l at_ p n ro wh (some (.int (j:Nat))) (some (.str x)) t z) (τ.set ro (.lst (acc.map bg)))=.next (dh l at_ p n ro wh (some (.int (j:Nat))) (some (.str x)) t' z') (τ.set ro (.lst (acc'.map bg)))/\fb p n acc'/\acc'.length <= acc.length + k/\∀ e ∈ acc',e ∈ acc\/e.1=x:=by
 intro k
 induction k with
 | zero=>intro a acc t z _ _ h _; exact ⟨acc,t,z,bB,h,Nat.le_refl _,fun e he=>.inl he⟩
 | succ k ih =>
  intro a acc t z ha hk h hb
  obtain ⟨v,v0,v1,hv⟩:=h15 (p:=dq (dq (l.getD (at_ + 1 + (j + a) % 6) 0 + 31 * (j:Int) + 1009 * (a:Int))))
  have hbd:bw 8 (PV.int (0 + (a:Int) * 1)) (dh l at_ p n ro wh (some (.int (j:Nat))) (some (.str x)) t z)=some (dh l at_ p n ro wh (some (.int (j:Nat))) (some (.str x)) (some (.int (a:Nat))) z):=by
   rw [show (0:Int) + (a:Int) * 1=a by grind]; rfl
  have b0:∀ {σ:ab},ex (CC (d + 1)) topN kU (dh l at_ p n ro wh (some (.int (j:Nat))) (some (.str x)) (some (.int (a:Nat))) z) σ=.next (dh l at_ p n ro wh (some (.int (j:Nat))) (some (.str x)) (some (.int (a:Nat))) (some (.int (dq (l.getD (at_ + 1 + (j + a) % 6) 0 + 31 * (j:Int) + 1009 * (a:Int)))))) σ:=fun {σ}=>by
   refine aC (a7 (ay (ay (aaE (d:=d) hl (fun zz zz=>rfl) rfl (k:=at_ + 1 + (j + a) % 6) (ay (x:=.int ((at_:Int) + 1)) (σ₁:=σ) rfl (ay (x:=.int ((j:Int) + a)) (σ₁:=σ) rfl (y:=.int 6) (σ₂:=σ) rfl (a9 (by decide))) ?_)) (ay (x:=.int 31) (y:=.int (j:Nat)) (σ₁:=σ) (σ₂:=σ) rfl rfl (mul_int (.inl (by decide)))) add_int) (ay (x:=.int 1009) (y:=.int (a:Nat)) (σ₁:=σ) (σ₂:=σ) rfl rfl (mul_int (.inl (by decide)))) add_int) (tA (d:=d)))
   rw [add_int]; simp
  have tt:∀ {σ:ab} {q:Int},tst (CC (d + 1)) (.or (.cons (.cmp (.v 5) .gt (.k (.int 0))) (.cons (.cmp (.bin .mod (.v 9) (.k (.int 3))) .gt (.k (.int 0))) .nil))) (dh l at_ p n ro wh (some (.int (j:Nat))) (some (.str x)) (some (.int (a:Nat))) (some (.int q))) σ=.ok (decide (wh > 0) || decide (q % 3 > 0)) σ:=fun {σ q} =>
   iH (rb (aU (x:=.int wh) (y:=.int 0) (σ₁:=σ) (σ₂:=σ) rfl rfl gt_int) fun zz=>fK (aU (ay (x:=.int q) (y:=.int 3) (σ₁:=σ) (σ₂:=σ) rfl rfl (a9 (by decide))) (y:=.int 0) (σ₂:=σ) rfl gt_int))
  generalize hq:dq (l.getD (at_ + 1 + (j + a) % 6) 0 + 31 * (j:Int) + 1009 * (a:Int))=q at b0 hv
  have fin:∀ (acc1:List Pt),ex (CC (d + 1)) topN kT (dh l at_ p n ro wh (some (.int (j:Nat))) (some (.str x)) (some (.int (a:Nat))) (some (.int q))) (τ.set ro (.lst (acc.map bg)))=.next (dh l at_ p n ro wh (some (.int (j:Nat))) (some (.str x)) (some (.int (a:Nat))) (some (.int q))) (τ.set ro (.lst (acc1.map bg)))->fb p n acc1->acc1.length <= acc.length + 1->(∀ e ∈ acc1,e ∈ acc\/e=(x,a,v)) ->
    ∃ acc' t' z',aV none (bw 8) (fun ρ σ=>ex (CC (d + 1)) topN hZ ρ σ) ((List.range' a (k + 1)).map fun (i:Nat)=>PV.int (0 + (i:Int) * 1)) (dh l at_ p n ro wh (some (.int (j:Nat))) (some (.str x)) t z) (τ.set ro (.lst (acc.map bg)))=.next (dh l at_ p n ro wh (some (.int (j:Nat))) (some (.str x)) t' z') (τ.set ro (.lst (acc'.map bg)))/\fb p n acc'/\acc'.length <= acc.length + (k + 1)/\∀ e ∈ acc',e ∈ acc\/e.1=x:=fun acc1 e1 h1 l1 m1=>by
   obtain ⟨acc',t',z',e2,h2,l2,m2⟩:=ih (a + 1) acc1 (some (.int (a:Nat))) (some (.int q)) (by grind) (by grind) h1 (fun e he hx=>by
    rcases m1 e he with he | rfl
    ·have:=hb e he hx; (exact aE (by assumption) (Nat.le_add_right _ _))
    ·exact Nat.lt_succ_self _)
   refine ⟨acc',t',z',?_,h2,by grind,fun e he=>?_⟩
   ·rw [List.range'_succ,List.map_cons]
    exact (a5 hbd ((aa b0).trans ((aa e1).trans az))).trans e2
   ·rcases m2 e he with he | he
    ·rcases m1 e he with he | rfl
     ·exact .inl he
     ·exact .inr rfl
    ·exact .inr he
  cases hc:(decide (wh > 0) || decide (q % 3 > 0)) with
  | false=>exact fin acc (ah (tt.trans (by rw [hc]))) h (Nat.le_succ _) fun e he=>.inl he
  | true =>
   refine fin (acc++[(x,a,v)]) ((aI (tt.trans (by rw [hc]))).trans ((aa (a:=jo) (afc hro (by grind) (fun zz=>rfl) ?_)).trans az)) (h.snoc ⟨(pS (j:=0) hx).2,(pS hx).1,by show a < n; grind,v0,v1⟩ fun e he q=>?_) (by rw [List.length_append]; exact Nat.le_refl _) fun e he=>?_
   ·exact g7 (vs:=[.str x,.int (a:Nat),.int v]) (aN (x:=.str x) (σ₁:=τ.set ro (.lst (acc.map bg))) rfl (aN (x:=.int (a:Nat)) (σ₁:=τ.set ro (.lst (acc.map bg))) rfl (aN (a7 (a7 (x:=.int q) (σ₁:=τ.set ro (.lst (acc.map bg))) rfl (tA (d:=d))) hv) b6))) (show (3:Nat) <= ao by decide)
   ·obtain ⟨q1,q2⟩:=Prod.mk.inj q
    exact Nat.lt_irrefl _ (q2 ▸ hb e he q1)
   ·rcases List.mem_append.mp he with he | he
    ·exact .inl he
    ·exact .inr (List.mem_singleton.mp he)
end
end Mine
namespace Mine
open PySem
theorem aao {f:ae->List Str} {m:Nat}:∀ (q:List ae),(∀ s ∈ q,(f s).length <= m)->(q.flatMap f).length <= m * q.length:=by
 intro q
 induction q with
 | nil=>intro _; exact Nat.le_refl _
 | cons s q ih =>
  intro h
  have h1:=h s List.mem_cons_self
  have h2:=ih fun t ht=>h t (bG _ ht)
  rw [List.flatMap_cons,List.length_append,List.length_cons,Nat.mul_succ]; (grind)
theorem zM {p:List ae} (h:bx p):(bZ p).length <= 80:=by
 have h1:=wR (G:=p.flatMap (·.gives)) (p.flatMap (·.needs)) []
 have h2:=aao (f:=fun s=>s.needs) p fun s hs=>(h.steps s hs).needs4
 exact aE h1 (aE (by rw [List.length_nil,Nat.zero_add]; exact h2) (Nat.mul_le_mul_left 4 h.most))
theorem aeQ {p:List ae} (h:bx p):(bJ p).length <= 60:=by
 unfold bJ
 have h2:=aao (f:=fun s=>s.gives) (p.filter fun s=>dE s.rule) fun s hs=>(h.steps s (List.mem_filter.mp hs).1).gives3
 exact aE h2 (Nat.mul_le_mul_left 3 (aE (List.length_filter_le _ _) h.most))
section
variable {p:List ae} {n:Nat} {τ:ab} {d:Nat} {l:List Int} {ro at_:Nat} {wh:Int} {wt:Option (Nat × MO)}
theorem aiE (hl:l.length <= 63) (hn:n <= 6) (hro:ro < τ.length) (hw:∀ m,cJ wt (τ.set ro m)):∀ (xs:List Str) (j:Nat) (acc:List Pt) (a x t z:Option PV),xs.Nodup->(∀ x ∈ xs,x ∈ bZ p)->(∀ e ∈ acc,e.1 ∉ xs)->acc.length + 6 * xs.length < 800->fb p n acc ->
  ∃ acc' a' x' t' z',aV wt (dX [6,7]) (fun ρ σ=>ex (CC (d + 1)) topN oU ρ σ) (dC j (xs.map .str)) (dh l at_ p n ro wh a x t z) (τ.set ro (.lst (acc.map bg)))=.next (dh l at_ p n ro wh a' x' t' z') (τ.set ro (.lst (acc'.map bg)))/\fb p n acc'/\acc'.length <= acc.length + 6 * xs.length/\∀ e ∈ acc',e ∈ acc\/e.1 ∈ xs:=by
 intro xs
 induction xs with
 | nil=>intro j acc a x t z _ _ _ _ h; exact ⟨acc,a,x,t,z,lP (hw _),h,Nat.le_refl _,fun e he=>.inl he⟩
 | cons y xs ih =>
  intro j acc a x t z hd hm ha hlen h
  rw [List.length_cons] at hlen
  rw [List.nodup_cons] at hd
  obtain ⟨acc1,t1,z1,e1,h1,l1,m1⟩:=ajB (d:=d) (at_:=at_) (wh:=wh) (x:=y) (j:=j) hl (hm y List.mem_cons_self) hro n 0 acc t z (Nat.zero_add n) (by grind) h (fun e he hx=>absurd (hx ▸ List.mem_cons_self) (ha e he))
  obtain ⟨acc',a',x',t',z',e2,h2,l2,m2⟩:=ih (j + 1) acc1 (some (.int (j:Nat))) (some (.str y)) t1 z1 hd.2 (fun x hx=>hm x (bG _ hx)) (fun e he hx=>by
   rcases m1 e he with he | he
   ·exact ha e he (bG _ hx)
   ·exact hd.1 (he ▸ hx)) (by grind) h1
  refine ⟨acc',a',x',t',z',?_,h2,by rw [List.length_cons]; (grind),fun e he=>?_⟩
  ·refine (j6 (hw _) (ρ₁:=dh l at_ p n ro wh (some (.int (j:Nat))) (some (.str y)) t z) rfl ((aa (a:=nb) (bL (lG rfl (by (exact aE (by assumption) (by decide)))) ?_)).trans az)).trans e2
   unfold aF
   rw [List.range_eq_range']; exact e1
  ·rcases m2 e he with he | he
   ·rcases m1 e he with he | he
    ·exact .inl he
    ·exact .inr (he ▸ List.mem_cons_self)
   ·exact .inr (bG _ he)
theorem afN (hp:bx p) (hl:l.length <= 63) (hn1:1 <= n) (hro:ro < τ.length) (hw:∀ m,cJ wt (τ.set ro m)):∀ (xs:List Str) (j:Nat) (acc:List Pt) (a x t z:Option PV),xs.Nodup->(∀ x ∈ xs,x ∈ bJ p)->(∀ e ∈ acc,e.1 ∉ xs)->acc.length + xs.length < 900->fb p n acc ->
  ∃ acc' a' x' t' z',aV wt (dX [6,7]) (fun ρ σ=>ex (CC (d + 1)) topN jD ρ σ) (dC j (xs.map .str)) (dh l at_ p n ro wh a x t z) (τ.set ro (.lst (acc.map bg)))=.next (dh l at_ p n ro wh a' x' t' z') (τ.set ro (.lst (acc'.map bg)))/\fb p n acc'/\acc'.length <= acc.length + xs.length:=by
 intro xs
 induction xs with
 | nil=>intro j acc a x t z _ _ _ _ h; exact ⟨acc,a,x,t,z,lP (hw _),h,Nat.le_refl _⟩
 | cons y xs ih =>
  intro j acc a x t z hd hm ha hlen h
  rw [List.length_cons] at hlen
  rw [List.nodup_cons] at hd
  obtain ⟨v,v0,v1,hv⟩:=h15 (p:=dq (dq (l.getD (at_ + 1 + j % 6) 0 + 7)))
  have b0:∀ {σ:ab},ex (CC (d + 1)) topN na (dh l at_ p n ro wh (some (.int (j:Nat))) (some (.str y)) t z) σ=.next (dh l at_ p n ro wh (some (.int (j:Nat))) (some (.str y)) t (some (.int (dq (l.getD (at_ + 1 + j % 6) 0 + 7))))) σ:=fun {σ}=>by
   refine aC (a7 (ay (aaE (d:=d) hl (fun zz zz=>rfl) rfl (k:=at_ + 1 + j % 6) (ay (x:=.int ((at_:Int) + 1)) (σ₁:=σ) rfl (ay (x:=.int (j:Int)) (σ₁:=σ) rfl (y:=.int 6) (σ₂:=σ) rfl (a9 (by decide))) ?_)) (y:=.int 7) (σ₂:=σ) rfl add_int) (tA (d:=d)))
   rw [add_int]; simp
  have tt:∀ {σ:ab} {q:Int},tst (CC (d + 1)) (.cmp (.bin .mod (.v 9) (.k (.int 5))) .gt (.bin .sub (.v 5) (.k (.int 1)))) (dh l at_ p n ro wh (some (.int (j:Nat))) (some (.str y)) t (some (.int q))) σ=.ok (decide (q % 5 > wh - 1)) σ:=fun {σ q} =>
   aU (ay (x:=.int q) (y:=.int 5) (σ₁:=σ) (σ₂:=σ) rfl rfl (a9 (by decide))) (y:=.int (wh - 1)) (σ₂:=σ) rfl gt_int
  generalize hq:dq (l.getD (at_ + 1 + j % 6) 0 + 7)=q at b0 hv
  have fin:∀ (acc1:List Pt),ex (CC (d + 1)) topN m9 (dh l at_ p n ro wh (some (.int (j:Nat))) (some (.str y)) t (some (.int q))) (τ.set ro (.lst (acc.map bg)))=.next (dh l at_ p n ro wh (some (.int (j:Nat))) (some (.str y)) t (some (.int q))) (τ.set ro (.lst (acc1.map bg)))->fb p n acc1->acc1.length <= acc.length + 1->(∀ e ∈ acc1,e ∈ acc\/e=(y,0,v)) ->
    ∃ acc' a' x' t' z',aV wt (dX [6,7]) (fun ρ σ=>ex (CC (d + 1)) topN jD ρ σ) (dC j ((y::xs).map .str)) (dh l at_ p n ro wh a x t z) (τ.set ro (.lst (acc.map bg)))=.next (dh l at_ p n ro wh a' x' t' z') (τ.set ro (.lst (acc'.map bg)))/\fb p n acc'/\acc'.length <= acc.length + (y::xs).length:=fun acc1 e1 h1 l1 m1=>by
   obtain ⟨acc',a',x',t',z',e2,h2,l2⟩:=ih (j + 1) acc1 (some (.int (j:Nat))) (some (.str y)) t (some (.int q)) hd.2 (fun x hx=>hm x (bG _ hx)) (fun e he hx=>by
    rcases m1 e he with he | rfl
    ·exact ha e he (bG _ hx)
    ·exact hd.1 hx) (by grind) h1
   exact ⟨acc',a',x',t',z',(j6 (hw _) (ρ₁:=dh l at_ p n ro wh (some (.int (j:Nat))) (some (.str y)) t z) rfl ((aa b0).trans ((aa e1).trans az))).trans e2,h2,by rw [List.length_cons]; (grind)⟩
  cases hc:decide (q % 5 > wh - 1) with
  | false=>exact fin acc (ah (tt.trans (by rw [hc]))) h (Nat.le_succ _) fun e he=>.inl he
  | true =>
   obtain ⟨f1,f2⟩:=ac4 hp (hm y List.mem_cons_self)
   refine fin (acc++[(y,0,v)]) ((aI (tt.trans (by rw [hc]))).trans ((aa (a:=kS) (afc hro (by grind) (fun zz=>rfl) ?_)).trans az)) (h.snoc ⟨f2,f1,hn1,v0,v1⟩ fun e he q=>?_) (by rw [List.length_append]; exact Nat.le_refl _) fun e he=>?_
   ·exact g7 (vs:=[.str y,.int ((0:Nat):Int),.int v]) (aN (x:=.str y) (σ₁:=τ.set ro (.lst (acc.map bg))) rfl (aN (x:=.int ((0:Nat):Int)) (σ₁:=τ.set ro (.lst (acc.map bg))) rfl (aN (a7 (a7 (x:=.int q) (σ₁:=τ.set ro (.lst (acc.map bg))) rfl (tA (d:=d))) hv) b6))) (show (3:Nat) <= ao by decide)
   ·exact ha e he ((Prod.mk.inj q).1 ▸ List.mem_cons_self)
   ·rcases List.mem_append.mp he with he | he
    ·exact .inl he
    ·exact .inr (List.mem_singleton.mp he)
theorem aaD {C:bn} {x:X} {ρ:aq} {σ σ₁:ab} {r:Nat} {xs:List PV} (hx:ev C x ρ σ=.ok (.ref r) σ₁) (hr:σ₁[r]?=some (.lst xs)) (hl:xs.length <= 1000):evIt C (.enum x) ρ σ=.ok (dC 0 xs,some (r,.lst xs)) σ₁:=by
 rw [aeW,hx,aB]
 unfold qc a8 ie
 dsimp only
 rw [hr]
 exact if_pos (by rw [aZ]; (exact aE (by assumption) (by decide)))
theorem aet {σ:ab} (hp:bx p) (hl:l.length <= 63) (hn1:1 <= n) (hn:n <= 6):∃ (acc:List Pt) (υ:ab),aJ PP topN (d + 2) vL [.fl (l.map .int),.int (at_:Nat),aA p,.int (n:Nat)] σ=.ok (.ref σ.length) (σ++.lst (acc.map bg)::υ)/\fb p n acc/\acc.length < 800:=by
 rw [a6 (fn:=wa) rfl rfl]
 have ol:=zM hp
 have fl:=aeQ hp
 have s1:∀ {σ:ab},ex (CC (d + 1)) topN kB (some (.fl (l.map .int))::some (.int (at_:Nat))::some (aA p)::some (.int (n:Nat))::some (.ref σ.length)::List.replicate 12 none) (σ++[.lst []])=.next (dh l at_ p n σ.length (l.getD at_ 0 % 3) none none none none) (σ++[.lst []]):=fun {σ} =>
  aC (ay (aaE (d:=d) hl (fun zz zz=>rfl) rfl (k:=at_) rfl) (y:=.int 3) (σ₂:=σ++[.lst []]) rfl (a9 (by decide)))
 generalize l.getD at_ 0 % 3=wh at s1
 have out:=tu (d:=d) (σ:=σ++[.lst []]) hp
 change aJ PP topN (d + 1) bY [aA p] (σ++[.lst []])=.ok (.ref ((σ++[MO.lst []]).length + 1)) (σ++[MO.lst []]++[MO.lst ((p.flatMap (·.gives)).map .str),.lst ((bZ p).map .str)]) at out
 rw [show σ++[MO.lst []]++[MO.lst ((p.flatMap (·.gives)).map .str),.lst ((bZ p).map .str)]=σ++.lst []::[.lst ((p.flatMap (·.gives)).map .str),.lst ((bZ p).map .str)] by rw [List.append_assoc]; rfl] at out
 have ro1:σ.length < (σ++.lst []::[MO.lst ((p.flatMap (·.gives)).map .str),.lst ((bZ p).map .str)]).length:=by rw [List.length_append]; show _ < _ + 3; (grind)
 have g1:(σ++.lst []::[MO.lst ((p.flatMap (·.gives)).map .str),.lst ((bZ p).map .str)])[(σ++[MO.lst []]).length + 1]?=some (.lst ((bZ p).map .str)):=by
  rw [List.length_append,List.getElem?_append_right (by show _ <= _ + 1 + 1; (grind)),show σ.length + [MO.lst []].length + 1 - σ.length=2 by show σ.length + 1 + 1 - σ.length=2; (grind)]; rfl
 have ne1:σ.length ≠ (σ++[MO.lst []]).length + 1:=by rw [List.length_append]; show _ ≠ _ + 1 + 1; (grind)
 generalize hr1:(σ++[MO.lst []]).length + 1=r1 at out g1 ne1
 obtain ⟨acc1,a1,x1,t1,z1,e1,h1,l1,m1⟩:=aiE (d:=d) (at_:=at_) (wh:=wh) (wt:=some (r1,.lst ((bZ p).map .str))) hl hn ro1 (fun m=>aO ne1 g1) (bZ p) 0 [] none none none none (ad3 _ _ List.nodup_nil) (fun x hx=>hx) (fun e he=>nomatch he) (by rw [List.length_nil]; (grind)) ⟨List.nodup_nil,fun e he=>nomatch he⟩
 rw [List.map_nil,ij,ij] at e1
 have s2:ex (CC (d + 1)) topN kA (dh l at_ p n σ.length wh none none none none) (σ++[.lst []])=.next (dh l at_ p n σ.length wh a1 x1 t1 z1) (σ++.lst (acc1.map bg)::[.lst ((p.flatMap (·.gives)).map .str),.lst ((bZ p).map .str)]):=by
  show (evIt (CC (d + 1)) (.enum (.call bY (.cons (.v 2) .nil))) (dh l at_ p n σ.length wh none none none none) (σ++[.lst []])).toS _ _=_
  rw [aaD (a7 (x:=aA p) (σ₁:=σ++[.lst []]) rfl out) g1 (by rw [List.length_map]; (exact aE (by assumption) (by decide))),cO]
  exact e1
 generalize [MO.lst ((p.flatMap (·.gives)).map .str),.lst ((bZ p).map .str)]=oB at s2
 have fst:=aev (d:=d) (σ:=σ++.lst (acc1.map bg)::oB) hp
 rw [show σ++MO.lst (acc1.map bg)::oB++[.lst ((bJ p).map .str)]=σ++.lst (acc1.map bg)::(oB++[.lst ((bJ p).map .str)]) by rw [List.append_assoc]; rfl] at fst
 have ro2:σ.length < (σ++MO.lst (acc1.map bg)::(oB++[MO.lst ((bJ p).map .str)])).length:=by rw [List.length_append,List.length_cons]; (grind)
 have g2:(σ++.lst (acc1.map bg)::(oB++[.lst ((bJ p).map .str)]))[(σ++MO.lst (acc1.map bg)::oB).length]?=some (.lst ((bJ p).map .str)):=by
  rw [<- List.cons_append,<- List.append_assoc]; exact c6
 have ne2:σ.length ≠ (σ++MO.lst (acc1.map bg)::oB).length:=by rw [List.length_append,List.length_cons]; (grind)
 generalize (σ++MO.lst (acc1.map bg)::oB).length=r2 at fst g2 ne2
 obtain ⟨acc2,a2,x2,t2,z2,e2,h2,l2⟩:=afN (d:=d) (at_:=at_) (wh:=wh) (wt:=some (r2,.lst ((bJ p).map .str))) hp hl hn1 ro2 (fun m=>aO ne2 g2) (bJ p) 0 acc1 a1 x1 t1 z1 (abe hp) (fun x hx=>hx) (fun e he hx=>by
  rcases m1 e he with he | he
  ·exact nomatch he
  ·obtain ⟨s,hs,_,hg⟩:=ya.mp hx
   exact (tZ.mp he).2 (List.mem_flatMap.mpr ⟨s,hs,hg⟩)) (by rw [List.length_nil] at l1; (grind)) h1
 rw [ij,ij] at e2
 have s3:ex (CC (d + 1)) topN kz (dh l at_ p n σ.length wh a1 x1 t1 z1) (σ++.lst (acc1.map bg)::oB)=.next (dh l at_ p n σ.length wh a2 x2 t2 z2) (σ++.lst (acc2.map bg)::(oB++[.lst ((bJ p).map .str)])):=by
  show (evIt (CC (d + 1)) (.enum (.call nS (.cons (.v 2) .nil))) (dh l at_ p n σ.length wh a1 x1 t1 z1) (σ++.lst (acc1.map bg)::oB)).toS _ _=_
  rw [aaD (a7 (x:=aA p) (σ₁:=σ++.lst (acc1.map bg)::oB) rfl fst) g2 (by rw [List.length_map]; (exact aE (by assumption) (by decide))),cO]
  exact e2
 refine ⟨acc2,oB++[.lst ((bJ p).map .str)],?_,h2,by rw [List.length_nil] at l1; (grind)⟩
 have s0:ex (CC (d + 1)) topN qA (some (.fl (l.map .int))::some (.int (at_:Nat))::some (aA p)::some (.int (n:Nat))::List.replicate 13 none) σ=.next (some (.fl (l.map .int))::some (.int (at_:Nat))::some (aA p)::some (.int (n:Nat))::some (.ref σ.length)::List.replicate 12 none) (σ++[.lst []]):=rfl
 have s4:∀ {σ':ab},ex (CC (d + 1)) topN ky (dh l at_ p n σ.length wh a2 x2 t2 z2) σ'=.ret (.ref σ.length) (dh l at_ p n σ.length wh a2 x2 t2 z2) σ':=fun {σ'}=>av rfl
 have body:=(aa (r:=.cons kB (.cons kA (.cons kz (.cons ky .nil)))) s0).trans ((aa (s1 (σ:=σ))).trans ((aa s2).trans ((aa s3).trans (aj (r:=.nil) s4))))
 exact (congrArg aM body).trans rfl
end
end Mine
namespace Mine
open PySem
structure Ap (X:Ix) (j:Nat):Prop where
 i:j ≠ X.i
 g:j ≠ X.g
 o:j ≠ X.o
 h:j ≠ X.h
 gn:j ≠ X.gn
 od:j ≠ X.od
theorem Ap.gt {X:Ix} {j:Nat} (l:X.Lt) (h:X.od < j):Ap X j:=by
 have a:=l.a
 have b:=l.b
 have c:=l.c
 have d:=l.d
 have e:=l.e
 have gn:=Nat.lt_trans e h
 have hh:=Nat.lt_trans d gn
 have o:=Nat.lt_trans c hh
 have g:=Nat.lt_trans b o
 exact ⟨Nat.ne_of_gt (Nat.lt_trans a g),Nat.ne_of_gt g,Nat.ne_of_gt o,Nat.ne_of_gt hh,Nat.ne_of_gt gn,Nat.ne_of_gt h⟩
theorem Bo.other {p:List ae} {n:Nat} {es gs:cQ} {os:List PV} {X:Ix} {σ:ab} {j:Nat} {m:MO} (b:Bo p n es gs os X σ) (a:Ap X j):Bo p n es gs os X (σ.set j m):=
 ⟨aO a.i b.ns,aO a.g b.gv,aO a.o b.ot,aO a.h b.hr,aO a.gn b.go,aO a.od b.od,b.lt⟩
noncomputable def kN (Γ:Cx) (σ σ':ab):Prop:=∀ j m,Ap Γ.X j->j ≠ Γ.tk->j ≠ Γ.gl->σ[j]?=some m->σ'[j]?=some m
theorem kN.trans {Γ:Cx} {a b c:ab} (h:kN Γ a b) (k:kN Γ b c):kN Γ a c:=fun j m q1 q2 q3 e=>k j m q1 q2 q3 (h j m q1 q2 q3 e)
structure yp (Γ:Cx):Prop where
 t:Ap Γ.X Γ.tk
 g:Ap Γ.X Γ.gl
 ne:Γ.tk ≠ Γ.gl
section
variable {Γ:Cx} {B:cm} {σ:ab} {d:Nat}
theorem aby {x:Str} {t:Nat} {v:Int} {C:bn} {N:Nat} {ρ:aq} {a y z w:Mine.X} (H:gN Γ) (S:c9 Γ B σ) (at_:yp Γ) (he:agK Γ.p Γ.n (x,t,v)) (ha:ai (x,(t:Int)) B.es=none) (hl:B.es.length < 800000)
  (hC:∀ vs σ,C.call dZ vs σ=aJ PP topN (d + 4) dZ vs σ) (h0:∀ σ,ev C a ρ σ=.ok (.inst af Γ.X.i) σ) (h1:∀ σ,ev C y ρ σ=.ok (.str x) σ) (h2:∀ σ,ev C z ρ σ=.ok (.int (t:Nat)) σ) (h3:∀ σ,ev C w ρ σ=.ok (.int v) σ) {u:Mine.X} (hu:∀ σ,ev C u ρ σ=.ok (.ref Γ.tk) σ) :
  ∃ aX aR,ex C N (.expr (.meth af dZ "put" a (.cons y (.cons z (.cons w .nil))))) ρ σ=.next ρ aX/\ex C N (.asgSub u (.tup (.cons y (.cons z .nil))) w) ρ aX=.next ρ aR/\c9 Γ (B.put x t v) aR/\kN Γ σ aR:=by
 have pk:aJ PP topN (d + 4) dZ [.inst af Γ.X.i,.str x,.int (t:Nat),.int v] σ=.ok .none (σ.set Γ.X.h (.dp (B.es++[((x,(t:Int)),.int v)]))):=aiD (d:=d) H.hp S.bo he.plc (Int.natCast_nonneg t) (Int.ofNat_lt.mpr he.lt) he.free he.val ha (Nat.lt_trans hl (by decide))
 have tk1:(σ.set Γ.X.h (.dp (B.es++[((x,(t:Int)),.int v)])))[Γ.tk]?=some (.dp B.es):=aO at_.t.h.symm S.tk
 refine ⟨_,(σ.set Γ.X.h (.dp (B.es++[((x,(t:Int)),.int v)]))).set Γ.tk (.dp (B.es++[((x,(t:Int)),.int v)])),bR (cC (h0 σ) S.bo.ns rfl (aN (h1 σ) (aN (h2 σ) (aN (h3 σ) b6))) ((hC _ _).trans pk)),?_,?_⟩
 ·show (ev C w ρ _).toS ρ (fun v σ=>(ev C u ρ σ).toS ρ fun o σ=>(ev C (.tup (.cons y (.cons z .nil))) ρ σ).toS ρ fun i σ=>bV o i v ρ σ)=_
  rw [h3,cO,hu,cO,g7 (vs:=[.str x,.int (t:Nat)]) (aN (h1 _) (aN (h2 _) b6)) (show (2:Nat) <= ao by decide),cO,lE tk1 (by rw [aZ]; (exact aE (by assumption) (by decide))),xF ha]
 ·refine ⟨⟨S.bo.here.other at_.t,hY tk1,aO at_.ne (aO at_.g.h.symm S.gl),fun k u hu=>?_,⟨S.gk.nodup,S.gk.inn,S.gk.os⟩⟩,fun j m q1 q2 q3 e=>aO (Ne.symm q2) (aO (Ne.symm q1.h) e)⟩
  have hu:ai k (B.es++[((x,(t:Int)),PV.int v)])=some u:=hu
  rw [nI ha] at hu
  by_cases q:k=(x,(t:Int))
  ·rw [if_pos q] at hu
   obtain rfl:=oi hu
   exact ⟨v,rfl,he.val⟩
  ·rw [if_neg q] at hu; exact S.ok k u hu
noncomputable def afF (n:Str):PV->Option PV
 | .tup (.str w::r)=>if (w == n)=true then some (.tup (.str w::r)) else none
 | _=>none
theorem xT {p:List ae} {C:bn} {ρ:aq} {cap:List (Option Nat)} {i:Nat} {s:ae} (hp:bx p) (hs:s ∈ p) (hd:C.hd=false) (it:evIt C (.v i) ρ σ=.ok (p.map ae.pv,none) σ) (h1:∀ x,ev C (.v 1) ((bt cap ρ).set 1 (some x)) σ=.ok x σ) (h2:∀ x,ev C (.v 2) ((bt cap ρ).set 1 (some x)) σ=.ok (.str s.name) σ) :
  ev C (.sub (.comp true 1 cap (.v 1) (.cmp (.sub (.v 1) (.k (.int 0))) .eq (.v 2)) (.v i)) (.k (.int 0))) ρ σ=.ok s.pv σ:=by
 have c0:=qe (C:=C) (t:=1) (cap:=cap) (elt:=.v 1) (cond:=.cmp (.sub (.v 1) (.k (.int 0))) .eq (.v 2)) (afF s.name) it (by rw [List.length_map]; exact aE hp.most (by decide)) (fun y hy=>by
  obtain ⟨s',_,rfl⟩:=List.mem_map.mp hy
  refine (aU (bz (h1 _) (y:=.int 0) (σ₂:=σ) rfl (v:=.ok (.str s'.name) σ) rfl) (h2 _) se).trans ?_
  show _=ac.ok (if (s'.name == s.name)=true then some s'.pv else none).isSome σ
  cases (s'.name == s.name) <;> rfl) (fun y hy v hv=>by
  obtain ⟨s',_,rfl⟩:=List.mem_map.mp hy
  have hv:(if (s'.name == s.name)=true then some s'.pv else none)=some v:=hv
  split at hv
  ·obtain rfl:=oi hv; exact h1 _
  ·contradiction)
 have key:(p.map ae.pv).filterMap (afF s.name)=[s.pv]:=by
  rw [List.filterMap_map]
  have hn:=hp.names
  clear c0 it hp
  induction p with
  | nil=>contradiction
  | cons a q ih =>
   rw [List.map_cons,List.nodup_cons] at hn
   rw [List.filterMap_cons,show (afF s.name ∘ ae.pv) a=(if (a.name == s.name)=true then some a.pv else none) from rfl]
   by_cases ha:a.name=s.name
   ·rw [if_pos (by rw [ha]; exact beq_self_eq_true _)]
    have:a=s:=by
     rcases List.mem_cons.mp hs with rfl | h
     ·rfl
     ·exact absurd (List.mem_map.mpr ⟨s,h,ha.symm⟩) hn.1
    subst this
    show a.pv::_=_
    refine congrArg (a.pv::·) (List.filterMap_eq_nil_iff.mpr fun b hb=>?_)
    show (if (b.name == a.name)=true then some b.pv else none)=none
    exact if_neg fun q=>hn.1 (List.mem_map.mpr ⟨b,hb,eq_of_beq q⟩)
   ·rw [if_neg (by rw [beq_eq_false_iff_ne.mpr ha]; decide)]
    exact ih ((List.mem_cons.mp hs).resolve_left fun q=>ha (q ▸ rfl)) hn.2
 rw [key] at c0
 exact bz c0 (y:=.int 0) (σ₂:=σ) rfl rfl
theorem zE {s:ae} {t:Nat} {C:bn} {N:Nat} {ρ ρ':aq} {st:S} {a y z u w:Mine.X} (H:gN Γ) (S:c9 Γ B σ) (at_:yp Γ) (hs:s ∈ Γ.p) (ht:t < Γ.n) (hr:B.rdy s (t:Int)=true) (hl:B.es.length < 800000) (hg:B.gs.length < 800000)
  (hC:∀ vs σ,C.call eF vs σ=aJ PP topN (d + 4) eF vs σ) (hC2:∀ vs σ,C.call fi vs σ=aJ PP topN (d + 2) fi vs σ) (h0:∀ σ,ev C a ρ σ=.ok (.inst af Γ.X.i) σ) (h1:∀ σ,ev C y ρ σ=.ok (.str s.name) σ) (h2:∀ σ,ev C z ρ σ=.ok (.int (t:Nat)) σ) (h3:∀ σ,ev C u ρ σ=.ok (.ref Γ.gl) σ)
  (h4:∀ σ,ex C N st ρ σ=.next ρ' σ) (h5:∀ σ,evs C w ρ' σ=.ok [s.pv,.ref Γ.tk,.int (t:Nat),.int (Γ.n:Nat)] σ) :
  ∃ aX aR uW,ex C N (.expr (.meth af eF "fire" a (.cons y (.cons z .nil)))) ρ σ=.next ρ aX/\ex C N (.expr (.me .append u (.cons (.tup (.cons y (.cons z .nil))) .nil))) ρ aX=.next ρ aR/\ex C N st ρ aR=.next ρ' aR/\ex C N (.expr (.call fi w)) ρ' aR=.next ρ' uW/\c9 Γ (B.fire Γ.n s (t:Int)) uW/\kN Γ σ uW:=by
 obtain ⟨r1,r2⟩:=cm.rdy_of hr
 have ol:B.os.length=B.gs.length:=by rw [S.gk.os,List.length_map]
 obtain ⟨aX,e1,b1,k1⟩:=aj0 (d:=d) H.hp S.bo hs (H.hpl s hs) S.ok (Int.natCast_nonneg t) (Int.ofNat_lt.mpr ht) r1 r2 hl hg (by rw [ol]; exact hg)
 have g1:aX[Γ.gl]?=some (.lst B.os):=k1.at_ Γ.gl _ at_.g.h at_.g.gn at_.g.od S.gl
 have t1:aX[Γ.tk]?=some (.dp B.es):=k1.at_ Γ.tk _ at_.t.h at_.t.gn at_.t.od S.tk
 have t2:(aX.set Γ.gl (.lst (B.os++[.tup [.str s.name,.int (t:Nat)]])))[Γ.tk]?=some (.dp B.es):=aO at_.ne.symm t1
 have f2:=acZ (d:=d) (H.hp.steps s hs) t2 S.ok r2 (Int.ofNat_lt.mpr ht) hl
 have fs:da Γ.p Γ.n B (B.fire Γ.n s (t:Int)) [(s,(t:Int))]:=.snoc .nil hs (Int.natCast_nonneg t) (Int.ofNat_lt.mpr ht) hr
 refine ⟨aX,aX.set Γ.gl (.lst (B.os++[.tup [.str s.name,.int (t:Nat)]])),_,bR (cC (h0 σ) S.bo.ns rfl (aN (h1 σ) (aN (h2 σ) b6)) ((hC _ _).trans e1)),?_,h4 _,bR (jH (h5 _) ((hC2 _ _).trans f2)),?_,?_⟩
 ·exact bR (fA (h3 _) (wV g1) (g7 (vs:=[.str s.name,.int (t:Nat)]) (aN (h1 _) (aN (h2 _) b6)) (show (2:Nat) <= ao by decide)) (qj g1 (by rw [ol]; (exact aE (by assumption) (by decide)))))
 ·exact ⟨(b1.other at_.g).other at_.t,hY t2,aO at_.ne (hY g1),fs.val H.hp S.ok,fs.gk S.gk⟩
 ·exact fun j m q1 q2 q3 e=>aO (Ne.symm q2) (aO (Ne.symm q3) (k1.at_ j m q1.h q1.gn q1.od e))
end
end Mine
namespace Mine
open PySem
theorem aje {α:Type} {l:List α} {i:Nat} (h:i < l.length):(l[i]::l.eraseIdx i).Perm l:=by
 rw [List.eraseIdx_eq_take_drop_succ]
 have e:l.take i++l[i]::l.drop (i + 1)=l:=by rw [<- List.drop_eq_getElem_cons h,List.take_append_drop]
 exact List.perm_middle.symm.trans (by rw [e])
theorem ajf {α β:Type} {f:α->β} {l:List α} {i:Nat}:(l.map f).eraseIdx i=(l.eraseIdx i).map f:=by
 rw [List.eraseIdx_eq_take_drop_succ,List.eraseIdx_eq_take_drop_succ,List.map_append,List.map_take,List.map_drop]
section
variable {Γ:Cx} {B:cm} {σ:ab} {d:Nat} {pr:Nat} {pts:List Pt} {at_:Nat}
theorem abZ {r:Nat} {xs:List PV} {ds:List PyData} (h:σ[r]?=some (.lst xs)) (hd:xs.mapM (bA 15 σ)=some ds):bp .eq (.ref r) (.fl []) σ=.ok xs.isEmpty σ/\bp .ne (.ref r) (.fl []) σ=.ok (!xs.isEmpty) σ:=by
 have e:bA 16 σ (.ref r)=some (.list ds):=by
  show (match σ[r]? with | some (.lst xs)=>(xs.mapM (bA 15 σ)).map PyData.list | _=>none)=_
  rw [h]
  show (xs.mapM (bA 15 σ)).map PyData.list=_
  rw [hd]; rfl
 have q:eqv σ (.ref r) (.fl [])=some xs.isEmpty:=by
  unfold eqv
  rw [e]
  cases xs with
  | nil=>obtain rfl:=oi hd; rfl
  | cons x xs =>
   rw [List.mapM_cons] at hd
   cases ds with
   | nil =>
    cases h1:bA 15 σ x with
    | none=>rw [h1] at hd; contradiction
    | some y =>
     rw [h1] at hd
     cases h2:xs.mapM (bA 15 σ) with
     | none=>rw [h2] at hd; contradiction
     | some ys=>rw [h2] at hd; exact nomatch (show some (y::ys)=some [] from hd)
   | cons a as=>rfl
 constructor
 ·show ac.ofOpt (eqv σ (.ref r) (.fl [])) σ=_
  rw [q]; rfl
 ·show ac.ofOpt ((eqv σ (.ref r) (.fl [])).map (!·)) σ=_
  rw [q]; rfl
theorem ahq:∀ (l:List Pt),(l.map bg).mapM (bA 15 σ)=some (l.map fun e=>PyData.tuple [.str e.1,.int (e.2.1:Nat),.int e.2.2]):=by
 intro l
 induction l with
 | nil=>rfl
 | cons q l ih=>rw [List.map_cons,List.mapM_cons,ih]; rfl
theorem abH {r:Nat} {xs:List PV} (h:σ[r]?=some (.lst xs)) (hl:xs.length <= 1000):cI .len (.ref r) σ=.ok (.int (xs.length:Nat)) σ:=by
 show gx (fun xs=>if xs.length <= ao then ac.ok (PV.int xs.length) σ else .stuck) (.ref r) σ=_
 rw [gw (show aW σ (.ref r)=some xs by unfold aW; dsimp only; rw [h])]
 exact if_pos (by rw [aZ]; (exact aE (by assumption) (by decide)))
theorem abU {C:bn} {N:Nat} {is:List Nat} {x:Mine.X} {v:PV} {ρ ρ':aq} {σ':ab} (hd:C.hd=false) (h:ev C x ρ σ=.ok v σ') (hb:dX is v ρ=some ρ'):ex C N (.asgT is x) ρ σ=.next ρ' σ':=by
 show (bif C.hd then bT.stuck else (ev C x ρ σ).toS ρ fun v σ=>match dX is v ρ with
  | some ρ=>.next ρ σ
  | none=>.stuck)=_
 rw [hd,h,cond_false,cO,hb]
structure gL (Γ:Cx) (pr:Nat) (B:cm) (pts:List Pt) (c:Nat) (σ:ab):Prop where
 sim:c9 Γ B σ
 pl:σ[pr]?=some (.lst (pts.map bg))
 apt:yp Γ
 ap:Ap Γ.X pr
 tp:Γ.tk ≠ pr
 gp:Γ.gl ≠ pr
 ok:fb Γ.p Γ.n pts
 abs:∀ e ∈ pts,ai (e.1,(e.2.1:Int)) B.es=none
 len:pts.length < 800
 sz:eX B c
theorem gL.more {c:Nat} {τ:ab} (h:gL Γ pr B pts c σ):gL Γ pr B pts c (σ++τ):=⟨h.sim.more,bF h.pl,h.apt,h.ap,h.tp,h.gp,h.ok,h.abs,h.len,h.sz⟩
theorem gL.mono {c c':Nat} (h:gL Γ pr B pts c σ) (hc:c <= c'):gL Γ pr B pts c' σ:=⟨h.sim,h.pl,h.apt,h.ap,h.tp,h.gp,h.ok,h.abs,h.len,⟨aE h.sz.es (Nat.mul_le_mul_left 3 hc),aE h.sz.gs hc,aE h.sz.os hc⟩⟩
structure Sd where
 k:Option PV
 q:Option PV
 r:Option PV
 a:Option PV
 t:Option PV
 v:Option PV
 nm:Option PV
 st:Option PV
noncomputable def eK (Γ:Cx) (pr at_:Nat) (w:Sd):aq:=some (.inst af Γ.X.i)::some (aA Γ.p)::some (.ref Γ.tk)::some (.int (Γ.n:Nat))::some (.fl (Γ.l.map .int))::some (.int (at_:Nat))::some (.ref Γ.gl)::some (.ref pr)::w.k::w.q::w.r::w.a::w.t::w.v::w.nm::w.st::List.replicate 7 none
theorem aeC {q:Int} {m:Nat} (hm:0 < m):∃ i:Nat,q / 3 % (m:Nat)=(i:Nat)/\i < m:=by
 have n0:=Int.emod_nonneg (q / 3) (show (m:Int) ≠ 0 by (exact Int.ofNat_ne_zero.mpr (Nat.ne_of_gt (by assumption))))
 have n1:=Int.emod_lt_of_pos (q / 3) (show (0:Int) < m by (exact Int.ofNat_lt.mpr (by assumption)))
 obtain ⟨i,hi⟩:=Int.eq_ofNat_of_zero_le n0
 exact ⟨i,hi,by rw [hi] at n1; exact Int.ofNat_lt.mp n1⟩
theorem aiC {c:Nat} {q:Int} {r:Nat} {w:Sd} (H:gN Γ) (hc:c < 1000) (W:gL Γ pr B pts c σ) (hne:pts ≠ []) :
  ∃ B' pts' w' σ',ex (CC (d + 4)) topN (.cons d4 (.cons gV (.cons gU .nil))) (eK Γ pr at_ { w with q:=some (.int q),r:=some (.ref r) }) σ=.next (eK Γ pr at_ w') σ'/\gL Γ pr B' pts' (c + 1) σ':=by
 have lp:0 < pts.length:=List.length_pos_iff.mpr hne
 obtain ⟨i,hi,il⟩:=aeC (q:=q) lp
 have pl:=W.len
 have pm:(pts[i]::pts.eraseIdx i).Perm pts:=aje il
 have nd:=((pm.map fun e:Pt=>(e.1,e.2.1)).nodup_iff.mpr W.ok.nodup)
 rw [List.map_cons,List.nodup_cons] at nd
 have em:pts[i] ∈ pts:=List.getElem_mem il
 have eo:=W.ok.ok _ em
 have ea:=W.abs _ em
 have t0:ex (CC (d + 4)) topN d4 (eK Γ pr at_ { w with q:=some (.int q),r:=some (.ref r) }) σ=.next (eK Γ pr at_ { w with q:=some (.int q),r:=some (.ref r),a:=some (.str pts[i].1),t:=some (.int (pts[i].2.1:Nat)),v:=some (.int pts[i].2.2) }) (σ.set pr (.lst ((pts.eraseIdx i).map bg))):=by
  refine abU rfl (v:=bg pts[i]) (fA (x:=.ref pr) (σ₁:=σ) rfl (show eh (.ref pr) σ=true by unfold eh; dsimp only; rw [W.pl]) (y:=.int (i:Nat)) (σ₂:=σ) ?_ ?_) rfl
  ·rw [<- hi]
   refine ay (ay (x:=.int q) (y:=.int 3) (σ₁:=σ) (σ₂:=σ) rfl rfl (d0 (by decide) (by decide))) (bO (x:=.ref pr) (σ₁:=σ) rfl (abH W.pl (by rw [List.length_map]; (grind)))) ?_
   rw [List.length_map]
   exact a9 (by (exact Int.ofNat_lt.mpr (by assumption)))
  ·show tW (.ref pr) (.int (i:Nat)) σ=_
   unfold tW
   dsimp only
   rw [W.pl]
   dsimp only
   rw [if_pos ⟨Int.natCast_nonneg i,by rw [List.length_map,aZ]; (grind)⟩,Int.toNat_natCast,List.getElem?_map,List.getElem?_eq_getElem il]
   show ac.ok (bg pts[i]) (σ.set pr (.lst ((pts.map bg).eraseIdx i)))=_
   rw [ajf]
 have S1:c9 Γ B (σ.set pr (.lst ((pts.eraseIdx i).map bg))):=⟨W.sim.bo.other W.ap,aO W.tp.symm W.sim.tk,aO W.gp.symm W.sim.gl,W.sim.ok,W.sim.gk⟩
 have p1:(σ.set pr (.lst ((pts.eraseIdx i).map bg)))[pr]?=some (.lst ((pts.eraseIdx i).map bg)):=hY W.pl
 generalize σ.set pr (.lst ((pts.eraseIdx i).map bg))=σ0 at t0 S1 p1
 have hl:=W.sz.es
 obtain ⟨aX,aR,e1,e2,S2,R2⟩:=aby (d:=d) (C:=CC (d + 4)) (N:=topN) (ρ:=eK Γ pr at_ { w with q:=some (.int q),r:=some (.ref r),a:=some (.str pts[i].1),t:=some (.int (pts[i].2.1:Nat)),v:=some (.int pts[i].2.2) }) (a:=.v 0) (y:=.v 11) (z:=.v 12) (w:=.v 13) (u:=.v 2) H S1 W.apt (x:=pts[i].1) (t:=pts[i].2.1) (v:=pts[i].2.2) eo ea (by grind) (fun zz zz=>rfl) (fun zz=>rfl) (fun zz=>rfl) (fun zz=>rfl) (fun zz=>rfl) (fun zz=>rfl)
 refine ⟨B.put pts[i].1 pts[i].2.1 pts[i].2.2,pts.eraseIdx i,_,aR,(aa t0).trans ((aa e1).trans ((aa e2).trans az)),S2,R2 pr _ W.ap W.tp.symm W.gp.symm p1,W.apt,W.ap,W.tp,W.gp,⟨nd.2,fun e he=>W.ok.ok e (pm.mem_iff.mp (bG _ he))⟩,fun e he=>?_,Nat.lt_of_le_of_lt (List.length_eraseIdx_le _ _) pl,?_,?_,?_⟩
 ·have he':=pm.mem_iff.mp (bG _ he)
  show ai (e.1,(e.2.1:Int)) (B.es++[((pts[i].1,(pts[i].2.1:Int)),PV.int pts[i].2.2)])=none
  rw [nI ea,if_neg]
  ·exact W.abs e he'
  ·intro q
   obtain ⟨q1,q2⟩:=Prod.mk.inj q
   refine nd.1 (List.mem_map.mpr ⟨e,he,?_⟩)
   rw [q1,Int.ofNat_inj.mp q2]
 ·show (B.es++[_]).length <= _
  rw [List.length_append]
  show B.es.length + 1 <= _
  (grind)
 ·exact Nat.le_succ_of_le W.sz.gs
 ·exact Nat.le_succ_of_le W.sz.os
theorem ahx {c:Nat} {q:Int} {r:Nat} {w:Sd} (H:gN Γ) (hc:c < 1000) (W:gL Γ pr B pts c σ) (hr:σ[r]?=some (.lst ((bQ Γ.p Γ.n (bc B.es B.gs)).map bh))) (hne:bQ Γ.p Γ.n (bc B.es B.gs) ≠ []) :
  ∃ B' w' σ',ex (CC (d + 4)) topN (.cons dI (.cons fY (.cons fX (.cons dH (.cons fW .nil))))) (eK Γ pr at_ { w with q:=some (.int q),r:=some (.ref r) }) σ=.next (eK Γ pr at_ w') σ'/\gL Γ pr B' pts (c + 1) σ':=by
 have kl:(bQ Γ.p Γ.n (bc B.es B.gs)).length <= 900:=Nat.le_of_lt (Nat.lt_of_le_of_lt abJ (sJ H.hp H.hn))
 obtain ⟨i,hi,il⟩:=aeC (q:=q) (List.length_pos_iff.mpr hne)
 obtain ⟨s,hs,u,hu,hk,hrd⟩:=abI (List.getElem_mem il)
 have t0:ex (CC (d + 4)) topN dI (eK Γ pr at_ { w with q:=some (.int q),r:=some (.ref r) }) σ=.next (eK Γ pr at_ { w with q:=some (.int q),r:=some (.ref r),t:=some (.int (u:Nat)),nm:=some (.str s.name) }) σ:=by
  refine abU rfl (v:=bh (s.name,(u:Int))) (bz (x:=.ref r) (σ₁:=σ) rfl (y:=.int (i:Nat)) (σ₂:=σ) ?_ (abv hr (by rw [List.length_map,aZ]; (exact aE (by assumption) (by decide))) (Int.natCast_nonneg i) (by rw [Int.toNat_natCast,List.getElem?_map,List.getElem?_eq_getElem il,hk]; rfl))) rfl
  rw [<- hi]
  refine ay (ay (x:=.int q) (y:=.int 3) (σ₁:=σ) (σ₂:=σ) rfl rfl (d0 (by decide) (by decide))) (bO (x:=.ref r) (σ₁:=σ) rfl (abH hr (by rw [List.length_map]; (exact aE (by assumption) (by decide))))) ?_
  rw [List.length_map]
  exact a9 (by grind)
 have hl:=W.sz.es
 have hg:=W.sz.gs
 obtain ⟨aX,aR,uW,e1,e2,e3,e4,S3,R3⟩:=zE (d:=d) (C:=CC (d + 4)) (N:=topN) (s:=s) (t:=u) (ρ:=eK Γ pr at_ { w with q:=some (.int q),r:=some (.ref r),t:=some (.int (u:Nat)),nm:=some (.str s.name) }) (ρ':=eK Γ pr at_ { w with q:=some (.int q),r:=some (.ref r),t:=some (.int (u:Nat)),nm:=some (.str s.name),st:=some s.pv }) (st:=dH) (a:=.v 0) (y:=.v 14) (z:=.v 12) (u:=.v 6) (w:=.cons (.v 15) (.cons (.v 2) (.cons (.v 12) (.cons (.v 3) .nil))))
  H W.sim W.apt hs hu hrd (by grind) (by grind) (fun zz zz=>rfl) (fun zz zz=>rfl) (fun zz=>rfl) (fun zz=>rfl) (fun zz=>rfl) (fun zz=>rfl) (fun σ=>aC (xT (i:=1) (cap:=[none,none,some 14]) H.hp hs rfl rfl (fun zz=>rfl) (fun zz=>rfl))) (fun zz=>rfl)
 refine ⟨B.fire Γ.n s (u:Int),_,uW,(aa t0).trans ((aa e1).trans ((aa e2).trans ((aa e3).trans ((aa e4).trans az)))),S3,R3 pr _ W.ap W.tp.symm W.gp.symm W.pl,W.apt,W.ap,W.tp,W.gp,W.ok,fun e he=>?_,W.len,W.sz.fire (H.hp.steps s hs)⟩
 exact (x6 H.hp hs (Int.natCast_nonneg u) (W.ok.ok e he).free).trans (W.abs e he)
end
end Mine
namespace Mine
open PySem
section
variable {Γ:Cx} {d:Nat} {pr:Nat} {at_:Nat}
theorem afG {B:cm} {pts:List Pt} {σ:ab} {c k:Nat} {w:Sd} (H:gN Γ) (hc:c < 1000) (W:gL Γ pr B pts c σ) :
  ∃ B' pts' w' σ',ex (CC (d + 4)) topN fw (eK Γ pr at_ { w with k:=some (.int (k:Nat)) }) σ=.next (eK Γ pr at_ w') σ'/\gL Γ pr B' pts' (c + 1) σ':=by
 have b0:ex (CC (d + 4)) topN iV (eK Γ pr at_ { w with k:=some (.int (k:Nat)) }) σ=.next (eK Γ pr at_ { w with k:=some (.int (k:Nat)),q:=some (.int (dq (Γ.l.getD (at_ + 8 + k % 12) 0 + 31 * (k:Int)))) }) σ:=by
  refine aC (a7 (ay (cL (x:=.fl (Γ.l.map .int)) (y:=.int ((at_ + 8 + k % 12:Nat):Int)) (σ₁:=σ) (σ₂:=σ) rfl (ay (x:=.int ((at_:Int) + 8)) (σ₁:=σ) rfl (ay (x:=.int (k:Int)) (σ₁:=σ) rfl (y:=.int 12) (σ₂:=σ) rfl (a9 (by decide))) ?_) (h12 (d:=d + 3) H.hl)) (ay (x:=.int 31) (y:=.int (k:Nat)) (σ₁:=σ) (σ₂:=σ) rfl rfl (mul_int (.inl (by decide)))) add_int) (tA (d:=d + 3)))
  rw [add_int]; simp
 generalize dq (Γ.l.getD (at_ + 8 + k % 12) 0 + 31 * (k:Int))=qq at b0
 have c1:=abF (d:=d + 1) H.hp H.hn W.sim.tk W.sim.gl W.sim.gk.os W.sim.ok
 rw [jA] at c1
 have b1:ex (CC (d + 4)) topN iU (eK Γ pr at_ { w with k:=some (.int (k:Nat)),q:=some (.int qq) }) σ=.next (eK Γ pr at_ { w with k:=some (.int (k:Nat)),q:=some (.int qq),r:=some (.ref σ.length) }) (σ++[.lst ((bQ Γ.p Γ.n (bc B.es B.gs)).map bh)]):=
  aC (jH (vs:=[aA Γ.p,.ref Γ.tk,.ref Γ.gl,.int (Γ.n:Nat)]) rfl c1)
 have W1:gL Γ pr B pts c (σ++[.lst ((bQ Γ.p Γ.n (bc B.es B.gs)).map bh)]):=W.more
 have hr:(σ++[MO.lst ((bQ Γ.p Γ.n (bc B.es B.gs)).map bh)])[σ.length]?=some (.lst ((bQ Γ.p Γ.n (bc B.es B.gs)).map bh)):=c6
 generalize σ++[MO.lst ((bQ Γ.p Γ.n (bc B.es B.gs)).map bh)]=aX at b1 W1 hr
 generalize σ.length=rr at b1 hr
 have cp:=abZ W1.pl (ahq pts)
 have cr:=abZ hr (oF (n:=13) (bQ Γ.p Γ.n (bc B.es B.gs)))
 rw [List.isEmpty_map] at cp cr
 have t1:tst (CC (d + 4)) (.and (.cons (.cmp (.v 7) .ne (.lst true .nil)) (.cons (.or (.cons (.cmp (.bin .mod (.v 9) (.k (.int 3))) .gt (.k (.int 0))) (.cons (.cmp (.v 10) .eq (.lst true .nil)) .nil))) .nil))) (eK Γ pr at_ { w with k:=some (.int (k:Nat)),q:=some (.int qq),r:=some (.ref rr) }) aX=.ok (!pts.isEmpty && (decide (qq % 3 > 0) || (bQ Γ.p Γ.n (bc B.es B.gs)).isEmpty)) aX:=
  eN (ey (aU (x:=.ref pr) (y:=.fl []) (σ₁:=aX) (σ₂:=aX) rfl rfl cp.2) fun zz=>dQ (iH (rb (aU (ay (x:=.int qq) (y:=.int 3) (σ₁:=aX) (σ₂:=aX) rfl rfl (a9 (by decide))) (y:=.int 0) (σ₂:=aX) rfl gt_int) fun zz=>fK (aU (x:=.ref rr) (y:=.fl []) (σ₁:=aX) (σ₂:=aX) rfl rfl cr.1))))
 have t2:tst (CC (d + 4)) (.cmp (.v 10) .ne (.lst true .nil)) (eK Γ pr at_ { w with k:=some (.int (k:Nat)),q:=some (.int qq),r:=some (.ref rr) }) aX=.ok (!(bQ Γ.p Γ.n (bc B.es B.gs)).isEmpty) aX:=aU (x:=.ref rr) (y:=.fl []) (σ₁:=aX) (σ₂:=aX) rfl rfl cr.2
 cases h1:(!pts.isEmpty && (decide (qq % 3 > 0) || (bQ Γ.p Γ.n (bc B.es B.gs)).isEmpty)) with
 | true =>
  rw [h1] at t1
  have ne:pts ≠ []:=fun q=>by rw [q] at h1; exact nomatch h1
  obtain ⟨B',pts',w',σ',e,W'⟩:=aiC (d:=d) (at_:=at_) (q:=qq) (r:=rr) (w:={ w with k:=some (.int (k:Nat)) }) H hc W1 ne
  exact ⟨B',pts',w',σ',(aa b0).trans ((aa b1).trans ((aa (a:=dm) ((aI t1).trans e)).trans az)),W'⟩
 | false =>
  rw [h1] at t1
  cases h2:(!(bQ Γ.p Γ.n (bc B.es B.gs)).isEmpty) with
  | true =>
   rw [h2] at t2
   have ne:bQ Γ.p Γ.n (bc B.es B.gs) ≠ []:=fun q=>by rw [q] at h2; exact nomatch h2
   obtain ⟨B',w',σ',e,W'⟩:=ahx (d:=d) (at_:=at_) (q:=qq) (r:=rr) (w:={ w with k:=some (.int (k:Nat)) }) H hc W1 hr ne
   exact ⟨B',pts,w',σ',(aa b0).trans ((aa b1).trans ((aa (a:=dm) ((pJ t1).trans ((aa (a:=d5) ((aI t2).trans e)).trans az))).trans az)),W'⟩
  | false =>
   rw [h2] at t2
   exact ⟨B,pts,_,aX,(aa b0).trans ((aa b1).trans ((aa (a:=dm) ((pJ t1).trans ((aa (a:=d5) (ah t2)).trans az))).trans az)),W1.mono (Nat.le_succ _)⟩
theorem ahw (H:gN Γ):∀ (k i:Nat) (B:cm) (pts:List Pt) (σ:ab) (c:Nat) (w:Sd),c + k <= 900->gL Γ pr B pts c σ ->
  ∃ B' pts' w' σ',aV none (bw 8) (fun ρ σ=>ex (CC (d + 4)) topN fw ρ σ) ((List.range' i k).map fun (i:Nat)=>PV.int (0 + (i:Int) * 1)) (eK Γ pr at_ w) σ=.next (eK Γ pr at_ w') σ'/\gL Γ pr B' pts' (c + k) σ':=by
 intro k
 induction k with
 | zero=>intro i B pts σ c w _ W; exact ⟨B,pts,w,σ,bB,W⟩
 | succ k ih =>
  intro i B pts σ c w hc W
  obtain ⟨B1,pts1,w1,aX,e1,W1⟩:=afG (d:=d) (at_:=at_) (k:=i) (w:=w) H (by grind) W
  obtain ⟨B',pts',w',σ',e2,W2⟩:=ih (i + 1) B1 pts1 aX (c + 1) w1 (by grind) W1
  refine ⟨B',pts',w',σ',?_,by rw [show c + (k + 1)=c + 1 + k by grind]; exact W2⟩
  rw [List.range'_succ,List.map_cons]
  refine (a5 (ρ₁:=eK Γ pr at_ { w with k:=some (.int (i:Nat)) }) ?_ e1).trans e2
  rw [show (0:Int) + (i:Int) * 1=i by grind]; rfl
theorem acC {p:List ae} {n tk:Nat} {X:Ix} {l:List Int} {σ:ab} (hp:bx p) (hpl:∀ s ∈ p,kg s) (hl:l.length <= 63) (hn1:1 <= n) (hn:n <= 6) (b:Bo p n [] [] [] X σ) (htk:σ[tk]?=some (.dp [])) (at1:Ap X tk) :
  ∃ B gl σ',aJ PP topN (d + 5) mX [.inst af X.i,aA p,.ref tk,.int (n:Nat),.fl (l.map .int),.int (at_:Nat)] σ=.ok (.ref gl) σ'/\c9 ⟨p,n,X,tk,gl,l⟩ B σ'/\yp ⟨p,n,X,tk,gl,l⟩/\eX B 40:=by
 rw [a6 (fn:=m8) rfl rfl]
 have odl:X.od < σ.length:=(cS b.od).1
 have tkl:tk < σ.length:=(cS htk).1
 have s0:ex (CC (d + 4)) topN j7 (some (.inst af X.i)::some (aA p)::some (.ref tk)::some (.int (n:Nat))::some (.fl (l.map .int))::some (.int (at_:Nat))::List.replicate 17 none) σ=.next (some (.inst af X.i)::some (aA p)::some (.ref tk)::some (.int (n:Nat))::some (.fl (l.map .int))::some (.int (at_:Nat))::some (.ref σ.length)::List.replicate 16 none) (σ++[.lst []]):=rfl
 have b1:Bo p n [] [] [] X (σ++[.lst []]):=b.more
 have t1:(σ++[MO.lst []])[tk]?=some (.dp []):=bF htk
 have g1:(σ++[MO.lst []])[σ.length]?=some (.lst []):=c6
 have l1:(σ++[MO.lst []]).length=σ.length + 1:=by rw [List.length_append]; rfl
 generalize σ++[MO.lst []]=aX at s0 b1 t1 g1 l1
 obtain ⟨pts,υ,e1,pok,plen⟩:=aet (d:=d + 2) (σ:=aX) (l:=l) (at_:=at_) hp hl hn1 hn
 generalize hgl:σ.length=gl at s0 odl tkl g1 l1
 generalize tz:(⟨p,n,X,tk,gl,l⟩:Cx)=Γ
 have H:gN Γ:=by rw [<- tz]; exact ⟨hp,hpl,hl,hn1,hn⟩
 have s1:ex (CC (d + 4)) topN f7 (some (.inst af X.i)::some (aA p)::some (.ref tk)::some (.int (n:Nat))::some (.fl (l.map .int))::some (.int (at_:Nat))::some (.ref gl)::List.replicate 16 none) aX=.next (eK Γ aX.length at_ ⟨none,none,none,none,none,none,none,none⟩) (aX++.lst (pts.map bg)::υ):=by
  rw [<- tz]
  exact aC (jH (vs:=[.fl (l.map .int),.int (at_:Nat),aA p,.int (n:Nat)]) rfl e1)
 have W:gL Γ aX.length ⟨[],[],[]⟩ pts 0 (aX++.lst (pts.map bg)::υ):=by
  rw [<- tz]
  exact ⟨⟨b1.more,bF t1,bF g1,(fun k v hv=>nomatch hv),⟨List.nodup_nil,(fun k hk=>absurd hk List.not_mem_nil),rfl⟩⟩,c6,⟨at1,.gt b.lt odl,Nat.ne_of_lt tkl⟩,.gt b.lt (by rw [l1]; exact Nat.lt_succ_of_lt odl),by show tk ≠ aX.length; rw [l1]; exact Nat.ne_of_lt (Nat.lt_succ_of_lt tkl),by show gl ≠ aX.length; rw [l1]; exact Nat.ne_of_lt (Nat.lt_succ_self _),pok,fun e he=>rfl,plen,⟨Nat.zero_le _,Nat.zero_le _,Nat.zero_le _⟩⟩
 generalize aX++.lst (pts.map bg)::υ=aR at s1 W
 have n0:=Int.emod_nonneg (Γ.l.getD (at_ + 7) 0) (show (40:Int) ≠ 0 by decide)
 have n1:=Int.emod_lt_of_pos (Γ.l.getD (at_ + 7) 0) (show (0:Int) < 40 by decide)
 obtain ⟨K,hK⟩:=Int.eq_ofNat_of_zero_le n0
 rw [hK] at n1
 have kl:K < 40:=Int.ofNat_lt.mp n1
 obtain ⟨B',pts',w',σ',e2,W2⟩:=ahw (d:=d) (at_:=at_) H K 0 ⟨[],[],[]⟩ pts aR 0 ⟨none,none,none,none,none,none,none,none⟩ (by grind) W
 have it:evIt (CC (d + 4)) (.range1 (.bin .mod (.call aG (.cons (.v 4) (.cons (.bin .add (.v 5) (.k (.int 7))) .nil))) (.k (.int 40)))) (eK Γ aX.length at_ ⟨none,none,none,none,none,none,none,none⟩) aR=.ok ((List.range' 0 K).map fun (i:Nat)=>PV.int (0 + (i:Int) * 1),none) aR:=by
  have e:ev (CC (d + 4)) (.bin .mod (.call aG (.cons (.v 4) (.cons (.bin .add (.v 5) (.k (.int 7))) .nil))) (.k (.int 40))) (eK Γ aX.length at_ ⟨none,none,none,none,none,none,none,none⟩) aR=.ok (.int (K:Nat)) aR:=by
   rw [<- hK]
   exact ay (cL (x:=.fl (Γ.l.map .int)) (y:=.int ((at_ + 7:Nat):Int)) (σ₁:=aR) (σ₂:=aR) rfl rfl (h12 (d:=d + 3) H.hl)) (y:=.int 40) (σ₂:=aR) rfl (a9 (by decide))
  refine (lG e (by grind)).trans ?_
  unfold aF
  rw [List.range_eq_range']
 have s3:ex (CC (d + 4)) topN fV (eK Γ aX.length at_ w') σ'=.ret (.ref gl) (eK Γ aX.length at_ w') σ':=by rw [<- tz]; exact av rfl
 refine ⟨B',gl,σ',?_,by rw [tz]; exact W2.sim,by rw [tz]; exact W2.apt,?_⟩
 ·have body:=(aa (r:=.cons f7 (.cons fZ (.cons fV .nil))) s0).trans ((aa s1).trans ((aa (a:=fZ) (bL it e2)).trans (aj (r:=.nil) s3)))
  exact (congrArg aM body).trans rfl
 ·have:=W2.sz
  exact ⟨by have:=this.es; (grind),by have:=this.gs; (grind),by have:=this.os; (grind)⟩
end
end Mine
namespace Mine
open PySem
structure oz (Γ:Cx) (r:Nat) (A:List (Str × Int)) (σ:ab):Prop where
 at_:σ[r]?=some (.lst (A.map bh))
 ap:Ap Γ.X r
 t:r ≠ Γ.tk
 g:r ≠ Γ.gl
theorem oz.rest {Γ:Cx} {r:Nat} {A:List (Str × Int)} {σ σ':ab} (h:oz Γ r A σ) (k:kN Γ σ σ'):oz Γ r A σ':=⟨k r _ h.ap h.t h.g h.at_,h.ap,h.t,h.g⟩
theorem oz.more {Γ:Cx} {r:Nat} {A:List (Str × Int)} {σ τ:ab} (h:oz Γ r A σ):oz Γ r A (σ++τ):=⟨bF h.at_,h.ap,h.t,h.g⟩
structure Hs where
 A:List (Str × Int)
 W:List (Str × Int)
 O:List (Str × Int)
structure hJ (Γ:Cx) (r:Nat) (h:Hs) (σ:ab):Prop where
 a:oz Γ r h.A σ
 b:oz Γ (r + 1) h.W σ
 c:oz Γ (r + 2) h.O σ
 l1:h.A.length <= 1000
 l2:h.W.length <= 1000
 l3:h.O.length <= 1000
theorem hJ.rest {Γ:Cx} {r:Nat} {h:Hs} {σ σ':ab} (H:hJ Γ r h σ) (k:kN Γ σ σ'):hJ Γ r h σ':=⟨H.a.rest k,H.b.rest k,H.c.rest k,H.l1,H.l2,H.l3⟩
theorem hJ.more {Γ:Cx} {r:Nat} {h:Hs} {σ τ:ab} (H:hJ Γ r h σ):hJ Γ r h (σ++τ):=⟨H.a.more,H.b.more,H.c.more,H.l1,H.l2,H.l3⟩
noncomputable def cG (h:Hs):PV:=.fl [.fl (h.A.map bh),.fl (h.W.map bh),.fl (h.O.map bh)]
structure V7 where
 one:Option PV
 kept:Option PV
 nm:Option PV
 tn:Option PV
 st:Option PV
 pl:Option PV
 bit:Option PV
noncomputable def RM (Γ:Cx) (r:Nat) (v:V7):aq:=some (.fl (Γ.l.map .int))::some (aA Γ.p)::some (.int (Γ.n:Nat))::some (.inst af Γ.X.i)::some (.ref Γ.tk)::some (.ref Γ.gl)::some (.fl [.ref r,.ref (r + 1),.ref (r + 2)])::v.one::v.kept::v.nm::v.tn::v.st::v.pl::v.bit::List.replicate 10 none
section
variable {Γ:Cx} {B:cm} {σ:ab} {d r:Nat} {h:Hs} {v:V7}
theorem ajK (H:hJ Γ r h σ):ev (CC d) aay (RM Γ r v) σ=(.ok (cG h) σ):=by
 have one_:∀ {q:Nat} {L:List (Str × Int)},σ[q]?=some (.lst (L.map bh))->L.length <= 1000->∀ {ρ:aq},ev (CC d) (.v 1) ρ σ=.ok (.ref q) σ->ev (CC d) (.b1 (.list true) (.v 1)) ρ σ=.ok (.fl (L.map bh)) σ:=fun {q L} e hL {ρ} h=>by
  refine bO h ?_
  show gx (fun xs=>bU true xs σ) (.ref q) σ=_
  rw [gw (show aW σ (.ref q)=some (L.map bh) by unfold aW; dsimp only; rw [e])]
  exact pW (by rw [List.length_map,aZ]; (exact aE (by assumption) (by decide)))
 refine (eU (xs:=[.ref r,.ref (r + 1),.ref (r + 2)]) (fun v=>match v with | .ref q=>if q=r then .fl (h.A.map bh) else if q=r + 1 then .fl (h.W.map bh) else .fl (h.O.map bh) | _=>.none) rfl (show (3:Nat) <= ao by decide) (fun x hx=>?_)).trans ?_
 ·have n1:r + 1 ≠ r:=by grind
  have n2:r + 2 ≠ r:=by grind
  have n3:r + 2 ≠ r + 1:=by grind
  rcases List.mem_cons.mp hx with rfl | hx
  ·dsimp only; rw [if_pos rfl]; exact one_ H.a.at_ H.l1 rfl
  ·rcases List.mem_cons.mp hx with rfl | hx
   ·dsimp only; rw [if_neg n1,if_pos rfl]; exact one_ H.b.at_ H.l2 rfl
   ·rw [List.mem_singleton.mp hx]; dsimp only; rw [if_neg n2,if_neg n3]; exact one_ H.c.at_ H.l3 rfl
 ·have n1:r + 1 ≠ r:=by grind
  have n2:r + 2 ≠ r:=by grind
  have n3:r + 2 ≠ r + 1:=by grind
  rw [List.map_cons,List.map_cons,List.map_cons,List.map_nil]
  dsimp only
  rw [if_pos rfl,if_neg n1,if_pos rfl,if_neg n2,if_neg n3]; rfl
theorem ajA (H:hJ Γ r h σ):bp .ne (.fl [.ref r,.ref (r + 1),.ref (r + 2)]) (cG h) σ=.ok false σ:=by
 have at_:∀ {q:Nat} {L:List (Str × Int)},σ[q]?=some (.lst (L.map bh))->bA 15 σ (.ref q)=some (.list (L.map d9)):=fun {q L} e=>by
  show (match σ[q]? with | some (.lst xs)=>(xs.mapM (bA 14 σ)).map PyData.list | _=>none)=_
  rw [e]
  show ((L.map bh).mapM (bA 14 σ)).map PyData.list=_
  rw [oF (n:=12) L]; rfl
 have fl:∀ {L:List (Str × Int)},bA 15 σ (.fl (L.map bh))=some (.list (L.map d9)):=fun {L}=>by
  show ((L.map bh).mapM (bA 14 σ)).map PyData.list=_
  rw [oF (n:=12) L]; rfl
 have e1:bA 16 σ (.fl [.ref r,.ref (r + 1),.ref (r + 2)])=some (.list [.list (h.A.map d9),.list (h.W.map d9),.list (h.O.map d9)]):=by
  show ([PV.ref r,.ref (r + 1),.ref (r + 2)].mapM (bA 15 σ)).map PyData.list=_
  rw [List.mapM_cons,List.mapM_cons,List.mapM_cons,List.mapM_nil,at_ H.a.at_,at_ H.b.at_,at_ H.c.at_]; rfl
 have e2:bA 16 σ (cG h)=some (.list [.list (h.A.map d9),.list (h.W.map d9),.list (h.O.map d9)]):=by
  show ([PV.fl (h.A.map bh),.fl (h.W.map bh),.fl (h.O.map bh)].mapM (bA 15 σ)).map PyData.list=_
  rw [List.mapM_cons,List.mapM_cons,List.mapM_cons,List.mapM_nil,fl,fl,fl]; rfl
 show ac.ofOpt ((eqv σ (.fl [.ref r,.ref (r + 1),.ref (r + 2)]) (cG h)).map (!·)) σ=_
 unfold eqv
 rw [e1,e2]
 show ac.ofOpt (some (!(PyData.eqv (.list (h.A.map d9)) (.list (h.A.map d9)) && (PyData.eqv (.list (h.W.map d9)) (.list (h.W.map d9)) && (PyData.eqv (.list (h.O.map d9)) (.list (h.O.map d9)) && true))))) σ=_
 rw [wo,wo,wo]; rfl
theorem ac5 {c:Nat} (G:gN Γ) (hc:c < 1000) (S:c9 Γ B σ) (H:hJ Γ r h σ) (hA:h.A=bQ Γ.p Γ.n (bc B.es B.gs)) (ap:yp Γ) (sz:eX B c) :
  ∃ B' nm' tn' st' σ',ex (CC (d + 4)) topN p8 (RM Γ r v) σ=.next (RM Γ r { v with nm:=nm',tn:=tn',st:=st' }) σ'/\c9 Γ B' σ'/\hJ Γ r h σ'/\eX B' (c + 1):=by
 have sl:ev (CC (d + 4)) (.slice (.sub (.v 6) (.k (.int 0))) (.k .none) (.k (.int 1))) (RM Γ r v) σ=.ok (.fl ((h.A.take 1).map bh)) σ:=by
  refine aie (x:=.ref r) (y:=.none) (z:=.int 1) (σ₁:=σ) (σ₂:=σ) (σ₃:=σ) rfl rfl rfl (afC (a:=none) (b:=some 1) rfl rfl ?_)
  show (a8 σ (.ref r)).bind (fun xs=>if xs.length <= ao then some (PV.fl (bI xs none (some 1))) else none)=_
  rw [show a8 σ (.ref r)=some (h.A.map bh) by unfold a8; dsimp only; rw [H.a.at_]]
  show (if (h.A.map bh).length <= ao then some (PV.fl (bI (h.A.map bh) none (some 1))) else none)=_
  rw [if_pos (by rw [List.length_map,aZ]; exact aE H.l1 (by decide))]
  refine congrArg (fun q=>some (PV.fl q)) ?_
  unfold bI
  show ((h.A.map bh).drop 0).take (clipAt (h.A.map bh).length ((1:Nat):Int) - 0)=_
  rw [List.drop_zero,Nat.sub_zero,clipAt_nat]
  cases h.A with
  | nil=>rfl
  | cons x A=>rw [List.map_cons,List.length_cons,Nat.min_eq_left (Nat.succ_le_succ (Nat.zero_le _))]; rfl
 have fin:∀ {o:bT},aV none (dX [9,10]) (fun ρ σ=>ex (CC (d + 4)) topN yf ρ σ) ((h.A.take 1).map bh) (RM Γ r v) σ=o->ex (CC (d + 4)) topN p8 (RM Γ r v) σ=o:=fun {o} hh=>by
  show (evIt (CC (d + 4)) (.slice (.sub (.v 6) (.k (.int 0))) (.k .none) (.k (.int 1))) (RM Γ r v) σ).toS _ _=_
  rw [show evIt (CC (d + 4)) (.slice (.sub (.v 6) (.k (.int 0))) (.k .none) (.k (.int 1))) (RM Γ r v) σ=.ok ((h.A.take 1).map bh,none) σ by
   show (ev (CC (d + 4)) (.slice (.sub (.v 6) (.k (.int 0))) (.k .none) (.k (.int 1))) (RM Γ r v) σ).bind kP=_
   rw [sl]; rfl]
  exact hh
 cases hA2:h.A with
 | nil =>
  rw [hA2] at fin
  exact ⟨B,v.nm,v.tn,v.st,σ,fin bB,S,H,⟨aE sz.es (Nat.mul_le_mul_left 3 (Nat.le_succ _)),Nat.le_succ_of_le sz.gs,Nat.le_succ_of_le sz.os⟩⟩
 | cons k A' =>
  have km:k ∈ bQ Γ.p Γ.n (bc B.es B.gs):=by rw [<- hA,hA2]; exact List.mem_cons_self
  obtain ⟨s,hs,u,hu,hk,hrd⟩:=abI km
  subst hk
  have h1:=sz.es
  have h2:=sz.gs
  obtain ⟨aX,aR,uW,e1,e2,e3,e4,S3,R3⟩:=zE (d:=d) (C:=CC (d + 4)) (N:=topN) (s:=s) (t:=u) (ρ:=RM Γ r { v with nm:=some (.str s.name),tn:=some (.int (u:Nat)) }) (ρ':=RM Γ r { v with nm:=some (.str s.name),tn:=some (.int (u:Nat)),st:=some s.pv }) (st:=v6) (a:=.v 3) (y:=.v 9) (z:=.v 10) (u:=.v 5) (w:=.cons (.v 11) (.cons (.v 4) (.cons (.v 10) (.cons (.v 2) .nil))))
   G S ap hs hu hrd (by grind) (by grind) (fun zz zz=>rfl) (fun zz zz=>rfl) (fun zz=>rfl) (fun zz=>rfl) (fun zz=>rfl) (fun zz=>rfl) (fun σ=>aC (xT (i:=1) (cap:=[none,none,some 9]) G.hp hs rfl rfl (fun zz=>rfl) (fun zz=>rfl))) (fun zz=>rfl)
  rw [hA2] at fin
  refine ⟨B.fire Γ.n s (u:Int),some (.str s.name),some (.int (u:Nat)),some s.pv,uW,fin ?_,S3,H.rest R3,sz.fire (G.hp.steps s hs)⟩
  exact (a5 (ρ₁:=RM Γ r { v with nm:=some (.str s.name),tn:=some (.int (u:Nat)) }) rfl ((aa e1).trans ((aa e2).trans ((aa e3).trans ((aa e4).trans az))))).trans bB
theorem aib {x:Str} (G:gN Γ) (hx:x ∈ bZ Γ.p) (ap:yp Γ):∀ (k a:Nat) (B:cm) (σ:ab) (c:Nat) (tn:Option PV),a + k=Γ.n->c + k < 1000->c9 Γ B σ->eX B c ->
  ∃ B' σ' tn',aV none (bw 10) (fun ρ σ=>ex (CC (d + 4)) topN nW ρ σ) ((List.range' a k).map fun (i:Nat)=>PV.int (0 + (i:Int) * 1)) (RM Γ r { v with tn:=tn,pl:=some (.str x) }) σ=.next (RM Γ r { v with tn:=tn',pl:=some (.str x) }) σ'/\c9 Γ B' σ'/\eX B' (c + k)/\kN Γ σ σ':=by
 intro k
 have hn:=G.hn
 induction k with
 | zero=>intro a B σ c tn _ _ S sz; exact ⟨B,σ,tn,bB,S,sz,fun zz zz zz zz zz h=>h⟩
 | succ k ih =>
  intro a B σ c tn ha hc S sz
  have hbd:bw 10 (PV.int (0 + (a:Int) * 1)) (RM Γ r { v with tn:=tn,pl:=some (.str x) })=some (RM Γ r { v with tn:=some (.int (a:Nat)),pl:=some (.str x) }):=by
   rw [show (0:Int) + (a:Int) * 1=a by grind]; rfl
  have tt:tst (CC (d + 4)) (.cmp (.tup (.cons (.v 12) (.cons (.v 10) .nil))) .notin (.v 4)) (RM Γ r { v with tn:=some (.int (a:Nat)),pl:=some (.str x) }) σ=.ok (ai (x,(a:Int)) B.es).isNone σ:=aU (x:=.tup [.str x,.int (a:Nat)]) (y:=.ref Γ.tk) (σ₁:=σ) (σ₂:=σ) rfl rfl (t6 S.tk)
  have fin:∀ (B1:cm) (aX:ab),ex (CC (d + 4)) topN rQ (RM Γ r { v with tn:=some (.int (a:Nat)),pl:=some (.str x) }) σ=.next (RM Γ r { v with tn:=some (.int (a:Nat)),pl:=some (.str x) }) aX->c9 Γ B1 aX->eX B1 (c + 1)->kN Γ σ aX ->
    ∃ B' σ' tn',aV none (bw 10) (fun ρ σ=>ex (CC (d + 4)) topN nW ρ σ) ((List.range' a (k + 1)).map fun (i:Nat)=>PV.int (0 + (i:Int) * 1)) (RM Γ r { v with tn:=tn,pl:=some (.str x) }) σ=.next (RM Γ r { v with tn:=tn',pl:=some (.str x) }) σ'/\c9 Γ B' σ'/\eX B' (c + (k + 1))/\kN Γ σ σ':=fun B1 aX e1 S1 z1 R1=>by
   obtain ⟨B',σ',tn',e2,S2,z2,R2⟩:=ih (a + 1) B1 aX (c + 1) (some (.int (a:Nat))) (by grind) (by grind) S1 z1
   refine ⟨B',σ',tn',?_,S2,by rw [show c + (k + 1)=c + 1 + k by grind]; exact z2,R1.trans R2⟩
   rw [List.range'_succ,List.map_cons]
   exact (a5 hbd ((aa e1).trans az)).trans e2
  have h1:=sz.es
  cases ha2:ai (x,(a:Int)) B.es with
  | some v =>
   rw [ha2] at tt
   exact fin B σ (ah tt) S ⟨by (exact aE (by assumption) (Nat.le_add_right _ _)),Nat.le_succ_of_le sz.gs,Nat.le_succ_of_le sz.os⟩ fun zz zz zz zz zz h=>h
  | none =>
   rw [ha2] at tt
   obtain ⟨aX,aR,e1,e2,S2,R2⟩:=aby (d:=d) (C:=CC (d + 4)) (N:=topN) (ρ:=RM Γ r { v with tn:=some (.int (a:Nat)),pl:=some (.str x) }) (a:=.v 3) (y:=.v 12) (z:=.v 10) (w:=.v 10) (u:=.v 4) G S ap (x:=x) (t:=a) (v:=(a:Int)) ⟨(pS (j:=0) hx).2,(pS hx).1,by show a < Γ.n; grind,Int.natCast_nonneg a,by show (a:Int) <= 999999; grind⟩ ha2 (by grind) (fun zz zz=>rfl) (fun zz=>rfl) (fun zz=>rfl) (fun zz=>rfl) (fun zz=>rfl) (fun zz=>rfl)
   refine fin _ aR ((aI tt).trans ((aa e1).trans ((aa e2).trans az))) S2 ⟨?_,Nat.le_succ_of_le sz.gs,Nat.le_succ_of_le sz.os⟩ R2
   show (B.es++[_]).length <= _
   rw [List.length_append]
   show B.es.length + 1 <= _
   (grind)
theorem agl {w:Nat} {m:MO} (G:gN Γ) (ap:yp Γ) (aw:Ap Γ.X w) (w1:w ≠ Γ.tk) (w2:w ≠ Γ.gl):∀ (xs:List Str) (B:cm) (σ:ab) (c:Nat) (tn pl:Option PV),(∀ x ∈ xs,x ∈ bZ Γ.p)->c + 6 * xs.length < 900->c9 Γ B σ->eX B c->σ[w]?=some m ->
  ∃ B' σ' tn' pl',aV (some (w,m)) (bw 12) (fun ρ σ=>ex (CC (d + 4)) topN ye ρ σ) (xs.map .str) (RM Γ r { v with tn:=tn,pl:=pl }) σ=.next (RM Γ r { v with tn:=tn',pl:=pl' }) σ'/\c9 Γ B' σ'/\eX B' (c + 6 * xs.length)/\kN Γ σ σ':=by
 intro xs
 have hn:=G.hn
 induction xs with
 | nil=>intro B σ c tn pl _ _ S sz hw; exact ⟨B,σ,tn,pl,lP (w:=some (w,m)) hw,S,sz,fun zz zz zz zz zz h=>h⟩
 | cons x xs ih =>
  intro B σ c tn pl hx hc S sz hw
  rw [List.length_cons] at hc
  obtain ⟨B1,aX,tn1,e1,S1,z1,R1⟩:=aib (d:=d) (r:=r) (v:=v) G (hx x List.mem_cons_self) ap Γ.n 0 B σ c tn (Nat.zero_add Γ.n) (by grind) S sz
  obtain ⟨B',σ',tn',pl',e2,S2,z2,R2⟩:=ih B1 aX (c + Γ.n) tn1 (some (.str x)) (fun y hy=>hx y (bG _ hy)) (by grind) S1 z1 (R1 w m aw w1 w2 hw)
  refine ⟨B',σ',tn',pl',?_,S2,⟨?_,?_,?_⟩,R1.trans R2⟩
  ·refine (j6 (w:=some (w,m)) hw (ρ₁:=RM Γ r { v with tn:=tn,pl:=some (.str x) }) rfl ((aa (a:=vZ) (bL (lG rfl (by (exact aE (by assumption) (by decide)))) ?_)).trans az)).trans e2
   unfold aF
   rw [List.range_eq_range']; exact e1
  ·have:=z2.es; rw [List.length_cons]; (grind)
  ·have:=z2.gs; rw [List.length_cons]; (grind)
  ·have:=z2.os; rw [List.length_cons]; (grind)
theorem ajh (S:c9 Γ B σ) (H:hJ Γ r h σ):∃ one' σ',ex (CC d) topN rS (RM Γ r v) σ=.next (RM Γ r { v with one:=one' }) σ'/\c9 Γ B σ':=by
 have clr:∀ {σ:ab} {q:Nat} {L:List PV},σ[q]?=some (.lst L)->L.length <= 1000->ex (CC d) topN v7 (RM Γ r { v with one:=some (.ref q) }) σ=.next (RM Γ r { v with one:=some (.ref q) }) (σ.set q (.lst [])):=fun {σ q L} e hL=>by
  refine (aa (a:=tD) (bR ?_)).trans az
  rw [aeU,show ev (CC d) (.v 7) (RM Γ r { v with one:=some (.ref q) }) σ=.ok (.ref q) σ from rfl,aB]
  unfold lM
  dsimp only
  rw [e]
  exact if_pos (by rw [aZ]; (exact aE (by assumption) (by decide)))
 have sm:∀ {σ:ab} {q:Nat},c9 Γ B σ->Ap Γ.X q->q ≠ Γ.tk->q ≠ Γ.gl->c9 Γ B (σ.set q (.lst [])):=fun {σ q} S a t g=>⟨S.bo.other a,aO t S.tk,aO g S.gl,S.ok,S.gk⟩
 have b1:(σ.set r (.lst []))[r + 1]?=some (.lst (h.W.map bh)):=aO (by grind) H.b.at_
 have c1:((σ.set r (.lst [])).set (r + 1) (.lst []))[r + 2]?=some (.lst (h.O.map bh)):=aO (by grind) (aO (by grind) H.c.at_)
 refine ⟨_,_,bL (ys:=[.ref r,.ref (r + 1),.ref (r + 2)]) (σ₁:=σ) rfl ((a5 (ρ₁:=RM Γ r { v with one:=some (.ref r) }) rfl (clr H.a.at_ (by rw [List.length_map]; exact H.l1))).trans ((a5 (ρ₁:=RM Γ r { v with one:=some (.ref (r + 1)) }) rfl (clr b1 (by rw [List.length_map]; exact H.l2))).trans ((a5 (ρ₁:=RM Γ r { v with one:=some (.ref (r + 2)) }) rfl (clr c1 (by rw [List.length_map]; exact H.l3))).trans bB))),?_⟩
 exact sm (sm (sm S H.a.ap H.a.t H.a.g) H.b.ap H.b.t H.b.g) H.c.ap H.c.t H.c.g
end
end Mine
namespace Mine
open PySem
theorem cell_ {l:List Int} {σ:ab} {ρ:aq} (hl:l.length <= 63) (k:Nat) (h:ev (CC 19) (.v 0) ρ σ=.ok (.fl (l.map .int)) σ):ev (CC 19) (.call aG (.cons (.v 0) (.cons (.k (.int ((k:Nat):Int))) .nil))) ρ σ=.ok (.int (l.getD k 0)) σ:=cL h (y:=.int ((k:Nat):Int)) (σ₂:=σ) rfl (h12 (d:=18) hl)
noncomputable def R0 (l:List Int) (p:List ae) (a b c e:Option PV):aq:=some (.fl (l.map .int))::some (aA p)::a::b::c::e::List.replicate 18 none
noncomputable def R1 (Γ:Cx):aq:=R0 Γ.l Γ.p (some (.int (Γ.n:Nat))) (some (.inst af Γ.X.i)) (some (.ref Γ.tk)) (some (.ref Γ.gl))
section
variable {Γ:Cx}
theorem zZ {B:cm} {σ:ab} {ρ:aq} {x:Mine.X} {b:Int} (G:gN Γ) (S:c9 Γ B σ) (h:evs (CC 19) (.cons (.v 3) (.cons (.v 1) (.cons (.v 4) (.cons (.v 5) (.cons (.v 2) (.cons x .nil)))))) ρ σ=.ok [.inst af Γ.X.i,aA Γ.p,.ref Γ.tk,.ref Γ.gl,.int (Γ.n:Nat),.int b] σ):∃ τ,ev (CC 19) (.call iO (.cons (.v 3) (.cons (.v 1) (.cons (.v 4) (.cons (.v 5) (.cons (.v 2) (.cons x .nil))))))) ρ σ=.ok (.bool true) (σ++τ):=by
 obtain ⟨τ,e⟩:=aeu (d:=13) (bit:=b) G S
 exact ⟨τ,jH h e⟩
theorem agV {B:cm} {p:List ae} {n:Nat} (g:Gk p n B):B.os=(B.gs.map (·.1)).map bh:=by rw [g.os,List.map_map]; rfl
theorem ajT {B:cm} {σ:ab} (G:gN Γ) (S:c9 Γ B σ) (sz:eX B 40):∃ h σ',h.A=bQ Γ.p Γ.n (bc B.es B.gs)/\ex (CC 19) topN uq (R1 Γ) σ=.next (RM Γ σ.length ⟨none,none,none,none,none,none,none⟩) σ'/\c9 Γ B σ'/\hJ Γ σ.length h σ':=by
 have c6a:=ab0 (d:=16) G.hp G.hpl G.hn S.bo S.ok
 rw [jA] at c6a
 have kl:∀ f,(bQ Γ.p Γ.n f).length <= 1000:=fun f=>aE abJ (aE (Nat.le_of_lt (sJ G.hp G.hn)) (by decide))
 have l1:=kl (bc B.es B.gs)
 have l2:=kl (ef B.es B.gs)
 have Sa:∀ {m:MO},c9 Γ B (σ++[m]):=S.more
 have Sb:∀ {m m':MO},c9 Γ B (σ++[m]++[m']):=Sa.more
 have len1:∀ {m:MO},(σ++[m]).length=σ.length + 1:=fun {m}=>by rw [List.length_append]; rfl
 have w6:∀ {m m':MO},(σ++[m]++[m']).length=σ.length + 2:=fun {m m'}=>by rw [List.length_append,len1]; rfl
 have c6b:=ae6 (d:=14) G.hp G.hpl G.hn (Sa (m:=.lst ((bQ Γ.p Γ.n (bc B.es B.gs)).map bh))).bo S.ok
 rw [jA,len1] at c6b
 have c6c:=aeR (d:=18) (Sb (m:=.lst ((bQ Γ.p Γ.n (bc B.es B.gs)).map bh)) (m':=.lst ((bQ Γ.p Γ.n (ef B.es B.gs)).map bh))).bo (aE sz.os (by decide))
 rw [w6,agV S.gk] at c6c
 have odl:Γ.X.od < σ.length:=(cS S.bo.od).1
 have tkl:Γ.tk < σ.length:=(cS S.tk).1
 have gll:Γ.gl < σ.length:=(cS S.gl).1
 have hd:∀ k {A:List (Str × Int)} {σ':ab},σ'[σ.length + k]?=some (.lst (A.map bh))->oz Γ (σ.length + k) A σ':=fun k {A σ'} e=>⟨e,.gt S.bo.lt (Nat.lt_of_lt_of_le odl (Nat.le_add_right _ _)),Nat.ne_of_gt (Nat.lt_of_lt_of_le tkl (Nat.le_add_right _ _)),Nat.ne_of_gt (Nat.lt_of_lt_of_le gll (Nat.le_add_right _ _))⟩
 generalize bQ Γ.p Γ.n (bc B.es B.gs)=A at c6a c6b c6c l1
 generalize bQ Γ.p Γ.n (ef B.es B.gs)=W at c6b c6c l2
 have l3:(B.gs.map (·.1)).length <= 1000:=by rw [List.length_map]; exact aE sz.gs (by decide)
 generalize B.gs.map (·.1)=O at c6c l3
 refine ⟨⟨A,W,O⟩,_,rfl,aC (ags (vs:=[.ref σ.length,.ref (σ.length + 1),.ref (σ.length + 2)]) (aN (cC (i:=Γ.X.i) (vs:=[]) (σ₁:=σ) (σ₂:=σ) rfl S.bo.ns rfl rfl c6a) (aN (a7 (x:=.inst af Γ.X.i) rfl c6b) (aN (cC (i:=Γ.X.i) (vs:=[]) rfl Sb.bo.ns rfl rfl c6c) b6))) (show (3:Nat) <= ao by decide)),Sb.more,hd 0 (bF (bF c6)),hd 1 (bF (by rw [<- len1]; exact c6)),hd 2 (by rw [<- w6]; exact c6),l1,l2,l3⟩
theorem afH {B:cm} {σ:ab} (G:gN Γ) (S4:c9 Γ B σ) (ap:yp Γ) (sz:eX B 40):∃ ρ' σ',ex (CC 19) topN (.cons ur (.cons uq (.cons un (.cons p8 (.cons um (.cons rU (.cons rT (.cons rS (.cons rR .nil))))))))) (R1 Γ) σ=.ret (.bool true) ρ' σ':=by
 have hl:=G.hl
 obtain ⟨τ5,l5⟩:=zZ (ρ:=R1 Γ) (x:=.bin .fdiv (.call aG (.cons (.v 0) (.cons (.k (.int ((11:Nat):Int))) .nil))) (.k (.int 6))) (b:=Γ.l.getD 11 0 / 6) G S4 (aN (x:=.inst af Γ.X.i) (σ₁:=σ) rfl (aN (x:=aA Γ.p) (σ₁:=σ) rfl (aN (x:=.ref Γ.tk) (σ₁:=σ) rfl (aN (x:=.ref Γ.gl) (σ₁:=σ) rfl (aN (x:=.int (Γ.n:Nat)) (σ₁:=σ) rfl (aN (ay (cell_ hl 11 rfl) (y:=.int 6) (σ₂:=σ) rfl (d0 (by decide) (by decide))) b6))))))
 have e5:ex (CC 19) topN ur (R1 Γ) σ=.next (R1 Γ) (σ++τ5):=(ah (cT (dB l5)))
 obtain ⟨h,σ6,hA,e6,S6,H6⟩:=ajT G S4.more sz
 generalize (σ++τ5).length=r at e6 H6
 have e7:ex (CC 19) topN un (RM Γ r ⟨none,none,none,none,none,none,none⟩) σ6=.next (RM Γ r ⟨none,some (cG h),none,none,none,none,none⟩) σ6:=aC (ajK H6)
 obtain ⟨B8,nm8,tn8,st8,iE,e8,S8,H8,z8⟩:=ac5 (d:=15) (v:=⟨none,some (cG h),none,none,none,none,none⟩) G (by decide) S6 H6 hA ap sz
 have out:=tu (d:=18) (σ:=iE) G.hp
 change aJ PP topN 19 bY [aA Γ.p] iE=.ok (.ref (iE.length + 1)) (iE++[.lst ((Γ.p.flatMap (·.gives)).map .str),.lst ((bZ Γ.p).map .str)]) at out
 have ow:(iE++[MO.lst ((Γ.p.flatMap (·.gives)).map .str),.lst ((bZ Γ.p).map .str)])[iE.length + 1]?=some (.lst ((bZ Γ.p).map .str)):=by rw [List.getElem?_append_right (Nat.le_add_right _ _),Nat.add_sub_cancel_left]; rfl
 have odl8:Γ.X.od < iE.length:=(cS S8.bo.od).1
 have tkl8:Γ.tk < iE.length:=(cS S8.tk).1
 have gll8:Γ.gl < iE.length:=(cS S8.gl).1
 have S8':=S8.more (τ:=[.lst ((Γ.p.flatMap (·.gives)).map .str),.lst ((bZ Γ.p).map .str)])
 have H8':=H8.more (τ:=[.lst ((Γ.p.flatMap (·.gives)).map .str),.lst ((bZ Γ.p).map .str)])
 generalize iE++[MO.lst ((Γ.p.flatMap (·.gives)).map .str),.lst ((bZ Γ.p).map .str)]=τ8 at out ow S8' H8'
 have ol80:=zM G.hp
 obtain ⟨B9,zc,tn9,pl9,e9,S9,z9,R9⟩:=agl (d:=15) (r:=r) (v:=⟨none,some (cG h),nm8,tn8,st8,none,none⟩) G ap (w:=iE.length + 1) (.gt S8.bo.lt (Nat.lt_succ_of_lt odl8)) (Nat.ne_of_gt (Nat.lt_succ_of_lt tkl8)) (Nat.ne_of_gt (Nat.lt_succ_of_lt gll8)) (bZ Γ.p) B8 τ8 41 tn8 none (fun x hx=>hx) (by grind) S8' z8 ow
 have H9:=H8'.rest R9
 have s9:ex (CC 19) topN um (RM Γ r ⟨none,some (cG h),nm8,tn8,st8,none,none⟩) iE=.next (RM Γ r ⟨none,some (cG h),nm8,tn9,st8,pl9,none⟩) zc:=by
  show (evIt (CC 19) (.call bY (.cons (.v 1) .nil)) (RM Γ r ⟨none,some (cG h),nm8,tn8,st8,none,none⟩) iE).toS _ _=_
  have ec:ev (CC 19) (.call bY (.cons (.v 1) .nil)) (RM Γ r ⟨none,some (cG h),nm8,tn8,st8,none,none⟩) iE=.ok (.ref (iE.length + 1)) τ8:=a7 (x:=aA Γ.p) (σ₁:=iE) rfl out
  have it:evIt (CC 19) (.call bY (.cons (.v 1) .nil)) (RM Γ r ⟨none,some (cG h),nm8,tn8,st8,none,none⟩) iE=.ok ((bZ Γ.p).map .str,some (iE.length + 1,.lst ((bZ Γ.p).map .str))) τ8:=by
   show (ev (CC 19) (.call bY (.cons (.v 1) .nil)) (RM Γ r ⟨none,some (cG h),nm8,tn8,st8,none,none⟩) iE).bind kP=_
   rw [ec,aB]
   unfold kP ak ie
   dsimp only
   rw [ow]
  rw [it]; exact e9
 have s10:ex (CC 19) topN rU (RM Γ r ⟨none,some (cG h),nm8,tn9,st8,pl9,none⟩) zc=.next (RM Γ r ⟨none,some (cG h),nm8,tn9,st8,pl9,some (.int (Γ.l.getD 11 0 / 12))⟩) zc:=
  aC (ay (cell_ hl 11 rfl) (y:=.int 12) (σ₂:=zc) rfl (d0 (by decide) (by decide)))
 obtain ⟨afk,l11⟩:=zZ (ρ:=RM Γ r ⟨none,some (cG h),nm8,tn9,st8,pl9,some (.int (Γ.l.getD 11 0 / 12))⟩) (x:=.v 13) (b:=Γ.l.getD 11 0 / 12) G S9 rfl
 have S11:c9 Γ B9 (zc++afk):=S9.more
 have H11:=H9.more (τ:=afk)
 generalize zc++afk=afn at l11 S11 H11
 have s11:ex (CC 19) topN rT (RM Γ r ⟨none,some (cG h),nm8,tn9,st8,pl9,some (.int (Γ.l.getD 11 0 / 12))⟩) zc=.next (RM Γ r ⟨none,some (cG h),nm8,tn9,st8,pl9,some (.int (Γ.l.getD 11 0 / 12))⟩) afn:=
  (ah (iH (fJ (cT (dB l11)) (fK (aU (x:=.fl [.ref r,.ref (r + 1),.ref (r + 2)]) (y:=cG h) (σ₁:=afn) (σ₂:=afn) rfl rfl (ajA H11))))))
 obtain ⟨one12,afm,s12,S12⟩:=ajh (d:=19) (v:=⟨none,some (cG h),nm8,tn9,st8,pl9,some (.int (Γ.l.getD 11 0 / 12))⟩) S11 H11
 obtain ⟨aim,l13⟩:=zZ (ρ:=RM Γ r ⟨one12,some (cG h),nm8,tn9,st8,pl9,some (.int (Γ.l.getD 11 0 / 12))⟩) (x:=.k (.int 1)) (b:=1) G S12 rfl
 have S13:c9 Γ B9 (afm++aim):=S12.more
 generalize afm++aim=wF at l13 S13
 have c13:=aeR (d:=18) S13.bo (by have:=z9.os; (grind))
 have gl13:(wF++[MO.lst B9.os])[Γ.gl]?=some (.lst B9.os):=bF S13.gl
 have nw13:(wF++[MO.lst B9.os])[wF.length]?=some (.lst B9.os):=c6
 rw [agV S13.gk] at c13 gl13 nw13
 have p13:=ru (d:=18) nw13 gl13
 generalize wF++[MO.lst ((B9.gs.map (·.1)).map bh)]=afl at c13 p13
 have s13:ex (CC 19) topN rR (RM Γ r ⟨one12,some (cG h),nm8,tn9,st8,pl9,some (.int (Γ.l.getD 11 0 / 12))⟩) afm=.ret (.bool true) (RM Γ r ⟨one12,some (cG h),nm8,tn9,st8,pl9,some (.int (Γ.l.getD 11 0 / 12))⟩) afl:=
  av (lw (jI l13 (iB (cL (cC (i:=Γ.X.i) (vs:=[]) (σ₁:=wF) (σ₂:=wF) rfl S13.bo.ns rfl rfl c13) (y:=.ref Γ.gl) (σ₂:=afl) rfl p13))))
 exact ⟨_,afl,(aa e5).trans ((aa e6).trans ((aa e7).trans ((aa e8).trans ((aa s9).trans ((aa s10).trans ((aa s11).trans ((aa s12).trans (aj s13))))))))⟩
end
theorem runX {l:List Int} (hl:l.length <= 63):∃ σ,aJ PP topN 20 ajP [.fl (l.map .int)] []=.ok (.bool true) σ:=by
 obtain ⟨p,aX,hp,_,c17⟩:=h17 (d:=16) hl
 have hpl:∀ s ∈ p,kg s:=fun zz zz=>trivial
 have n0:=Int.emod_nonneg (l.getD 11 0) (show (6:Int) ≠ 0 by decide)
 have n1:=Int.emod_lt_of_pos (l.getD 11 0) (show (0:Int) < 6 by decide)
 obtain ⟨n,hnn⟩:=Int.eq_ofNat_of_zero_le (show 0 <= 1 + l.getD 11 0 % 6 by grind)
 have hn1:1 <= n:=by grind
 have hn:n <= 6:=by grind
 obtain ⟨υ,g,o,hr,gn,od,ib,bd,_,_,_,lts,g1,g2⟩:=agh (d:=14) (σ:=aX) hp hn1 (aE hn (by decide))
 rw [a6 (d:=19) (fn:=adb) rfl rfl]
 have e0:ex (CC 19) topN aax (some (.fl (l.map .int))::List.replicate 23 none) []=.next (R0 l p none none none none) aX:=aC (cL (x:=.fl (l.map .int)) (y:=.int 0) (σ₁:=[]) (σ₂:=[]) rfl rfl c17)
 have e1:ex (CC 19) topN aaw (R0 l p none none none none) aX=.next (R0 l p (some (.int (n:Nat))) none none none) aX:=by
  rw [<- hnn]
  exact aC (ay (x:=.int 1) (σ₁:=aX) rfl (ay (cell_ hl 11 rfl) (y:=.int 6) (σ₂:=aX) rfl (a9 (by decide))) add_int)
 have e2:ex (CC 19) topN aav (R0 l p (some (.int (n:Nat))) none none none) aX=.next (R0 l p (some (.int (n:Nat))) (some (.inst af aX.length)) none none) (aX++υ):=by
  refine aC ?_
  have ib':(CC 19).call hW (.inst af aX.length::[aA p,.int n]) (aX++[.ns []])=.ok .none (aX++υ):=ib
  rw [aeT,aN (x:=aA p) (σ₁:=aX) rfl (aN (x:=.int (n:Nat)) (σ₁:=aX) rfl b6),aB]
  unfold pU
  rw [ib']; rfl
 have bo:Bo p n [] [] [] ⟨aX.length,g,o,hr,gn,od⟩ (aX++υ):=⟨bd.ns,bd.gv,bd.ot,bd.hr,g1,g2,⟨lts.1,lts.2.1,lts.2.2.1,lts.2.2.2.1,lts.2.2.2.2⟩⟩
 generalize aX++υ=aR at e2 bo
 generalize hX:(⟨aX.length,g,o,hr,gn,od⟩:Ix)=X at bo
 rw [show aX.length=X.i by rw [<- hX]] at e2
 have odl:X.od < aR.length:=(cS bo.od).1
 have e3:ex (CC 19) topN aau (R0 l p (some (.int (n:Nat))) (some (.inst af X.i)) none none) aR=.next (R0 l p (some (.int (n:Nat))) (some (.inst af X.i)) (some (.ref aR.length)) none) (aR++[.dp []]):=rfl
 have at1:Ap X aR.length:=.gt bo.lt odl
 have b3:Bo p n [] [] [] X (aR++[.dp []]):=bo.more
 have t3:(aR++[MO.dp []])[aR.length]?=some (.dp []):=c6
 generalize aR++[MO.dp []]=uW at e3 b3 t3
 generalize aR.length=tk at e3 at1 t3
 obtain ⟨B,gl,σ4,c4,S4,ap,sz⟩:=acC (d:=14) (at_:=12) hp hpl hl hn1 hn b3 t3 at1
 have G:gN ⟨p,n,X,tk,gl,l⟩:=⟨hp,hpl,hl,hn1,hn⟩
 have e4:ex (CC 19) topN aat (R0 l p (some (.int (n:Nat))) (some (.inst af X.i)) (some (.ref tk)) none) uW=.next (R1 ⟨p,n,X,tk,gl,l⟩) σ4:=aC (jH (vs:=[.inst af X.i,aA p,.ref tk,.int (n:Nat),.fl (l.map .int),.int ((12:Nat):Int)]) rfl c4)
 obtain ⟨ρ',σ',e5⟩:=afH G S4 ap sz
 refine ⟨σ',?_⟩
 have body:ex (CC 19) topN adb.body (some (PV.fl (l.map .int))::List.replicate 23 none) []=.ret (.bool true) ρ' σ':=(aa e0).trans ((aa e1).trans ((aa e2).trans ((aa e3).trans ((aa e4).trans e5))))
 exact (congrArg aM body).trans rfl
end Mine
namespace Mine
open PySem PySem.W PyProof.Rows
set_option tactic.hygienic true
noncomputable abbrev y0 (w:World) (os:OsState):Option Shared:=vE PySem.Challenge.pw_uf020019_05 w os topN
set_option maxRecDepth 1000000 in
set_option maxHeartbeats 80000000 in
theorem ajJ:∀ w os,(y0 w os).map (fun s=>(PySem.W.Fast.tw4187177175401517315 (viewOf PySem.Challenge.pw_uf020019_05) [] (importedModules PySem.Challenge.pw_uf020019_05.main.body) (fun s=>xlAt (viewOf PySem.Challenge.pw_uf020019_05) [] s && recOk (RowW.records (OpenRow.toRowW PySem.Challenge.rw_uf020019_05.row)) s) true s))=some (openGood (viewOf PySem.Challenge.pw_uf020019_05) []):=fun w os=>by kernel_rfl
set_option maxRecDepth 1000000 in
set_option maxHeartbeats 80000000 in
theorem ajI:∀ w os,(y0 w os).map (fun s=>(u8 s.heap (c8 s.heap) TT,wu (c8 s.heap) TT.cst,si (c8 s.heap) TT.bins))=some (true,true,true):=fun w os=>by kernel_rfl
set_option maxRecDepth 1000000 in
set_option maxHeartbeats 80000000 in
theorem ajH:∀ w os,(y0 w os).map (y8 TT (List.take 26))=some (some (PP.fns.take 26)):=fun w os=>by kernel_rfl
set_option maxRecDepth 1000000 in
set_option maxHeartbeats 80000000 in
theorem ajG:∀ w os,(y0 w os).map (y8 TT (List.drop 26))=some (some (PP.fns.drop 26)):=fun w os=>by kernel_rfl
theorem ahy {α β γ δ ε:Type} {o:Option α} {f:α->β} {a:α->γ} {b:α->δ} {c:α->ε} {ζ:Type} {e:α->ζ} {x:β} {y:γ × δ × ε} {z:ζ} (h1:o.map f=some x) (h2:o.map (fun s=>(a s,b s,c s))=some y) (h3:o.map e=some z):o.map (fun s=>(f s,a s,b s,c s,e s))=some (x,y.1,y.2.1,y.2.2,z):=by
 cases o with
 | none=>exact nomatch h1
 | some s =>
  obtain rfl:=oi h1
  obtain rfl:=oi h2
  obtain rfl:=oi h3
  rfl
theorem aiW:∀ w os,(vE PySem.Challenge.pw_uf020019_05 w os topN).map (fun s=>(PySem.W.Fast.tw4187177175401517315 (viewOf PySem.Challenge.pw_uf020019_05) [] (importedModules PySem.Challenge.pw_uf020019_05.main.body) (fun s=>xlAt (viewOf PySem.Challenge.pw_uf020019_05) [] s && recOk (RowW.records (OpenRow.toRowW PySem.Challenge.rw_uf020019_05.row)) s) true s,Hook.obs (topHook TT 40 30 PP.fns) s))=some (openGood (viewOf PySem.Challenge.pw_uf020019_05) [],Hook.val (topHook TT 40 30 PP.fns) w):=fun w os =>
 ahy (ajJ w os) (ajI w os) ((ah9 (ajH w os) (ajG w os)).trans (congrArg (fun l=>some (some l)) (List.take_append_drop 26 PP.fns)))
theorem leftX:LeftO PySem.Challenge.pw_uf020019_05 (viewOf PySem.Challenge.pw_uf020019_05) [] (fun s=>xlAt (viewOf PySem.Challenge.pw_uf020019_05) [] s && recOk (RowW.records (OpenRow.toRowW PySem.Challenge.rw_uf020019_05.row)) s) (Hook.obs (topHook TT 40 30 PP.fns)) (Hook.val (topHook TT 40 30 PP.fns)) topN:=
 ahO (by kernel_rfl) (by rfl) (fun s=>by kernel_rfl) aiW
end Mine
set_option tactic.hygienic true
open PySem PySem.W PyProof.Rows
set_option maxRecDepth 100000 in
set_option maxHeartbeats 8000000 in
theorem PySem.Challenge.cw_uf020019_05_holds : PySem.Challenge.rw_uf020019_05.Holds := by
 w_on
 refine holds_law (by decide +kernel) fun said=>?_
 refine holds_open (q:=Mine.viewOf PySem.Challenge.pw_uf020019_05) (loose:=[]) (Xt:=fun s=>xlAt (Mine.viewOf PySem.Challenge.pw_uf020019_05) [] s && recOk (RowW.records (OpenRow.toRowW PySem.Challenge.rw_uf020019_05.row)) s)
  (XP:=XL (Mine.viewOf PySem.Challenge.pw_uf020019_05) []) (Yf:=Hook.obs (Mine.topHook Mine.TT 40 30 Mine.PP.fns)) (Ya:=Hook.val (Mine.topHook Mine.TT 40 30 Mine.PP.fns)) (YP:=Hook.says (Mine.topHook Mine.TT 40 30 Mine.PP.fns)) (N:=Mine.topN)
  Mine.leftX (Hook.of (Mine.topHook Mine.TT 40 30 Mine.PP.fns)) (Hook.keeps (Mine.topHook Mine.TT 40 30 Mine.PP.fns)) (fun s e=>xl_of s (Bool.and_eq_true_iff.mp e).1) XL.keeps (by rfl) (by rfl) (by rfl) (fun s e=>recFacts_of (Bool.and_eq_true_iff.mp e).2)
  (by rfl) (by first | assumption | decide +kernel) (by decide +kernel) ⟨rfl,rfl,rfl,rfl,rfl,by decide +kernel⟩ ?hw ?hc
 (case hw=>w_witness2)
 intro w iI s₁ mg mb G Y fa o pm cd doc dV kV ho hd hcd hD hmg hg args vals as hpre hlay hrd hwl hlo
 obtain ⟨K,cF,KX,aiZ,k0,k1,k2,k3⟩:=Mine.Says.ex Y
 refine Ground.open G ?_
 intro T B D TE TW
 clear hd hcd hD ho TE TW D B Y
 have hmg':mg (PySem.Str.ofString "law")=some (.ref fa):=hmg
 clear hmg
 wrow_args hpre hlay hrd hwl hlo
 rename_i xs q1 q2 q3 q4 q5 q6 q7 a q8 q9 q10 q11 W q12 q13 q14 hc q15
 obtain ⟨σ,hrun⟩:=Mine.runX (l:=xs) (by omega)
 have p:Mine.PrgOk ⟨⟨s₁.heap,[],PySem.Challenge.rw_uf020019_05.row.prog,w⟩,mg,mb,Mine.TT.repl,false⟩ Mine.TT Mine.PP:=
  Mine.prgOk (n1:=40) (n2:=30) (topRead_of T) KX aiZ k0 k1 k2 k3 fun q=>q
 refine Mine.law_end p (f:=34) rfl hmg' (by decide) rfl W hrun fun s' hk ho hg'=>?_
 refine GoodW.toG ⟨.inl ⟨_,_,[],rfl,fun cls=>rfl,.bool true,?_,fun _=>⟨List.nodup_nil,fun a h=>by simp at h⟩⟩,hk,ho,hg'.trans hg⟩
 first | rfl | wrow_post
