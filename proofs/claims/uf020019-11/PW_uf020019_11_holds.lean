import PyProof.Rows.All
import Wide.All
import OpenK.AllK
import PySem.Challenge.RW_uf020019_11
set_option autoImplicit false
set_option linter.all false
set_option Elab.async false
set_option genInjectivity false
set_option genSizeOf false
set_option bootstrap.genMatcherCode false
set_option tactic.hygienic false
namespace Mine
theorem oi {α:Type _} {a b:α} (h:some a=some b):a=b:=Option.some.inj h
theorem aC {n m k:Nat} (h:n <= m) (h2:m <= k):n <= k:=Nat.le_trans h h2
theorem bJ {α:Type _} {a:α} (y:α) {l:List α} (h:a ∈ l):a ∈ y::l:=List.mem_cons_of_mem y h
theorem bY {x y:Bool} (h:(x && y)=true):x=true/\y=true:=Bool.and_eq_true_iff.mp h
theorem eY {α:Type _} {l:List α} {i:Nat} {a:α} (h:l[i]?=some a):∃ h:i < l.length,l[i]=a:=List.getElem?_eq_some_iff.mp h
open PySem Classical
inductive PV where
 | none | bool (b:Bool) | int (i:Int) | str (s:Str)
 | tup (xs:List PV) | fl (xs:List PV) | ref (i:Nat)
 | exc (c:Nat)
 | inst (c i:Nat)
inductive MO where
 | lst (xs:List PV)
 | ds (es:List (Str × PV))
 | dp (es:List ((Str × Int) × PV))
 | ns (fs:List (Str × PV))
 | tp
 | no
noncomputable abbrev ac:=List MO
noncomputable abbrev aq:=List (Option PV)
inductive af (α:Type) where
 | ok (a:α) (σ:ac)
 | exc (i:Nat) (σ:ac)
 | stuck
noncomputable def af.bind {α β:Type}:af α->(α->ac->af β)->af β
 | .ok a σ,f=>f a σ
 | .exc i σ,_=>.exc i σ
 | .stuck,_=>.stuck
noncomputable def af.ofOpt {α:Type}:Option α->ac->af α
 | some a,σ=>.ok a σ
 | none,_=>.stuck
inductive Op where | add | sub | mul | mod | fdiv | pow
inductive Cm where | eq | ne | lt | le | gt | ge | is | isNot | isin | notin
inductive Ty where | int | str | bool | tuple
inductive B1 where | len | list (fz:Bool) | tuple | all | int | str | lenset
 | sum
 | min | max
 | dict
inductive Me where | append | extend
 | get
inductive X where
 | nil | cons (a r:X)
 | k (v:PV)
 | v (i:Nat)
 | and (xs:X) | or (xs:X) | not (a:X) | neg (a:X)
 | bin (o:Op) (a b:X)
 | cmp (a:X) (o:Cm) (b:X)
 | cmp2 (a:X) (o:Cm) (b:X) (o2:Cm) (c:X)
 | lst (fz:Bool) (xs:X)
 | tup (xs:X)
 | comp (fz:Bool) (t:Nat) (cap:List (Option Nat)) (elt:X) (cond:X) (it:X)
 | range1 (a:X)
 | call (f:Nat) (args:X)
 | b1 (b:B1) (a:X)
 | min2 (a b:X)
 | isinst (a:X) (t:Ty)
 | isexc (a:X) (sup dom:List Nat)
 | me (m:Me) (o:X) (args:X)
 | sub (o i:X)
 | slice (o lo hi:X)
 | range3 (xs:X)
 | zip (xs:X)
 | dnew (pk:Bool)
 | attr (c:Nat) (o:X) (n:Str)
 | meth (c f:Nat) (n:Str) (o args:X)
 | new (c f:Nat) (args:X)
noncomputable def au:Nat:=1000000
noncomputable def be (σ:ac):PV->Option (List PV)
 | .fl xs=>some xs
 | .ref i=>match σ[i]? with
  | some (.lst xs)=>some xs
  | _=>none
 | _=>none
noncomputable def aZ (σ:ac):PV->Option (List PV)
 | .fl xs=>some xs
 | .tup xs=>some xs
 | .ref i=>match σ[i]? with
  | some (.lst xs)=>some xs
  | _=>none
 | _=>none
noncomputable def tK (s:Str):List PV:=s.cps.toList.map fun n=>.str ⟨#[n]⟩
noncomputable def am (σ:ac):PV->Option (List PV)
 | .str s=>some (tK s)
 | .fl xs=>some xs
 | .tup xs=>some xs
 | .ref i=>match σ[i]? with
  | some (.lst xs)=>some xs
  | _=>none
 | _=>none
noncomputable def toD:Nat->ac->PV->Option PyData
 | 0,_,_=>none
 | n + 1,σ,.tup xs=>(xs.mapM (toD n σ)).map .tuple
 | n + 1,σ,.fl xs=>(xs.mapM (toD n σ)).map .list
 | n + 1,σ,.ref i=>match σ[i]? with
  | some (.lst xs)=>(xs.mapM (toD n σ)).map .list
  | _=>none
 | _ + 1,_,.none=>some .none
 | _ + 1,_,.bool b=>some (.bool b)
 | _ + 1,_,.int i=>some (.int i)
 | _ + 1,_,.str s=>some (.str s)
 | _ + 1,_,.exc _=>none
 | _ + 1,_,.inst _ _=>none
noncomputable def eqv (σ:ac) (a b:PV):Option Bool:=
 match toD 16 σ a,toD 16 σ b with
 | some x,some y=>some (PyData.eqv x y)
 | _,_=>none
noncomputable def jB (σ:ac) (x:PV) (xs:List PV):Option Bool:=
 match toD 16 σ x,xs.mapM (toD 16 σ) with
 | some d,some ds=>some (ds.any fun y=>PyData.eqv y d)
 | _,_=>none
noncomputable def ah {κ:Type} [DecidableEq κ] (k:κ) (es:List (κ × PV)):Option PV:=(es.find? fun e=>decide (e.1=k)).map (·.2)
noncomputable def bQ {κ:Type} [DecidableEq κ] (k:κ) (v:PV) (es:List (κ × PV)):List (κ × PV):=
 if (es.any fun e=>decide (e.1=k)) then es.map (fun e=>if e.1=k then (e.1,v) else e) else es++[(k,v)]
noncomputable def dZ:PV->Option (Str × Int)
 | .tup [.str x,.int i]=>some (x,i)
 | _=>none
noncomputable def cC (i:Int) (n:Nat):Option Nat:=
 if 0 <= i then (if i.toNat < n then some i.toNat else none)
 else if 0 <= i + n then some (i + n).toNat else none
end Mine
namespace Mine
open PySem
noncomputable def dl (o:Obj):Prop:=∃ es n,o.data=.dict es n
noncomputable def j1 (o:Obj):Prop:=(∃ xs n,o.data=.seq xs n)\/(∃ C vs,o.cls=.ref C/\o.data=.fields vs)\/∃ C,o.cls=.ref C/\o.data=.plain
theorem j1.seq {c:Value} {d:Option Addr} {xs:Array Value} {n:Nat} {sl:Array (Option Value)}:j1 { cls:=c,dict:=d,data:=.seq xs n,slots:=sl }:=.inl ⟨xs,n,rfl⟩
theorem dl.notSolid {o:Obj} (d:dl o):¬ j1 o:=by
 obtain ⟨es,n,d⟩:=d
 rintro (⟨xs,m,e⟩ | ⟨C,vs,_,e⟩ | ⟨C,_,e⟩) <;> rw [d] at e <;> contradiction
noncomputable def fL (fr:List Addr) (h':Heap) (b:Addr) (o:Obj):Prop:=h'.get? b=some o\/(b ∈ fr/\dl o/\∃ sl,h'.get? b=some { o with slots:=sl })
theorem fL.trans {fr:List Addr} {h' h'':Heap} {b:Addr} {o:Obj} (x:fL fr h' b o) (y:∀ o',h'.get? b=some o'->fL fr h'' b o'):fL fr h'' b o:=by
 rcases x with x | ⟨f,d,sl,x⟩
 ·rcases y o x with y | ⟨f,d,sl,y⟩
  ·exact .inl y
  ·exact .inr ⟨f,d,sl,y⟩
 ·rcases y _ x with y | ⟨_,_,sl',y⟩
  ·exact .inr ⟨f,d,sl,y⟩
  ·exact .inr ⟨f,d,sl',y⟩
theorem fL.ns {fr:List Addr} {h h':Heap} {b:Addr} {o:Obj} {m:Str->Option Value} (n:h.Ns b m) (e:h.get? b=some o) (x:fL fr h' b o):h'.Ns b m:=by
 obtain ⟨o',es,ep,e',r⟩:=n
 rw [e] at e'; obtain rfl:=oi e'
 rcases x with x | ⟨_,d,sl,x⟩
 ·exact ⟨o,es,ep,x,r⟩
 ·exact ⟨_,es,ep,x,r⟩
theorem fL.same {fr:List Addr} {h':Heap} {b:Addr} {o:Obj} (x:fL fr h' b o) (n:¬ dl o):h'.get? b=some o:=by
 rcases x with x | ⟨_,d,_⟩
 ·exact x
 ·exact absurd d n
theorem fL.not {fr:List Addr} {h':Heap} {b:Addr} {o:Obj} (x:fL fr h' b o) (n:b ∉ fr):h'.get? b=some o:=by
 rcases x with x | ⟨f,_⟩
 ·exact x
 ·exact absurd f n
structure AL where
 ix:List Addr
 hid:List Addr
 fr:List Addr
noncomputable def AL.all (α:AL):List Addr:=α.ix++α.hid
inductive VR (h:Heap) (α:AL):PV->Value->Prop where
 | none:VR h α .none .none
 | bool (b:Bool):VR h α (.bool b) (.bool b)
 | int (i:Int) (t:Tok):VR h α (.int i) (.int i t)
 | str (s:Str) (t:Tok):PyData.strOk s=true->VR h α (.str s) (.str s t)
 | tup {xs:List PV} {a:Addr} {am:Array Value} {n:Nat}:h.get? a=some { cls:=.type "tuple",data:=.seq am n }->a ∉ α.all->xs.length=am.size ->
   (∀ (i:Nat) (x:PV) (v:Value),xs[i]?=some x->am[i]?=some v->VR h α x v)->VR h α (.tup xs) (.ref a)
 | fl {xs:List PV} {a:Addr} {am:Array Value} {n:Nat}:h.get? a=some { cls:=.type "list",data:=.seq am n }->a ∉ α.all->xs.length=am.size ->
   (∀ (i:Nat) (x:PV) (v:Value),xs[i]?=some x->am[i]?=some v->VR h α x v)->VR h α (.fl xs) (.ref a)
 | ref {i:Nat} {a:Addr}:α.ix[i]?=some a->VR h α (.ref i) (.ref a)
 | exc {c:Nat} {a:Addr} {o:Obj} {vs:Array Value}:h.get? a=some o->o.cls=.ref c->o.data=.fields vs->a ∉ α.all->VR h α (.exc c) (.ref a)
 | inst {c i:Nat} {a D:Addr}:h.get? a=some { cls:=.ref c,dict:=some D,data:=.plain }->a ∉ α.all->α.ix[i]?=some D->VR h α (.inst c i) (.ref a)
structure aD (F:List Addr) (α:AL) (h:Heap) (α':AL) (h':Heap):Prop where
 hid:α'.hid=α.hid
 pre:∃ β,α'.ix=α.ix++β/\∀ x ∈ β,h.get? x=none/\x ∉ F
 seqs:∀ b o,b ∉ α.ix->h.get? b=some o->j1 o->h'.get? b=some o
 rest:∀ b o,b ∉ α.ix->b ∉ F->h.get? b=some o->fL α.fr h' b o
 alive:∀ b o,b ∉ F->h.get? b=some o->∃ o',h'.get? b=some o'
 fre:α'.fr=α.fr
theorem aD.refl {F α h}:aD F α h α h:=
 ⟨rfl,⟨[],by simp,fun zz hx=>by simp at hx⟩,fun zz zz zz e zz=>e,fun zz zz zz zz e=>.inl e,fun zz o zz e=>⟨o,e⟩,rfl⟩
theorem aD.keeps {F α h h'} (k:∀ b o,h.get? b=some o->h'.get? b=some o):aD F α h α h':=
 ⟨rfl,⟨[],by simp,fun zz hx=>by simp at hx⟩,fun b o zz e zz=>k b o e,fun b o zz zz e=>.inl (k b o e),fun b o zz e=>⟨o,k b o e⟩,rfl⟩
theorem aD.notMem {F α h α' h'} (x:aD F α h α' h') {b:Addr} {o:Obj} (hb:b ∉ α.ix) (e:h.get? b=some o):b ∉ α'.ix:=by
 obtain ⟨β,q,hf⟩:=x.pre
 rw [q]
 intro hm
 rcases List.mem_append.mp hm with q | q
 ·exact hb q
 ·rw [(hf b q).1] at e; contradiction
theorem AL.not_ix {α:AL} {b:Addr} (h:b ∉ α.all):b ∉ α.ix:=fun q=>h (List.mem_append_left _ q)
theorem aD.notAll {F α h α' h'} (x:aD F α h α' h') {b:Addr} {o:Obj} (hb:b ∉ α.all) (e:h.get? b=some o):b ∉ α'.all:=by
 intro hm
 rcases List.mem_append.mp hm with q | q
 ·exact x.notMem (AL.not_ix hb) e q
 ·rw [x.hid] at q; exact hb (List.mem_append_right _ q)
theorem aD.mono {F F' α h α' h'} (x:aD F α h α' h') (hF:∀ b ∈ F,b ∈ F') (al:∀ b ∈ F',∃ o,h.get? b=some o):aD F' α h α' h':=by
 obtain ⟨β,e,hf⟩:=x.pre
 exact ⟨x.hid,⟨β,e,fun y hy=>⟨(hf y hy).1,fun q=>by obtain ⟨o,ho⟩:=al y q; rw [(hf y hy).1] at ho; cases ho⟩⟩,x.seqs,fun b o hb hbF e=>x.rest b o hb (fun q=>hbF (hF b q)) e,
  fun b o hb e=>x.alive b o (fun q=>hb (hF b q)) e,x.fre⟩
theorem aD.trans {F α h α' h' iw h''} (x:aD F α h α' h') (y:aD F α' h' iw h''):aD F α h iw h'':=by
 obtain ⟨β,q1,hf⟩:=x.pre
 obtain ⟨γ,q2,hg⟩:=y.pre
 refine ⟨y.hid.trans x.hid,⟨β++γ,by rw [q2,q1,List.append_assoc],fun a ha=>?_⟩,fun b o hb e hs=>?_,fun b o hb hF e=>?_,fun b o hb e=>?_,y.fre.trans x.fre⟩
 ·rcases List.mem_append.mp ha with q | q
  ·exact hf a q
  ·refine ⟨?_,(hg a q).2⟩
   cases hq:h.get? a with
   | none=>rfl
   | some o =>
    obtain ⟨o',ho'⟩:=x.alive a o (hg a q).2 hq
    rw [(hg a q).1] at ho'; contradiction
 ·exact y.seqs b o (x.notMem hb e) (x.seqs b o hb e hs) hs
 ·exact (x.rest b o hb hF e).trans fun o' e'=>x.fre ▸ y.rest b o' (x.notMem hb e) hF e'
 ·obtain ⟨o',e'⟩:=x.alive b o hb e
  exact y.alive b o' hb e'
theorem aD.drop {F own α h α' h' iw h''} (x:aD [] α h α' h') (hown:∀ b ∈ own,h.get? b=none) (al:∀ b ∈ F,∃ o,h.get? b=some o) (y:aD (own++F) α' h' iw h''):aD F α h iw h'':=by
 obtain ⟨β,q1,hf⟩:=x.pre
 obtain ⟨γ,q2,hg⟩:=y.pre
 have no:∀ b o,h.get? b=some o->b ∉ own:=fun b o e q=>by rw [hown b q] at e; contradiction
 refine ⟨y.hid.trans x.hid,⟨β++γ,by rw [q2,q1,List.append_assoc],fun a ha=>?_⟩,fun b o hb e hs=>?_,fun b o hb hF e=>?_,fun b o hb e=>?_,y.fre.trans x.fre⟩
 ·rcases List.mem_append.mp ha with q | q
  ·refine ⟨(hf a q).1,fun qF=>?_⟩
   obtain ⟨o,ho⟩:=al a qF
   rw [(hf a q).1] at ho; contradiction
  ·refine ⟨?_,fun qF=>(hg a q).2 (List.mem_append_right _ qF)⟩
   cases hq:h.get? a with
   | none=>rfl
   | some o =>
    obtain ⟨o',ho'⟩:=x.alive a o (by simp) hq
    rw [(hg a q).1] at ho'; contradiction
 ·exact y.seqs b o (x.notMem hb e) (x.seqs b o hb e hs) hs
 ·exact (x.rest b o hb (by simp) e).trans fun o' e'=>x.fre ▸ y.rest b o' (x.notMem hb e) (fun q=>by
   rcases List.mem_append.mp q with q | q
   ·exact no b o e q
   ·exact hF q) e'
 ·obtain ⟨o',e'⟩:=x.alive b o (by simp) e
  exact y.alive b o' (fun q=>by
   rcases List.mem_append.mp q with q | q
   ·exact no b o e q
   ·exact hb q) e'
theorem aD.get {F α h α' h'} (x:aD F α h α' h') {i:Nat} {a:Addr} (e:α.ix[i]?=some a):α'.ix[i]?=some a:=by
 obtain ⟨β,q,_⟩:=x.pre
 rw [q,List.getElem?_append_left (eY e).1]; exact e
section
variable {h:Heap} {α:AL} {v:Value}
theorem VR.noneE (r:VR h α .none v):v=.none:=by cases r; rfl
theorem VR.boolE {b:Bool} (r:VR h α (.bool b) v):v=.bool b:=by cases r; rfl
theorem VR.intE {i:Int} (r:VR h α (.int i) v):∃ t,v=.int i t:=by cases r; exact ⟨_,rfl⟩
theorem VR.strE {x:Str} (r:VR h α (.str x) v):∃ t,v=.str x t/\PyData.strOk x=true:=by
 cases r with
 | str _ t h=>exact ⟨_,rfl,h⟩
theorem VR.refE {i:Nat} (r:VR h α (.ref i) v):∃ a,v=.ref a/\α.ix[i]?=some a:=by
 cases r with
 | ref e=>exact ⟨_,rfl,e⟩
end
theorem VR.ext {F α h α' h'} (x:aD F α h α' h') {p:PV} {v:Value} (r:VR h α p v):VR h' α' p v:=by
 induction r with
 | none=>exact .none
 | bool b=>exact .bool b
 | int i t=>exact .int i t
 | str s t hs=>exact .str s t hs
 | tup e hn hl _ ih=>exact .tup (x.seqs _ _ (AL.not_ix hn) e .seq) (x.notAll hn e) hl ih
 | fl e hn hl _ ih=>exact .fl (x.seqs _ _ (AL.not_ix hn) e .seq) (x.notAll hn e) hl ih
 | ref e=>exact .ref (x.get e)
 | exc e hc hd hn=>exact .exc (x.seqs _ _ (AL.not_ix hn) e (.inr (.inl ⟨_,_,hc,hd⟩))) hc hd (x.notAll hn e)
 | inst e hn hi=>exact .inst (x.seqs _ _ (AL.not_ix hn) e (.inr (.inr ⟨_,rfl,rfl⟩))) (x.notAll hn e) (x.get hi)
noncomputable def aO (h:Heap) (α:AL) (xs:List PV) (vs:List Value):Prop:=
 xs.length=vs.length/\∀ (i:Nat) (x:PV) (v:Value),xs[i]?=some x->vs[i]?=some v->VR h α x v
theorem aO.nil {h α}:aO h α [] []:=⟨rfl,fun zz zz zz e=>by simp at e⟩
theorem aO.cons {h α x xs v vs} (a:VR h α x v) (b:aO h α xs vs):aO h α (x::xs) (v::vs):=by
 refine ⟨by simp [b.1],fun i y w e1 e2=>?_⟩
 cases i with
 | zero=>simp at e1 e2; subst e1 e2; exact a
 | succ i=>simp at e1 e2; exact b.2 i y w e1 e2
theorem aO.ext {F α h α' h'} (x:aD F α h α' h') {p:List PV} {v:List Value} (r:aO h α p v):aO h' α' p v:=
 ⟨r.1,fun i a b e1 e2=>(r.2 i a b e1 e2).ext x⟩
theorem aO.inv_cons {h α x xs vs} (r:aO h α (x::xs) vs):∃ v vs',vs=v::vs'/\VR h α x v/\aO h α xs vs':=by
 cases vs with
 | nil=>simp [aO] at r
 | cons v vs'=>exact ⟨v,vs',rfl,r.2 0 x v (by simp) (by simp),by have:=r.1; simp at this; exact this,fun i a b e1 e2=>r.2 (i + 1) a b (by simpa using e1) (by simpa using e2)⟩
theorem aO.append {h α xs vs ys ws} (a:aO h α xs vs) (b:aO h α ys ws):aO h α (xs++ys) (vs++ws):=by
 refine ⟨by simp [a.1,b.1],fun i y w e1 e2=>?_⟩
 by_cases hi:i < xs.length
 ·rw [List.getElem?_append_left hi] at e1
  rw [List.getElem?_append_left (by rw [<- a.1]; exact hi)] at e2
  exact a.2 i y w e1 e2
 ·rw [List.getElem?_append_right (by omega)] at e1
  rw [List.getElem?_append_right (by rw [<- a.1]; omega),<- a.1] at e2
  exact b.2 _ y w e1 e2
theorem VR.tupI {h:Heap} {α:AL} {xs:List PV} {a:Addr} {am:List Value} {n:Nat} (e:h.get? a=some { cls:=.type "tuple",data:=.seq am.toArray n }) (hn:a ∉ α.all) (r:aO h α xs am):VR h α (.tup xs) (.ref a):=
 .tup e hn (by simpa using r.1) fun i x v e1 e2=>r.2 i x v e1 (by simpa using e2)
theorem VR.flI {h:Heap} {α:AL} {xs:List PV} {a:Addr} {am:List Value} {n:Nat} (e:h.get? a=some { cls:=.type "list",data:=.seq am.toArray n }) (hn:a ∉ α.all) (r:aO h α xs am):VR h α (.fl xs) (.ref a):=
 .fl e hn (by simpa using r.1) fun i x v e1 e2=>r.2 i x v e1 (by simpa using e2)
inductive SeqAt (T:String) (h:Heap) (α:AL) (xs:List PV) (v:Value):Prop
 | mk (a:Addr) (am:List Value) (n:Nat) (e:v=.ref a) (ht:h.get? a=some { cls:=.type T,data:=.seq (List.toArray am) n }) (hn:a ∉ α.all) (vs:aO h α xs am):SeqAt T h α xs v
theorem VR.tupE {h:Heap} {α:AL} {xs:List PV} {v:Value} (r:VR h α (.tup xs) v):SeqAt "tuple" h α xs v:=by
 cases r with
 | tup e hn hl hr=>exact ⟨_,_,_,rfl,by simpa using e,hn,by simpa using hl,fun i x v e1 e2=>hr i x v e1 (by simpa using e2)⟩
theorem VR.flE {h:Heap} {α:AL} {xs:List PV} {v:Value} (r:VR h α (.fl xs) v):SeqAt "list" h α xs v:=by
 cases r with
 | fl e hn hl hr=>exact ⟨_,_,_,rfl,by simpa using e,hn,by simpa using hl,fun i x v e1 e2=>hr i x v e1 (by simpa using e2)⟩
end Mine
namespace Mine
open PySem Classical
structure aV where
 calls:Nat->Nat->List PV->ac->af PV
 md:Nat
noncomputable abbrev aV.call (C:aV):Nat->List PV->ac->af PV:=C.calls C.md
noncomputable def aV.hd (C:aV):Bool:=C.md != 0
noncomputable def aV.rz (C:aV):Bool:=Nat.ble C.md 1
noncomputable def aV.inH (C:aV):aV:=⟨C.calls,C.md + 1⟩
noncomputable def dg (w:Option (Nat × MO)) (σ:ac):Prop:=
 match w with
 | none=>True
 | some (i,m)=>σ[i]?=some m
noncomputable def agC:Option PV->List PV->List PV
 | some v,ys=>v::ys
 | none,ys=>ys
noncomputable def b9 (w:Option (Nat × MO)) (f:PV->ac->af (Option PV)):List PV->ac->af (List PV)
 | [],σ=>if dg w σ then .ok [] σ else .stuck
 | x::xs,σ=>if dg w σ then (f x σ).bind fun y σ=>(b9 w f xs σ).bind fun ys σ=>.ok (agC y ys) σ else .stuck
noncomputable def fH (n:Nat) (c:af (List PV)) (f:List PV->ac->af PV):af PV:=
 match c with
 | .ok ys σ=>f ys σ
 | _=>.stuck
noncomputable def aaC (σ:ac):PV->Option (Nat × MO)
 | .ref i=>match σ[i]? with
  | some (.lst xs)=>some (i,.lst xs)
  | _=>none
 | _=>none
noncomputable def cg (fz:Bool) (xs:List PV) (σ:ac):af PV:=
 if xs.length <= au then (if fz then .ok (.fl xs) σ else .ok (.ref σ.length) (σ++[.lst xs])) else .stuck
noncomputable def aL (a c:Int) (n:Nat):List PV:=(List.range n).map fun (i:Nat)=>.int (a + (i:Int) * c)
noncomputable def qX (a b:Int):Bool:=decide (a.natAbs < 2 ^ 60\/b.natAbs < 2 ^ 60)
noncomputable def uT (f:Int->Int->af PV) (a b:PV):af PV:=
 match a with
 | .int x=>match b with
  | .int y=>f x y
  | _=>.stuck
 | _=>.stuck
noncomputable def zK (a b:PV) (σ:ac):af PV:=
 match a with
 | .int x=>match b with
  | .int y=>.ok (.int (x + y)) σ
  | _=>.stuck
 | .str x=>match b with
  | .str y=>if x.length + y.length <= au then .ok (.str (x++y)) σ else .stuck
  | _=>.stuck
 | .tup x=>match b with
  | .tup y=>if x.length + y.length <= au then .ok (.tup (x++y)) σ else .stuck
  | _=>.stuck
 | a=>match be σ a with
  | some x=>match be σ b with
   | some y=>if x.length + y.length <= au then .ok (.fl (x++y)) σ else .stuck
   | none=>.stuck
  | none=>.stuck
noncomputable def aiD (a b:PV) (σ:ac):af PV:=
 match b with
 | .int y=>match a with
  | .int x=>if qX x y then .ok (.int (x * y)) σ else .stuck
  | .str x=>if x.length <= 100/\0 <= y/\y <= 100 then .ok (.str (Txt.mul x y)) σ else .stuck
  | .fl xs=>if xs.length <= 100/\0 <= y/\y <= 100 then .ok (.fl (List.replicate y.toNat xs).flatten) σ else .stuck
  | _=>.stuck
 | _=>.stuck
noncomputable def fI (o:Op) (a b:PV) (σ:ac):af PV:=
 match o with
 | .add=>zK a b σ
 | .sub=>uT (fun x y=>.ok (.int (x - y)) σ) a b
 | .mul=>aiD a b σ
 | .mod=>uT (fun x y=>if y=0 then .stuck else .ok (.int (x.fmod y)) σ) a b
 | .fdiv=>uT (fun x y=>if y ≠ 0/\y.natAbs < 1073741824 then .ok (.int (x.fdiv y)) σ else .stuck) a b
 | .pow=>uT (fun x n=>if 0 <= n/\n <= 100/\x=10 then .ok (.int (x ^ n.toNat)) σ else .stuck) a b
noncomputable def yC (f:Int->Int->Bool) (a b:PV) (σ:ac):af Bool:=
 match a with
 | .int x=>match b with
  | .int y=>.ok (f x y) σ
  | _=>.stuck
 | _=>.stuck
noncomputable def bW:PV->Bool
 | .none=>true
 | _=>false
noncomputable def isv (f:Bool->Bool) (a b:PV) (σ:ac):af Bool:=
 match b with
 | .none=>.ok (f (bW a)) σ
 | .bool y=>match a with
  | .bool x=>.ok (f (decide (x=y))) σ
  | _=>.stuck
 | _=>.stuck
noncomputable def bS (a b:PV) (σ:ac):Option Bool:=
 match b with
 | .str y=>match a with
  | .str x=>match x.cps.toList with
   | [c]=>some (y.cps.toList.contains c)
   | _=>none
  | _=>none
 | .tup xs=>jB σ a xs
 | .fl xs=>jB σ a xs
 | .ref r=>match σ[r]? with
  | some (.lst xs)=>jB σ a xs
  | some (.ds es)=>match a with
   | .str k=>some (ah k es).isSome
   | _=>none
  | some (.dp es)=>(dZ a).map fun k=>(ah k es).isSome
  | _=>none
 | _=>none
noncomputable def br (o:Cm) (a b:PV) (σ:ac):af Bool:=
 match o with
 | .eq=>af.ofOpt (eqv σ a b) σ
 | .ne=>af.ofOpt ((eqv σ a b).map (!·)) σ
 | .lt=>yC (fun x y=>decide (x < y)) a b σ
 | .le=>yC (fun x y=>decide (x <= y)) a b σ
 | .gt=>yC (fun x y=>decide (x > y)) a b σ
 | .ge=>yC (fun x y=>decide (x >= y)) a b σ
 | .is=>isv id a b σ
 | .isNot=>isv (!·) a b σ
 | .isin=>af.ofOpt (bS a b σ) σ
 | .notin=>af.ofOpt ((bS a b σ).map (!·)) σ
noncomputable def bL:List PV->Option (List Int)
 | []=>some []
 | .int i::r=>(bL r).map (i::·)
 | _::_=>none
noncomputable def dA:List PV->Option (List Bool)
 | []=>some []
 | .bool b::r=>(dA r).map (b::·)
 | _::_=>none
noncomputable def dj:List PV->Option (List Str)
 | []=>some []
 | .str s::r=>(dj r).map (s::·)
 | _::_=>none
noncomputable def b8 (l:List Str):List Str:=l.foldl (fun a x=>if a.any (· == x) then a else a++[x]) []
noncomputable def fA (f:List PV->af PV) (a:PV) (σ:ac):af PV:=
 match aZ σ a with
 | some xs=>f xs
 | none=>.stuck
noncomputable def c9 {α:Type} (g:List PV->Option α) (f:α->af PV) (a:PV) (σ:ac):af PV:=
 match (be σ a).bind g with
 | some l=>f l
 | none=>.stuck
noncomputable def akt (a:PV) (σ:ac):af PV:=
 match a with
 | .str s=>if s.length <= au then .ok (.int s.length) σ else .stuck
 | a=>fA (fun xs=>if xs.length <= au then .ok (.int xs.length) σ else .stuck) a σ
noncomputable def akv (a:PV) (σ:ac):af PV:=
 match a with
 | .bool b=>.ok (.int (if b then 1 else 0)) σ
 | _=>.stuck
noncomputable def akp (a:PV) (σ:ac):af PV:=
 match a with
 | .str s=>.ok (.str s) σ
 | .int i=>if 0 <= i/\i < 1000000000 then .ok (.str (Str.ofString (toString i))) σ else .stuck
 | _=>.stuck
noncomputable def aje:List PV->List ((Str × Int) × PV)->Option (List ((Str × Int) × PV))
 | [],es=>some es
 | .tup [k,v]::r,es=>match dZ k with
  | some k=>aje r (bQ k v es)
  | none=>none
 | _::_,_=>none
noncomputable def aj7 (a:PV) (σ:ac):af PV:=
 match a with
 | .ref r=>match σ[r]? with
  | some (.dp es)=>if es.length <= au then .ok (.ref σ.length) (σ++[.dp es]) else .stuck
  | _=>.stuck
 | .fl xs=>match aje xs [] with
  | some es=>if xs.length <= au then .ok (.ref σ.length) (σ++[.dp es]) else .stuck
  | none=>.stuck
 | _=>.stuck
noncomputable def cK (b:B1) (a:PV) (σ:ac):af PV:=
 match b with
 | .dict=>aj7 a σ
 | .len=>akt a σ
 | .list fz=>fA (fun xs=>cg fz xs σ) a σ
 | .tuple=>fA (fun xs=>if xs.length <= au then .ok (.tup xs) σ else .stuck) a σ
 | .sum=>c9 bL (fun l=>if l.length <= 1000/\l.all (fun x=>decide (x.natAbs < 2 ^ 40)) then .ok (.int l.sum) σ else .stuck) a σ
 | .min=>c9 bL (fun l=>match l with
  | x::l=>.ok (.int (l.foldl min x)) σ
  | []=>.stuck) a σ
 | .max=>c9 bL (fun l=>match l with
  | x::l=>.ok (.int (l.foldl max x)) σ
  | []=>.stuck) a σ
 | .all=>c9 dA (fun l=>.ok (.bool (l.all id)) σ) a σ
 | .int=>akv a σ
 | .str=>akp a σ
 | .lenset=>match (aZ σ a).bind dj with
  | some l=>if l.length <= 1000 then .ok (.int (b8 l).length) σ else .stuck
  | none=>.stuck
noncomputable def xO:B1->Bool
 | .all | .lenset=>true
 | .sum=>true
 | .min | .max=>true
 | .dict=>true
 | _=>false
noncomputable def lW (hd:Bool) (b:B1) (a:PV) (σ:ac):af PV:=bif hd && xO b then .stuck else cK b a σ
noncomputable def ud (a:PV) (sup dom:List Nat) (σ:ac):af Bool:=
 match a with
 | .exc c=>if dom.contains c then .ok (sup.contains c) σ else .stuck
 | _=>.stuck
noncomputable def fB (a:PV) (t:Ty) (σ:ac):af Bool:=
 match t with
 | .int=>match a with
  | .int _=>.ok true σ
  | .bool _=>.ok true σ
  | .none=>.ok false σ
  | .str _=>.ok false σ
  | _=>.stuck
 | .bool=>match a with
  | .bool _=>.ok true σ
  | .int _=>.ok false σ
  | .none=>.ok false σ
  | .str _=>.ok false σ
  | _=>.stuck
 | .str=>match a with
  | .str _=>.ok true σ
  | .int _=>.ok false σ
  | .none=>.ok false σ
  | .bool _=>.ok false σ
  | .tup _=>.ok false σ
  | _=>.stuck
 | .tuple=>match a with
  | .tup _=>.ok true σ
  | .str _=>.ok false σ
  | .int _=>.ok false σ
  | _=>.stuck
noncomputable def ji (xs:List PV) (i:Int) (σ:ac):af PV:=if xs.length <= au then af.ofOpt ((cC i xs.length).bind (xs[·]?)) σ else .stuck
noncomputable def n9 (o i:PV) (σ:ac):af PV:=
 match o with
 | .ref r=>match σ[r]? with
  | some (.ds es)=>match i with
   | .str k=>af.ofOpt (ah k es) σ
   | _=>.stuck
  | some (.dp es)=>af.ofOpt ((dZ i).bind fun k=>ah k es) σ
  | _=>.stuck
 | _=>.stuck
noncomputable def eA (o i:PV) (σ:ac):af PV:=
 match i with
 | .int i=>match o with
  | .str s=>if s.cps.size <= au then
    match (cC i s.cps.size).bind (s.cps[·]?) with
    | some c=>.ok (.str ⟨#[c]⟩) σ
    | none=>.stuck
   else .stuck
  | .tup xs=>ji xs i σ
  | o=>match be σ o with
   | some xs=>ji xs i σ
   | none=>.stuck
 | i=>n9 o i σ
noncomputable def eS:PV->Option (Option Int)
 | .none=>some none
 | .int i=>some (some i)
 | _=>none
noncomputable def bN {α:Type} (xs:List α) (lo hi:Option Int):List α:=
 (xs.drop (lo.elim 0 (clipAt xs.length))).take (hi.elim xs.length (clipAt xs.length) - lo.elim 0 (clipAt xs.length))
noncomputable def slV (σ:ac) (o:PV) (lo hi:Option Int):Option PV:=
 match o with
 | o=>(be σ o).bind fun xs=>if xs.length <= au then some (.fl (bN xs lo hi)) else none
noncomputable def eQ (o lo hi:PV) (σ:ac):af PV:=af.ofOpt ((eS lo).bind fun lo=>(eS hi).bind fun hi=>slV σ o lo hi) σ
noncomputable def aiB (a:PV) (σ:ac):af PV:=
 match a with
 | .int i=>.ok (.int (-i)) σ
 | _=>.stuck
noncomputable def jV (o:PV) (σ:ac):Bool:=
 match o with
 | .ref r=>match σ[r]? with
  | some (.lst _)=>true
  | _=>false
 | _=>false
noncomputable def ajM:PV->Bool
 | .str _=>true
 | _=>false
noncomputable def ue (o:PV) (σ:ac):Bool:=
 match o with
 | .ref r=>match σ[r]? with
  | some (.ds _)=>true
  | some (.dp _)=>true
  | _=>false
 | _=>false
noncomputable def sk (m:Me) (o:PV) (σ:ac):Bool:=
 match m with
 | .append | .extend=>jV o σ
 | .get=>ue o σ
noncomputable def iP (o v:PV) (σ:ac):af PV:=
 match o with
 | .ref r=>match σ[r]? with
  | some (.lst xs)=>if xs.length < au then .ok .none (σ.set r (.lst (xs++[v]))) else .stuck
  | _=>.stuck
 | _=>.stuck
noncomputable def nU (o v:PV) (σ:ac):af PV:=
 match o with
 | .ref r=>match σ[r]? with
  | some (.lst xs)=>match v with
   | .tup ys=>if xs.length + ys.length <= au then .ok .none (σ.set r (.lst (xs++ys))) else .stuck
   | .fl ys=>if xs.length + ys.length <= au then .ok .none (σ.set r (.lst (xs++ys))) else .stuck
   | _=>.stuck
  | _=>.stuck
 | _=>.stuck
noncomputable def za (o v:PV) (σ:ac):af PV:=
 match o with
 | .ref r=>match σ[r]? with
  | some (.ds es)=>match v with
   | .str k=>.ok ((ah k es).getD .none) σ
   | _=>.stuck
  | some (.dp es)=>match dZ v with
   | some k=>.ok ((ah k es).getD .none) σ
   | none=>.stuck
  | _=>.stuck
 | _=>.stuck
noncomputable def mV (m:Me) (o:PV) (args:List PV) (σ:ac):af PV:=
 match args with
 | [v]=>match m with
  | .append=>iP o v σ
  | .extend=>nU o v σ
  | .get=>za o v σ
 | _=>.stuck
noncomputable def t6 (x y:PV) (σ:ac):af PV:=
 match x,y with
 | .int x,.int y=>.ok (.int (min x y)) σ
 | _,_=>.stuck
noncomputable def uS (c:Nat) (o:PV) (n:Str) (σ:ac):af PV:=
 match o with
 | .inst c' i=>if c'=c then (match σ[i]? with
  | some (.ns fs)=>af.ofOpt (ah n fs) σ
  | _=>.stuck) else .stuck
 | _=>.stuck
noncomputable def cU (v:PV) (σ:ac):af Bool:=
 match v with
 | .bool b=>.ok b σ
 | _=>.stuck
noncomputable def rD (v:PV) (σ:ac):af (List PV × Option (Nat × MO)):=
 match am σ v with
 | some xs=>.ok (xs,aaC σ v) σ
 | none=>.stuck
noncomputable def gH (a:PV) (σ:ac):af (List PV × Option (Nat × MO)):=
 match a with
 | .int n=>if 0 <= n/\n <= au then .ok (aL 0 1 n.toNat,none) σ else .stuck
 | _=>.stuck
noncomputable def j5 (a b c:PV) (σ:ac):af (List PV × Option (Nat × MO)):=
 match a,b,c with
 | .int a,.int b,.int c=>if c ≠ 0/\a.natAbs <= au/\b.natAbs <= au/\c.natAbs <= au then .ok (aL a c (Builtin.Range.rangeSize a b c).toNat,none) σ else .stuck
 | _,_,_=>.stuck
noncomputable def qV (vs:List PV) (σ:ac):af (List PV × Option (Nat × MO)):=
 match vs with
 | [a,b,c]=>j5 a b c σ
 | _=>.stuck
noncomputable def gQ:List PV->List PV->List PV
 | x::r,y::q=>.tup [x,y]::gQ r q
 | _,_=>[]
noncomputable def uY (a b:PV) (σ:ac):af (List PV × Option (Nat × MO)):=
 match a,b with
 | .tup xs,.fl ys=>if xs.length=ys.length/\ys.length <= au then .ok (gQ xs ys,some (σ.length,.tp)) (σ++[.tp]) else .stuck
 | _,_=>.stuck
noncomputable def abc (vs:List PV) (σ:ac):af (List PV × Option (Nat × MO)):=
 match vs with
 | [a,b]=>uY a b σ
 | _=>.stuck
noncomputable def bI (cap:List (Option Nat)) (ρ:aq):aq:=cap.map fun (o:Option Nat)=>match o with | some i=>(ρ[i]?).join | none=>none
noncomputable def abh (ρ:aq) (i:Nat) (σ:ac):af PV:=
 match ρ[i]? with
 | some (some v)=>.ok v σ
 | _=>.stuck
structure jL where
 ev:aq->ac->af PV
 tst:aq->ac->af Bool
 evs:aq->ac->af (List PV)
 evAnd:aq->ac->af PV
 evOr:aq->ac->af PV
 tstAnd:aq->ac->af Bool
 tstOr:aq->ac->af Bool
 evIt:aq->ac->af (List PV × Option (Nat × MO))
noncomputable def jL.two (e:aq->ac->af PV) (t:aq->ac->af Bool):jL:=
 ⟨e,t,fun zz zz=>.stuck,fun zz zz=>.stuck,fun zz zz=>.stuck,fun zz zz=>.stuck,fun zz zz=>.stuck,fun ρ σ=>(e ρ σ).bind rD⟩
noncomputable def jL.val (e:aq->ac->af PV):jL:=jL.two e fun ρ σ=>(e ρ σ).bind cU
noncomputable def jL.nil:jL:=
 ⟨fun zz zz=>.stuck,fun zz zz=>.stuck,fun zz σ=>.ok [] σ,fun zz zz=>.stuck,fun zz zz=>.stuck,fun zz σ=>.ok true σ,fun zz σ=>.ok false σ,fun zz zz=>.stuck⟩
noncomputable def jL.cons (a:jL) (last:Bool) (r:jL):jL:=
 ⟨fun zz zz=>.stuck,fun zz zz=>.stuck,fun ρ σ=>(a.ev ρ σ).bind fun v σ=>(r.evs ρ σ).bind fun vs σ=>.ok (v::vs) σ,
  fun ρ σ=>if last then a.ev ρ σ else (a.ev ρ σ).bind fun v σ=>(cU v σ).bind fun b σ=>if b then r.evAnd ρ σ else .ok v σ,
  fun ρ σ=>if last then a.ev ρ σ else (a.ev ρ σ).bind fun v σ=>(cU v σ).bind fun b σ=>if b then .ok v σ else r.evOr ρ σ,
  fun ρ σ=>(a.tst ρ σ).bind fun b σ=>if b then r.tstAnd ρ σ else .ok false σ,
  fun ρ σ=>(a.tst ρ σ).bind fun b σ=>if b then .ok true σ else r.tstOr ρ σ,
  fun zz zz=>.stuck⟩
noncomputable def jL.it (f:aq->ac->af (List PV × Option (Nat × MO))):jL:=
 ⟨fun zz zz=>.stuck,fun zz zz=>.stuck,fun zz zz=>.stuck,fun zz zz=>.stuck,fun zz zz=>.stuck,fun zz zz=>.stuck,fun zz zz=>.stuck,f⟩
noncomputable def X.isNil:X->Bool
 | .nil=>true
 | _=>false
noncomputable def lq (C:aV) (c f:Nat) (n:Str) (x:PV) (args:ac->af (List PV)) (σ:ac):af PV:=
 match x with
 | .inst c' i=>if c'=c then (match σ[i]? with
  | some (.ns fs)=>(match ah n fs with
   | none=>(args σ).bind fun vs σ=>C.call f (.inst c' i::vs) σ
   | some _=>.stuck)
  | _=>.stuck) else .stuck
 | _=>.stuck
noncomputable def oB (C:aV) (c f:Nat) (vs:List PV) (σ:ac):af PV:=
 (C.call f (.inst c σ.length::vs) (σ++[.ns []])).bind fun v σ'=>match v with
  | .none=>.ok (.inst c σ.length) σ'
  | _=>.stuck
noncomputable def bk (C:aV):X->jL
 | .nil=>jL.nil
 | .cons a r=>jL.cons (bk C a) r.isNil (bk C r)
 | .k v=>.val fun zz σ=>.ok v σ
 | .v i=>.val fun ρ σ=>abh ρ i σ
 | .and xs=>.two (bk C xs).evAnd (bk C xs).tstAnd
 | .or xs=>.two (bk C xs).evOr (bk C xs).tstOr
 | .not a=>.two (fun ρ σ=>((bk C a).ev ρ σ).bind fun v σ=>(cU v σ).bind fun b σ=>.ok (.bool (!b)) σ) (fun ρ σ=>((bk C a).tst ρ σ).bind fun b σ=>.ok (!b) σ)
 | .neg a=>.val fun ρ σ=>((bk C a).ev ρ σ).bind aiB
 | .bin o a b=>.val fun ρ σ=>((bk C a).ev ρ σ).bind fun x σ=>((bk C b).ev ρ σ).bind fun y σ=>fI o x y σ
 | .cmp a o b=>.two (fun ρ σ=>((bk C a).ev ρ σ).bind fun x σ=>((bk C b).ev ρ σ).bind fun y σ=>(br o x y σ).bind fun r σ=>.ok (.bool r) σ)
   (fun ρ σ=>((bk C a).ev ρ σ).bind fun x σ=>((bk C b).ev ρ σ).bind fun y σ=>br o x y σ)
 | .cmp2 a o b o2 c=>.two (fun ρ σ=>((bk C a).ev ρ σ).bind fun x σ=>((bk C b).ev ρ σ).bind fun y σ=>(br o x y σ).bind fun r σ =>
   if r then ((bk C c).ev ρ σ).bind fun z σ=>(br o2 y z σ).bind fun r σ=>.ok (.bool r) σ else .ok (.bool false) σ)
   (fun ρ σ=>((bk C a).ev ρ σ).bind fun x σ=>((bk C b).ev ρ σ).bind fun y σ=>(br o x y σ).bind fun r σ =>
   if r then ((bk C c).ev ρ σ).bind fun z σ=>br o2 y z σ else .ok false σ)
 | .lst fz xs=>.val fun ρ σ=>((bk C xs).evs ρ σ).bind fun vs σ=>cg fz vs σ
 | .tup xs=>.val fun ρ σ=>((bk C xs).evs ρ σ).bind fun vs σ=>if vs.length <= au then .ok (.tup vs) σ else .stuck
 | .comp fz t cap elt cond it=>.val fun ρ σ=>bif C.hd then .stuck else ((bk C it).evIt ρ σ).bind fun (xs,w) σ =>
   fH xs.length (b9 w (fun x σ =>
    ((bk C cond).tst ((bI cap ρ).set t (some x)) σ).bind fun b σ=>if b then ((bk C elt).ev ((bI cap ρ).set t (some x)) σ).bind fun v σ=>.ok (some v) σ else .ok none σ) xs σ) fun ys σ=>cg fz ys σ
 | .range1 a=>.it fun ρ σ=>((bk C a).ev ρ σ).bind gH
 | .range3 xs=>.it fun ρ σ=>((bk C xs).evs ρ σ).bind qV
 | .zip xs=>.it fun ρ σ=>((bk C xs).evs ρ σ).bind abc
 | .dnew pk=>.val fun zz σ=>.ok (.ref σ.length) (σ++[bif pk then .dp [] else .ds []])
 | .attr c o n=>.val fun ρ σ=>((bk C o).ev ρ σ).bind fun x σ=>uS c x n σ
 | .meth c f n o args=>.val fun ρ σ=>((bk C o).ev ρ σ).bind fun x σ=>lq C c f n x (fun σ=>(bk C args).evs ρ σ) σ
 | .new c f args=>.val fun ρ σ=>((bk C args).evs ρ σ).bind fun vs σ=>oB C c f vs σ
 | .call f args=>.val fun ρ σ=>((bk C args).evs ρ σ).bind fun vs σ=>C.call f vs σ
 | .b1 b a=>.val fun ρ σ=>((bk C a).ev ρ σ).bind fun v σ=>lW C.hd b v σ
 | .min2 a b=>.val fun ρ σ=>bif C.hd then .stuck else ((bk C a).ev ρ σ).bind fun x σ=>((bk C b).ev ρ σ).bind fun y σ=>t6 x y σ
 | .isinst a t=>.val fun ρ σ=>((bk C a).ev ρ σ).bind fun v σ=>(fB v t σ).bind fun b σ=>.ok (.bool b) σ
 | .isexc a sup dom=>.val fun ρ σ=>((bk C a).ev ρ σ).bind fun v σ=>(ud v sup dom σ).bind fun b σ=>.ok (.bool b) σ
 | .me m o args=>.val fun ρ σ=>((bk C o).ev ρ σ).bind fun r σ=>if sk m r σ then ((bk C args).evs ρ σ).bind fun vs σ=>mV m r vs σ else .stuck
 | .sub o i=>.val fun ρ σ=>((bk C o).ev ρ σ).bind fun x σ=>((bk C i).ev ρ σ).bind fun y σ=>eA x y σ
 | .slice o lo hi=>.val fun ρ σ=>((bk C o).ev ρ σ).bind fun x σ=>((bk C lo).ev ρ σ).bind fun a σ=>((bk C hi).ev ρ σ).bind fun b σ=>eQ x a b σ
noncomputable def ev (C:aV) (x:X) (ρ:aq) (σ:ac):af PV:=(bk C x).ev ρ σ
noncomputable def evs (C:aV) (x:X) (ρ:aq) (σ:ac):af (List PV):=(bk C x).evs ρ σ
noncomputable def evAnd (C:aV) (x:X) (ρ:aq) (σ:ac):af PV:=(bk C x).evAnd ρ σ
noncomputable def evOr (C:aV) (x:X) (ρ:aq) (σ:ac):af PV:=(bk C x).evOr ρ σ
noncomputable def tst (C:aV) (x:X) (ρ:aq) (σ:ac):af Bool:=(bk C x).tst ρ σ
noncomputable def tstAnd (C:aV) (x:X) (ρ:aq) (σ:ac):af Bool:=(bk C x).tstAnd ρ σ
noncomputable def tstOr (C:aV) (x:X) (ρ:aq) (σ:ac):af Bool:=(bk C x).tstOr ρ σ
noncomputable def evIt (C:aV) (x:X) (ρ:aq) (σ:ac):af (List PV × Option (Nat × MO)):=(bk C x).evIt ρ σ
section
variable {C:aV} {ρ:aq} {σ:ac}
theorem akz {i:Nat}:ev C (.v i) ρ σ=abh ρ i σ:=rfl
theorem aj5 {xs:X}:ev C (.or xs) ρ σ=evOr C xs ρ σ:=rfl
theorem ai7 {a:X}:ev C (.not a) ρ σ=(ev C a ρ σ).bind fun v σ=>(cU v σ).bind fun b σ=>.ok (.bool (!b)) σ:=rfl
theorem ai9 {o:Op} {a b:X}:ev C (.bin o a b) ρ σ=(ev C a ρ σ).bind fun x σ=>(ev C b ρ σ).bind fun y σ=>fI o x y σ:=rfl
theorem ai8 {o:Cm} {a b:X}:ev C (.cmp a o b) ρ σ=(ev C a ρ σ).bind fun x σ=>(ev C b ρ σ).bind fun y σ=>(br o x y σ).bind fun r σ=>.ok (.bool r) σ:=rfl
theorem ahU {o o2:Cm} {a b c:X}:ev C (.cmp2 a o b o2 c) ρ σ=(ev C a ρ σ).bind fun x σ=>(ev C b ρ σ).bind fun y σ=>(br o x y σ).bind fun r σ =>
   if r then (ev C c ρ σ).bind fun z σ=>(br o2 y z σ).bind fun r σ=>.ok (.bool r) σ else .ok (.bool false) σ:=rfl
theorem ai5 {xs:X}:ev C (.tup xs) ρ σ=(evs C xs ρ σ).bind fun vs σ=>if vs.length <= au then .ok (.tup vs) σ else .stuck:=rfl
theorem nV {fz:Bool} {t:Nat} {cap:List (Option Nat)} {elt cond it:X}:ev C (.comp fz t cap elt cond it) ρ σ=bif C.hd then .stuck else (evIt C it ρ σ).bind fun (xs,w) σ =>
   fH xs.length (b9 w (fun x σ =>
    (tst C cond ((bI cap ρ).set t (some x)) σ).bind fun b σ=>if b then (ev C elt ((bI cap ρ).set t (some x)) σ).bind fun v σ=>.ok (some v) σ else .ok none σ) xs σ) fun ys σ=>cg fz ys σ:=rfl
theorem iM {f:Nat} {args:X}:ev C (.call f args) ρ σ=(evs C args ρ σ).bind fun vs σ=>C.call f vs σ:=rfl
theorem agy {b:B1} {a:X}:ev C (.b1 b a) ρ σ=(ev C a ρ σ).bind fun v σ=>lW C.hd b v σ:=rfl
theorem ahT {a b:X}:ev C (.min2 a b) ρ σ=bif C.hd then .stuck else (ev C a ρ σ).bind fun x σ=>(ev C b ρ σ).bind fun y σ=>t6 x y σ:=rfl
theorem ad1 {a:X} {t:Ty}:ev C (.isinst a t) ρ σ=(ev C a ρ σ).bind fun v σ=>(fB v t σ).bind fun b σ=>.ok (.bool b) σ:=rfl
theorem agx {m:Me} {o args:X}:ev C (.me m o args) ρ σ=(ev C o ρ σ).bind fun r σ=>if sk m r σ then (evs C args ρ σ).bind fun vs σ=>mV m r vs σ else .stuck:=rfl
theorem ai6 {o i:X}:ev C (.sub o i) ρ σ=(ev C o ρ σ).bind fun x σ=>(ev C i ρ σ).bind fun y σ=>eA x y σ:=rfl
theorem zx {o lo hi:X}:ev C (.slice o lo hi) ρ σ=(ev C o ρ σ).bind fun x σ=>(ev C lo ρ σ).bind fun a σ=>(ev C hi ρ σ).bind fun b σ=>eQ x a b σ:=rfl
theorem bC:evs C .nil ρ σ=.ok [] σ:=rfl
theorem dy {a r:X}:evs C (.cons a r) ρ σ=(ev C a ρ σ).bind fun v σ=>(evs C r ρ σ).bind fun vs σ=>.ok (v::vs) σ:=rfl
theorem qE:evAnd C .nil ρ σ=.stuck:=rfl
theorem qD {a:X}:evAnd C (.cons a .nil) ρ σ=ev C a ρ σ:=rfl
theorem ie {a b r:X}:evAnd C (.cons a (.cons b r)) ρ σ=(ev C a ρ σ).bind fun v σ=>(cU v σ).bind fun t σ=>if t then evAnd C (.cons b r) ρ σ else .ok v σ:=rfl
theorem sT:evOr C .nil ρ σ=.stuck:=rfl
theorem sS {a:X}:evOr C (.cons a .nil) ρ σ=ev C a ρ σ:=rfl
theorem lU {a b r:X}:evOr C (.cons a (.cons b r)) ρ σ=(ev C a ρ σ).bind fun v σ=>(cU v σ).bind fun t σ=>if t then .ok v σ else evOr C (.cons b r) ρ σ:=rfl
theorem agN {a:X}:tst C (.not a) ρ σ=(tst C a ρ σ).bind fun b σ=>.ok (!b) σ:=rfl
theorem agO {o:Cm} {a b:X}:tst C (.cmp a o b) ρ σ=(ev C a ρ σ).bind fun x σ=>(ev C b ρ σ).bind fun y σ=>br o x y σ:=rfl
theorem aew {o o2:Cm} {a b c:X}:tst C (.cmp2 a o b o2 c) ρ σ=(ev C a ρ σ).bind fun x σ=>(ev C b ρ σ).bind fun y σ=>(br o x y σ).bind fun r σ =>
   if r then (ev C c ρ σ).bind fun z σ=>br o2 y z σ else .ok false σ:=rfl
theorem aex {f:Nat} {args:X}:tst C (.call f args) ρ σ=(ev C (.call f args) ρ σ).bind cU:=rfl
theorem ah9 {b:B1} {a:X}:tst C (.b1 b a) ρ σ=(ev C (.b1 b a) ρ σ).bind cU:=rfl
theorem abk {a:X} {t:Ty}:tst C (.isinst a t) ρ σ=(ev C (.isinst a t) ρ σ).bind cU:=rfl
theorem tu:tstAnd C .nil ρ σ=.ok true σ:=rfl
theorem ej {a r:X}:tstAnd C (.cons a r) ρ σ=(tst C a ρ σ).bind fun b σ=>if b then tstAnd C r ρ σ else .ok false σ:=rfl
theorem wd:tstOr C .nil ρ σ=.ok false σ:=rfl
theorem fy {a r:X}:tstOr C (.cons a r) ρ σ=(tst C a ρ σ).bind fun b σ=>if b then .ok true σ else tstOr C r ρ σ:=rfl
theorem mK {a:X}:evIt C (.range1 a) ρ σ=(ev C a ρ σ).bind gH:=rfl
theorem aaq {xs:X}:evIt C (.range3 xs) ρ σ=(evs C xs ρ σ).bind qV:=rfl
theorem afy {xs:X}:evIt C (.zip xs) ρ σ=(evs C xs ρ σ).bind abc:=rfl
theorem aa3 {c:Nat} {o:X} {n:Str}:ev C (.attr c o n) ρ σ=(ev C o ρ σ).bind fun x σ=>uS c x n σ:=rfl
theorem aa2 {c f:Nat} {n:Str} {o args:X}:ev C (.meth c f n o args) ρ σ=(ev C o ρ σ).bind fun x σ=>lq C c f n x (fun σ=>evs C args ρ σ) σ:=rfl
theorem ad0 {c f:Nat} {args:X}:ev C (.new c f args) ρ σ=(evs C args ρ σ).bind fun vs σ=>oB C c f vs σ:=rfl
end
inductive S where
 | nil | cons (a r:S)
 | asg (i:Nat) (x:X)
 | asgSub (o i x:X)
 | expr (x:X)
 | ret (x:X)
 | ret0
 | ife (c:X) (a b:S)
 | for1 (i:Nat) (it:X) (body:S)
 | whl (c:X) (body:S)
 | brk
 | asgAttr (c:Nat) (o:X) (n:Str) (x:X)
 | asgT (is:List Nat) (x:X)
 | forT (is:List Nat) (it:X) (body:S)
 | raise (c:Nat)
 | tryE (body:S) (sup:List Nat) (i:Nat) (h:S)
inductive ba where
 | next (ρ:aq) (σ:ac)
 | brk (ρ:aq) (σ:ac)
 | cont (ρ:aq) (σ:ac)
 | ret (v:PV) (ρ:aq) (σ:ac)
 | exc (i:Nat) (ρ:aq) (σ:ac)
 | stuck
noncomputable def af.toS {α:Type} (o:af α) (ρ:aq) (f:α->ac->ba):ba:=
 match o with
 | .ok a σ=>f a σ
 | .exc i σ=>.exc i ρ σ
 | .stuck=>.stuck
noncomputable def p9 (go:aq->ac->ba):ba->ba
 | .next ρ σ=>go ρ σ
 | .cont ρ σ=>go ρ σ
 | .brk ρ σ=>.next ρ σ
 | .ret v ρ σ=>.ret v ρ σ
 | _=>.stuck
noncomputable def ajh (f:aq->ba):Option aq->ba
 | none=>.stuck
 | some ρ=>f ρ
noncomputable def aX (w:Option (Nat × MO)) (bind:PV->aq->Option aq) (f:aq->ac->ba):List PV->aq->ac->ba
 | [],ρ,σ=>if dg w σ then .next ρ σ else .stuck
 | x::xs,ρ,σ=>if dg w σ then ajh (fun ρ=>p9 (aX w bind f xs) (f ρ σ)) (bind x ρ) else .stuck
noncomputable def bc (c:aq->ac->af Bool) (f:aq->ac->ba):Nat->aq->ac->ba
 | 0,_,_=>.stuck
 | n + 1,ρ,σ=>match c ρ σ with
  | .ok true σ=>match f ρ σ with
   | .next ρ σ=>bc c f n ρ σ
   | .cont ρ σ=>bc c f n ρ σ
   | .brk ρ σ=>.next ρ σ
   | .ret v ρ σ=>.ret v ρ σ
   | _=>.stuck
  | .ok false σ=>.next ρ σ
  | _=>.stuck
noncomputable def mQ (m:MO) (i v:PV):Option MO:=
 match m with
 | .lst xs=>match i with
  | .int i=>if 0 <= i/\i.toNat < xs.length/\xs.length <= au then some (.lst (xs.set i.toNat v)) else none
  | _=>none
 | .ds es=>match i with
  | .str k=>if es.length < au then some (.ds (bQ k v es)) else none
  | _=>none
 | .dp es=>(dZ i).bind fun k=>if es.length < au then some (.dp (bQ k v es)) else none
 | _=>none
noncomputable def bp (o i v:PV) (ρ:aq) (σ:ac):ba:=
 match o with
 | .ref r=>match (σ[r]?).bind fun m=>mQ m i v with
  | some m=>.next ρ (σ.set r m)
  | none=>.stuck
 | _=>.stuck
noncomputable def eP (c:Nat) (o:PV) (n:Str) (v:PV) (ρ:aq) (σ:ac):ba:=
 match o with
 | .inst c' i=>if c'=c then (match σ[i]? with
  | some (.ns fs)=>if fs.length < 100 then .next ρ (σ.set i (.ns (bQ n v fs))) else .stuck
  | _=>.stuck) else .stuck
 | _=>.stuck
noncomputable def mS:List Nat->List PV->aq->Option aq
 | [],[],ρ=>some ρ
 | i::is,v::vs,ρ=>mS is vs (ρ.set i (some v))
 | _,_,_=>none
noncomputable def fJ (is:List Nat) (v:PV) (ρ:aq):Option aq:=
 match v with
 | .tup xs=>if xs.length <= 100 then mS is xs ρ else none
 | _=>none
noncomputable def bE (i:Nat) (v:PV) (ρ:aq):Option aq:=some (ρ.set i (some v))
noncomputable def nY:ba->ba
 | .next ρ σ=>.next (ρ.map fun zz=>none) σ
 | .ret v ρ σ=>.ret v (ρ.map fun zz=>none) σ
 | _=>.stuck
noncomputable def ex (C:aV) (N:Nat):S->aq->ac->ba
 | .nil,ρ,σ=>.next ρ σ
 | .cons a r,ρ,σ=>match ex C N a ρ σ with
  | .next ρ σ=>ex C N r ρ σ
  | o=>o
 | .asg i x,ρ,σ=>(ev C x ρ σ).toS ρ fun v σ=>.next (ρ.set i (some v)) σ
 | .asgSub o i x,ρ,σ=>(ev C x ρ σ).toS ρ fun v σ=>(ev C o ρ σ).toS ρ fun o σ=>(ev C i ρ σ).toS ρ fun i σ=>bp o i v ρ σ
 | .asgAttr c o n x,ρ,σ=>(ev C x ρ σ).toS ρ fun v σ=>(ev C o ρ σ).toS ρ fun o σ=>eP c o n v ρ σ
 | .asgT is x,ρ,σ=>bif C.hd then .stuck else (ev C x ρ σ).toS ρ fun v σ=>match fJ is v ρ with
  | some ρ=>.next ρ σ
  | none=>.stuck
 | .forT is it body,ρ,σ=>bif C.hd then .stuck else (evIt C it ρ σ).toS ρ fun (xs,w) σ=>aX w (fJ is) (fun ρ σ=>ex C N body ρ σ) xs ρ σ
 | .expr x,ρ,σ=>(ev C x ρ σ).toS ρ fun zz σ=>.next ρ σ
 | .ret x,ρ,σ=>(ev C x ρ σ).toS ρ fun v σ=>.ret v ρ σ
 | .ret0,ρ,σ=>.ret .none ρ σ
 | .ife c a b,ρ,σ=>(tst C c ρ σ).toS ρ fun t σ=>if t then ex C N a ρ σ else ex C N b ρ σ
 | .for1 i it body,ρ,σ=>bif C.hd then .stuck else (evIt C it ρ σ).toS ρ fun (xs,w) σ=>aX w (bE i) (fun ρ σ=>ex C N body ρ σ) xs ρ σ
 | .whl c body,ρ,σ=>bif C.hd then .stuck else bc (fun ρ σ=>tst C c ρ σ) (fun ρ σ=>ex C N body ρ σ) N ρ σ
 | .brk,ρ,σ=>.brk ρ σ
 | .raise c,ρ,σ=>bif C.rz then .exc c ρ σ else .stuck
 | .tryE body sup i h,ρ,σ=>match ex C N body ρ σ with
  | .exc c ρ σ=>bif C.rz then (if sup.contains c/\i < ρ.length then nY (ex C.inH N h (ρ.set i (some (.exc c))) σ) else .stuck) else .stuck
  | o=>o
structure Fn where
 params:Nat
 slots:Nat
 body:S
structure iv where
 fns:List Fn
noncomputable def cM (P:iv) (N:Nat):Nat->Nat->Nat->List PV->ac->af PV
 | _,0,_,_,_=>.stuck
 | m,d + 1,f,vs,σ=>match P.fns[f]? with
  | some fn=>if vs.length=fn.params then
    match ex ⟨fun m=>cM P N m d,m⟩ N fn.body (vs.map some++List.replicate (fn.slots - fn.params) none) σ with
    | .next _ σ=>.ok .none σ
    | .ret v _ σ=>.ok v σ
    | .exc i _ σ=>.exc i σ
    | _=>.stuck
   else .stuck
  | none=>.stuck
noncomputable def aG (P:iv) (N:Nat):Nat->Nat->List PV->ac->af PV:=cM P N 0
noncomputable def fP (P:iv) (N:Nat) (m:Nat) (d:Nat):aV:=⟨fun m=>cM P N m d,m⟩
theorem tc {κ:Type} [DecidableEq κ] {k k':κ} {v:PV}:∀ {es:List (κ × PV)},ah k' (bQ k v es)=if k'=k then some v else ah k' es:=by
 intro es
 have cons:∀ (e:κ × PV) (es:List (κ × PV)),ah k' (e::es)=if e.1=k' then some e.2 else ah k' es:=fun e es=>by
  unfold ah
  rw [List.find?_cons]
  by_cases q:e.1=k'
  ·rw [decide_eq_true q,if_pos q]; rfl
  ·rw [decide_eq_false q,if_neg q]
 unfold bQ
 by_cases h:(es.any fun e=>decide (e.1=k))=true
 ·rw [if_pos h]
  induction es with
  | nil=>contradiction
  | cons e es ih =>
   rw [List.map_cons,cons,cons]
   by_cases q:e.1=k
   ·rw [if_pos q]
    by_cases q2:k'=k
    ·rw [if_pos (q.trans q2.symm),if_pos q2]
    ·rw [if_neg (fun z=>q2 (z.symm.trans q)),if_neg q2,if_neg (fun z=>q2 (z.symm.trans q))]
     by_cases h2:(es.any fun e=>decide (e.1=k))=true
     ·rw [ih h2,if_neg q2]
     ·congr 1
      rw [List.map_congr_left (g:=id) fun e he=>?_,List.map_id]
      rw [if_neg]; rfl
      intro z; exact h2 (List.any_eq_true.mpr ⟨e,he,decide_eq_true z⟩)
   ·rw [if_neg q]
    rw [List.any_cons,decide_eq_false q,Bool.false_or] at h
    rw [ih h]
    by_cases q2:k'=k
    ·rw [if_pos q2,if_neg (fun z=>q (z.trans q2)),if_pos q2]
    ·rw [if_neg q2,if_neg q2]
 ·rw [if_neg h]
  induction es with
  | nil =>
   show ah k' [(k,v)]=_
   rw [cons]
   by_cases q:k'=k
   ·rw [if_pos q.symm,if_pos q]
   ·rw [if_neg (fun z=>q z.symm),if_neg q]
  | cons e es ih =>
   rw [List.any_cons,Bool.or_eq_true,not_or] at h
   have h1:e.1 ≠ k:=fun z=>h.1 (decide_eq_true z)
   rw [List.cons_append,cons,cons,ih h.2]
   by_cases q2:k'=k
   ·rw [if_pos q2,if_neg (fun z=>h1 (z.trans q2)),if_pos q2]
   ·rw [if_neg q2,if_neg q2]
end Mine
namespace Mine
open PySem
section
variable {α β γ δ ε ζ:Type} {a:Option α} {b:Option β} {c:Option γ} {d:Option δ}
noncomputable def ay (q:Bool) (o:Option α):Option α:=bif q then o else none
theorem aB {q:Bool} {x:α} {P:Prop} (h:ay q a=some x) (k:q=true->a=some x->P):P:=by
 cases q with
 | true=>exact k rfl h
 | false=>exact nomatch h
noncomputable def iB (a:Option α) (f:α->Option β) (y:Option β):Option β:=match a with
 | some x=>f x
 | none=>y
theorem eU {f:α->Option β} {y:Option β} {z:β} {P:Prop} (h:iB a f y=some z) (k1:∀ x,a=some x->f x=some z->P) (k2:a=none->y=some z->P):P:=by
 cases a with
 | none=>exact k2 rfl h
 | some x=>exact k1 x rfl h
theorem ad7 {q:Bool} {o o':Option α} {x:α} {P:Prop} (h:(bif q then o else o')=some x) (k1:q=true->o=some x->P) (k2:o'=some x->P):P:=by
 cases q with
 | true=>exact k1 rfl h
 | false=>exact k2 h
theorem xL {q:Prop} [Decidable q] {x:α} {P:Prop} (h:(if q then a else none)=some x) (k:q->a=some x->P):P:=by
 by_cases hq:q
 ·exact k hq ((if_pos hq).symm.trans h)
 ·exact nomatch (if_neg hq).symm.trans h
theorem aF {f:α->Option β} {z:β} {P:Prop} (h:a.bind f=some z) (k:∀ x,a=some x->f x=some z->P):P:=by
 cases a with
 | none=>exact nomatch h
 | some x=>exact k x rfl h
theorem b6 {f:α->β} {M:β->Prop} {z:β} (h:a.map f=some z) (k:∀ x,a=some x->M (f x)):M z:=by
 cases a with
 | none=>exact nomatch h
 | some x=>obtain rfl:=oi h; exact k x rfl
noncomputable def o2 (a:Option α) (b:Option β) (f:α->β->ζ):Option ζ:=a.bind fun x=>b.map (f x)
theorem dX {f:α->β->ζ} {M:ζ->Prop} {z:ζ} (h:o2 a b f=some z) (k:∀ x y,a=some x->b=some y->M (f x y)):M z:=
 aF h fun x h1 h=>b6 h fun y h2=>k x y h1 h2
noncomputable def o3 (a:Option α) (b:Option β) (c:Option γ) (f:α->β->γ->ζ):Option ζ:=a.bind fun x=>o2 b c (f x)
theorem mf {f:α->β->γ->ζ} {M:ζ->Prop} {z:ζ} (h:o3 a b c f=some z) (k:∀ x y w,a=some x->b=some y->c=some w->M (f x y w)):M z:=
 aF h fun x h1 h=>dX h fun y w h2 h3=>k x y w h1 h2 h3
noncomputable def o4 (a:Option α) (b:Option β) (c:Option γ) (d:Option δ) (f:α->β->γ->δ->ζ):Option ζ:=a.bind fun x=>o3 b c d (f x)
theorem aks {f:α->β->γ->δ->ζ} {M:ζ->Prop} {z:ζ} (h:o4 a b c d f=some z) (k:∀ x y w u,a=some x->b=some y->c=some w->d=some u->M (f x y w u)):M z:=
 aF h fun x h1 h=>mf h fun y w u h2 h3 h4=>k x y w u h1 h2 h3 h4
noncomputable def wn:List α->Option α
 | []=>none
 | x::r=>ay r.isEmpty (some x)
theorem tR {l:List α} {x:α} (h:wn l=some x):l=[x]:=by
 cases l with
 | nil=>exact nomatch h
 | cons y r =>
  refine aB h fun h1 h2=>?_
  rw [List.isEmpty_iff.mp h1,oi h2]
end
noncomputable def a8 (N names:List (Str × NameKind)):List (Str × NameKind):=names.map fun (n,k)=>if (k == .free && N.lookup n == some .cell) then (n,.cell) else (n,k)
noncomputable def dH (N N':List (Str × NameKind)):List (Option Nat):=N'.map fun (n,k)=>if k == .cell then N.findIdx? (·.1 == n) else none
structure aN where
 fns:List Str
 cst:List (Str × PV)
 bins:List Str
 muts:List (Nat × Nat)
 excs:List (Str × Nat × List Nat)
 brd:Option (Str × Nat)
 meths:List Str
 repl:Bool
 dstr:List (Nat × Nat)
noncomputable def u7:Const->Option PV
 | .none=>some .none
 | .bool b=>some (.bool b)
 | .int i=>some (.int i)
 | .str s=>ay (PyData.strOk s) (some (.str s))
 | _=>none
noncomputable def aib:Operator->Option Op
 | .Add=>some .add | .Sub=>some .sub | .Mult=>some .mul | .Mod=>some .mod | .FloorDiv=>some .fdiv | .Pow=>some .pow
 | _=>none
noncomputable def u8:CmpOp->Option Cm
 | .Eq=>some .eq | .NotEq=>some .ne | .Lt=>some .lt | .LtE=>some .le | .Gt=>some .gt | .GtE=>some .ge
 | .Is=>some .is | .IsNot=>some .isNot | .In=>some .isin | .NotIn=>some .notin
theorem eW {α:Type} {x:Str} {v:α}:∀ {l:List (Str × α)},l.lookup x=some v->(x,v) ∈ l
 | [],h=>by cases h
 | (y,u)::l,h=>by
  rw [List.lookup_cons] at h
  cases hb:x == y with
  | true=>rw [hb] at h; cases h; rw [eq_of_beq hb]; exact .head _
  | false=>rw [hb] at h; exact .tail _ (eW h)
noncomputable def aco (fz:Bool):List (Str × B1):=[("len",.len),("list",.list fz),("tuple",.tuple),("all",.all),("int",.int),("str",.str)
 ,("sum",.sum)
 ,("min",.min),("max",.max)
 ]
noncomputable def uR (fz:Bool) (x:Str):Option B1:=(aco fz).lookup x
noncomputable def agc:List (Str × Me):=[("append",.append),("extend",.extend)
 ,("get",.get)
 ]
noncomputable def yN (x:Str):Option Me:=agc.lookup x
noncomputable def afY:List (Str × Ty):=[("int",.int),("str",.str),("bool",.bool),("tuple",.tuple)
 ]
noncomputable def x9 (x:Str):Option Ty:=afY.lookup x
noncomputable def agE:List (Str × Value):=[("len",.builtin "len"),("list",.type "list"),("tuple",.type "tuple"),("min",.builtin "min"),("all",.builtin "all"),("int",.type "int"),("str",.type "str"),("bool",.type "bool"),("ValueError",.type "ValueError"),("isinstance",.builtin "isinstance"),("range",.type "range"),("set",.type "set")
 ,("sum",.builtin "sum")
 ,("max",.builtin "max")
 ,("dict",.type "dict")
 ,("zip",.type "zip")
 ]
noncomputable def i6 (x:Str):Option Value:=agE.lookup x
noncomputable def cO:List Str:=["plan", "turns", "givers", "outer", "here", "gone", "order"]
noncomputable def oq:List (Str × NameKind)->Bool
 | []=>true
 | (x,k)::r=>!(r.any fun p=>p.1 == x) && !(x == ("__debug__" : Str)) && (k == .local || k == .cell || k == .globalImplicit) && oq r
noncomputable def afl:X->Bool
 | .range1 _=>true
 | .range3 _=>true
 | .zip _=>true
 | _=>false
noncomputable def eM (f:Expr->Option X):List Expr->Option X
 | []=>some .nil
 | e::r=>o2 (f e) (eM f r) .cons
noncomputable def ajG (T:aN) (x:Str) (i:Nat):NameKind->Option X
 | .local=>some (.v i)
 | .cell=>some (.v i)
 | .globalImplicit=>(T.cst.lookup x).map .k
 | _=>none
noncomputable def ye (T:aN) (N:List (Str × NameKind)) (x:Str):Option X:=
 (N.findIdx? (·.1 == x)).bind fun i=>(N[i]?).bind fun q=>ajG T x i q.2
noncomputable def fN (N:List (Str × NameKind)) (x:Str):Bool:=N.lookup x == some .globalImplicit
noncomputable def yS (T:aN) (N:List (Str × NameKind)) (x:Str):Bool:=fN N x && T.bins.contains x
noncomputable def aiJ:Expr->Option Str
 | .Constant c _ _=>match c with
  | .str x=>ay (PyData.strOk x) (some x)
  | _=>none
 | _=>none
noncomputable def gS (T:aN) (c:Nat):List Nat:=(T.excs.filter fun p=>p.2.1 == c || p.2.2.contains c).map (·.2.1)
noncomputable def oY (T:aN) (N:List (Str × NameKind)) (x:Str):Option Nat:=ay (fN N x) ((T.excs.lookup x).map (·.1))
noncomputable def zv (T:aN) (N:List (Str × NameKind)) (x:Str):Option (List Nat):=
 iB (oY T N x) (fun c=>some (gS T c)) (ay (x == "ValueError" && yS T N x) (some (T.excs.map (·.2.1))))
noncomputable def jj:Expr->Option (Str × Pos)
 | .Name x p=>some (x,p)
 | _=>none
structure acz where
 g:Str
 p:Pos
 a:Expr
 pos:Pos
noncomputable def xR:Expr->Option acz
 | .Call f as ks pos=>ay ks.isEmpty (o2 (jj f) (wn as) fun n a=>⟨n.1,n.2,a,pos⟩)
 | _=>none
structure acy where
 g:Str
 p:Pos
 as:List Expr
 pos:Pos
noncomputable def callN?:Expr->Option acy
 | .Call f as ks pos=>ay ks.isEmpty ((jj f).map fun n=>⟨n.1,n.2,as,pos⟩)
 | _=>none
noncomputable def yk (T:aN) (N:List (Str × NameKind)) (f:Expr->Option X) (g:Str) (k:Nat) (e:Expr):Option X:=
 (callN? e).bind fun q=>ay (q.g == g && yS T N q.g && q.as.length == k) (eM f q.as)
noncomputable def adA (T:aN) (N:List (Str × NameKind)) (g:Str) (a:Expr):Option Expr:=
 (xR a).bind fun q=>ay (g == "len" && q.g == "set" && yS T N q.g) (some q.a)
noncomputable def u5 (T:aN) (N:List (Str × NameKind)) (f:Expr->Option X) (e:Expr):Option X:=
 (xR e).bind fun q=>ay (q.g == "range" && yS T N q.g) ((f q.a).map .range1)
noncomputable def aia (T:aN) (N:List (Str × NameKind)) (f:Expr->Option X) (e:Expr):Option X:=(yk T N f "range" 3 e).map .range3
noncomputable def aey (T:aN) (N:List (Str × NameKind)) (f:Expr->Option X) (e:Expr):Option X:=
 iB (u5 T N f e) some (aia T N f e)
noncomputable def abp (T:aN) (N:List (Str × NameKind)) (f:Expr->Option X) (pos:Pos) (g:Str) (a:Expr):Option X:=
 iB (adA T N g a) (fun x=>(f x).map (.b1 .lenset)) <|
 (o2 (uR (!(T.muts.contains (pos.line,pos.col))) g) (f a) .b1)
noncomputable def abl (T:aN) (N:List (Str × NameKind)) (f:Expr->Option X) (g:Str) (a b:Expr):Option X:=
 bif g == "isinstance" then
  (jj b).bind fun q =>
  iB (zv T N q.1) (fun sup=>(f a).map fun x=>.isexc x sup (T.excs.map (·.2.1)))
  (ay (yS T N q.1) (o2 (f a) (x9 q.1) .isinst))
 else ay (g == "min") (o2 (f a) (f b) .min2)
noncomputable def aid (T:aN) (N:List (Str × NameKind)) (f:Expr->Option X) (pos:Pos) (g:Str):List Expr->Option X
 | []=>none
 | a::r=>match r with
  | []=>abp T N f pos g a
  | b::r=>ay r.isEmpty (abl T N f g a b)
noncomputable def abq (T:aN) (f:Expr->Option X) (g:Str) (args:List Expr):Option X:=
 T.brd.bind fun q=>ay (g == q.1 && !args.isEmpty) ((T.meths.findIdx? (· == ("__init__" : Str))).bind fun j=>(eM f args).map (.new q.2 (T.fns.length + j)))
noncomputable def yj (T:aN) (N:List (Str × NameKind)) (f:Expr->Option X) (pos:Pos) (g:Str) (args:List Expr):Option X:=
 ay (fN N g) (iB (T.fns.findIdx? (· == g)) (fun i=>ay (!args.isEmpty) ((eM f args).map (.call i))) (iB (abq T f g args) some (ay (T.bins.contains g) (aid T N f pos g args))))
noncomputable def af0 (f:Expr->Option X) (e:Expr):Option X:=(f e).bind fun x=>ay (!afl x) (some x)
noncomputable def rY (T:aN) (N:List (Str × NameKind)) (f:Expr->Option X) (e:Expr):Option X:=
 iB (aey T N f e) some (af0 f e)
noncomputable def aez (f:Expr->Option X):List Expr->Option X
 | []=>some (.k (.bool true))
 | c::r=>ay r.isEmpty (f c)
noncomputable def tB (T:aN) (N:List (Str × NameKind)) (f:List (Str × NameKind)->Expr->Option X) (elt:Expr) (x:Str) (iter:Expr) (ifs:List Expr) (scope:Scope) (pos:Pos):Option X:=
 ay (scope.kind == .function && oq (a8 N scope.names) && scope.names.all (fun p=>p.2 != .cell))
  (((a8 N scope.names).findIdx? (·.1 == x)).bind fun t=>ay ((a8 N scope.names)[t]? == some (x,NameKind.local))
   (o3 (rY T N (f N) iter) (f (a8 N scope.names) elt) (aez (f (a8 N scope.names)) ifs) fun it elt c=>.comp (!(T.muts.contains (pos.line,pos.col))) t (dH N (a8 N scope.names)) elt c it))
noncomputable def tz (f:Expr->Option X):Option Expr->Option X
 | none=>some (.k .none)
 | some e=>f e
noncomputable def iC:Expr->Bool
 | .Call _ a _ _=>!a.isEmpty
 | _=>true
noncomputable def abt (f:Expr->Option X) (l:Expr) (os:List CmpOp) (rs:List Expr):Option X:=
 match os with
 | []=>none
 | o::os=>match rs with
  | []=>none
  | r::rs=>match os with
   | []=>ay rs.isEmpty (o3 (u8 o) (f l) (f r) fun o a b=>.cmp a o b)
   | o2::os=>match rs with
    | []=>none
    | r2::rs=>ay (os.isEmpty && rs.isEmpty) ((u8 o).bind fun o=>o4 (f l) (f r) (u8 o2) (f r2) fun a b o2 c=>.cmp2 a o b o2 c)
noncomputable def akn (f:Expr->Option X) (o:Expr) (m:Str) (a:Expr):Option X:=o3 (yN m) (f o) (f a) fun m o a=>.me m o (.cons a .nil)
noncomputable def akm (T:aN) (f:Expr->Option X) (o:Expr) (m:Str):List Expr->Option X
 | []=>none
 | a::r=>match r with
  | []=>akn f o m a
  | _::_=>none
noncomputable def agP (T:aN) (f:Expr->Option X) (o:Expr) (m:Str) (args:List Expr):Option X:=
 T.brd.bind fun q=>(T.meths.findIdx? (· == m)).bind fun j=>ay (decide (args.length < 20)) (o2 (f o) (eM f args) fun o xs=>.meth q.2 (T.fns.length + j) m o xs)
noncomputable def aic (T:aN) (f:Expr->Option X) (o:Expr) (n:Str):Option X:=
 T.brd.bind fun q=>ay (iC o && cO.contains n) ((f o).map fun o=>.attr q.2 o n)
noncomputable def yg (T:aN) (f:Expr->Option X) (o:Expr) (m:Str) (args:List Expr):Option X:=
 (ay (iC o)
  (bif T.meths.contains m then agP T f o m args else akm T f o m args))
noncomputable def agQ (T:aN) (N:List (Str × NameKind)) (f:Expr->Option X) (fn:Expr) (args:List Expr) (pos:Pos):Option X:=
 match fn with
 | .Name g _=>yj T N f pos g args
 | .Attribute o m apos=>ay (apos.endLine == pos.line) (yg T f o m args)
 | _=>none
noncomputable def akl (f:Expr->Option X) (o:Expr) (lo hi:Option Expr):Option Expr->Option X
 | none=>o3 (f o) (tz f lo) (tz f hi) .slice
 | some _=>none
noncomputable def aa6:Expr->Option (Option Expr × Option Expr × Option Expr × Pos)
 | .Slice lo hi st p=>some (lo,hi,st,p)
 | _=>none
noncomputable def yb (f:Expr->Option X) (o i:Expr):Option X:=
 iB (aa6 i) (fun q=>akl f o q.1 q.2.1 q.2.2.1) (o2 (f o) (f i) .sub)
noncomputable def mP (T:aN) (N:List (Str × NameKind)) (f:List (Str × NameKind)->Expr->Option X) (elt:Expr) (gens:List Comprehension) (scope:Scope) (pos:Pos):Option X:=
 (wn gens).bind fun g=>ay (g.is_async == 0) ((jj g.target).bind fun q=>tB T N f elt q.1 g.iter g.ifs scope pos)
noncomputable def acH (T:aN) (f:List (Str × NameKind)->Expr->Option X) (N:List (Str × NameKind)) (e:Expr):Option X:=
  match e with
  | .Constant c _ _=>(u7 c).map .k
  | .Name x _=>ye T N x
  | .BoolOp o es _=>match o with
   | .And=>(eM (f N) es).map .and
   | .Or=>(eM (f N) es).map .or
  | .UnaryOp o a _=>match o with
   | .Not=>(f N a).map .not
   | .USub=>(f N a).map .neg
   | _=>none
  | .BinOp l o r _=>o3 (aib o) (f N l) (f N r) .bin
  | .Compare l os rs _=>abt (f N) l os rs
  | .List es pos=>(eM (f N) es).map (.lst (!(T.muts.contains (pos.line,pos.col))))
  | .Tuple es _ _=>(eM (f N) es).map .tup
  | .Call fn args kws pos=>ay kws.isEmpty (agQ T N (f N) fn args pos)
  | .Attribute o n _=>aic T (f N) o n
  | .Subscript o i _=>yb (f N) o i
  | .Dict ks vs pos=>ay (ks.isEmpty && vs.isEmpty) (some (.dnew (!(T.dstr.contains (pos.line,pos.col)))))
  | .ListComp elt gens scope pos=>mP T N f elt gens scope pos
  | _=>none
noncomputable def trE (T:aN):Nat->List (Str × NameKind)->Expr->Option X
 | 0,_,_=>none
 | n + 1,N,e=>acH T (trE T n) N e
noncomputable def gW:Expr->Bool
 | .ListComp .. | .SetComp .. | .DictComp ..=>true
 | _=>false
noncomputable def abH:NameKind->Bool
 | .local=>true
 | .cell=>true
 | _=>false
noncomputable def gU (N:List (Str × NameKind)) (x:Str):Option Nat:=
 (N.findIdx? (·.1 == x)).bind fun i=>(N[i]?).bind fun q=>ay (abH q.2) (some i)
noncomputable def jy (g:Stmt->Option S):List Stmt->Option S
 | []=>some .nil
 | st::r=>o2 (g st) (jy g r) .cons
noncomputable def aeh:Expr->Option (Expr × List Comprehension × Scope × Pos)
 | .ListComp elt gens scope pos=>some (elt,gens,scope,pos)
 | _=>none
noncomputable def gF (N:List (Str × NameKind)):List Expr->Option (List Nat)
 | []=>some []
 | e::r=>o2 ((jj e).bind fun q=>gU N q.1) (gF N r) fun i l=>i::l
noncomputable def yA:Expr->Bool
 | .Name _ _=>true
 | .Call _ _ _ _=>true
 | .Subscript _ _ _=>true
 | _=>false
noncomputable def af1 (T:aN) (N:List (Str × NameKind)) (afr:List (Str × NameKind)->Expr->Option X) (f:Expr->Option X) (t v:Expr):Option S:=
 match t with
 | .Name z _=>iB (aeh v) (fun q=>o2 (gU N z) (mP T N afr q.1 q.2.1 q.2.2.1 q.2.2.2) .asg) (ay (!gW v) (o2 (gU N z) (f v) .asg))
 | .Subscript o i _=>ay (!gW v) (o3 (f o) (f i) (f v) .asgSub)
 | .Attribute o n _=>T.brd.bind fun q=>ay (!gW v && cO.contains n) (o2 (f o) (f v) fun o v=>.asgAttr q.2 o n v)
 | .Tuple ts _ _=>ay (yA v) (o2 (gF N ts) (f v) .asgT)
 | _=>none
noncomputable def u6 (T:aN) (N:List (Str × NameKind)) (e:Option Expr):Option S:=
 (e.bind xR).bind fun q=>(aiJ q.a).bind fun zz=>(oY T N q.g).map .raise
noncomputable def trH (T:aN) (N:List (Str × NameKind)) (g:Stmt->Option S) (b:List Stmt):ExceptHandler->Option S
 | .ExceptHandler t y hb _=>(t.bind jj).bind fun q=>y.bind fun y=>(oY T N q.1).bind fun c=>(gU N y).bind fun i=>ay (N[i]? == some (y,NameKind.local) && !hb.isEmpty)
   (o2 (jy g b) (jy g hb) fun b h=>.tryE b (gS T c) i h)
noncomputable def abm (T:aN) (N:List (Str × NameKind)) (g:Stmt->Option S) (b:List Stmt) (hs:List ExceptHandler):Option S:=(wn hs).bind (trH T N g b)
noncomputable def aka:Expr->Option (List Expr)
 | .Tuple ts _ _=>some ts
 | _=>none
noncomputable def ajv (T:aN) (N:List (Str × NameKind)) (f:Expr->Option X) (e:Expr):Option X:=(yk T N f "zip" 2 e).map .zip
noncomputable def xE (T:aN) (N:List (Str × NameKind)) (f:Expr->Option X) (e:Expr):Option X:=
 iB (ajv T N f e) some <|
 (rY T N f e)
noncomputable def aaD (T:aN) (N:List (Str × NameKind)) (afr:List (Str × NameKind)->Expr->Option X) (f:Expr->Option X) (g:Stmt->Option S) (st:Stmt):Option S:=
 match st with
 | .Assign ts v _=>(wn ts).bind fun t=>af1 T N afr f t v
 | .Expr e _=>ay (!gW e) ((f e).map .expr)
 | .Return v _=>match v with
  | some e=>(f e).map .ret
  | none=>some .ret0
 | .If t b o _=>o3 (f t) (jy g b) (jy g o) .ife
 | .For t it b o _=>ay o.isEmpty (iB (jj t) (fun q=>o3 (gU N q.1) (rY T N f it) (jy g b) .for1) ((aka t).bind fun ts=>o3 (gF N ts) (xE T N f it) (jy g b) .forT))
 | .While t b o _=>ay o.isEmpty (o2 (f t) (jy g b) .whl)
 | .Break _=>some .brk
 | .Raise e c _=>ay c.isNone (u6 T N e)
 | .Try b hs o fi _=>ay (o.isEmpty && fi.isEmpty) (abm T N g b hs)
 | _=>none
noncomputable def trS (T:aN) (N:List (Str × NameKind)) (f:List (Str × NameKind)->Expr->Option X):Nat->Stmt->Option S
 | 0,_=>none
 | n + 1,st=>aaD T N f (f N) (trS T N f n) st
end Mine
namespace Mine
open PySem
theorem p6 {M:Model} {Γ:PySem.Ctx} {p:Pos} {t:Sem Fin} {fs:List Frame} {s:Shared} {e:End} {s':Shared} (h:PySem.Runs M Γ p t fs s e s'):s.toks <= s'.toks:=by
 induction h <;> first | exact Nat.le_refl _ | assumption | (try simp only [Shared.setGen] at *) <;> first | assumption | omega
theorem abg {M:Model} {Γ:PySem.Ctx} {p:Pos} {g:Nat} {r:Resume} {s:Shared} {res:GenResult} {s':Shared} (h:PySem.Wakes M Γ p g r s res s'):s.toks <= s'.toks:=by
 unfold PySem.Wakes at h
 split at h
 ·exact h.elim
 ·split at h
  ·obtain ⟨e,s₁,h1,_,_,rfl⟩:=h
   have:=p6 h1; exact this
  ·rw [h.2]; exact Nat.le_refl _
  ·rw [h.2]; exact Nat.le_refl _
 ·obtain ⟨e,s₁,h1,_,_,rfl⟩:=h
  have:=p6 h1; exact this
 ·rw [h.2]; exact Nat.le_refl _
 ·rw [h.2]; exact Nat.le_refl _
theorem qM {γ:Type} {M:Model} {Γ:PySem.Ctx} {n:Nat} (t:Sem γ):∀ {Q:γ->Pos->Shared->Prop} {E:Value->Pos->Shared->Prop} {p:Pos} {s:Shared},n <= s.toks->Sem.wp M Γ t Q E p s ->
  Sem.wp M Γ t (fun a p s=>Q a p s/\n <= s.toks) (fun e p s=>E e p s/\n <= s.toks) p s:=by
 induction t with
 | pure a=>intro Q E p s hn h; exact ⟨h,hn⟩
 | raise e=>intro Q E p s hn h; exact ⟨h,hn⟩
 | rule tag k ih=>intro Q E p s hn h; exact ih () hn h
 | «at» p' k ih=>intro Q E p s hn h; exact ih () hn h
 | load a part k ih=>intro Q E p s hn h; obtain ⟨o,h1,h2⟩:=h; exact ⟨o,h1,ih o hn h2⟩
 | update a part f k ih=>intro Q E p s hn h; exact ⟨h.1,ih () (s:={ s with heap:=s.heap.update a f }) hn h.2⟩
 | alloc o k ih=>intro Q E p s hn h; exact ih _ (s:={ s with heap:=s.heap.push o }) hn h
 | loadIfAlive a k ih=>intro Q E p s hn h; exact ih _ hn h
 | point l k ih=>intro Q E p s hn h; exact ih () hn h
 | fresh k ih=>intro Q E p s hn h; exact ih _ (s:={ s with toks:=s.toks + 1 }) (Nat.le_succ_of_le hn) h
 | ask k ih=>intro Q E p s hn h; exact ih _ hn h
 | choose src m k ih=>intro Q E p s hn h; exact ⟨h.1,ih _ (s:={ s with drawn:=s.drawn.bump src }) hn h.2⟩
 | os q l k ih=>intro Q E p s hn h; exact ih _ (s:={ s with os:=(Os.step s.os q).1 }) hn h
 | call c hd g l k ih =>
  intro Q E p s hn h
  obtain ⟨r,s',h1,h2⟩:=h
  exact ⟨r,s',h1,ih r (aC hn (p6 h1)) h2⟩
 | handled own k ih=>intro Q E p s hn h; exact ih _ hn h
 | newGen c k ih=>intro Q E p s hn h; exact ih _ (s:={ s with gens:=s.gens.push (.fresh c) }) hn h
 | genState g k ih=>intro Q E p s hn h; obtain ⟨st,h1,h2⟩:=h; exact ⟨st,h1,ih _ hn h2⟩
 | resume g r l k ih=>intro Q E p s hn h; obtain ⟨res,s',h1,h2⟩:=h; exact ⟨res,s',h1,ih res (aC hn (abg h1)) h2⟩
 | stack k ih=>intro Q E p s hn h; exact ih _ hn h
 | thread k ih=>intro Q E p s hn h; exact ih _ hn h
 | _=>intro Q E p s hn h; exact h.elim
theorem cb {γ:Type} {M:Model} {A:Around} {t:Sem γ} {Q:γ->Shared->Prop} {E:Value->Shared->Prop} {s:Shared} (h:wpAny M A t Q E s) :
  wpAny M A t (fun v s'=>Q v s'/\s.toks <= s'.toks) (fun e s'=>E e s'/\s.toks <= s'.toks) s:=
 fun Γ p hΓ=>qM t (Nat.le_refl _) (h Γ p hΓ)
end Mine
namespace Mine
open PySem
noncomputable def ajN:Str ⊕ Int->Value->Bool
 | .inl x,v=>Value.isStrOf x v
 | .inr i,v=>Value.isInt i v
noncomputable def ahE (w:World):Str ⊕ Int->Int
 | .inl x=>hashStr w x
 | .inr i=>hashInt i
noncomputable def j6 (prog:Program) (w:World):KeyKind prog w (Str ⊕ Int) where
 is:=ajN
 hash:=ahE w
 inj:=fun v a b ha hb=>by
  cases a with
  | inl x =>
   obtain ⟨t,rfl⟩:=Value.isStrOf_shape (show Value.isStrOf x v=true from ha)
   cases b with
   | inl y=>exact congrArg Sum.inl (Value.isStrOf_inj (.str x t) x y ha hb)
   | inr j=>cases hb
  | inr i =>
   obtain ⟨t,rfl⟩:=Value.isInt_shape (show Value.isInt i v=true from ha)
   cases b with
   | inl y=>cases hb
   | inr j=>exact congrArg Sum.inr (Value.isInt_inj (.int i t) i j ha hb)
 byValue:=fun k v h=>by
  cases k with
  | inl x=>obtain ⟨t,rfl⟩:=Value.isStrOf_shape (show Value.isStrOf x v=true from h); rfl
  | inr i=>obtain ⟨t,rfl⟩:=Value.isInt_shape (show Value.isInt i v=true from h); rfl
 pyHash:=fun {A E s k v Q} hv h=>by
  cases k with
  | inl x=>obtain ⟨t,rfl⟩:=Value.isStrOf_shape (show Value.isStrOf x v=true from hv); exact wpAny_pyHash_str h
  | inr i=>obtain ⟨t,rfl⟩:=Value.isInt_shape (show Value.isInt i v=true from hv); exact wpAny_pyHash_int h
 eqBool:=fun {A E s a b u v Q} hu hv h=>by
  cases a with
  | inl x =>
   obtain ⟨t,rfl⟩:=Value.isStrOf_shape (show Value.isStrOf x u=true from hu)
   cases b with
   | inl y =>
    obtain ⟨t',rfl⟩:=Value.isStrOf_shape (show Value.isStrOf y v=true from hv)
    refine wpAny_eqBool_str ?_
    have e:decide (Sum.inl (β:=Int) x=Sum.inl y)=decide (x=y):=by simp
    rw [<- e]; exact h
   | inr j =>
    obtain ⟨t',rfl⟩:=Value.isInt_shape (show Value.isInt j v=true from hv)
    exact SeqAt.EqAt.str_int x t j t' prog w E Q (by simpa using h)
  | inr i =>
   obtain ⟨t,rfl⟩:=Value.isInt_shape (show Value.isInt i u=true from hu)
   cases b with
   | inl y =>
    obtain ⟨t',rfl⟩:=Value.isStrOf_shape (show Value.isStrOf y v=true from hv)
    exact SeqAt.EqAt.int_str i t y t' prog w E Q (by simpa using h)
   | inr j =>
    obtain ⟨t',rfl⟩:=Value.isInt_shape (show Value.isInt j v=true from hv)
    refine wpAny_eqBool_int ?_
    have e:decide (Sum.inr (α:=Str) i=Sum.inr j)=(i == j):=by
     by_cases q:i=j <;> simp [q]
    rw [<- e]; exact h
 «strs»:=fun k x t v h=>by
  cases k with
  | inl y=>exact (strKind prog w).«strs» y x t v h
  | inr i=>cases h
end Mine
namespace Mine
open PySem
structure Bs where
 h:Heap
 fr:List Addr
 prog:Program
 w:World
noncomputable abbrev Bs.get? (b:Bs) (a:Addr):Option Obj:=b.h.get? a
structure Kt where
 hb:Bs
 mg:Str->Option Value
 mb:Str->Option Value
 pos:Bool
 ph:Bool
noncomputable abbrev Kt.prog (K:Kt):Program:=K.hb.prog
noncomputable abbrev Kt.w (K:Kt):World:=K.hb.w
noncomputable def Kt.Tk (K:Kt) (s:Shared):Prop:=K.pos=true->0 < s.toks
theorem Kt.Tk.up {K:Kt} {s s':Shared} (tk:K.Tk s) (tl:s.toks <= s'.toks):K.Tk s':=fun q=>Nat.lt_of_lt_of_le (tk q) tl
theorem eJ {γ:Type} {K:Kt} {M:Model} {A:Around} {t:Sem γ} {Q:γ->Shared->Prop} {E:Value->Shared->Prop} {s:Shared} (tk:K.Tk s)
  (h:wpAny M A t (fun v s'=>K.Tk s'->Q v s') (fun e s'=>K.Tk s'->E e s') s):wpAny M A t Q E s:=
 wpAny_mono (cb h) (fun zz zz q=>q.1 (tk.up q.2)) fun zz zz q=>q.1 (tk.up q.2)
structure Kt.Ok (K:Kt):Prop where
 g:K.hb.h.Ns mainGlobals K.mg
 b:K.hb.h.Ns builtinsNs K.mb
 nolimit:K.hb.h.NoLimit
 mods:∃ o,K.hb.get? sysModules=some o
noncomputable def OR (B:Bs) (h:Heap) (α:AL):MO->Addr->Prop
 | .lst xs,a=>∃ am n,h.get? a=some { cls:=.type "list",data:=.seq (List.toArray am) n }/\aO h α xs am
 | .ds es,a=>∃ kvs,h.DictOf (strKind B.prog B.w) a kvs/\kvs.map (·.1)=es.map (·.1)/\aO h α (es.map (·.2)) (kvs.map (·.2))
 | .dp es,a=>∃ xs,h.DictOfH (tupleKind (j6 B.prog B.w)) a xs/\xs.map (·.1)=es.map (fun e=>[.inl e.1.1,.inr e.1.2])/\(∀ x ∈ xs,x.2.1 ∉ α.all)/\aO h α (es.map (·.2)) (xs.map (·.2.2))
 | .ns fs,a=>∃ m,h.Ns1 a m/\(∀ n v,ah n fs=some v->∃ u,m n=some u/\VR h α v u)/\(∀ n,ah n fs=none->m n=none)
 | .tp,a=>∃ x y,h.get? a=some { cls:=.type "tuple",data:=.seq #[x,y] }
 | .no,_=>False
theorem OR.live {B:Bs} {h:Heap} {α:AL} {m:MO} {a:Addr} (o:OR B h α m a):∃ o,h.get? a=some o:=by
 cases m with
 | lst xs=>obtain ⟨am,n,e,_⟩:=o; exact ⟨_,e⟩
 | ds es=>obtain ⟨kvs,⟨o,_,_,e,_⟩,_⟩:=o; exact ⟨o,e⟩
 | dp es=>obtain ⟨kvs,⟨o,_,_,e,_⟩,_⟩:=o; exact ⟨o,e⟩
 | ns fs=>obtain ⟨m,⟨o,_,_,e,_⟩,_⟩:=o; exact ⟨o,e⟩
 | tp=>obtain ⟨x,y,e⟩:=o; exact ⟨_,e⟩
 | no=>exact o.elim
theorem OR.map {B:Bs} {h h':Heap} {α α':AL} {m:MO} {a:Addr} (v:∀ p u,VR h α p u->VR h' α' p u) (k:h'.get? a=h.get? a)
  (kk:∀ b o,b ∉ α.all->h.get? b=some o->j1 o->h'.get? b=some o/\b ∉ α'.all) (o:OR B h α m a):OR B h' α' m a:=by
 have vs:∀ {p:List PV} {u:List Value},aO h α p u->aO h' α' p u:=fun r=>⟨r.1,fun i x y e1 e2=>v _ _ (r.2 i x y e1 e2)⟩
 cases m with
 | lst xs=>obtain ⟨am,n,e,w⟩:=o; exact ⟨am,n,k.trans e,vs w⟩
 | ds es =>
  obtain ⟨kvs,⟨o,es',ep,e,r⟩,q,w⟩:=o
  exact ⟨kvs,⟨o,es',ep,k.trans e,r⟩,q,vs w⟩
 | dp es =>
  obtain ⟨xs,⟨o,es',ep,e,r1,r2,r3,r4,r5⟩,q,hn,w⟩:=o
  have key:∀ x ∈ xs,IsTupleKey (j6 B.prog B.w) h' x.1 x.2.1/\x.2.1 ∉ α'.all:=fun x hx=>by
   obtain ⟨o,am,n,e1,e2,e3,e4⟩:=r4 x hx
   obtain ⟨z1,z2⟩:=kk _ o (hn x hx) e1 (.inl ⟨_,_,e3⟩)
   exact ⟨⟨o,am,n,z1,e2,e3,e4⟩,z2⟩
  exact ⟨xs,⟨o,es',ep,k.trans e,r1,r2,r3,fun x hx=>(key x hx).1,r5⟩,q,fun x hx=>(key x hx).2,vs w⟩
 | ns fs =>
  obtain ⟨m,⟨o,es',ep,e,r⟩,q1,q2⟩:=o
  exact ⟨m,⟨o,es',ep,k.trans e,r⟩,fun n v' hn=>let ⟨u,z1,z2⟩:=q1 n v' hn; ⟨u,z1,v _ _ z2⟩,q2⟩
 | tp=>obtain ⟨x,y,e⟩:=o; exact ⟨x,y,k.trans e⟩
 | no=>exact o.elim
theorem OR.ext {F α h α' h'} {B:Bs} {m:MO} {a:Addr} (x:aD F α h α' h') (k:h'.get? a=h.get? a) (o:OR B h α m a):OR B h' α' m a:=
 o.map (fun zz zz r=>r.ext x) k fun b o hb e hs=>⟨x.seqs b o (AL.not_ix hb) e hs,x.notAll hb e⟩
structure R (hb:Bs) (h:Heap) (σ:ac) (α:AL):Prop where
 base:∀ b o,hb.get? b=some o->h.get? b=some o
 fresh:∀ a ∈ α.ix,hb.get? a=none
 nodup:α.ix.Nodup
 len:σ.length=α.ix.length
 hidden:∀ a ∈ α.hid,a ∉ α.ix/\∃ o,h.get? a=some o
 obj:∀ (i:Nat) (m:MO) (a:Addr),σ[i]?=some m->α.ix[i]?=some a->OR hb h α m a
 hfr:∀ a ∈ α.hid,hb.get? a=none
 fe:α.fr=hb.fr
 frs:∀ a ∈ hb.fr,hb.get? a=none/\∃ o,h.get? a=some o/\dl o
 frNot:∀ a ∈ hb.fr,a ∉ α.ix
structure Sm (s s':Shared):Prop where
 gens:s'.gens=s.gens
 os:s'.os=s.os
theorem Sm.refl (s:Shared):Sm s s:=⟨rfl,rfl⟩
theorem Sm.trans {a b c:Shared} (x:Sm a b) (y:Sm b c):Sm a c:=⟨y.gens.trans x.gens,y.os.trans x.os⟩
noncomputable def Up (fr:List Addr) (h h':Heap):Prop:=∀ b o,h.get? b=some o->h'.get? b=some o\/(b ∈ fr/\∃ sl,h'.get? b=some { o with slots:=sl })
theorem Up.keeps {fr:List Addr} {h h':Heap} (k:∀ b o,h.get? b=some o->h'.get? b=some o):Up fr h h':=fun b o e=>.inl (k b o e)
theorem Up.trans {fr:List Addr} {h h' h'':Heap} (x:Up fr h h') (y:Up fr h' h''):Up fr h h'':=fun b o e=>by
 rcases x b o e with x | ⟨m,sl,x⟩
 ·exact y b o x
 ·rcases y b _ x with y | ⟨_,sl',y⟩
  ·exact .inr ⟨m,sl,y⟩
  ·exact .inr ⟨m,sl',y⟩
inductive acw (aP h:Heap) (a:Addr) (noted:Bool) (x:Value):Prop
 | inl (hn:noted=false) (e:x=.none):acw aP h a noted x
 | inr (T:Addr) (oT:Obj) (ts:Array Value) (e:x=.ref T) (h0:aP.get? T=none) (hn:T ≠ a) (ht:h.get? T=some oT) (hc:oT.cls=.type "traceback") (hd:oT.data=.fields ts) (h3:3 < ts.size):acw aP h a noted x
inductive im (ph:Bool) (aP h:Heap) (c:Nat) (a:Addr) (noted:Bool):Prop
 | mk (new:aP.get? a=none) (oe:Obj) (vs:Array Value) (x:Value) (he:h.get? a=some oe) (hc:oe.cls=.ref c) (hd:oe.data=.fields vs) (h1:vs[1]?=some x) (tb:acw aP h a noted x) (cx:∃ y,vs[2]?=some y/\(ph=false->y=.none)):im ph aP h c a noted
theorem im.new {ph:Bool} {aP h:Heap} {c:Nat} {a:Addr} {noted:Bool} (x:im ph aP h c a noted):aP.get? a=none:=by cases x; assumption
inductive FX (K:Kt) (s:Shared) (α:AL) (i:Nat) (σ:ac) (noted:Bool) (e:Value) (s':Shared):Prop where
 | mk (a:Addr) (aP:Heap) (α':AL) (he:e=.ref a) (x:aD [] α s.heap α' aP) (r:R K.hb aP σ α') (u:Up K.hb.fr aP s'.heap) (ea:im K.ph aP s'.heap i a noted) (m:Sm s s'):FX K s α i σ noted e s'
section
variable (K:Kt) {β γ:Type} (Rel:Heap->AL->β->γ->Prop)
inductive a6 (c:af β) (s:Shared) (α:AL) (y:γ) (s':Shared):Prop where
 | mk (b:β) (σ':ac) (α':AL) (h:c=.ok b σ') (x:aD [] α s.heap α' s'.heap) (r:R K.hb s'.heap σ' α') (v:Rel s'.heap α' b y) (m:Sm s s'):a6 c s α y s'
inductive aY (_A:Around) (c:af β) (s:Shared) (α:AL) (e:Value) (s':Shared):Prop where
 | mk (i:Nat) (σ':ac) (h:c=.exc i σ') (fx:∃ nt,FX K s α i σ' nt e s'):aY _A c s α e s'
noncomputable def Runs (A:Around) (t:Sem γ) (c:af β) (s:Shared) (α:AL):Prop:=
 c ≠ .stuck->K.Tk s->wpAny (model K.prog K.w) A t (a6 K Rel c s α) (aY K A c s α) s
end
noncomputable def dI {β:Type} (_h:Heap) (_α:AL) (b y:β):Prop:=y=b
theorem FX.lift {K:Kt} {s s₁:Shared} {α α₁:AL} {i:Nat} {σ:ac} {nt:Bool} {e:Value} {s':Shared} (x:aD [] α s.heap α₁ s₁.heap) (m:Sm s s₁) (f:FX K s₁ α₁ i σ nt e s'):FX K s α i σ nt e s':=by
 obtain ⟨a,aP,α',e,x',r,u,ea,m'⟩:=f
 exact ⟨a,aP,α',e,x.trans x',r,u,ea,m.trans m'⟩
theorem aY.lift {K:Kt} {A:Around} {β:Type} {s:Shared} {α:AL} {c:af β} {s₁:Shared} {α₁:AL} {y:Value} {s':Shared} (x:aD [] α s.heap α₁ s₁.heap) (m:Sm s s₁) (p:aY K A c s₁ α₁ y s'):aY K A c s α y s':=by
 obtain ⟨i,σ',e,nt,fx⟩:=p
 exact ⟨i,σ',e,nt,fx.lift x m⟩
section
variable {K:Kt} {A:Around} {β γ rq γ':Type} {Rel:Heap->AL->β->γ->Prop} {Rel':Heap->AL->rq->γ'->Prop} {s:Shared} {α:AL}
theorem Runs.bind {t:Sem γ} {k:γ->Sem γ'} {c:af β} {f:β->ac->af rq} (H:Runs K Rel A t c s α)
  (N:∀ b σ' α' y s',c=.ok b σ'->aD [] α s.heap α' s'.heap->R K.hb s'.heap σ' α'->Rel s'.heap α' b y->Sm s s'->Runs K Rel' A (k y) (f b σ') s' α') :
  Runs K Rel' A (t >>= k) (c.bind f) s α:=by
 intro hc tk
 have h1:c ≠ .stuck:=by rintro rfl; exact hc rfl
 refine wpAny_bind (wpAny_mono (cb (H h1 tk)) (fun y s' hp=>?_) fun e s' hx=>?_)
 ·obtain ⟨⟨b,σ',α',rfl,x,r,v,m⟩,tl⟩:=hp
  refine wpAny_mono (N b σ' α' y s' rfl x r v m hc (Kt.Tk.up tk tl)) (fun y' s'' hp'=>?_) fun e s'' hx=>?_
  ·obtain ⟨b',ez,iw,e',x',r',v',m'⟩:=hp'
   exact ⟨b',ez,iw,e',x.trans x',r',v',m.trans m'⟩
  ·exact hx.lift x m
 ·obtain ⟨⟨i,σ',rfl,fx⟩,_⟩:=hx
  exact ⟨i,σ',rfl,fx⟩
theorem Runs.pure {y:γ} {b:β} {σ:ac} (r:R K.hb s.heap σ α) (v:Rel s.heap α b y):Runs K Rel A (pure y) (.ok b σ) s α:=
 fun zz zz=>wpAny_pure ⟨b,σ,α,rfl,.refl,r,v,.refl s⟩
theorem Runs.standAt {pos:Pos} {t:Sem γ} {c:af β} (H:Runs K Rel A t c s α):Runs K Rel A (do standAt pos; t) c s α:=
 fun h tk=>wpAny_bind (wpAny_standAt (H h tk))
theorem Runs.holding {vs:List Value} {t:Sem γ} {c:af β} (H:Runs K Rel A t c s α):Runs K Rel A (holding vs t) c s α:=
 fun h tk=>wpAny_holding (H h tk)
theorem Runs.step {t:Sem γ} {b:β} {σ:ac} (r:R K.hb s.heap σ α)
  (H:∀ (Q:γ->Shared->Prop) (E:Value->Shared->Prop),(∀ y s',(∀ b o,s.heap.get? b=some o->s'.heap.get? b=some o)->R K.hb s'.heap σ α->Rel s'.heap α b y->Sm s s'->Q y s')->wpAny (model K.prog K.w) A t Q E s) :
  Runs K Rel A t (.ok b σ) s α:=
 fun zz zz=>H _ _ fun y s' k r' v m=>⟨b,σ,α,rfl,.keeps k,r',v,m⟩
end
theorem R.live {hb h σ α} (r:R hb h σ α) {a:Addr} (ha:a ∈ α.ix):∃ o,h.get? a=some o:=by
 obtain ⟨i,hi,rfl⟩:=List.mem_iff_getElem.mp ha
 have hs:i < σ.length:=by rw [r.len]; exact hi
 exact (r.obj i σ[i] α.ix[i] (by simp [hs]) (by simp [hi])).live
theorem R.keeps {hb h h' σ α} (r:R hb h σ α) (k:∀ b o,h.get? b=some o->h'.get? b=some o):R hb h' σ α:=
 ⟨fun b o e=>k b o (r.base b o e),r.fresh,r.nodup,r.len,fun a ha=>⟨(r.hidden a ha).1,let ⟨o,e⟩:=(r.hidden a ha).2; ⟨o,k a o e⟩⟩,fun i m a e1 e2=>(r.obj i m a e1 e2).ext (.keeps (F:=[]) k) (by
  obtain ⟨o,e⟩:=r.live (List.mem_of_getElem? e2)
  rw [e,k a o e]),r.hfr,r.fe,fun a ha=>⟨(r.frs a ha).1,let ⟨o,e,d⟩:=(r.frs a ha).2; ⟨o,k a o e,d⟩⟩,r.frNot⟩
theorem R.liveAll {hb h σ α} (r:R hb h σ α) {a:Addr} (ha:a ∈ α.all):∃ o,h.get? a=some o:=by
 rcases List.mem_append.mp ha with q | q
 ·exact r.live q
 ·exact (r.hidden a q).2
theorem R.upExt {hb h h' σ α} (r:R hb h σ α) (u:Up hb.fr h h'):aD [] α h α h':=by
 refine ⟨rfl,⟨[],by simp,fun zz hx=>by simp at hx⟩,fun b o hb e hs=>?_,fun b o hb zz e=>?_,fun b o zz e=>?_,rfl⟩
 ·rcases u b o e with u | ⟨m,_⟩
  ·exact u
  ·obtain ⟨_,o',e',d⟩:=r.frs b m
   rw [e] at e'; obtain rfl:=oi e'
   exact absurd hs d.notSolid
 ·rcases u b o e with u | ⟨m,sl,u⟩
  ·exact .inl u
  ·obtain ⟨_,o',e',d⟩:=r.frs b m
   rw [e] at e'; obtain rfl:=oi e'
   exact .inr ⟨r.fe ▸ m,d,sl,u⟩
 ·rcases u b o e with u | ⟨m,sl,u⟩
  ·exact ⟨_,u⟩
  ·exact ⟨_,u⟩
theorem R.up {hb h h' σ α} (r:R hb h σ α) (u:Up hb.fr h h'):R hb h' σ α:=by
 have x:=r.upExt u
 refine ⟨fun b o e=>?_,r.fresh,r.nodup,r.len,fun a ha=>⟨(r.hidden a ha).1,?_⟩,fun i m a e1 e2=>?_,r.hfr,r.fe,fun a ha=>⟨(r.frs a ha).1,?_⟩,r.frNot⟩
 ·rcases u b o (r.base b o e) with u | ⟨m,_⟩
  ·exact u
  ·rw [(r.frs b m).1] at e; contradiction
 ·obtain ⟨o,e⟩:=(r.hidden a ha).2
  exact x.alive a o (by simp) e
 ·refine (r.obj i m a e1 e2).ext x ?_
  obtain ⟨o,e⟩:=r.live (List.mem_of_getElem? e2)
  rcases u a o e with u | ⟨m,_⟩
  ·rw [e,u]
  ·exact absurd (List.mem_of_getElem? e2) (r.frNot a m)
 ·obtain ⟨_,o,e,d⟩:=r.frs a ha
  rcases u a o e with u | ⟨m,sl,u⟩
  ·exact ⟨o,u,d⟩
  ·exact ⟨_,u,d⟩
end Mine
namespace Mine
open PySem PyProof.Rows
noncomputable def AL.add (α:AL) (D:Addr):AL:=⟨α.ix++[D],α.hid,α.fr⟩
theorem aD.add {α:AL} {h h':Heap} {D:Addr} (k:∀ b o,h.get? b=some o->h'.get? b=some o) (hD:h.get? D=none):aD [] α h (α.add D) h':=
 ⟨rfl,⟨[D],rfl,fun y hy=>by simp at hy; rw [hy]; exact ⟨hD,by simp⟩⟩,fun b o zz e zz=>k b o e,fun b o zz zz e=>.inl (k b o e),fun b o zz e=>⟨o,k b o e⟩,rfl⟩
theorem R.add {hb h h' σ α} {D:Addr} {m:MO} (r:R hb h σ α) (k:∀ b o,h.get? b=some o->h'.get? b=some o) (hD:h.get? D=none)
  (o:OR hb h' (α.add D) m D):R hb h' (σ++[m]) (α.add D)/\aD [] α h (α.add D) h':=by
 have x:aD [] α h (α.add D) h':=.add k hD
 have hDa:D ∉ α.all:=fun hm=>by obtain ⟨o,e⟩:=r.liveAll hm; rw [hD] at e; contradiction
 refine ⟨⟨fun b o e=>k b o (r.base b o e),fun a ha=>?_,?_,by simp [AL.add,r.len],fun a ha=>?_,fun i m' a e1 e2=>?_,r.hfr,r.fe,fun a ha=>⟨(r.frs a ha).1,let ⟨o,e,d⟩:=(r.frs a ha).2; ⟨o,k a o e,d⟩⟩,fun a ha=>?_⟩,x⟩
 ·rcases List.mem_append.mp ha with q | q
  ·exact r.fresh a q
  ·simp at q; subst q
   cases hq:hb.get? a with
   | none=>rfl
   | some o=>rw [r.base _ _ hq] at hD; contradiction
 ·show (α.ix++[D]).Nodup
  rw [List.nodup_append]
  exact ⟨r.nodup,by simp,fun a ha b hb=>by simp at hb; subst hb; rintro rfl; exact AL.not_ix hDa ha⟩
 ·have ha':a ∈ α.hid:=ha
  refine ⟨fun q=>?_,let ⟨o,e⟩:=(r.hidden a ha').2; ⟨o,k a o e⟩⟩
  rcases List.mem_append.mp q with q | q
  ·exact (r.hidden a ha').1 q
  ·simp at q; subst q; exact hDa (List.mem_append_right _ ha')
 ·have e2':(α.ix++[D])[i]?=some a:=e2
  by_cases hi:i < σ.length
  ·rw [List.getElem?_append_left hi] at e1
   rw [List.getElem?_append_left (by rw [<- r.len]; exact hi)] at e2'
   have:=r.obj i m' a e1 e2'
   have hk:h'.get? a=h.get? a:=by
    obtain ⟨o,e⟩:=r.live (List.mem_of_getElem? e2')
    rw [e,k a o e]
   exact this.ext x hk
  ·have e3:i=σ.length:=by
    have:=(eY e1).1
    simp at this; (grind)
   subst e3
   rw [List.getElem?_append_right (Nat.le_refl _)] at e1
   rw [List.getElem?_append_right (by rw [r.len]; exact Nat.le_refl _)] at e2'
   simp [r.len] at e1 e2'
   subst e1 e2'
   exact o
 ·intro q
  rcases List.mem_append.mp q with q | q
  ·exact r.frNot a ha q
  ·simp at q; subst q
   obtain ⟨_,o,e,_⟩:=r.frs a ha
   rw [hD] at e; contradiction
section
variable {K:Kt} {A:Around} {s:Shared} {α:AL} {σ:ac}
theorem cq {n:Nat} (h:n <= au):n <= sizeLine:=aC h (by decide)
theorem wZ {xs:List PV} {vs:List Value} {fz:Bool} (r:R K.hb s.heap σ α) (v:aO s.heap α xs vs) :
  Runs K VR A (newList vs) (cg fz xs σ) s α:=by
 intro hc tk
 unfold cg at hc ⊢
 by_cases hl:xs.length <= au
 ·rw [if_pos hl]
  have hD:s.heap.get? s.heap.objs.size=none:=by
   cases hq:s.heap.get? s.heap.objs.size with
   | none=>rfl
   | some o=>exact absurd (Heap.lt_size hq) (Nat.lt_irrefl _)
  have k:∀ b o,s.heap.get? b=some o->(s.heap.push { cls:=.type "list",data:=.seq vs.toArray }).get? b=some o:=fun b o e=>Heap.get?_push_of_some _ e
  refine wpAny_newObj_type ?_ (by show vs.toArray.size <= sizeLine; rw [List.size_toArray,<- v.1]; exact cq hl)
  cases fz with
  | true =>
   refine ⟨_,_,_,rfl,.keeps k,r.keeps k,?_,⟨rfl,rfl⟩⟩
   refine VR.flI (n:=0) (Heap.get?_push_size _ rfl) (fun hm=>?_) (v.ext (.keeps (F:=[]) k))
   obtain ⟨o,e⟩:=r.liveAll hm; rw [hD] at e; contradiction
  | false =>
   obtain ⟨r',x⟩:=r.add (D:=s.heap.objs.size) (m:=.lst xs) k hD ⟨vs,0,Heap.get?_push_size _ rfl,v.ext (.add k hD)⟩
   refine ⟨_,_,_,rfl,x,r',.ref ?_,⟨rfl,rfl⟩⟩
   rw [r.len]; simp [AL.add]
 ·rw [if_neg hl] at hc; exact absurd rfl hc
theorem vk {xs:List PV} {vs:List Value} (r:R K.hb s.heap σ α) (v:aO s.heap α xs vs) :
  Runs K VR A (newTuple vs) (if xs.length <= au then .ok (.tup xs) σ else .stuck) s α:=by
 intro hc tk
 by_cases hl:xs.length <= au
 ·rw [if_pos hl]
  have hD:s.heap.get? s.heap.objs.size=none:=by
   cases hq:s.heap.get? s.heap.objs.size with
   | none=>rfl
   | some o=>exact absurd (Heap.lt_size hq) (Nat.lt_irrefl _)
  have k:∀ b o,s.heap.get? b=some o->(s.heap.push { cls:=.type "tuple",data:=.seq vs.toArray }).get? b=some o:=fun b o e=>Heap.get?_push_of_some _ e
  refine wpAny_newObj_type ?_ (by show vs.toArray.size <= sizeLine; rw [List.size_toArray,<- v.1]; exact cq hl)
  refine ⟨_,_,_,rfl,.keeps k,r.keeps k,?_,⟨rfl,rfl⟩⟩
  refine VR.tupI (n:=0) (Heap.get?_push_size _ rfl) (fun hm=>?_) (v.ext (.keeps (F:=[]) k))
  obtain ⟨o,e⟩:=r.liveAll hm; rw [hD] at e; contradiction
 ·rw [if_neg hl] at hc; exact absurd rfl hc
end
end Mine
namespace Mine
open PySem PyProof.Rows
theorem jU {h:Heap} {n:Nat} {f:PV->Option PyData}:∀ {xs:List PV} {vs:List Value} {ds:List PyData},xs.mapM f=some ds->xs.length=vs.length ->
  (∀ (i:Nat) (x:PV) (v:Value) (d:PyData),xs[i]?=some x->vs[i]?=some v->f x=some d->∃ as,Reads h v d as/\d.canLay0=true/\d.depth <= n) ->
  ∃ as,ReadsAll h vs ds as/\PyData.canLayAll0 ds=true/\PyData.depthAll ds <= n:=by
 intro xs
 induction xs with
 | nil =>
  intro vs ds e hl _
  obtain rfl:=List.eq_nil_of_length_eq_zero hl.symm
  obtain rfl:=oi e
  exact ⟨[],.nil,rfl,Nat.zero_le _⟩
 | cons x xs ih =>
  intro vs ds e hl H
  cases vs with
  | nil=>exact nomatch hl
  | cons v vs =>
   rw [List.mapM_cons] at e
   cases hx:f x with
   | none=>rw [hx] at e; contradiction
   | some d =>
    rw [hx] at e
    cases hr:xs.mapM f with
    | none=>rw [hr] at e; contradiction
    | some ds' =>
     rw [hr] at e
     obtain rfl:=oi e
     obtain ⟨as,r1,c1,d1⟩:=H 0 x v d rfl rfl hx
     obtain ⟨bs,r2,c2,d2⟩:=ih hr (Nat.succ.inj hl) fun i y w d' e1 e2 e3=>H (i + 1) y w d' e1 e2 e3
     exact ⟨as++bs,.cons r1 r2,Bool.and_eq_true_iff.mpr ⟨c1,c2⟩,Nat.max_le.mpr ⟨d1,d2⟩⟩
theorem iA {hb:Bs} {h:Heap} {σ:ac} {α:AL} (r:R hb h σ α):∀ (n:Nat) (p:PV) (v:Value) (d:PyData),VR h α p v->toD n σ p=some d->∃ as,Reads h v d as/\d.canLay0=true/\d.depth <= n:=by
 intro n
 induction n with
 | zero=>intro p v d _ e; simp [toD] at e
 | succ n ih =>
  intro p v d hv e
  cases p with
  | exc c=>simp [toD] at e
  | inst c i=>simp [toD] at e
  | none=>obtain rfl:=hv.noneE; simp [toD] at e; subst e; exact ⟨[],.none,rfl,by simp [PyData.depth]⟩
  | bool b=>obtain rfl:=hv.boolE; simp [toD] at e; subst e; exact ⟨[],.bool _,rfl,by simp [PyData.depth]⟩
  | int i=>obtain ⟨_,rfl⟩:=hv.intE; simp [toD] at e; subst e; exact ⟨[],.int _ _,rfl,by simp [PyData.depth]⟩
  | str x=>obtain ⟨_,rfl,hs⟩:=hv.strE; simp [toD] at e; subst e; exact ⟨[],.str _ _,hs,by simp [PyData.depth]⟩
  | tup xs =>
   obtain ⟨a,am,k,rfl,e1,_,vs⟩:=hv.tupE
   simp only [toD] at e
   cases hm:xs.mapM (toD n σ) with
   | none=>rw [hm] at e; contradiction
   | some ds =>
    rw [hm] at e; obtain rfl:=oi e
    obtain ⟨as,r1,c1,d1⟩:=jU (n:=n) hm vs.1 fun i x v d e1 e2 e3=>ih x v d (vs.2 i x v e1 e2) e3
    exact ⟨as,.tuple e1 rfl rfl (by simpa using r1),by simpa [PyData.canLay0] using c1,by simp only [PyData.depth]; (exact Nat.lt_succ_of_le (by assumption))⟩
  | fl xs =>
   obtain ⟨a,am,k,rfl,e1,_,vs⟩:=hv.flE
   simp only [toD] at e
   cases hm:xs.mapM (toD n σ) with
   | none=>rw [hm] at e; contradiction
   | some ds =>
    rw [hm] at e; obtain rfl:=oi e
    obtain ⟨as,r1,c1,d1⟩:=jU (n:=n) hm vs.1 fun i x v d e1 e2 e3=>ih x v d (vs.2 i x v e1 e2) e3
    exact ⟨a::as,.list e1 rfl rfl (by simpa using r1),by simpa [PyData.canLay0] using c1,by simp only [PyData.depth]; (exact Nat.lt_succ_of_le (by assumption))⟩
  | ref i =>
   obtain ⟨a,rfl,ea⟩:=hv.refE
   simp only [toD] at e
   cases hs:σ[i]? with
   | none=>rw [hs] at e; contradiction
   | some m =>
    rw [hs] at e
    cases m with
    | lst xs =>
     simp only at e
     cases hm:xs.mapM (toD n σ) with
     | none=>rw [hm] at e; contradiction
     | some ds =>
      rw [hm] at e; obtain rfl:=oi e
      obtain ⟨am,k,e1,vs⟩:=r.obj i _ a hs ea
      obtain ⟨as,r1,c1,d1⟩:=jU (n:=n) hm vs.1 fun i x v d e1 e2 e3=>ih x v d (vs.2 i x v e1 e2) e3
      exact ⟨a::as,.list e1 rfl rfl (by simpa using r1),by simpa [PyData.canLay0] using c1,by simp only [PyData.depth]; (exact Nat.lt_succ_of_le (by assumption))⟩
    | _=>simp at e
theorem lj {d:PyData} (c:d.canLay0=true) (h:d.depth <= 16):SeqAt.shaped d=true:=by
 unfold SeqAt.shaped
 rw [c]; simp; (exact aC (by assumption) (by decide))
noncomputable def cr (_h:Heap) (_α:AL) (b:Bool) (y:Value):Prop:=y=.bool b
structure dv (A:Around):Prop where
 depth:A.depth + 200 < recursionLimit
 units:A.units + 200 < cLine
section
variable {K:Kt} {A:Around} {s:Shared} {α:AL} {σ:ac}
theorem aat {a b:PV} {x y:Value} (hA:dv A) (r:R K.hb s.heap σ α) (va:VR s.heap α a x) (vb:VR s.heap α b y) :
  Runs K cr A (compareOp .Eq x y) (af.ofOpt (eqv σ a b) σ) s α:=by
 intro hc tk
 unfold eqv at hc ⊢
 cases h1:toD 16 σ a with
 | none=>rw [h1] at hc; exact absurd rfl hc
 | some d1 =>
  cases h2:toD 16 σ b with
  | none=>rw [h1,h2] at hc; exact absurd rfl hc
  | some d2 =>
   obtain ⟨as,r1,c1,p1⟩:=iA r 16 a x d1 va h1
   obtain ⟨bs,r2,c2,p2⟩:=iA r 16 b y d2 vb h2
   exact eq_dataH r1 r2 (lj c1 p1) (lj c2 p2) (by have:=hA.units; (grind)) ⟨_,σ,α,rfl,.refl,r,rfl,.refl s⟩
theorem aas {a b:PV} {x y:Value} (hA:dv A) (r:R K.hb s.heap σ α) (va:VR s.heap α a x) (vb:VR s.heap α b y) :
  Runs K cr A (compareOp .NotEq x y) (af.ofOpt ((eqv σ a b).map (!·)) σ) s α:=by
 intro hc tk
 unfold eqv at hc ⊢
 cases h1:toD 16 σ a with
 | none=>rw [h1] at hc; exact absurd rfl hc
 | some d1 =>
  cases h2:toD 16 σ b with
  | none=>rw [h1,h2] at hc; exact absurd rfl hc
  | some d2 =>
   obtain ⟨as,r1,c1,p1⟩:=iA r 16 a x d1 va h1
   obtain ⟨bs,r2,c2,p2⟩:=iA r 16 b y d2 vb h2
   exact ne_dataH r1 r2 (lj c1 p1) (lj c2 p2) (by have:=hA.units; (grind)) ⟨_,σ,α,rfl,.refl,r,rfl,.refl s⟩
end
end Mine
namespace Mine
open PySem PyProof.Rows
section
variable {h:Heap} {α:AL} {κ th:Type} [DecidableEq κ] [DecidableEq th] {g:κ->th}
theorem aen {e:κ × PV} {es:List (κ × PV)} {k:κ}:ah k (e::es)=if e.1=k then some e.2 else ah k es:=by
 unfold ah
 rw [List.find?_cons]
 by_cases q:e.1=k
 ·simp [q]
 ·simp [q]
theorem x8 {e:th × Value} {es:List (th × Value)} {k:th}:valueAt (e::es) k=if e.1=k then some e.2 else valueAt es k:=by
 unfold valueAt
 rw [List.find?_cons]
 by_cases q:e.1=k
 ·simp [q]
 ·simp [q]
theorem iQ (hg:∀ a b,g a=g b->a=b):∀ {es:List (κ × PV)} {ys:List (th × Value)},ys.map (·.1)=es.map (fun e=>g e.1)->aO h α (es.map (·.2)) (ys.map (·.2))->∀ k,
  (∀ v,ah k es=some v->∃ u,valueAt ys (g k)=some u/\VR h α v u)/\(ah k es=none->valueAt ys (g k)=none):=by
 intro es
 induction es with
 | nil =>
  intro ys h1 _ k
  obtain rfl:=List.map_eq_nil_iff.mp h1
  exact ⟨fun v e=>(by contradiction),fun zz=>rfl⟩
 | cons e es ih =>
  intro ys h1 h2 k
  cases ys with
  | nil=>exact nomatch h1
  | cons y ys =>
  obtain ⟨h1a,h1b⟩:=List.cons.inj h1
  obtain ⟨u,us,q,v1,v2⟩:=h2.inv_cons
  cases q
  rw [aen,x8,show y.1=g e.1 from h1a]
  by_cases q:e.1=k
  ·rw [if_pos q,if_pos (by rw [q])]
   exact ⟨fun v e'=>(by obtain rfl:=oi e'; exact ⟨_,rfl,v1⟩),fun e'=>(by contradiction)⟩
  ·rw [if_neg q,if_neg (fun z=>q (hg _ _ z))]
   exact ih h1b v2 k
theorem aa7 (hg:∀ a b,g a=g b->a=b):∀ {es:List (κ × PV)} {ys:List (th × Value)},ys.map (·.1)=es.map (fun e=>g e.1)->∀ k,(ys.any fun y=>decide (y.1=g k))=es.any fun e=>decide (e.1=k)
 | [],ys,h1,k=>by
  have:ys=[]:=by simpa using h1
  subst this; rfl
 | e::es,[],h1,k=>by simp at h1
 | e::es,y::ys,h1,k=>by
  simp only [List.map_cons,List.cons.injEq] at h1
  rw [List.any_cons,List.any_cons,aa7 hg h1.2 k,h1.1]
  congr 1
  by_cases q:e.1=k
  ·simp [q]
  ·rw [decide_eq_false q,decide_eq_false (fun z=>q (hg _ _ z))]
theorem ag6 (hg:∀ a b,g a=g b->a=b) {k:κ} {v:PV} {u:Value} (vu:VR h α v u):∀ {es:List (κ × PV)} {ys:List (th × Value)},ys.map (·.1)=es.map (fun e=>g e.1)->aO h α (es.map (·.2)) (ys.map (·.2)) ->
  (ys.map fun y=>if y.1=g k then (y.1,u) else y).map (·.1)=(es.map fun e=>if e.1=k then (e.1,v) else e).map (fun e=>g e.1) ∧
  aO h α ((es.map fun e=>if e.1=k then (e.1,v) else e).map (·.2)) ((ys.map fun y=>if y.1=g k then (y.1,u) else y).map (·.2)):=by
 intro es
 induction es with
 | nil =>
  intro ys h1 h2
  obtain rfl:=List.map_eq_nil_iff.mp h1
  exact ⟨rfl,.nil⟩
 | cons e es ih =>
  intro ys h1 h2
  cases ys with
  | nil=>exact nomatch h1
  | cons y ys =>
  obtain ⟨h1a,h1b⟩:=List.cons.inj h1
  obtain ⟨w,ws,q,v1,v2⟩:=h2.inv_cons
  cases q
  obtain ⟨i1,i2⟩:=ih h1b v2
  rw [List.map_cons,List.map_cons,List.map_cons,List.map_cons,List.map_cons,List.map_cons,i1]
  by_cases q:e.1=k
  ·rw [if_pos q,if_pos (by rw [show y.1=g e.1 from h1a,q])]
   exact ⟨by rw [show y.1=g e.1 from h1a],.cons vu i2⟩
  ·rw [if_neg q,if_neg (fun z=>q (hg _ _ ((show y.1=g e.1 from h1a).symm.trans z)))]
   exact ⟨by rw [show y.1=g e.1 from h1a],.cons v1 i2⟩
theorem zI (hg:∀ a b,g a=g b->a=b) {k:κ} {v:PV} {u:Value} {es:List (κ × PV)} {ys:List (th × Value)} (h1:ys.map (·.1)=es.map (fun e=>g e.1)) (h2:aO h α (es.map (·.2)) (ys.map (·.2))) (vu:VR h α v u) :
  (stored ys (g k) u).map (·.1)=(bQ k v es).map (fun e=>g e.1)/\aO h α ((bQ k v es).map (·.2)) ((stored ys (g k) u).map (·.2)):=by
 unfold stored bQ
 rw [aa7 hg h1 k]
 split
 ·exact ag6 hg vu h1 h2
 ·rw [List.map_append,List.map_append,List.map_append,List.map_append,h1]
  exact ⟨rfl,h2.append (.cons vu .nil)⟩
end
noncomputable def mi (k:Str × Int):List (Str ⊕ Int):=[.inl k.1,.inr k.2]
theorem oI (a b:Str × Int) (h:mi a=mi b):a=b:=by
 unfold mi at h
 simp only [List.cons.injEq,Sum.inl.injEq,Sum.inr.injEq,and_true] at h
 exact Prod.ext h.1 h.2
theorem aht {p:PV} {k:Str × Int} (h:dZ p=some k):p=.tup [.str k.1,.int k.2]:=by
 unfold dZ at h
 split at h
 ·obtain rfl:=oi h; rfl
 ·contradiction
section
variable {K:Kt} {A:Around} {s:Shared} {α:AL} {σ:ac}
theorem ub {p:PV} {k:Str × Int} {x:Value} (h:dZ p=some k) (v:VR s.heap α p x):∃ a,x=.ref a/\IsTupleKey (j6 K.prog K.w) s.heap (mi k) a/\a ∉ α.all:=by
 rw [aht h] at v
 obtain ⟨a,am,n,rfl,e,hn,w⟩:=v.tupE
 obtain ⟨u1,us,rfl,w1,w2⟩:=w.inv_cons
 obtain ⟨u2,us,rfl,w3,w4⟩:=w2.inv_cons
 have:us=[]:=List.eq_nil_of_length_eq_zero w4.1.symm
 subst this
 cases w1 with | str _ t1 _ =>
 cases w3 with | int _ t2 =>
 refine ⟨a,rfl,⟨_,_,n,e,rfl,rfl,?_⟩,hn⟩
 refine .cons ?_ (.cons ?_ .nil)
 ·show Value.isStrOf k.1 (.str k.1 t1)=true
  simp [Value.isStrOf]
 ·show Value.isInt k.2 (.int k.2 t2)=true
  simp [Value.isInt]
theorem oA (hK:K.Ok) (r:R K.hb s.heap σ α) {a:Addr} (ha:a ∈ α.ix):(a == sysModules)=false:=by
 obtain ⟨o,e⟩:=hK.mods
 rw [beq_eq_false_iff_ne]
 rintro rfl
 rw [r.fresh _ ha] at e; contradiction
theorem tN (hA:dv A):(tupleKind (j6 K.prog K.w)).room A.in1:=by
 have:=hA.units
 show A.units + 1 < cLine
 (grind)
theorem rf {i:Nat} {a:Addr} {es:List ((Str × Int) × PV)} (r:R K.hb s.heap σ α) (hs:σ[i]?=some (.dp es)) (ea:α.ix[i]?=some a) :
  ∃ xs,s.heap.DictOfH (tupleKind (j6 K.prog K.w)) a xs/\(kvsOf xs).map (·.1)=es.map (fun e=>mi e.1)/\(∀ x ∈ xs,x.2.1 ∉ α.all)/\aO s.heap α (es.map (·.2)) ((kvsOf xs).map (·.2)):=by
 obtain ⟨xs,h1,h2,h3,h4⟩:=r.obj i _ a hs ea
 refine ⟨xs,h1,?_,h3,?_⟩
 ·rw [kvsOf,List.map_map]; exact h2
 ·rw [kvsOf,List.map_map]; exact h4
theorem rd {i:Nat} {a:Addr} {es:List (Str × PV)} (r:R K.hb s.heap σ α) (hs:σ[i]?=some (.ds es)) (ea:α.ix[i]?=some a) :
  ∃ kvs,s.heap.DictOf (strKind K.prog K.w) a kvs/\kvs.map (·.1)=es.map (fun e=>id e.1)/\aO s.heap α (es.map (·.2)) (kvs.map (·.2)):=r.obj i _ a hs ea
theorem p3 {k:Str} {t:Tok}:(strKind K.prog K.w).is k (.str k t)=true:=by
 show Value.isStrOf k (.str k t)=true
 simp [Value.isStrOf]
theorem ajP {i:Nat} {a:Addr} {es:List ((Str × Int) × PV)} {p:PV} {k:Str × Int} {x:Value} (hK:K.Ok) (hA:dv A) (r:R K.hb s.heap σ α) (hs:σ[i]?=some (.dp es)) (ea:α.ix[i]?=some a) (hk:dZ p=some k) (vp:VR s.heap α p x) :
  Runs K cr A (compareOp .In x (.ref a)) (.ok (ah k es).isSome σ) s α/\Runs K cr A (compareOp .NotIn x (.ref a)) (.ok (!(ah k es).isSome) σ) s α:=by
 obtain ⟨xs,h1,h2,_,h4⟩:=rf r hs ea
 obtain ⟨b,rfl,hb,_⟩:=ub (K:=K) hk vp
 have e:(atKey xs (mi k)).isSome=(ah k es).isSome:=by
  have:=iQ oI h2 h4 k
  rw [valueAt_kvsOf] at this
  cases hq:ah k es with
  | none=>have:=this.2 hq; cases hz:atKey xs (mi k) with | none=>rfl | some z=>rw [hz] at this; contradiction
  | some v=>obtain ⟨u,z,_⟩:=this.1 v hq; cases hz:atKey xs (mi k) with | none=>rw [hz] at z; cases z | some z=>rfl
 have hm:=oA hK r (List.mem_of_getElem? ea)
 exact ⟨fun zz zz=>wpAny_in_heap (tN hA) hb hm h1 (by rw [e]; exact ⟨_,σ,α,rfl,.refl,r,rfl,⟨rfl,rfl⟩⟩),fun zz zz=>wpAny_notIn_heap (tN hA) hb hm h1 (by rw [e]; exact ⟨_,σ,α,rfl,.refl,r,rfl,⟨rfl,rfl⟩⟩)⟩
theorem ajO {i:Nat} {a:Addr} {es:List (Str × PV)} {k:Str} {t:Tok} (hK:K.Ok) (r:R K.hb s.heap σ α) (hs:σ[i]?=some (.ds es)) (ea:α.ix[i]?=some a) :
  Runs K cr A (compareOp .In (.str k t) (.ref a)) (.ok (ah k es).isSome σ) s α/\Runs K cr A (compareOp .NotIn (.str k t) (.ref a)) (.ok (!(ah k es).isSome) σ) s α:=by
 obtain ⟨kvs,h1,h2,h4⟩:=rd r hs ea
 have e:(valueAt kvs k).isSome=(ah k es).isSome:=by
  have:=iQ (g:=id) (fun zz zz h=>h) h2 h4 k
  cases hq:ah k es with
  | none=>have:=this.2 hq; simp only [id] at this; rw [this]; rfl
  | some v=>obtain ⟨u,z,_⟩:=this.1 v hq; simp only [id] at z; rw [z]; rfl
 have hm:=oA hK r (List.mem_of_getElem? ea)
 exact ⟨fun zz zz=>wpAny_in_of p3 hm h1.mapOf (by rw [e]; exact ⟨_,σ,α,rfl,.refl,r,rfl,⟨rfl,rfl⟩⟩),fun zz zz=>wpAny_notIn_of p3 hm h1.mapOf (by rw [e]; exact ⟨_,σ,α,rfl,.refl,r,rfl,⟨rfl,rfl⟩⟩)⟩
theorem ahw {i:Nat} {a:Addr} {es:List ((Str × Int) × PV)} {p v:PV} {k:Str × Int} {x:Value} {E:Value->Shared->Prop} (hA:dv A) (r:R K.hb s.heap σ α) (hs:σ[i]?=some (.dp es)) (ea:α.ix[i]?=some a) (hk:dZ p=some k) (vp:VR s.heap α p x) (hv:ah k es=some v) :
  wpAny (model K.prog K.w) A (getItem (.ref a) x) (a6 K VR (.ok v σ) s α) E s:=by
 obtain ⟨xs,h1,h2,_,h4⟩:=rf r hs ea
 obtain ⟨b,rfl,hb,_⟩:=ub (K:=K) hk vp
 obtain ⟨u,z,vu⟩:=(iQ oI h2 h4 k).1 v hv
 rw [valueAt_kvsOf] at z
 obtain ⟨q,hq,rfl⟩:=Option.map_eq_some_iff.mp z
 exact wpAny_getItem_heap (tN hA) hb h1 hq ⟨_,σ,α,rfl,.refl,r,vu,⟨rfl,rfl⟩⟩
theorem ahv {i:Nat} {a:Addr} {es:List (Str × PV)} {v:PV} {k:Str} {t:Tok} {E:Value->Shared->Prop} (r:R K.hb s.heap σ α) (hs:σ[i]?=some (.ds es)) (ea:α.ix[i]?=some a) (hv:ah k es=some v) :
  wpAny (model K.prog K.w) A (getItem (.ref a) (.str k t)) (a6 K VR (.ok v σ) s α) E s:=by
 obtain ⟨kvs,h1,h2,h4⟩:=rd r hs ea
 obtain ⟨u,z,vu⟩:=(iQ (g:=id) (fun zz zz h=>h) h2 h4 k).1 v hv
 exact wpAny_getItem_of p3 h1.mapOf z ⟨_,σ,α,rfl,.refl,r,vu,⟨rfl,rfl⟩⟩
theorem aiZ {i:Nat} {a:Addr} {es:List ((Str × Int) × PV)} {p:PV} {k:Str × Int} {x:Value} {E:Value->Shared->Prop} (hK:K.Ok) (hA:dv A) (r:R K.hb s.heap σ α) (hs:σ[i]?=some (.dp es)) (ea:α.ix[i]?=some a) (hk:dZ p=some k) (vp:VR s.heap α p x) :
  wpAny (model K.prog K.w) A (call (.builtin "dict.get") [.ref a,x]) (a6 K VR (.ok ((ah k es).getD .none) σ) s α) E s:=by
 obtain ⟨xs,h1,h2,_,h4⟩:=rf r hs ea
 obtain ⟨b,rfl,hb,_⟩:=ub (K:=K) hk vp
 refine call_meetsIn F.slot_dict_get h1.typeIs F.entry_dict_get (F.args_dict_get_2 _ _) (meetsH_dict_get (tupleKind (j6 K.prog K.w)) a b (oA hK r (List.mem_of_getElem? ea))) ⟨tN hA,mi k,xs,hb,h1,?_⟩
 rw [<- valueAt_kvsOf]
 have:=iQ oI h2 h4 k
 cases hq:ah k es with
 | none=>rw [this.2 hq]; exact ⟨_,σ,α,rfl,.refl,r,.none,⟨rfl,rfl⟩⟩
 | some v=>obtain ⟨u,z,vu⟩:=this.1 v hq; rw [z]; exact ⟨_,σ,α,rfl,.refl,r,vu,⟨rfl,rfl⟩⟩
theorem aiY {i:Nat} {a:Addr} {es:List (Str × PV)} {k:Str} {t:Tok} {E:Value->Shared->Prop} (hK:K.Ok) (r:R K.hb s.heap σ α) (hs:σ[i]?=some (.ds es)) (ea:α.ix[i]?=some a) :
  wpAny (model K.prog K.w) A (call (.builtin "dict.get") [.ref a,.str k t]) (a6 K VR (.ok ((ah k es).getD .none) σ) s α) E s:=by
 obtain ⟨kvs,h1,h2,h4⟩:=rd r hs ea
 refine call_meetsIn F.slot_dict_get h1.typeIs F.entry_dict_get (F.args_dict_get_2 _ _) (meets_dict_get (strKind K.prog K.w) a p3 (oA hK r (List.mem_of_getElem? ea))) ⟨_,h1.mapOf,?_⟩
 have:=iQ (g:=id) (fun zz zz h=>h) h2 h4 k
 cases hq:ah k es with
 | none=>have z:=this.2 hq; simp only [id] at z; rw [z]; exact ⟨_,σ,α,rfl,.refl,r,.none,⟨rfl,rfl⟩⟩
 | some v=>obtain ⟨u,z,vu⟩:=this.1 v hq; simp only [id] at z; rw [z]; exact ⟨_,σ,α,rfl,.refl,r,vu,⟨rfl,rfl⟩⟩
end
end Mine
namespace Mine
open PySem PyProof.Rows
noncomputable def aix:Op->Operator
 | .add=>.Add | .sub=>.Sub | .mul=>.Mult | .mod=>.Mod | .fdiv=>.FloorDiv | .pow=>.Pow
noncomputable def fV:Cm->CmpOp
 | .eq=>.Eq | .ne=>.NotEq | .lt=>.Lt | .le=>.LtE | .gt=>.Gt | .ge=>.GtE | .is=>.Is | .isNot=>.IsNot | .isin=>.In | .notin=>.NotIn
theorem p4 {x y:Str} (a:PyData.strOk x=true) (b:PyData.strOk y=true):PyData.strOk (x++y)=true:=by
 unfold PyData.strOk at *
 rw [Str.cps_append]
 simp only [Array.all_eq_true',Array.mem_append] at *
 rintro c (h | h)
 ·exact a c h
 ·exact b c h
theorem acP {x:Str} {n:Int} (h:PyData.strOk x=true):PyData.strOk (Txt.mul x n)=true:=by
 unfold Txt.mul
 split
 ·simp [PyData.strOk,Str.empty]
 ·split
  ·exact h
  ·have key:∀ (k:Nat) (acc:Array Nat),PyData.strOk ⟨acc⟩=true->PyData.strOk ⟨(List.replicate k x.cps).foldl (·++·) acc⟩=true:=by
    intro k
    induction k with
    | zero=>intro acc h2; exact h2
    | succ k ih =>
     intro acc h2
     rw [List.replicate_succ,List.foldl_cons]
     exact ih _ (p4 (x:=⟨acc⟩) (y:=x) h2 h)
   exact key _ _ (by simp [PyData.strOk])
theorem aai {x:Str} {n:Int} (h:x.length <= 100/\0 <= n/\n <= 100):MulOk x n:=
 mulOk_of 100 100 h.1 h.2.2 (by grind) (by decide) (by decide)
theorem uQ {a:Int} (h:a.natAbs < 2 ^ 60):Builtin.Int.intBits a <= 64:=by
 unfold Builtin.Int.intBits
 by_cases h0:a.natAbs=0
 ·have:a=0:=by grind
  subst this; decide
 ·have:=(Nat.log2_lt h0).mpr h
  split <;> (grind)
inductive agH (h:Heap) (α:AL) (xs:List PV) (v:Value):Prop
 | mk (a:Addr) (am:List Value) (n:Nat) (e:v=.ref a) (ht:h.get? a=some { cls:=.type "list",data:=.seq (List.toArray am) n }) (vs:aO h α xs am):agH h α xs v
theorem gy {h:Heap} {hb:Bs} {σ:ac} {α:AL} {a:PV} {x:Value} {xs:List PV} (r:R hb h σ α) (v:VR h α a x) (e:be σ a=some xs) :
  agH h α xs x:=by
 cases a with
 | fl ys=>obtain rfl:=oi e; obtain ⟨l,am,n,rfl,e1,_,vs⟩:=v.flE; exact ⟨l,am,n,rfl,e1,vs⟩
 | ref i =>
  obtain ⟨l,rfl,el⟩:=v.refE
  simp only [be] at e
  cases hs:σ[i]? with
  | none=>rw [hs] at e; contradiction
  | some m =>
   rw [hs] at e
   cases m with
   | lst ys=>obtain rfl:=oi e; obtain ⟨am,n,e1,vs⟩:=r.obj i _ l hs el; exact ⟨l,am,n,rfl,e1,vs⟩
   | _=>contradiction
 | _=>contradiction
section
variable {K:Kt} {A:Around} {s:Shared} {α:AL} {σ:ac}
theorem iD (s:Shared):s.heap.get? s.heap.objs.size=none:=by
 cases hq:s.heap.get? s.heap.objs.size with
 | none=>rfl
 | some o=>exact absurd (Heap.lt_size hq) (Nat.lt_irrefl _)
theorem a6.fl {xs:List PV} {vs:List Value} (r:R K.hb s.heap σ α) (v:aO s.heap α xs vs) :
  a6 K VR (.ok (.fl xs) σ) s α (.ref s.heap.objs.size) { s with heap:=s.heap.push { cls:=.type "list",data:=.seq vs.toArray } }:=by
 have k:∀ b o,s.heap.get? b=some o->(s.heap.push { cls:=.type "list",data:=.seq vs.toArray }).get? b=some o:=fun b o e=>Heap.get?_push_of_some _ e
 refine ⟨_,_,_,rfl,.keeps k,r.keeps k,?_,⟨rfl,rfl⟩⟩
 refine VR.flI (n:=0) (Heap.get?_push_size _ rfl) (fun hm=>?_) (v.ext (.keeps (F:=[]) k))
 obtain ⟨o,e⟩:=r.liveAll hm; rw [iD] at e; contradiction
theorem a6.tup {xs:List PV} {vs:List Value} (r:R K.hb s.heap σ α) (v:aO s.heap α xs vs) :
  a6 K VR (.ok (.tup xs) σ) s α (.ref s.heap.objs.size) { s with heap:=s.heap.push { cls:=.type "tuple",data:=.seq vs.toArray } }:=by
 have k:∀ b o,s.heap.get? b=some o->(s.heap.push { cls:=.type "tuple",data:=.seq vs.toArray }).get? b=some o:=fun b o e=>Heap.get?_push_of_some _ e
 refine ⟨_,_,_,rfl,.keeps k,r.keeps k,?_,⟨rfl,rfl⟩⟩
 refine VR.tupI (n:=0) (Heap.get?_push_size _ rfl) (fun hm=>?_) (v.ext (.keeps (F:=[]) k))
 obtain ⟨o,e⟩:=r.liveAll hm; rw [iD] at e; contradiction
theorem a6.here {β γ:Type} {Rel:Heap->AL->β->γ->Prop} {b:β} {y:γ} {tk:Nat} (r:R K.hb s.heap σ α) (v:Rel s.heap α b y):a6 K Rel (.ok b σ) s α y { s with toks:=tk }:=
 ⟨_,_,_,rfl,.refl,r,v,⟨rfl,rfl⟩⟩
theorem zM {l b:Addr} {vs ws:List Value} {n n2:Nat} {Q:Value->Shared->Prop} {E:Value->Shared->Prop} (ho:s.heap.get? l=some { cls:=.type "list",data:=.seq vs.toArray n })
  (ho2:s.heap.get? b=some { cls:=.type "list",data:=.seq ws.toArray n2 }) (hsz:vs.length + ws.length <= sizeLine)
  (h:Q (.ref s.heap.objs.size) { s with heap:=s.heap.push { cls:=.type "list",data:=.seq (vs++ws).toArray } }):wpAny (model K.prog K.w) A (binaryOp .Add (.ref l) (.ref b)) Q E s:=by
 have e:vs.toArray++ws.toArray=(vs++ws).toArray:=by simp
 refine concat_meets ⟨_,ho,rfl⟩ ⟨_,ho2,rfl⟩ noFill_list_add seq_list_add PySem.F.slot_list_add PySem.F.entry_list_add (PySem.F.args_list_add_2 _ _) (list_addW l b vs.toArray ws.toArray n n2 none none #[] #[] (by simpa using hsz)) ⟨ho,ho2,?_⟩
 rw [e]; exact h
theorem xy {t b:Addr} {vs ws:List Value} {n n2:Nat} {Q:Value->Shared->Prop} {E:Value->Shared->Prop} (ho:s.heap.get? t=some { cls:=.type "tuple",data:=.seq vs.toArray n })
  (ho2:s.heap.get? b=some { cls:=.type "tuple",data:=.seq ws.toArray n2 }) (hsz:vs.length + ws.length <= sizeLine)
  (h0:vs=[]->Q (.ref b) s) (h1:vs ≠ []->ws=[]->Q (.ref t) s)
  (h2:Q (.ref s.heap.objs.size) { s with heap:=s.heap.push { cls:=.type "tuple",data:=.seq (vs++ws).toArray } }):wpAny (model K.prog K.w) A (binaryOp .Add (.ref t) (.ref b)) Q E s:=by
 have e:vs.toArray++ws.toArray=(vs++ws).toArray:=by simp
 by_cases hv:vs=[]
 ·exact concat_meets ⟨_,ho,rfl⟩ ⟨_,ho2,rfl⟩ noFill_tuple_add seq_tuple_add PySem.F.slot_tuple_add PySem.F.entry_tuple_add (PySem.F.args_tuple_add_2 _ _)
   (tuple_addW0 t b vs.toArray ws.toArray n n2 none none #[] #[] (by simp [hv])) ⟨ho,ho2,h0 hv⟩
 ·by_cases hw:ws=[]
  ·exact concat_meets ⟨_,ho,rfl⟩ ⟨_,ho2,rfl⟩ noFill_tuple_add seq_tuple_add PySem.F.slot_tuple_add PySem.F.entry_tuple_add (PySem.F.args_tuple_add_2 _ _)
    (tuple_addW1 t b vs.toArray ws.toArray n n2 none none #[] #[] (by simpa using hv) (by simp [hw])) ⟨ho,ho2,h1 hv hw⟩
  ·refine concat_meets ⟨_,ho,rfl⟩ ⟨_,ho2,rfl⟩ noFill_tuple_add seq_tuple_add PySem.F.slot_tuple_add PySem.F.entry_tuple_add (PySem.F.args_tuple_add_2 _ _)
    (tuple_addW2 t b vs.toArray ws.toArray n n2 none none #[] #[] (by simpa using hv) (by simpa using hw) (by rw [List.size_toArray,List.size_toArray]; exact hsz)) ⟨ho,ho2,?_⟩
   rw [e]; exact h2
theorem i7 {f:Int->Int->af PV} {o:Operator} {a b:PV} {x y:Value} (va:VR s.heap α a x) (vb:VR s.heap α b y)
  (H:∀ i j t u,f i j ≠ .stuck->wpAny (model K.prog K.w) A (binaryOp o (.int i t) (.int j u)) (a6 K VR (f i j) s α) (aY K A (f i j) s α) s):Runs K VR A (binaryOp o x y) (uT f a b) s α:=by
 intro hc tk
 cases a with
 | int i =>
  cases b with
  | int j=>obtain ⟨_,rfl⟩:=va.intE; obtain ⟨_,rfl⟩:=vb.intE; exact H i j _ _ hc
  | _=>exact absurd rfl hc
 | _=>exact absurd rfl hc
theorem ajk {σ:ac} {P:PV->PV->af PV->Prop} (h0:∀ a b,P a b .stuck) (h1:∀ i j,P (.int i) (.int j) (.ok (.int (i + j)) σ)) (h2:∀ p q,p.length + q.length <= au->P (.str p) (.str q) (.ok (.str (p++q)) σ)) (h3:∀ p q,p.length + q.length <= au->P (.tup p) (.tup q) (.ok (.tup (p++q)) σ)) (h4:∀ a b xs ys,be σ a=some xs->be σ b=some ys->xs.length + ys.length <= au->P a b (.ok (.fl (xs++ys)) σ)):∀ a b,P a b (zK a b σ):=by
 intro a b
 have ls:P a b (match be σ a with
  | some x=>match be σ b with
   | some y=>if x.length + y.length <= au then .ok (.fl (x++y)) σ else .stuck
   | none=>.stuck
  | none=>.stuck):=by
  cases e1:be σ a with
  | none=>exact h0 _ _
  | some xs =>
   cases e2:be σ b with
   | none=>exact h0 _ _
   | some ys =>
    dsimp only
    by_cases hl:xs.length + ys.length <= au
    ·rw [if_pos hl]; exact h4 a b xs ys e1 e2 hl
    ·rw [if_neg hl]; exact h0 _ _
 cases a with
 | int i =>
  cases b with
  | int j=>exact h1 i j
  | _=>exact h0 _ _
 | str p =>
  cases b with
  | str q =>
   show P _ _ (if p.length + q.length <= au then af.ok (PV.str (p++q)) σ else .stuck)
   by_cases hl:p.length + q.length <= au
   ·rw [if_pos hl]; exact h2 p q hl
   ·rw [if_neg hl]; exact h0 _ _
  | _=>exact h0 _ _
 | tup p =>
  cases b with
  | tup q =>
   show P _ _ (if p.length + q.length <= au then af.ok (PV.tup (p++q)) σ else .stuck)
   by_cases hl:p.length + q.length <= au
   ·rw [if_pos hl]; exact h3 p q hl
   ·rw [if_neg hl]; exact h0 _ _
  | _=>exact h0 _ _
 | _=>exact ls
theorem act {a b:PV} {x y:Value} (r:R K.hb s.heap σ α) (va:VR s.heap α a x) (vb:VR s.heap α b y):Runs K VR A (binaryOp .Add x y) (zK a b σ) s α:=by
 refine ajk (P:=fun a b c=>VR s.heap α a x->VR s.heap α b y->Runs K VR A (binaryOp .Add x y) c s α) (fun zz zz zz zz hc=>absurd rfl hc) (fun i j va vb zz zz=>?_) (fun p q hl va vb zz zz=>?_) (fun p q hl va vb zz zz=>?_) (fun a b xs ys h1 h2 hl va vb zz zz=>?_) a b va vb
 ·obtain ⟨_,rfl⟩:=va.intE; obtain ⟨_,rfl⟩:=vb.intE; exact P.add_int (.here r (.int _ _))
 ·obtain ⟨_,rfl,h1⟩:=va.strE; obtain ⟨_,rfl,h2⟩:=vb.strE
  exact PyProof.Rows.add_str (fun t' tk=>.here r (.str _ _ (p4 h1 h2))) (cq hl)
 ·obtain ⟨t,vs,n,rfl,e1,n1,v1⟩:=va.tupE
  obtain ⟨u,ws,m,rfl,e2,n2,v2⟩:=vb.tupE
  refine xy e1 e2 (by rw [<- v1.1,<- v2.1]; exact cq hl) (fun h=>?_) (fun zz h=>?_) (.tup r (v1.append v2))
  ·refine ⟨_,_,_,rfl,.refl,r,?_,.refl _⟩
   have:_=0:=v1.1.trans (by rw [h]; rfl)
   rw [List.eq_nil_of_length_eq_zero this]; exact vb
  ·refine ⟨_,_,_,rfl,.refl,r,?_,.refl _⟩
   have:_=0:=v2.1.trans (by rw [h]; rfl)
   rw [List.eq_nil_of_length_eq_zero this,List.append_nil]; exact va
 ·obtain ⟨l,vs,n,rfl,e1,v1⟩:=gy r va h1
  obtain ⟨l2,ws,m,rfl,e2,v2⟩:=gy r vb h2
  exact zM e1 e2 (by rw [<- v1.1,<- v2.1]; exact cq hl) (.fl r (v1.append v2))
theorem aO.rep {h:Heap} {xs:List PV} {vs:List Value} (v:aO h α xs vs):∀ k:Nat,aO h α (List.replicate k xs).flatten (List.replicate k vs).flatten
 | 0=>by simpa using aO.nil
 | k + 1=>by simpa [List.replicate_succ] using v.append (v.rep k)
theorem aaj {l:Addr} {vs:List Value} {n:Nat} {x:Int} {u:Tok} {Q:Value->Shared->Prop} {E:Value->Shared->Prop} (hl:s.heap.get? l=some { cls:=.type "list",data:=.seq vs.toArray n }) (h0:0 <= x) (h1:x <= 100) (h2:vs.length <= 100)
  (h:Q (.ref s.heap.objs.size) { s with heap:=s.heap.push { cls:=.type "list",data:=.seq (List.replicate x.toNat vs).flatten.toArray } }):wpAny (model K.prog K.w) A (binaryOp .Mult (.ref l) (.int x u)) Q E s:=by
 have hsz:vs.toArray.size * x.toNat <= 2 ^ 24:=by
  rw [List.size_toArray]
  exact aC (Nat.mul_le_mul h2 (show x.toNat <= 100 by omega)) (by decide)
 refine wpAny_binaryOp_repeat_ref (T := "list") (U := "int") (by decide) ⟨_,hl,rfl⟩ (fun s'=>typeIs_int s' x u) noFill_list_mul F.fills_int_mul F.slot_int_rmul repeat_list F.slot_int_index.lookup
  (call_meets F.slot_int_rmul (typeIs_int s x u) F.entry_int_rmul (F.args_int_rmul_2 _ _) (int___rmul___int_list x u l vs.toArray n)
   ⟨hl,rfl,⟨_,hl,rfl⟩,call_meets F.slot_list_mul ⟨_,hl,rfl⟩ F.entry_list_mul (F.args_list_mul_2 _ _)
    (AutoListH.list___mul___list_int_3 l vs.toArray n x u (by simp [Builtin.List.listFitsIndex]; omega) (by omega) (by simp [Builtin.List.listTooLong,sizeLine]; simpa using hsz)) ⟨hl,?_⟩⟩)
 rw [listMul_foldl]
 have e:(if vs.toArray.isEmpty=true then 0 else x.toNat)=x.toNat\/vs=[]:=by
  cases vs with
  | nil=>exact .inr rfl
  | cons=>exact .inl rfl
 rcases e with e | rfl
 ·rw [e]; simpa using h
 ·simpa using h
theorem abU {a b:PV} {x y:Value} (r:R K.hb s.heap σ α) (va:VR s.heap α a x) (vb:VR s.heap α b y):Runs K VR A (binaryOp .Mult x y) (aiD a b σ) s α:=by
 intro hc tk
 cases b with
 | int j =>
  obtain ⟨_,rfl⟩:=vb.intE
  cases a with
  | int i =>
   obtain ⟨_,rfl⟩:=va.intE
   change (if qX i j=true then af.ok (PV.int (i * j)) σ else .stuck) ≠ .stuck at hc
   show wpAny _ _ _ (a6 K VR (if qX i j=true then af.ok (PV.int (i * j)) σ else .stuck) s α) (aY K A (if qX i j=true then af.ok (PV.int (i * j)) σ else .stuck) s α) s
   by_cases hm:qX i j=true
   ·rw [if_pos hm]
    refine P.mul_int (.here r (.int _ _)) ?_
    exact (of_decide_eq_true hm).elim (fun h=>.of_left (uQ h)) fun h=>.of_right (uQ h)
   ·rw [if_neg hm] at hc; exact absurd rfl hc
  | str p =>
   obtain ⟨_,rfl,hx⟩:=va.strE
   change (if p.length <= 100/\0 <= j/\j <= 100 then af.ok (PV.str (Txt.mul p j)) σ else .stuck) ≠ .stuck at hc
   show wpAny _ _ _ (a6 K VR (if p.length <= 100/\0 <= j/\j <= 100 then af.ok (PV.str (Txt.mul p j)) σ else .stuck) s α) (aY K A (if p.length <= 100/\0 <= j/\j <= 100 then af.ok (PV.str (Txt.mul p j)) σ else .stuck) s α) s
   by_cases h0:p.length <= 100/\0 <= j/\j <= 100
   ·rw [if_pos h0]; exact SB.mul (aai h0) fun t' tk=>.here r (.str _ _ (acP hx))
   ·rw [if_neg h0] at hc; exact absurd rfl hc
  | fl xs =>
   obtain ⟨l,vs,n,rfl,e1,_,v⟩:=va.flE
   change (if xs.length <= 100/\0 <= j/\j <= 100 then af.ok (PV.fl (List.replicate j.toNat xs).flatten) σ else .stuck) ≠ .stuck at hc
   show wpAny _ _ _ (a6 K VR (if xs.length <= 100/\0 <= j/\j <= 100 then af.ok (PV.fl (List.replicate j.toNat xs).flatten) σ else .stuck) s α) (aY K A (if xs.length <= 100/\0 <= j/\j <= 100 then af.ok (PV.fl (List.replicate j.toNat xs).flatten) σ else .stuck) s α) s
   by_cases h0:xs.length <= 100/\0 <= j/\j <= 100
   ·rw [if_pos h0]; exact aaj e1 h0.2.1 h0.2.2 (by rw [<- v.1]; exact h0.1) (a6.fl r (v.rep _))
   ·rw [if_neg h0] at hc; exact absurd rfl hc
  | _=>exact absurd rfl hc
 | _=>exact absurd rfl hc
theorem aax {o:Op} {a b:PV} {x y:Value} (hA:dv A) (r:R K.hb s.heap σ α) (va:VR s.heap α a x) (vb:VR s.heap α b y) :
  Runs K VR A (binaryOp (aix o) x y) (fI o a b σ) s α:=by
 cases o with
 | add=>exact act r va vb
 | mul=>exact abU r va vb
 | sub=>exact i7 va vb fun i j t u zz=>P.sub_int (.here r (.int _ _))
 | mod =>
  refine i7 va vb fun i j t u hc=>?_
  by_cases h0:j=0
  ·rw [if_pos h0] at hc; exact absurd rfl hc
  ·rw [if_neg h0]; exact mod_int' h0 (.here r (.int _ _))
 | fdiv =>
  refine i7 va vb fun i j t u hc=>?_
  by_cases h0:j ≠ 0/\j.natAbs < 1073741824
  ·rw [if_pos h0]; exact floordiv_int h0.1 (.here r (.int _ _)) (.inl (PyProof.noPylong_small h0.2))
  ·rw [if_neg h0] at hc; exact absurd rfl hc
 | pow =>
  refine i7 va vb fun i j t u hc=>?_
  by_cases h0:0 <= j/\j <= 100/\i=10
  ·rw [if_pos h0]
   obtain ⟨h1,h2,rfl⟩:=h0
   refine pow_int h1 ?_ (.here r (.int _ _))
   have:Builtin.Int.intBits 10=4:=by decide +kernel
   rw [this]; (grind)
  ·rw [if_neg h0] at hc; exact absurd rfl hc
end
end Mine
namespace Mine
open PySem PyProof.Rows
section
variable {K:Kt} {A:Around} {s:Shared} {α:AL} {σ:ac}
theorem VR.ne_none {h:Heap} {a:PV} {x:Value} (v:VR h α a x) (hn:a ≠ .none):x ≠ .none:=by
 cases v <;> first | exact absurd rfl hn | (intro e; contradiction)
theorem oE {a:PV} {x:Value} {xs:List PV} {l:Addr} {am:List Value} {n:Nat} {T:String} (hT:T = "list" \/ T = "tuple") (hA:dv A) (r:R K.hb s.heap σ α) (va:VR s.heap α a x)
  (e1:s.heap.get? l=some { cls:=.type T,data:=.seq am.toArray n }) (vs:aO s.heap α xs am) :
  Runs K cr A (compareOp .In x (.ref l)) (af.ofOpt (jB σ a xs) σ) s α ∧
  Runs K cr A (compareOp .NotIn x (.ref l)) (af.ofOpt ((jB σ a xs).map (!·)) σ) s α:=by
 unfold jB
 cases h1:toD 16 σ a with
 | none=>exact ⟨fun hc=>absurd rfl hc,fun hc=>absurd rfl hc⟩
 | some d =>
  cases h2:xs.mapM (toD 16 σ) with
  | none=>exact ⟨fun hc=>absurd rfl hc,fun hc=>absurd rfl hc⟩
  | some ds =>
   obtain ⟨as,r1,c1,p1⟩:=iA r 16 a x d va h1
   obtain ⟨bs,r2,c2,p2⟩:=jU (n:=16) h2 vs.1 fun i x v d e1 e2 e3=>iA r 16 x v d (vs.2 i x v e1 e2) e3
   have hu:A.units + 1 + min (PyData.depthAll ds) d.depth < cLine:=by have:=hA.units; (grind)
   rcases hT with rfl | rfl
   ·have rc:Reads s.heap (.ref l) (.list ds) (l::bs):=.list e1 rfl rfl (by simpa using r2)
    exact ⟨fun zz zz=>SeqAt.in_list_reads rc r1 (by simpa [PyData.canLay0] using c2) c1 hu ⟨_,σ,α,rfl,.refl,r,rfl,.refl s⟩,
     fun zz zz=>SeqAt.notIn_list_reads rc r1 (by simpa [PyData.canLay0] using c2) c1 hu ⟨_,σ,α,rfl,.refl,r,rfl,.refl s⟩⟩
   ·have rc:Reads s.heap (.ref l) (.tuple ds) bs:=.tuple e1 rfl rfl (by simpa using r2)
    exact ⟨fun zz zz=>SeqAt.in_tuple_reads rc r1 (by simpa [PyData.canLay0] using c2) c1 hu ⟨_,σ,α,rfl,.refl,r,rfl,.refl s⟩,
     fun zz zz=>SeqAt.notIn_tuple_reads rc r1 (by simpa [PyData.canLay0] using c2) c1 hu ⟨_,σ,α,rfl,.refl,r,rfl,.refl s⟩⟩
theorem aaP (x:Str) (c:Nat):(!(Builtin.Str.occurrences x ⟨#[c]⟩ 0 x.length 1).isEmpty)=x.cps.toList.contains c:=by
 rw [StrLaws.found_one]; simp
theorem lp {f:Int->Int->Bool} {o:CmpOp} {a b:PV} {x y:Value} (r:R K.hb s.heap σ α) (va:VR s.heap α a x) (vb:VR s.heap α b y)
  (H:∀ i j t u (Q:Value->Shared->Prop) (E:Value->Shared->Prop),Q (.bool (f i j)) s->wpAny (model K.prog K.w) A (compareOp o (.int i t) (.int j u)) Q E s):Runs K cr A (compareOp o x y) (yC f a b σ) s α:=by
 intro hc tk
 cases a with
 | int i =>
  cases b with
  | int j=>obtain ⟨_,rfl⟩:=va.intE; obtain ⟨_,rfl⟩:=vb.intE; exact H i j _ _ _ _ ⟨_,σ,α,rfl,.refl,r,rfl,.refl s⟩
  | _=>exact absurd rfl hc
 | _=>exact absurd rfl hc
theorem ww {f:Bool->Bool} {o:CmpOp} {a b:PV} {x y:Value} (r:R K.hb s.heap σ α) (va:VR s.heap α a x) (vb:VR s.heap α b y)
  (H1:∀ (Q:Value->Shared->Prop) (E:Value->Shared->Prop),Q (.bool (f true)) s->wpAny (model K.prog K.w) A (compareOp o .none .none) Q E s)
  (H2:∀ (x:Value) (Q:Value->Shared->Prop) (E:Value->Shared->Prop),x ≠ .none->Q (.bool (f false)) s->wpAny (model K.prog K.w) A (compareOp o x .none) Q E s)
  (H3:∀ (p q:Bool) (Q:Value->Shared->Prop) (E:Value->Shared->Prop),Q (.bool (f (decide (p=q)))) s->wpAny (model K.prog K.w) A (compareOp o (.bool p) (.bool q)) Q E s):Runs K cr A (compareOp o x y) (isv f a b σ) s α:=by
 intro hc tk
 cases b with
 | none =>
  obtain rfl:=vb.noneE
  show wpAny _ _ _ (a6 K cr (.ok (f (bW a)) σ) s α) _ _
  by_cases hn:a=.none
  ·subst hn; obtain rfl:=va.noneE; exact H1 _ _ ⟨_,σ,α,rfl,.refl,r,rfl,.refl s⟩
  ·have:bW a=false:=by cases a <;> first | rfl | exact absurd rfl hn
   rw [this]
   exact H2 _ _ _ (va.ne_none hn) ⟨_,σ,α,rfl,.refl,r,rfl,.refl s⟩
 | bool q =>
  cases a with
  | bool p=>obtain rfl:=va.boolE; obtain rfl:=vb.boolE; exact H3 _ _ _ _ ⟨_,σ,α,rfl,.refl,r,rfl,.refl s⟩
  | _=>exact absurd rfl hc
 | _=>exact absurd rfl hc
theorem adF {a:PV} {i:Nat}:bS a (.ref i) σ=match σ[i]? with
   | some (.lst xs)=>jB σ a xs
   | some (.ds es)=>(match a with
    | .str k=>some (ah k es).isSome
    | _=>none)
   | some (.dp es)=>(dZ a).map fun k=>(ah k es).isSome
   | _=>none:=rfl
theorem ahx {σ:ac} {P:PV->PV->Option Bool->Prop} (h0:∀ a b,P a b none) (h1:∀ a xs,P a (.tup xs) (jB σ a xs)) (h2:∀ a xs,P a (.fl xs) (jB σ a xs)) (h3:∀ a i xs,σ[i]?=some (.lst xs)->P a (.ref i) (jB σ a xs)) (h4:∀ c z,P (.str ⟨#[c]⟩) (.str z) (some (z.cps.toList.contains c)))
  (h5:∀ k i es,σ[i]?=some (.ds es)->P (.str k) (.ref i) (some (ah k es).isSome)) (h6:∀ a i es k,σ[i]?=some (.dp es)->dZ a=some k->P a (.ref i) (some (ah k es).isSome))
  : ∀ a b,P a b (bS a b σ):=by
 intro a b
 cases b with
 | tup xs=>exact h1 a xs
 | fl xs=>exact h2 a xs
 | str z =>
  cases a with
  | str w =>
   unfold bS
   dsimp only
   cases hcs:w.cps.toList with
   | nil=>exact h0 _ _
   | cons c rr =>
    cases rr with
    | cons _ _=>exact h0 _ _
    | nil =>
     obtain rfl:w=⟨#[c]⟩:=by cases w; simp at hcs; simp [<- hcs]
     exact h4 c z
  | _=>exact h0 _ _
 | ref i =>
  rw [adF]
  cases hs:σ[i]? with
  | none=>exact h0 _ _
  | some m =>
   cases m with
   | lst xs=>exact h3 a i xs hs
   | ds es =>
    cases a with
    | str k=>exact h5 k i es hs
    | _=>exact h0 _ _
   | dp es =>
    dsimp only
    cases hk:dZ a with
    | none=>exact h0 _ _
    | some k=>exact h6 a i es k hs hk
   | _=>exact h0 _ _
 | _=>exact h0 _ _
theorem uc {a b:PV} {x y:Value} (hK:K.Ok) (hA:dv A) (r:R K.hb s.heap σ α) (va:VR s.heap α a x) (vb:VR s.heap α b y):Runs K cr A (compareOp .In x y) (af.ofOpt (bS a b σ) σ) s α/\Runs K cr A (compareOp .NotIn x y) (af.ofOpt ((bS a b σ).map (!·)) σ) s α:=by
 refine ahx (P:=fun a b o=>VR s.heap α a x->VR s.heap α b y->Runs K cr A (compareOp .In x y) (af.ofOpt o σ) s α/\Runs K cr A (compareOp .NotIn x y) (af.ofOpt (o.map (!·)) σ) s α) (fun zz zz zz zz=>⟨fun hc=>absurd rfl hc,fun hc=>absurd rfl hc⟩) (fun a xs va vb=>?_) (fun a xs va vb=>?_) (fun a i xs hs va vb=>?_) (fun c z va vb=>?_)
  (fun k i es hs va vb=>?_) (fun a i es k hs hk va vb=>?_)
  a b va vb
 ·obtain ⟨l,am,n,rfl,e1,_,vs⟩:=vb.tupE; exact oE (.inr rfl) hA r va e1 vs
 ·obtain ⟨l,am,n,rfl,e1,_,vs⟩:=vb.flE; exact oE (.inl rfl) hA r va e1 vs
 ·obtain ⟨l,rfl,el⟩:=vb.refE
  obtain ⟨am,n,e1,vs⟩:=r.obj i _ l hs el; exact oE (.inl rfl) hA r va e1 vs
 ·obtain ⟨_,rfl,_⟩:=vb.strE
  obtain ⟨_,rfl,_⟩:=va.strE
  exact ⟨fun zz zz=>PyProof.Rows.in_str (by rw [aaP]; exact ⟨_,σ,α,rfl,.refl,r,rfl,.refl s⟩),fun zz zz=>PyProof.Rows.notIn_str (by rw [aaP]; exact ⟨_,σ,α,rfl,.refl,r,rfl,.refl s⟩)⟩
 ·obtain ⟨l,rfl,el⟩:=vb.refE
  obtain ⟨_,rfl,_⟩:=va.strE; exact ajO hK r hs el
 ·obtain ⟨l,rfl,el⟩:=vb.refE
  exact ajP hK hA r hs el hk va
theorem ew {o:Cm} {a b:PV} {x y:Value} (hK:K.Ok) (hA:dv A) (r:R K.hb s.heap σ α) (va:VR s.heap α a x) (vb:VR s.heap α b y) :
  Runs K cr A (compareOp (fV o) x y) (br o a b σ) s α:=by
 cases o with
 | eq=>exact aat hA r va vb
 | ne=>exact aas hA r va vb
 | lt=>exact lp r va vb fun i j t u Q E h=>P.lt_int h
 | le=>exact lp r va vb fun i j t u Q E h=>P.le_int h
 | gt=>exact lp r va vb fun i j t u Q E h=>P.gt_int h
 | ge=>exact lp r va vb fun i j t u Q E h=>P.ge_int h
 | is=>exact ww (f:=id) r va vb (fun Q E h=>is_none_none h) (fun x Q E hn h=>is_none_ne hn h) fun p q Q E h=>is_bool h
 | isNot=>exact ww (f:=(!·)) r va vb (fun Q E h=>isnot_none_none h) (fun x Q E hn h=>isnot_none_ne hn h) fun p q Q E h=>isnot_bool h
 | isin=>exact (uc hK hA r va vb).1
 | notin=>exact (uc hK hA r va vb).2
end
end Mine
namespace Mine
open PySem PyProof.Rows
noncomputable def dc (ys:List Str) (i:Nat):List Str:=b8 (ys.take i)
noncomputable def se (a:List Str) (x:Str):List Str:=if a.any (· == x) then a else a++[x]
theorem wu {ys:List Str} {i:Nat} {y:Str} (h:ys[i]?=some y):dc ys (i + 1)=se (dc ys i) y:=by
 unfold dc b8
 rw [List.take_add_one,h,Option.toList_some,List.foldl_append]; rfl
theorem aeV (a:List Str) (v k:Str):(se a v).any (· == k)=(a.any (· == k) || decide (k=v)):=by
 unfold se
 by_cases h:a.any (· == v)=true
 ·rw [if_pos h]
  by_cases e:k=v
  ·subst e; rw [h]; rfl
  ·simp [e]
 ·rw [if_neg h,List.any_append]
  congr 1
  by_cases e:k=v
  ·subst e; simp
  ·have:(v == k)=false:=by simpa using fun q:v=k=>e q.symm
   simp [e,this]
theorem ry (a:List Str) (v:Str):(se a v).length=if a.any (· == v) then a.length else a.length + 1:=by
 unfold se; split <;> simp
theorem ad6 (l:List Str):(b8 l).length <= l.length:=by
 unfold b8
 have:∀ (l a:List Str),(l.foldl se a).length <= a.length + l.length:=by
  intro l
  induction l with
  | nil=>intro a; simp
  | cons x l ih =>
   intro a
   have h1:=ih (se a x)
   have h2:=ry a x
   rw [List.foldl_cons,List.length_cons]
   split at h2 <;> (grind)
 have h:=this l []
 rw [List.length_nil,Nat.zero_add] at h
 exact h
theorem ahg (ys:List Str) (i:Nat):(dc ys i).length <= i:=aC (ad6 _) (by rw [List.length_take]; exact Nat.min_le_left _ _)
theorem aaI:∀ {vs:List Value} {ys:List Str},StrsAre vs ys->∀ (i:Nat) (v:Value),vs[i]?=some v->∃ y t,ys[i]?=some y/\v=.str y t
 | _,_,.nil,i,v,h=>by simp at h
 | _,_,.cons y t r,0,v,h=>by simp at h; exact ⟨y,t,rfl,h.symm⟩
 | _,_,.cons y t r,i + 1,v,h=>by simpa using aaI r i v (by simpa using h)
theorem r9:∀ {vs:List Value} {ys:List Str},StrsAre vs ys->vs.length=ys.length
 | _,_,.nil=>rfl
 | _,_,.cons _ _ r=>by simp [r9 r]
section
variable {prog:Program} {w:World} {A:Around} {R:Result->Shared->Prop} {I:Addr} {fp wr:List Addr} {G:Array GenState->Array GenState->Prop} {n:Nat} {P:Nat->Value->Prop} {St:Nat->Shared->Prop}
theorem yr (W:WalksS prog w A.in1 I fp wr G n P St) (S:Addr) (hSf:S ∉ fp) (ys:List Str) (hval:∀ i v,P i v->∃ y t,ys[i]?=some y/\v=.str y t) (hb:n + 1 < scanBound) :
  ∀ (k i:Nat) (s:Shared),n - i=k->i <= n->St i s->s.heap.SetOf (strKind prog w) S (fun z=>(dc ys i).any (· == z)) (dc ys i).length ->
   (∀ s',Moved (S::wr) G s s'->s'.heap.SetOf (strKind prog w) S (fun z=>(dc ys n).any (· == z)) (dc ys n).length->R (.ok (.ret .none)) s') ->
   codeAny (model prog w) A (.builtin "set.update.loop" ⟨[.ref S,.ref I],[]⟩) R s:=by
 have hSw:S ∉ wr:=fun h=>hSf (W.sub _ h)
 have hsub:∀ b ∈ wr,b ∈ S::wr:=fun b hb=>bJ _ hb
 have stay:∀ {s s':Shared} {i:Nat},Moved wr G s s'->s.heap.SetOf (strKind prog w) S (fun z=>(dc ys i).any (· == z)) (dc ys i).length->s'.heap.SetOf (strKind prog w) S (fun z=>(dc ys i).any (· == z)) (dc ys i).length:=by
  intro s s' i hm hS
  obtain ⟨o,es,ep,t,ho,rest⟩:=hS
  exact ⟨o,es,ep,t,hm.heap S _ hSw ho,rest⟩
 intro k
 induction k with
 | zero =>
  intro i s hk hi hst hS hR
  have:i=n:=by grind
  subst this
  refine codeAny_builtin F.entry_set_update_loop ?_
  rw [Around.under_plainId F.plain_set_update_loop _]
  show wpAny _ A.in1 (pyNext (.ref I) >>= _) _ _ s
  refine wpAny_bind (W.done s _ _ hst fun s' hm=>?_)
  exact wpAny_pure (hR s' (hm.mono hsub) (stay hm hS))
 | succ k ih =>
  intro i s hk hi hst hS hR
  have hlt:i < n:=by grind
  refine codeAny_builtin F.entry_set_update_loop ?_
  rw [Around.under_plainId F.plain_set_update_loop _]
  show wpAny _ A.in1 (pyNext (.ref I) >>= _) _ _ s
  refine wpAny_bind (W.item i s _ _ hlt hst fun v s' hP hst' hm=>?_)
  obtain ⟨y,t,hy,rfl⟩:=hval i v hP
  show wpAny _ A.in1 (holding [Value.str y t] (setAdd S (.str y t)) >>= _) _ _ s'
  refine wpAny_bind (wpAny_holding ?_)
  unfold setAdd
  refine wpAny_holding (wpAny_bind ((strKind prog w).pyHash (k:=y) (strKind_is _ _ _ _) ?_))
  have hS':s'.heap.SetOf (strKind prog w) S (fun z=>(dc ys i).any (· == z)) (dc ys i).length:=stay hm hS
  refine wpAny_setAddHashed_of (knd:=strKind prog w) (s:={ s' with toks:=s'.toks + 1 }) (strKind_is _ _ _ _) rfl hS' (by have:=ahg ys i; (grind)) fun h' hsb hS2=>?_
  have hSi:h'.SetOf (strKind prog w) S (fun z=>(dc ys (i + 1)).any (· == z)) (dc ys (i + 1)).length:=
   SetOf_congr hS2 (fun z=>by rw [wu hy,aeV]) (by rw [wu hy,ry])
  refine wpAny_pure ⟨plainId_quiet F.plain_set_update_loop _,ih (i + 1) _ (by grind) hlt (W.frame _ s' _ _ hst' (Nat.le_succ _) fun b hb o e=>?_) hSi fun s'' hm'' hS''=>?_⟩
  ·rw [hsb.2 b (fun h:b=S=>hSf (h ▸ hb))]; exact e
  ·refine hR s'' (Moved.trans W.gtrans ((hm.mono hsub).then_heap (Nat.le_succ _) fun b o hb e=>?_) hm'') hS''
   rw [hsb.2 b (fun h:b=S=>hb (by rw [h]; exact List.mem_cons_self))]; exact e
end
theorem wW:isSubtype (.type "tuple") (.type "set")=pure false:=by rw [isSubtype_type]; kernel_rfl
theorem pM:isSubtype (.type "tuple") (.type "frozenset")=pure false:=by rw [isSubtype_type]; kernel_rfl
section
variable {prog:Program} {w:World} {A:Around} {E:Value->Shared->Prop} {s:Shared}
set_option maxHeartbeats 1600000 in
theorem aeK {l:Addr} {T:String} {am:Array Value} {n:Nat} {ys:List Str} {led:Bool} {Q:Value->Shared->Prop} (hh:A.handled=none) (hT:T = "list" \/ T = "tuple")
  (ho:s.heap.get? l=some { cls:=.type T,data:=.seq am n }) (hi:StrsAre am.toList ys) (hb:am.size + 1 < scanBound)
  (h:∀ (h':Heap) (tk:Nat),h'.SetOf (strKind prog w) s.heap.objs.size (fun z=>(b8 ys).any (· == z)) (b8 ys).length->(∀ b o,b < s.heap.objs.size->s.heap.get? b=some o->h'.get? b=some o)->Q .none { s with heap:=h',toks:=tk }) :
  codeAny (model prog w) A (.call (.builtin "set.__init__") ⟨[.ref s.heap.objs.size,.ref l],[]⟩) (wants Q E) { s with heap:=s.heap.push { cls:=.type "set",dict:=none,data:=.set #[] 0 (.fresh 0 0 led) } }:=by
 have hS:(s.heap.push { cls:=.type "set",dict:=none,data:=.set #[] 0 (.fresh 0 0 led) }).get? s.heap.objs.size=some { cls:=.type "set",dict:=none,data:=.set #[] 0 (.fresh 0 0 led) }:=Heap.get?_push_size _ rfl
 have hTs:Shared.TypeIs { s with heap:=s.heap.push { cls:=.type "set",dict:=none,data:=.set #[] 0 (.fresh 0 0 led) } } (.ref s.heap.objs.size) "set" := ⟨_,hS,rfl⟩
 have hlS:l < s.heap.objs.size:=Heap.lt_size ho
 have hol:(s.heap.push { cls:=.type "set",dict:=none,data:=.set #[] 0 (.fresh 0 0 led) }).get? l=some { cls:=.type T,data:=.seq am n }:=Heap.get?_push_of_some _ ho
 have hlen:(ys.take am.size)=ys:=List.take_of_length_le (by rw [<- r9 hi]; simp)
 have hmet:dc ys am.size=b8 ys:=by unfold dc; rw [hlen]
 have hh3:A.in1.in1.handled=none:=by simp [hh]
 have hneI:l ≠ (s.heap.push { cls:=.type "set",dict:=none,data:=.set #[] 0 (.fresh 0 0 led) }).objs.size:=by
  rw [Heap.size_push]; exact Nat.ne_of_lt (Nat.lt_succ_of_lt hlS)
 have hSf:s.heap.objs.size ∉ [(s.heap.push { cls:=.type "set",dict:=none,data:=.set #[] 0 (.fresh 0 0 led) }).objs.size,l]:=by
  rw [Heap.size_push]; simp only [List.mem_cons,List.not_mem_nil,or_false,not_or]
  exact ⟨Nat.ne_of_lt (Nat.lt_succ_self _),Nat.ne_of_gt hlS⟩
 have hval:∀ (i:Nat) (v:Value),am[i]?=some v->∃ y t,ys[i]?=some y/\v=.str y t:=fun i v hv=>aaI hi i v (by rw [Array.getElem?_toList]; exact hv)
 have fin:∀ (s':Shared) (wr:List Addr),(∀ b ∈ wr,b=s.heap.objs.size\/b=(s.heap.push { cls:=.type "set",dict:=none,data:=.set #[] 0 (.fresh 0 0 led) }).objs.size)->∀ (h1:Heap),(∀ b o,s.heap.get? b=some o->h1.get? b=some o) ->
   Moved wr (fun a b=>b=a) { s with heap:=h1 } s'->s'.heap.SetOf (strKind prog w) s.heap.objs.size (fun z=>(dc ys am.size).any (· == z)) (dc ys am.size).length->Q .none s':=by
  intro s' wr hwr h1 hk hm hS'
  obtain ⟨h',g',d',tk',os'⟩:=s'
  have eg:g'=s.gens:=hm.gens
  have ed:d'=s.drawn:=hm.drawn
  have eo:os'=s.os:=hm.os
  subst eg; subst ed; subst eo
  refine h h' tk' (hmet ▸ hS') fun b o hb e=>hm.heap b o (fun q=>?_) (hk b o e)
  rcases hwr b q with q | q
  ·exact absurd q (Nat.ne_of_lt hb)
  ·rw [Heap.size_push] at q
   exact absurd q (Nat.ne_of_lt (Nat.lt_succ_of_lt hb))
 have start:∀ (c:String),Heap.SetOf (strKind prog w) ((s.heap.push { cls:=.type "set",dict:=none,data:=.set #[] 0 (.fresh 0 0 led) }).push { cls:=.type c,data:=.fields #[.ref l,.int 0 0] }) s.heap.objs.size (fun z=>(dc ys 0).any (· == z)) (dc ys 0).length:=fun c =>
  SetOf_congr ((setObjOf_fresh (knd:=strKind prog w) led).setOf (Heap.get?_push_of_some _ hS) (by unfold scanBound; (decide))) (fun zz=>rfl) rfl
 refine codeAny_call_builtin F.called_set.init.plain F.entry_set_init (check_set_init_1 hTs ?_)
 rcases hT with rfl | rfl
 ·have hsls:=F.sub_list_set
  have hslf:=F.sub_list_frozenset
  have hne:(Value.type "list" == Value.type "dict")=false:=by decide
  have hl1:(s.heap.push { cls:=.type "set",dict:=none,data:=.set #[] 0 (.fresh 0 0 led) }).IsList l am:=⟨_,hol,rfl,n,rfl⟩
  unfold Builtin.«set.__init__» noKeywords Builtin.Frozenset.updateFrom
  generalize hPI:pyIter=PI
  wp_walk
  subst hPI
  refine wpAny_pyIter_list hl1 (wpAny_bind (wpAny_runValue ?_))
  refine yr ((Walks.list hh3 _ l hneI am).toS) s.heap.objs.size hSf ys hval hb (am.size - 0) 0 _ (by grind) (Nat.zero_le _) ?hst ?hS0 ?hR
  case hst=>exact ⟨⟨_,Heap.get?_push_size _ rfl,rfl,rfl⟩,hl1.push _⟩
  case hS0=>exact start _
  case hR =>
  intro s' hm hS'
  show wpAny _ _ _ _ _ _
  refine wpAny_pure ?_
  show wpAny _ _ (ret Value.none) _ _ _
  refine wpAny_pure ?_
  refine fin s' _ ?_ _ (fun b o e=>Heap.get?_push_of_some _ (Heap.get?_push_of_some _ e)) hm hS'
  intro b hb
  rcases List.mem_cons.mp hb with q | q
  ·exact .inl q
  ·exact .inr (List.mem_singleton.mp q)
 ·have hsls:=wW
  have hslf:=pM
  have hne:(Value.type "tuple" == Value.type "dict")=false:=by decide
  have hl1:(s.heap.push { cls:=.type "set",dict:=none,data:=.set #[] 0 (.fresh 0 0 led) }).IsTuple l am:=⟨_,hol,rfl,n,rfl⟩
  unfold Builtin.«set.__init__» noKeywords Builtin.Frozenset.updateFrom
  generalize hPI:pyIter=PI
  wp_walk
  subst hPI
  refine wpAny_pyIter_tuple hl1 (wpAny_bind (wpAny_runValue ?_))
  refine yr ((Walks.tuple hh3 _ l hneI am).toS) s.heap.objs.size hSf ys hval hb (am.size - 0) 0 _ (by grind) (Nat.zero_le _) ?hst2 ?hS2 ?hR2
  case hst2=>exact ⟨⟨_,Heap.get?_push_size _ rfl,rfl,rfl⟩,⟨_,Heap.get?_push_of_some _ hol,rfl,n,rfl⟩⟩
  case hS2=>exact start _
  case hR2 =>
  intro s' hm hS'
  show wpAny _ _ _ _ _ _
  refine wpAny_pure ?_
  show wpAny _ _ (ret Value.none) _ _ _
  refine wpAny_pure ?_
  refine fin s' _ ?_ _ (fun b o e=>Heap.get?_push_of_some _ (Heap.get?_push_of_some _ e)) hm hS'
  intro b hb
  rcases List.mem_cons.mp hb with q | q
  ·exact .inl q
  ·exact .inr (List.mem_singleton.mp q)
set_option maxRecDepth 100000 in
set_option maxHeartbeats 3200000 in
theorem xr {l:Addr} {T:String} {am:Array Value} {n:Nat} {ys:List Str} {Q:Value->Shared->Prop} (hh:A.handled=none) (hT:T = "list" \/ T = "tuple")
  (ho:s.heap.get? l=some { cls:=.type T,data:=.seq am n }) (hi:StrsAre am.toList ys) (hb:am.size + 1 < scanBound)
  (h:∀ (h':Heap) (tk:Nat),h'.SetOf (strKind prog w) s.heap.objs.size (fun z=>(b8 ys).any (· == z)) (b8 ys).length->(∀ b o,b < s.heap.objs.size->s.heap.get? b=some o->h'.get? b=some o)->Q (.ref s.heap.objs.size) { s with heap:=h',toks:=tk }) :
  wpAny (model prog w) A (call (.type "set") [.ref l]) Q E s:=by
 obtain ⟨c,tl,hmro⟩:=F.called_set.mro
 have hmade:=F.called_set.made
 have hsub:=F.called_set.sub
 refine wpAny_call (codeAny_of_tree ?_)
 show wpAny _ _ (callAny (.type "set") _) _ _ _
 refine wpAny_pure ⟨Code.quiet_builtin _ (by decide +kernel),codeAny_builtin F.entry_type_call ?_⟩
 rw [Around.under_plain (weight_type_call_type "set" [.ref l] []) rfl]
 have h1:=F.called_set.notType
 have h2:=F.called_set.canCreate
 have hct:=F.typeCall_set_1 (.ref l)
 repeat (any_goals (first | assumption | wp_step))
 refine codeAny_mono (code_set_new_1 (.ref l) (E:=E) (Q₁:=fun obj s₁=>∃ led:Bool,obj=.ref s.heap.objs.size/\s₁={ s with heap:=s.heap.push { cls:=.type "set",dict:=none,data:=.set #[] 0 (.fresh 0 0 led) } }) fun led=>⟨led,rfl,rfl⟩) fun r s₁ hr=>?_
 cases r with
 | error e=>exact hr
 | ok fl =>
  cases fl with
  | ret obj =>
   obtain ⟨led,rfl,rfl⟩:=hr
   have hS:(s.heap.push { cls:=.type "set",dict:=none,data:=.set #[] 0 (.fresh 0 0 led) }).get? s.heap.objs.size=some { cls:=.type "set",dict:=none,data:=.set #[] 0 (.fresh 0 0 led) }:=Heap.get?_push_size _ rfl
   have hTy:Shared.TypeIs { s with heap:=s.heap.push { cls:=.type "set",dict:=none,data:=.set #[] 0 (.fresh 0 0 led) } } (.ref s.heap.objs.size) "set" := ⟨_,hS,rfl⟩
   have hli:=F.called_set.init.lookup
   have hbi:=F.called_set.init.bind (.ref s.heap.objs.size)
   repeat (any_goals (first | assumption | wp_step))
   refine codeAny_mono (aeK (led:=led) (E:=E) (Q:=fun r aw=>r=.none/\∃ h' tk,aw={ s with heap:=h',toks:=tk } ∧
     h'.SetOf (strKind prog w) s.heap.objs.size (fun z=>(b8 ys).any (· == z)) (b8 ys).length/\(∀ b o,b < s.heap.objs.size->s.heap.get? b=some o->h'.get? b=some o)) (by simp [hh]) hT ho hi hb fun h' tk hS' hk=>⟨rfl,h',tk,rfl,hS',hk⟩) fun bF aw ab3=>?_
   cases bF with
   | error e=>exact ab3
   | ok aj1 =>
    cases aj1 with
    | ret r =>
     obtain ⟨rfl,h',tk,rfl,hS',hk'⟩:=ab3
     repeat (any_goals (first | assumption | wp_step))
     exact h _ _ hS' hk'
    | _=>exact ab3.elim
  | _=>exact hr.elim
end
end Mine
namespace Mine
open PySem PyProof.Rows
theorem rU {h:Heap} {α:AL}:∀ {xs:List PV} {l:List Int} {am:List Value},bL xs=some l->aO h α xs am->IntsAre am l
 | [],l,am,e,v=>by
  obtain rfl:=oi e
  have:am=[]:=List.eq_nil_of_length_eq_zero v.1.symm
  rw [this]; exact .nil
 | x::xs,l,am,e,v=>by
  obtain ⟨u,us,rfl,v1,v2⟩:=v.inv_cons
  cases x with
  | int i =>
   obtain ⟨_,rfl⟩:=v1.intE
   simp only [bL] at e
   cases hr:bL xs with
   | none=>rw [hr] at e; contradiction
   | some l'=>rw [hr] at e; obtain rfl:=oi e; exact .cons _ _ (rU hr v2)
  | _=>simp [bL] at e
theorem rS {h:Heap} {α:AL}:∀ {xs:List PV} {l:List Str} {am:List Value},dj xs=some l->aO h α xs am->StrsAre am l
 | [],l,am,e,v=>by
  obtain rfl:=oi e
  have:am=[]:=List.eq_nil_of_length_eq_zero v.1.symm
  rw [this]; exact .nil
 | x::xs,l,am,e,v=>by
  obtain ⟨u,us,rfl,v1,v2⟩:=v.inv_cons
  cases x with
  | str i =>
   obtain ⟨_,rfl,_⟩:=v1.strE
   simp only [dj] at e
   cases hr:dj xs with
   | none=>rw [hr] at e; contradiction
   | some l'=>rw [hr] at e; obtain rfl:=oi e; exact .cons _ _ (rS hr v2)
  | _=>simp [dj] at e
theorem vf (x:String):PyData.strOk (Str.ofString x)=true:=by
 rw [Str.ofString_eq_toList]
 unfold PyData.strOk
 rw [Array.all_eq_true']
 intro c hc
 simp at hc
 obtain ⟨d,_,rfl⟩:=hc
 have:=d.valid
 simp only [decide_eq_true_eq]
 rcases this with h | ⟨_,h⟩
 ·exact Nat.lt_trans h (by decide)
 ·exact h
theorem acT {i:Int} (h:0 <= i/\i < 1000000000):i.natAbs.log2 < 1920:=by
 by_cases h0:i.natAbs=0
 ·rw [h0]; decide
 ·rw [Nat.log2_lt h0]
  exact Nat.lt_of_lt_of_le (show i.natAbs < 1000000000 by grind) (aC (show 1000000000 <= 2 ^ 30 by decide) (Nat.pow_le_pow_right (by decide) (by decide)))
theorem pg:∀ {am:List Value} {l:List Int},IntsAre am l->∃ xs:Array (Int × Tok),am.toArray=intItems xs/\xs.toList.map (·.1)=l
 | _,_,.nil=>⟨#[],by simp [intItems],rfl⟩
 | _,_,.cons n t r=>by
  obtain ⟨xs,e1,e2⟩:=pg r
  refine ⟨⟨(n,t)::xs.toList⟩,?_,by simp [e2]⟩
  have:intItems xs=⟨_⟩:=e1.symm
  simp only [intItems] at e1 ⊢
  rw [<- Array.toList_inj] at e1 ⊢
  simp at e1 ⊢
  exact e1
section
variable {K:Kt} {A:Around} {s:Shared} {α:AL} {σ:ac}
theorem jG {a:Addr} {am:List Value} {n:Nat} (e:s.heap.get? a=some { cls:=.type "list",data:=.seq am.toArray n }):s.heap.IsList a am.toArray:=⟨_,e,rfl,n,rfl⟩
theorem isT {a:Addr} {am:List Value} {n:Nat} (e:s.heap.get? a=some { cls:=.type "tuple",data:=.seq am.toArray n }):IsTup s.heap a am.toArray:=⟨_,e,rfl,n,rfl⟩
noncomputable def pa:B1->Value
 | .len=>.builtin "len" | .list _=>.type "list" | .tuple=>.type "tuple" | .all=>.builtin "all" | .int=>.type "int" | .str=>.type "str" | .lenset=>.none
 | .sum=>.builtin "sum"
 | .min=>.builtin "min" | .max=>.builtin "max"
 | .dict=>.none
theorem ut {f:Int->Int->Int} {R:Int->Int->Prop} (rfl':∀ a,R a a) (tr:∀ {a b c},R a b->R b c->R a c) (h1:∀ x y,R (f x y) x) (h2:∀ x y,R (f x y) y) (h3:∀ x y,f x y=x\/f x y=y) (l:List Int):∀ x,(∀ a ∈ x::l,R (l.foldl f x) a)/\l.foldl f x ∈ x::l:=by
 induction l with
 | nil=>exact fun x=>⟨fun a ha=>List.mem_singleton.mp ha ▸ rfl' x,List.mem_cons_self⟩
 | cons y l ih =>
  intro x
  obtain ⟨q1,q2⟩:=ih (f x y)
  have q0:=q1 _ List.mem_cons_self
  refine ⟨fun a ha=>?_,?_⟩
  ·rcases List.mem_cons.mp ha with e | ha
   ·rw [e]; exact tr q0 (h1 x y)
   ·rcases List.mem_cons.mp ha with e | ha
    ·rw [e]; exact tr q0 (h2 x y)
    ·exact q1 a (bJ _ ha)
  ·rcases List.mem_cons.mp q2 with e | q
   ·rcases h3 x y with z | z
    ·rw [List.foldl_cons,e.trans z]; exact List.mem_cons_self
    ·rw [List.foldl_cons,e.trans z]; exact bJ _ List.mem_cons_self
   ·exact bJ _ (bJ _ q)
theorem zb (l:List Int) (x:Int):(∀ a ∈ x::l,l.foldl min x <= a)/\l.foldl min x ∈ x::l:=
 ut (R:=(· <= ·)) Int.le_refl Int.le_trans Int.min_le_left Int.min_le_right (fun x y=>by rcases Int.le_total x y with h | h; exact .inl (Int.min_eq_left h); exact .inr (Int.min_eq_right h)) l x
theorem zc (l:List Int) (x:Int):(∀ a ∈ x::l,a <= l.foldl max x)/\l.foldl max x ∈ x::l:=
 ut (R:=fun a b=>b <= a) Int.le_refl (fun p q=>Int.le_trans q p) Int.le_max_left Int.le_max_right (fun x y=>by rcases Int.le_total x y with h | h; exact .inr (Int.max_eq_right h); exact .inl (Int.max_eq_left h)) l x
theorem wy {x:Int} (h:x.natAbs <= 1000 * 2 ^ 40):InLong x:=by unfold InLong; omega
theorem abw {l:List Int} (h1:l.length <= 1000) (h2:l.all (fun x=>decide (x.natAbs < 2 ^ 40))=true):∀ j,j < l.length->InLong (l.getD j 0)/\InLong ((l.take (j + 1)).sum):=by
 have key:∀ (m:List Int),(∀ x ∈ m,x.natAbs < 2 ^ 40)->m.sum.natAbs <= m.length * 2 ^ 40:=by
  intro m
  induction m with
  | nil=>intro _; exact Nat.zero_le _
  | cons x m ih =>
   intro h
   rw [List.sum_cons,List.length_cons,Nat.succ_mul,Nat.add_comm]
   exact aC (Int.natAbs_add_le x m.sum) (Nat.add_le_add (Nat.le_of_lt (h x List.mem_cons_self)) (ih fun y hy=>h y (bJ _ hy)))
 intro j hj
 have hall:∀ x ∈ l,x.natAbs < 2 ^ 40:=fun x hx=>of_decide_eq_true (List.all_eq_true.mp h2 x hx)
 refine ⟨wy (aC (Nat.le_of_lt (hall _ (getD_mem hj))) (by decide)),wy (aC (key (l.take (j + 1)) fun x hx=>hall x (List.mem_of_mem_take hx)) (Nat.mul_le_mul_right _ (aC ?_ h1)))⟩
 rw [List.length_take]; exact Nat.min_le_right _ _
inductive agG (h:Heap) (α:AL) (a:PV) (xs:List PV) (x:Value):Prop
 | mk (l:Addr) (T:String) (vs:List Value) (n:Nat) (e:x=.ref l) (hT:T = "list" \/ T = "tuple") (ht:h.get? l=some { cls:=.type T,data:=.seq (List.toArray vs) n }) (v:aO h α xs vs) (ha:T = "tuple" -> a=.tup xs):agG h α a xs x
theorem tM {a:PV} {x:Value} {xs:List PV} (r:R K.hb s.heap σ α) (va:VR s.heap α a x) (e:aZ σ a=some xs) :
  agG s.heap α a xs x:=by
 cases a with
 | fl ys=>obtain rfl:=oi e; obtain ⟨l,vs,n,rfl,e1,_,v⟩:=va.flE; exact ⟨l,_,vs,n,rfl,.inl rfl,e1,v,fun h=>by simp at h⟩
 | tup ys=>obtain rfl:=oi e; obtain ⟨l,vs,n,rfl,e1,_,v⟩:=va.tupE; exact ⟨l,_,vs,n,rfl,.inr rfl,e1,v,fun zz=>rfl⟩
 | ref i =>
  obtain ⟨l,rfl,el⟩:=va.refE
  simp only [aZ] at e
  cases hs:σ[i]? with
  | none=>rw [hs] at e; contradiction
  | some m =>
   rw [hs] at e
   cases m with
   | lst ys=>obtain rfl:=oi e; obtain ⟨vs,n,e1,v⟩:=r.obj i _ l hs el; exact ⟨l,_,vs,n,rfl,.inl rfl,e1,v,fun h=>by simp at h⟩
   | _=>contradiction
 | _=>contradiction
theorem a6.list {fz:Bool} {xs:List PV} {vs:List Value} {D:Addr} {h':Heap} {n tk:Nat} (hl:xs.length <= au) (r:R K.hb s.heap σ α) (v:aO s.heap α xs vs) (k:∀ b o,s.heap.get? b=some o->h'.get? b=some o)
  (hD:s.heap.get? D=none) (e:h'.get? D=some { cls:=.type "list",data:=.seq vs.toArray n }):a6 K VR (cg fz xs σ) s α (.ref D) { s with heap:=h',toks:=tk }:=by
 unfold cg
 rw [if_pos hl]
 cases fz with
 | true =>
  refine ⟨_,_,_,rfl,.keeps k,r.keeps k,?_,⟨rfl,rfl⟩⟩
  refine VR.flI e (fun hm=>?_) (v.ext (.keeps (F:=[]) k))
  obtain ⟨o,e⟩:=r.liveAll hm; rw [hD] at e; contradiction
 | false =>
  obtain ⟨r',x⟩:=r.add (D:=D) (m:=.lst xs) k hD ⟨vs,n,e,v.ext (.add k hD)⟩
  refine ⟨_,_,_,rfl,x,r',.ref ?_,⟨rfl,rfl⟩⟩
  rw [r.len]; simp [AL.add]
theorem adl {fz:Bool} {xs:List PV} (h:cg fz xs σ ≠ .stuck):xs.length <= au:=by
 unfold cg at h
 by_cases hl:xs.length <= au
 ·exact hl
 ·rw [if_neg hl] at h; exact absurd rfl h
theorem t7 {fz:Bool} {a:PV} {x:Value} (r:R K.hb s.heap σ α) (va:VR s.heap α a x) :
  Runs K VR A (call (.type "list") [x]) (cK (.list fz) a σ) s α:=by
 intro hc tk
 cases he:aZ σ a with
 | none=>exact absurd (show (match aZ σ a with | some xs=>cg fz xs σ | none=>.stuck)=.stuck by rw [he]) hc
 | some xs =>
  have e0:cK (.list fz) a σ=cg fz xs σ:=show (match aZ σ a with | some xs=>cg fz xs σ | none=>.stuck)=_ by rw [he]
  rw [e0] at hc ⊢
  have hl:=adl hc
  obtain ⟨l,T,vs,n,rfl,hT,e1,v,_⟩:=tM r va he
  refine call_list_seq l hT e1 rfl rfl (fun h' c' k e=>?_) (by simpa [<- v.1] using cq hl)
  exact a6.list (tk:=s.toks) hl r v k (iD s) e
theorem qY {n:Nat} (h:n <= au):((n:Nat):Int) < 2 ^ 63:=by
 have:au=1000000:=rfl
 (grind)
theorem rV {h:Heap}:∀ {xs:List PV} {l:List Bool} {vs:List Value},dA xs=some l->aO h α xs vs->vs=l.map .bool
 | [],l,vs,e,v=>by obtain rfl:=oi e; exact List.eq_nil_of_length_eq_zero v.1.symm
 | x::xs,l,vs,e,v=>by
  obtain ⟨u,us,rfl,v1,v2⟩:=v.inv_cons
  cases x with
  | bool b =>
   obtain rfl:=v1.boolE
   simp only [dA] at e
   cases hr:dA xs with
   | none=>rw [hr] at e; contradiction
   | some l'=>rw [hr] at e; obtain rfl:=oi e; rw [rV hr v2]; rfl
  | _=>simp [dA] at e
theorem ac7 (l:List Bool):(List.range l.length).all (fun i=>l.getD i false)=l.all id:=by
 induction l with
 | nil=>rfl
 | cons b l ih=>rw [List.length_cons,List.range_succ_eq_map,List.all_cons,List.all_map,List.all_cons,<- ih]; rfl
theorem ab0 {o:Obj} {h':Heap} (hk:∀ b o',b ∉ [s.heap.objs.size]->(s.heap.push o).get? b=some o'->h'.get? b=some o'):∀ b o',s.heap.get? b=some o'->h'.get? b=some o':=
 fun b o' e=>hk b o' (by simp; exact Nat.ne_of_lt (Heap.lt_size e)) (Heap.get?_push_of_some _ e)
theorem aav (bs:List Bool):TruthOf K.prog K.w A.in1 (fun i v=>(bs.map Value.bool).toArray[i]?=some v) (fun i=>bs.getD i false):=fun i v s' Q' E' hP hQ=>by
 simp only [List.getElem?_toArray,List.getElem?_map] at hP
 obtain ⟨b,hb,rfl⟩:=Option.map_eq_some_iff.mp hP
 refine wpAny_truthy_bool ?_
 have:bs.getD i false=b:=by simp [List.getD,hb]
 rw [<- this]; exact hQ
theorem aaw {l:Addr} {bs:List Bool} {n:Nat} (e1:s.heap.get? l=some { cls:=.type "list",data:=.seq (bs.map Value.bool).toArray n }) :
  (s.heap.push { cls:=.type "list_iterator",data:=.fields #[.ref l,.int 0 0] }).IsListIter s.heap.objs.size l 0/\(s.heap.push { cls:=.type "list_iterator",data:=.fields #[.ref l,.int 0 0] }).IsList l (bs.map Value.bool).toArray:=
 ⟨⟨_,Heap.get?_push_size _ rfl,rfl,rfl⟩,⟨_,Heap.get?_push_of_some _ e1,rfl,n,rfl⟩⟩
theorem ah1 {l:Addr} {bs:List Bool} {n:Nat} {Q:Value->Shared->Prop} {E:Value->Shared->Prop} (hA:dv A) (hh:A.handled=none) (e1:s.heap.get? l=some { cls:=.type "list",data:=.seq (bs.map Value.bool).toArray n })
  (h:∀ h' tk,(∀ b o',s.heap.get? b=some o'->h'.get? b=some o')->Q (.bool (bs.all id)) { s with heap:=h',toks:=tk }):wpAny (model K.prog K.w) A (call (.builtin "all") [.ref l]) Q E s:=by
 refine call_all_walk (wpAny_pyIter_list (jG e1) ⟨_,_,_,_,_,_,_,rfl,Walks.list (A:=A.in1) hh _ l (Nat.ne_of_lt (Heap.lt_size e1)) (bs.map Value.bool).toArray,aaw e1,aav bs,fun h' tk hk=>?_⟩)
 have:=h h' tk (ab0 hk)
 rw [show (bs.map Value.bool).toArray.size=bs.length by simp,ac7]; exact this
theorem abY {a:PV} {x:Value} {l:List Str} {Q:Value->Shared->Prop} {E:Value->Shared->Prop} (hA:dv A) (hh:A.handled=none) (r:R K.hb s.heap σ α) (va:VR s.heap α a x) (hl:(aZ σ a).bind dj=some l) (hn:l.length <= 1000)
  (h:∀ D h' tk,(∀ b o,s.heap.get? b=some o->h'.get? b=some o)->(∀ (Q':Value->Shared->Prop) (E':Value->Shared->Prop),(∀ t tk',Q' (.int (b8 l).length t) { s with heap:=h',toks:=tk' })->wpAny (model K.prog K.w) A (call (.builtin "len") [.ref D]) Q' E' { s with heap:=h',toks:=tk })->Q (.ref D) { s with heap:=h',toks:=tk }) :
  wpAny (model K.prog K.w) A (call (.type "set") [x]) Q E s:=by
 obtain ⟨xs,h1,h2⟩:=Option.bind_eq_some_iff.mp hl
 obtain ⟨ad,T,vs,n,rfl,hT,e1,v,_⟩:=tM r va h1
 have hS:=rS h2 v
 have hlen:vs.length=l.length:=r9 hS
 refine xr hh hT e1 (by simpa using hS) (by rw [List.size_toArray,hlen]; unfold scanBound; (grind)) fun h' tk hset hk=>?_
 refine h _ h' tk (fun b o e=>hk b o (Heap.lt_size e) e) fun Q' E' hq=>?_
 obtain ⟨o,es,ep,t,ho,hex,hd,hel,hmem,hb,hf,hn'⟩:=hset
 refine call_len_set (s:={ s with heap:=h',toks:=tk }) ho hex hd hf (by unfold scanBound at hb; (grind)) ?_
 rw [hn']; exact hq _ _
theorem qW {β:Type} {g:List PV->Option β} {f:β->af PV} {a:PV} {P:Prop} (h:c9 g f a σ ≠ .stuck) (k:∀ xs l,be σ a=some xs->g xs=some l->f l ≠ .stuck->c9 g f a σ=f l->P):P:=by
 cases he:(be σ a).bind g with
 | none=>exact absurd (by unfold c9; rw [he]) h
 | some l =>
  have e:c9 g f a σ=f l:=by unfold c9; rw [he]
  exact aF he fun xs h1 h2=>k xs l h1 h2 (e ▸ h) e
theorem vB {a:PV} {x:Value} {xs:List PV} {l:List Int} (r:R K.hb s.heap σ α) (va:VR s.heap α a x) (h1:be σ a=some xs) (h2:bL xs=some l):∃ ad ys,x=.ref ad/\s.heap.IsList ad (intItems ys)/\ys.toList.map (·.1)=l:=by
 obtain ⟨ad,vs,n,rfl,e1,v⟩:=gy r va h1
 obtain ⟨ys,h3,h4⟩:=pg (rU h2 v)
 exact ⟨ad,ys,rfl,h3 ▸ jG e1,h4⟩
theorem acN {a:PV} {x:Value} (hh:A.handled=none) (r:R K.hb s.heap σ α) (va:VR s.heap α a x):Runs K VR A (call (.builtin "sum") [x]) (cK .sum a σ) s α:=by
 show Runs K VR A _ (c9 bL _ a σ) s α
 intro hc tk
 refine qW hc fun xs l h1 h2 hc e=>?_
 rw [e]
 obtain ⟨ad,ys,rfl,hL,h4⟩:=vB r va h1 h2
 by_cases hl:l.length <= 1000/\l.all (fun x=>decide (x.natAbs < 2 ^ 40))
 ·rw [if_pos hl]
  refine sum_intList hh hL (fun j hj=>?_) fun h' tk t' k=>?_
  ·rw [numAt_eq,preSum_eq,h4]
   exact abw hl.1 hl.2 j (by rw [<- h4]; simpa using hj)
  ·rw [preSum_eq,h4,List.take_of_length_le (by rw [<- h4]; simp)]
   exact ⟨_,_,_,rfl,.keeps k,r.keeps k,.int _ _,⟨rfl,rfl⟩⟩
 ·exact absurd (if_neg hl) hc
theorem adp {a:PV} {x:Value} (hh:A.handled=none) (r:R K.hb s.heap σ α) (va:VR s.heap α a x):Runs K VR A (call (.builtin "min") [x]) (cK .min a σ) s α:=by
 show Runs K VR A _ (c9 bL _ a σ) s α
 intro hc tk
 refine qW hc fun xs l h1 h2 hc e=>?_
 rw [e]
 obtain ⟨ad,ys,rfl,hL,h4⟩:=vB r va h1 h2
 cases l with
 | nil=>exact absurd rfl hc
 | cons x0 l =>
  have hlen:ys.size=l.length + 1:=by have:=congrArg List.length h4; simpa using this
  refine min_intList hh hL (hlen ▸ Nat.succ_pos _) fun u h' tk hv k=>?_
  obtain ⟨t,rfl⟩:=intItems_at hv
  obtain ⟨q1,q2⟩:=argBest_lt (numAt ys) (ys.size - 1)
  rw [hlen] at q1 q2 ⊢
  obtain ⟨m1,m2⟩:=zb l x0
  have hm:numAt ys (argBest (fun i j=>decide (numAt ys i < numAt ys j)) l.length)=l.foldl min x0:=by
   refine Int.le_antisymm ?_ (m1 _ ?_)
   ·obtain ⟨j,hj,e⟩:=mem_getD m2
    have:=q2 j (Nat.le_of_lt_succ hj)
    rw [numAt_eq ys j,h4,e] at this; exact this
   ·rw [numAt_eq,h4]; exact getD_mem (Nat.lt_succ_of_le q1)
  refine ⟨_,_,_,rfl,.keeps k,r.keeps k,?_,⟨rfl,rfl⟩⟩
  rw [show l.length + 1 - 1=l.length from rfl,hm]
  exact .int _ _
theorem adv {a:PV} {x:Value} (hh:A.handled=none) (r:R K.hb s.heap σ α) (va:VR s.heap α a x):Runs K VR A (call (.builtin "max") [x]) (cK .max a σ) s α:=by
 show Runs K VR A _ (c9 bL _ a σ) s α
 intro hc tk
 refine qW hc fun xs l h1 h2 hc e=>?_
 rw [e]
 obtain ⟨ad,ys,rfl,hL,h4⟩:=vB r va h1 h2
 cases l with
 | nil=>exact absurd rfl hc
 | cons x0 l =>
  have hlen:ys.size=l.length + 1:=by have:=congrArg List.length h4; simpa using this
  refine max_intList hh hL (hlen ▸ Nat.succ_pos _) fun u h' tk hv k=>?_
  obtain ⟨t,rfl⟩:=intItems_at hv
  obtain ⟨q1,q2⟩:=argBest_gt (numAt ys) (ys.size - 1)
  rw [hlen] at q1 q2 ⊢
  obtain ⟨m1,m2⟩:=zc l x0
  have hm:numAt ys (argBest (fun i j=>decide (numAt ys i > numAt ys j)) l.length)=l.foldl max x0:=by
   refine Int.le_antisymm (m1 _ ?_) ?_
   ·rw [numAt_eq,h4]; exact getD_mem (Nat.lt_succ_of_le q1)
   ·obtain ⟨j,hj,e⟩:=mem_getD m2
    have:=q2 j (Nat.le_of_lt_succ hj)
    rw [numAt_eq ys j,h4,e] at this; exact this
  refine ⟨_,_,_,rfl,.keeps k,r.keeps k,?_,⟨rfl,rfl⟩⟩
  rw [show l.length + 1 - 1=l.length from rfl,hm]
  exact .int _ _
theorem ajH {σ:ac} {P:PV->af PV->Prop} (h0:∀ a,P a .stuck) (h1:∀ z,z.length <= au->P (.str z) (.ok (.int z.length) σ)) (h2:∀ a xs,aZ σ a=some xs->xs.length <= au->P a (.ok (.int xs.length) σ)):∀ a,P a (cK .len a σ):=by
 intro a
 have ls:P a (fA (fun xs=>if xs.length <= au then af.ok (PV.int xs.length) σ else .stuck) a σ):=by
  unfold fA
  cases e:aZ σ a with
  | none=>exact h0 _
  | some xs =>
   dsimp only
   by_cases hl:xs.length <= au
   ·rw [if_pos hl]; exact h2 a xs e hl
   ·rw [if_neg hl]; exact h0 _
 cases a with
 | str z =>
  show P _ (if z.length <= au then af.ok (PV.int z.length) σ else .stuck)
  by_cases hl:z.length <= au
  ·rw [if_pos hl]; exact h1 z hl
  ·rw [if_neg hl]; exact h0 _
 | _=>exact ls
theorem agM {σ:ac} {P:PV->af PV->Prop} (h0:∀ a,P a .stuck) (h2:∀ a xs,aZ σ a=some xs->xs.length <= au->P a (.ok (.tup xs) σ)) (a:PV):P a (cK .tuple a σ):=by
 show P a (fA (fun xs=>if xs.length <= au then af.ok (PV.tup xs) σ else .stuck) a σ)
 unfold fA
 cases e:aZ σ a with
 | none=>exact h0 _
 | some xs =>
  dsimp only
  by_cases hl:xs.length <= au
  ·rw [if_pos hl]; exact h2 a xs e hl
  ·rw [if_neg hl]; exact h0 _
theorem aed {b:B1} {a:PV} {x:Value} (hb:pa b ≠ .none) (hA:dv A) (hh:xO b=true->A.handled=none) (r:R K.hb s.heap σ α) (va:VR s.heap α a x) :
  Runs K VR A (call (pa b) [x]) (cK b a σ) s α:=by
 cases b with
 | len =>
  refine ajH (P:=fun a c=>VR s.heap α a x->Runs K VR A (call (.builtin "len") [x]) c s α) (fun zz zz hc=>absurd rfl hc) (fun z hl va zz zz=>?_) (fun a xs he hl va zz zz=>?_) a va
  ·obtain ⟨_,rfl,_⟩:=va.strE
   exact P.len_str (by have:=qY hl; (grind)) (.here r (.int _ _))
  ·obtain ⟨l,T,vs,n,rfl,hT,e1,v,_⟩:=tM r va he
   have hs:(vs.toArray.size:Int) < 2 ^ 63:=by rw [List.size_toArray,<- v.1]; exact qY hl
   rcases hT with rfl | rfl
   ·refine PyProof.Rows.len_list (jG e1) hs ?_
    simp only [List.size_toArray,<- v.1]; exact .here r (.int _ _)
   ·refine PyProof.Rows.len_tuple (isT e1) hs ?_
    simp only [List.size_toArray,<- v.1]; exact .here r (.int _ _)
 | list fz=>exact t7 r va
 | tuple =>
  refine agM (P:=fun a c=>VR s.heap α a x->Runs K VR A (call (.type "tuple") [x]) c s α) (fun zz zz hc=>absurd rfl hc) (fun a xs he hl va zz zz=>?_) a va
  obtain ⟨l,T,vs,n,rfl,hT,e1,v,ht⟩:=tM r va he
  rcases hT with rfl | rfl
  ·refine call_tuple_list (jG e1) (fun h' k=>?_) (by simpa [<- v.1] using cq hl)
   have k':∀ b o,s.heap.get? b=some o->(h'.push { cls:=.type "tuple",data:=.seq vs.toArray }).get? b=some o:=fun b o e=>Heap.get?_push_of_some _ (k b o e)
   refine ⟨_,_,_,rfl,.keeps k',r.keeps k',?_,⟨rfl,rfl⟩⟩
   refine VR.tupI (n:=0) (Heap.get?_push_size _ rfl) (fun hm=>?_) (v.ext (.keeps (F:=[]) k'))
   obtain ⟨o,e⟩:=r.liveAll hm
   exact absurd (Heap.lt_size (k _ _ e)) (Nat.lt_irrefl _)
  ·rw [ht rfl] at va
   exact call_tuple_tup (isT e1) ⟨_,_,_,rfl,.refl,r,va,.refl s⟩
 | sum=>exact acN (hh rfl) r va
 | min=>exact adp (hh rfl) r va
 | max=>exact adv (hh rfl) r va
 | all =>
  show Runs K VR A _ (c9 dA _ a σ) s α
  intro hc tk
  refine qW hc fun xs l h1 h2 zz e=>?_
  rw [e]
  obtain ⟨ad,vs,n,rfl,e1,v⟩:=gy r va h1
  rw [rV h2 v] at e1
  exact ah1 hA (hh rfl) e1 fun h' tk k=>⟨_,_,_,rfl,.keeps k,r.keeps k,.bool _,⟨rfl,rfl⟩⟩
 | int =>
  intro hc tk
  cases a with
  | bool b=>obtain rfl:=va.boolE; exact call_int_bool (.here r (.int _ _))
  | _=>exact absurd rfl hc
 | str =>
  intro hc tk
  cases a with
  | str z=>obtain ⟨_,rfl,hz⟩:=va.strE; exact P.str_of_str ⟨_,_,_,rfl,.refl,r,.str _ _ hz,.refl s⟩
  | int i =>
   obtain ⟨_,rfl⟩:=va.intE
   have e0:cK .str (.int i) σ=if 0 <= i/\i < 1000000000 then .ok (.str (Str.ofString (toString i))) σ else .stuck:=rfl
   rw [e0] at hc ⊢
   by_cases hl:0 <= i/\i < 1000000000
   ·rw [if_pos hl]
    exact P.str_of_int (acT hl) (.here r (.str _ _ (vf _)))
   ·rw [if_neg hl] at hc; exact absurd rfl hc
  | _=>exact absurd rfl hc
 | lenset=>exact absurd rfl hb
 | dict=>exact absurd rfl hb
end
end Mine
namespace Mine
open PySem PyProof.Rows
theorem R.set {hb h h' σ α} {i:Nat} {a:Addr} {m:MO} {oa:Obj} (r:R hb h σ α) (ea:α.ix[i]?=some a) (k:∀ b o,b ≠ a->h.get? b=some o->h'.get? b=some o) (al:h'.get? a=some oa)
  (o:aD [] α h α h'->OR hb h' α m a):R hb h' (σ.set i m) α/\aD [] α h α h':=by
 have ha:a ∈ α.ix:=List.mem_of_getElem? ea
 have x:aD [] α h α h':=⟨rfl,⟨[],by simp,fun zz hx=>by simp at hx⟩,fun b o hb e zz=>k b o (fun q=>hb (q ▸ ha)) e,fun b o hb zz e=>.inl (k b o (fun q=>hb (q ▸ ha)) e),
  fun b o zz e=>by
   by_cases q:b=a
   ·subst q; exact ⟨oa,al⟩
   ·exact ⟨o,k b o q e⟩,rfl⟩
 refine ⟨⟨fun b o e=>k b o (fun q=>?_) (r.base b o e),r.fresh,r.nodup,by simp [r.len],fun b hb=>⟨(r.hidden b hb).1,let ⟨o,e⟩:=(r.hidden b hb).2; ⟨o,k b o (fun q=>(r.hidden b hb).1 (q ▸ ha)) e⟩⟩,fun j m' a' e1 e2=>?_,r.hfr,r.fe,fun b hb=>⟨(r.frs b hb).1,let ⟨o,e,d⟩:=(r.frs b hb).2; ⟨o,k b o (fun q=>r.frNot b hb (q ▸ ha)) e,d⟩⟩,r.frNot⟩,x⟩
 ·rw [q,r.fresh a ha] at e; contradiction
 ·by_cases hj:j=i
  ·subst hj
   rw [ea] at e2; obtain rfl:=oi e2
   rw [List.getElem?_set_self (by rw [r.len]; exact (eY ea).1)] at e1
   obtain rfl:=oi e1; exact o x
  ·rw [List.getElem?_set_ne (Ne.symm hj)] at e1
   have hne:a' ≠ a:=fun q=>by
    subst q
    exact hj ((List.getElem?_inj (eY e2).1 r.nodup).mp (e2.trans ea.symm))
   obtain ⟨o',e'⟩:=r.live (List.mem_of_getElem? e2)
   exact (r.obj j m' a' e1 e2).ext x (by rw [e',k a' o' hne e'])
section
variable {K:Kt} {A:Around} {s:Shared} {α:AL} {σ:ac}
theorem adj {a:PV} {x:Value} (r:R K.hb s.heap σ α) (va:VR s.heap α a x):Runs K VR A (unaryOp .USub x) (aiB a σ) s α:=by
 intro hc tk
 cases a with
 | int i=>obtain ⟨_,rfl⟩:=va.intE; exact P.neg_int (.here r (.int _ _))
 | _=>exact absurd rfl hc
theorem iT {a:PV} {x:Value} (r:R K.hb s.heap σ α) (va:VR s.heap α a x):Runs K dI A (truthy x) (cU a σ) s α:=by
 intro hc tk
 cases a with
 | bool b=>obtain rfl:=va.boolE; exact wpAny_truthy_bool ⟨_,_,_,rfl,.refl,r,rfl,.refl s⟩
 | _=>exact absurd rfl hc
noncomputable def abi:Ty->Option Value
 | .int=>some (.type "int") | .str=>some (.type "str") | .bool=>some (.type "bool") | .tuple=>some (.type "tuple")
section
variable {σ:ac} {P:PV->af Bool->Prop}
theorem ahB (h0:∀ a,P a .stuck) (h1:∀ i,P (.int i) (.ok true σ)) (h2:∀ b,P (.bool b) (.ok true σ)) (h3:P .none (.ok false σ)) (h4:∀ z,P (.str z) (.ok false σ)):∀ a,P a (fB a .int σ):=by
 intro a
 cases a with
 | int i=>exact h1 i
 | bool b=>exact h2 b
 | none=>exact h3
 | str z=>exact h4 z
 | _=>exact h0 _
theorem afk (h0:∀ a,P a .stuck) (h1:∀ i,P (.int i) (.ok false σ)) (h2:∀ b,P (.bool b) (.ok true σ)) (h3:P .none (.ok false σ)) (h4:∀ z,P (.str z) (.ok false σ)):∀ a,P a (fB a .bool σ):=by
 intro a
 cases a with
 | int i=>exact h1 i
 | bool b=>exact h2 b
 | none=>exact h3
 | str z=>exact h4 z
 | _=>exact h0 _
theorem ahA (h0:∀ a,P a .stuck) (h1:∀ i,P (.int i) (.ok false σ)) (h2:∀ b,P (.bool b) (.ok false σ)) (h3:P .none (.ok false σ)) (h4:∀ z,P (.str z) (.ok true σ)) (h5:∀ xs,P (.tup xs) (.ok false σ)):∀ a,P a (fB a .str σ):=by
 intro a
 cases a with
 | int i=>exact h1 i
 | bool b=>exact h2 b
 | none=>exact h3
 | str z=>exact h4 z
 | tup xs=>exact h5 xs
 | _=>exact h0 _
theorem ahz (h0:∀ a,P a .stuck) (h1:∀ i,P (.int i) (.ok false σ)) (h4:∀ z,P (.str z) (.ok false σ)) (h5:∀ xs,P (.tup xs) (.ok true σ)):∀ a,P a (fB a .tuple σ):=by
 intro a
 cases a with
 | int i=>exact h1 i
 | str z=>exact h4 z
 | tup xs=>exact h5 xs
 | _=>exact h0 _
end
theorem yP {t:Ty} {tv:Value} {a:PV} {x:Value} (ht:abi t=some tv) (r:R K.hb s.heap σ α) (va:VR s.heap α a x) :
  Runs K cr A (call (.builtin "isinstance") [x,tv]) (fB a t σ) s α:=by
 have ok:∀ {b:Bool} {tk:Nat},a6 K cr (.ok b σ) s α (.bool b) { s with toks:=tk }:=⟨_,_,_,rfl,.refl,r,rfl,⟨rfl,rfl⟩⟩
 have st:∀ (tv:Value) (a:PV),VR s.heap α a x->Runs K cr A (call (.builtin "isinstance") [x,tv]) .stuck s α:=fun zz zz zz hc=>absurd rfl hc
 cases t with
 | int =>
  obtain rfl:=oi ht
  exact ahB (P:=fun a c=>VR s.heap α a x->Runs K cr A (call (.builtin "isinstance") [x,.type "int"]) c s α) (st _)
   (fun i va zz zz=>by obtain ⟨_,rfl⟩:=va.intE; exact IsiPair.int_int (ok (tk:=s.toks))) (fun b va zz zz=>by obtain rfl:=va.boolE; exact IsiPair.bool_int (ok (tk:=s.toks)))
   (fun va zz zz=>by obtain rfl:=va.noneE; exact IsiPair.NoneType_int ok) (fun z va zz zz=>by obtain ⟨_,rfl,_⟩:=va.strE; exact IsiPair.str_int ok) a va
 | bool =>
  obtain rfl:=oi ht
  exact afk (P:=fun a c=>VR s.heap α a x->Runs K cr A (call (.builtin "isinstance") [x,.type "bool"]) c s α) (st _)
   (fun i va zz zz=>by obtain ⟨_,rfl⟩:=va.intE; exact IsiPair.int_bool ok) (fun b va zz zz=>by obtain rfl:=va.boolE; exact IsiPair.bool_bool (ok (tk:=s.toks)))
   (fun va zz zz=>by obtain rfl:=va.noneE; exact IsiPair.NoneType_bool ok) (fun z va zz zz=>by obtain ⟨_,rfl,_⟩:=va.strE; exact IsiPair.str_bool ok) a va
 | str =>
  obtain rfl:=oi ht
  exact ahA (P:=fun a c=>VR s.heap α a x->Runs K cr A (call (.builtin "isinstance") [x,.type "str"]) c s α) (st _)
   (fun i va zz zz=>by obtain ⟨_,rfl⟩:=va.intE; exact IsiPair.int_str ok) (fun b va zz zz=>by obtain rfl:=va.boolE; exact IsiPair.bool_str ok)
   (fun va zz zz=>by obtain rfl:=va.noneE; exact IsiPair.NoneType_str ok) (fun z va zz zz=>by obtain ⟨_,rfl,_⟩:=va.strE; exact IsiPair.str_str (ok (tk:=s.toks)))
   (fun xs va zz zz=>by obtain ⟨l,vs,n,rfl,e1,_,v⟩:=va.tupE; exact IsiPair.tuple_str e1 rfl ok) a va
 | tuple =>
  obtain rfl:=oi ht
  exact ahz (P:=fun a c=>VR s.heap α a x->Runs K cr A (call (.builtin "isinstance") [x,.type "tuple"]) c s α) (st _)
   (fun i va zz zz=>by obtain ⟨_,rfl⟩:=va.intE; exact IsiPair.int_tuple ok) (fun z va zz zz=>by obtain ⟨_,rfl,_⟩:=va.strE; exact IsiPair.str_tuple ok)
   (fun xs va zz zz=>by obtain ⟨l,vs,n,rfl,e1,_,v⟩:=va.tupE; exact IsiPair.tuple_tuple e1 rfl (ok (tk:=s.toks))) a va
theorem wl (i:Int) (n:Nat):cC i n=seqIndex? i n:=by
 unfold cC seqIndex?
 by_cases h:0 <= i
 ·have h':¬ i < 0:=by grind
  rw [if_pos h,if_neg h']
  by_cases h2:i.toNat < n
  ·rw [if_pos h2,if_pos (by simp; (grind))]
  ·rw [if_neg h2,if_neg (by simp; (grind))]
 ·have h':i < 0:=by grind
  rw [if_neg h,if_pos h']
  by_cases h2:0 <= i + n
  ·rw [if_pos h2,if_pos (by simp; (grind))]
  ·rw [if_neg h2,if_neg (by simp; (grind))]
theorem p5 {i:Int} {n j:Nat} (h:cC i n=some j):-(n:Int) <= i/\i < n:=by
 unfold cC at h
 split at h
 ·split at h
  ·(grind)
  ·contradiction
 ·split at h
  ·(grind)
  ·contradiction
theorem sr {l:Addr} {vs:List Value} {n j:Nat} {i:Int} {t:Tok} {u:Value} {Q:Value->Shared->Prop} {E:Value->Shared->Prop} (e1:s.heap.get? l=some { cls:=.type "list",data:=.seq vs.toArray n })
  (hsz:vs.length <= au) (hj:cC i vs.length=some j) (hu:vs[j]?=some u) (h:Q u s):wpAny (model K.prog K.w) A (getItem (.ref l) (.int i t)) Q E s:=by
 have hl:=qY hsz
 unfold cC at hj
 by_cases h0:0 <= i
 ·rw [if_pos h0] at hj
  split at hj
  ·cases hj; exact wpAny_getItem_list (jG e1) h0 (by grind) (by simpa using hu) h
  ·cases hj
 ·rw [if_neg h0] at hj
  split at hj
  ·cases hj; exact wpAny_getItem_list_neg (jG e1) (by grind) (by simp; grind) (by grind) (by simpa using hu) h
  ·cases hj
theorem aO.get {h:Heap} {xs:List PV} {vs:List Value} {j:Nat} {p:PV} (v:aO h α xs vs) (e:xs[j]?=some p):∃ u,vs[j]?=some u/\VR h α p u:=by
 have hj:=(eY e).1
 have hv:j < vs.length:=by rw [<- v.1]; exact hj
 exact ⟨vs[j],by simp [hv],v.2 j p vs[j] e (by simp [hv])⟩
theorem qd {value slice:Expr} {xs:List PV} {l:Addr} {vs:List Value} {n:Nat} {i:Int} {t:Tok} {T:String} (hT:T = "list" \/ T = "tuple") (hs:∀ o i:Value,subscripted slice false o i=operate [o,i] (getItem o i))
  (r:R K.hb s.heap σ α) (e1:s.heap.get? l=some { cls:=.type T,data:=.seq vs.toArray n }) (v:aO s.heap α xs vs):Runs K VR A (subscriptTail value slice (.ref l) (.int i t)) (ji xs i σ) s α:=by
 intro hc tk
 unfold ji at hc ⊢
 by_cases hl:xs.length <= au
 ·rw [if_pos hl] at hc ⊢
  cases hj:(cC i xs.length).bind (xs[·]?) with
  | none=>rw [hj] at hc; exact absurd rfl hc
  | some p =>
   obtain ⟨j,h1,h2⟩:=Option.bind_eq_some_iff.mp hj
   obtain ⟨u,hu,hv⟩:=v.get h2
   have hl':vs.length <= au:=by rw [<- v.1]; exact hl
   rcases hT with rfl | rfl
   ·refine tail_any (jG e1).typeIs slot_list_getitem.lookup ?_ (hs _ _)
    exact sr e1 hl' (by rw [<- v.1]; exact h1) hu ⟨_,_,_,rfl,.refl,r,hv,.refl s⟩
   ·have hl3:=qY hl'
    have hr:=p5 h1
    have hlen:=v.1
    exact item_tupleT (isT e1) (by grind) (by grind) (by rw [<- wl,<- v.1]; exact h1) hu ⟨_,_,_,rfl,.refl,r,hv,.refl s⟩ (hs _ _)
 ·rw [if_neg hl] at hc; exact absurd rfl hc
theorem aii {σ:ac} {P:PV->PV->af PV->Prop} (h0:∀ a b,P a b .stuck) (h1:∀ i es k v,σ[i]?=some (.ds es)->ah k es=some v->P (.ref i) (.str k) (.ok v σ)) (h2:∀ i b es k v,σ[i]?=some (.dp es)->dZ b=some k->ah k es=some v->P (.ref i) b (.ok v σ)):∀ a b,P a b (n9 a b σ):=by
 intro a b
 cases a with
 | ref i =>
  unfold n9
  dsimp only
  cases hq:σ[i]? with
  | none=>exact h0 _ _
  | some m =>
   cases m with
   | ds es =>
    cases b with
    | str k =>
     dsimp only
     cases hv:ah k es with
     | none=>exact h0 _ _
     | some v=>exact h1 i es k v hq hv
    | _=>exact h0 _ _
   | dp es =>
    dsimp only
    cases hk:dZ b with
    | none=>exact h0 _ _
    | some k =>
     show P _ _ (af.ofOpt (ah k es) σ)
     cases hv:ah k es with
     | none=>exact h0 _ _
     | some v=>exact h2 i b es k v hq hk hv
   | _=>exact h0 _ _
 | _=>exact h0 _ _
theorem abz {value slice:Expr} {a b:PV} {x y:Value} (hA:dv A) (hs:∀ o i:Value,subscripted slice false o i=operate [o,i] (getItem o i)) (r:R K.hb s.heap σ α) (va:VR s.heap α a x) (vb:VR s.heap α b y) :
  Runs K VR A (subscriptTail value slice x y) (n9 a b σ) s α:=
 aii (P:=fun a b c=>VR s.heap α a x->VR s.heap α b y->Runs K VR A (subscriptTail value slice x y) c s α) (fun zz zz zz zz hc=>absurd rfl hc)
  (fun i es k v hq hv va vb zz zz=>by
   obtain ⟨l,rfl,el⟩:=va.refE
   obtain ⟨_,rfl,_⟩:=vb.strE
   obtain ⟨kvs,h1,_⟩:=rd r hq el
   exact tail_any h1.typeIs slot_dict_getitem.lookup (ahv r hq el hv) (hs _ _))
  (fun i b es k v hq hk hv va vb zz zz=>by
   obtain ⟨l,rfl,el⟩:=va.refE
   obtain ⟨xs,h1,_⟩:=rf r hq el
   exact tail_any h1.typeIs slot_dict_getitem.lookup (ahw hA r hq el hk vb hv) (hs _ _)) a b va vb
theorem aif {σ:ac} {P:PV->PV->af PV->Prop} (h0:∀ a b,P a b .stuck) (h1:∀ z i c,z.cps.size <= au->(cC i z.cps.size).bind (z.cps[·]?)=some c->P (.str z) (.int i) (.ok (.str ⟨#[c]⟩) σ)) (h2:∀ xs i,P (.tup xs) (.int i) (ji xs i σ)) (h3:∀ a xs i,be σ a=some xs->P a (.int i) (ji xs i σ))
  (h4:∀ a b,P a b (n9 a b σ))
  : ∀ a b,P a b (eA a b σ):=by
 intro a b
 cases b with
 | int i =>
  have ls:P a (.int i) (match be σ a with | some xs=>ji xs i σ | none=>.stuck):=by
   cases e:be σ a with
   | none=>exact h0 _ _
   | some xs=>exact h3 a xs i e
  cases a with
  | tup xs=>exact h2 xs i
  | str z =>
   show P _ _ (if z.cps.size <= au then (match (cC i z.cps.size).bind (z.cps[·]?) with | some c=>af.ok (.str ⟨#[c]⟩) σ | none=>.stuck) else .stuck)
   by_cases hl:z.cps.size <= au
   ·rw [if_pos hl]
    cases hj:(cC i z.cps.size).bind (z.cps[·]?) with
    | none=>exact h0 _ _
    | some c=>exact h1 z i c hl hj
   ·rw [if_neg hl]; exact h0 _ _
  | _=>exact ls
 | _=>exact h4 a _
set_option tactic.hygienic true in
theorem abx {value slice:Expr} {a b:PV} {x y:Value} (hA:dv A) (hns:∀ l u p,slice ≠ .Slice l u none p) (r:R K.hb s.heap σ α) (va:VR s.heap α a x) (vb:VR s.heap α b y) :
  Runs K VR A (subscriptTail value slice x y) (eA a b σ) s α:=by
 have hs:∀ o i:Value,subscripted slice false o i=operate [o,i] (getItem o i):=fun o i=>by
  unfold subscripted
  split
  ·rename_i q; exact absurd rfl (hns _ _ _)
  ·rename_i q; contradiction
  ·rfl
 refine aif (P:=fun a b c=>VR s.heap α a x->VR s.heap α b y->Runs K VR A (subscriptTail value slice x y) c s α) (fun zz zz zz zz hc=>absurd rfl hc) (fun z i c hl hj va vb hc tk=>?_) (fun xs i va vb=>?_) (fun a xs i h1 va vb=>?_)
  (fun a b va vb=>abz hA hs r va vb)
  a b va vb
 ·obtain ⟨_,rfl,hz⟩:=va.strE
  obtain ⟨t,rfl⟩:=vb.intE
  have hl3:=qY hl
  obtain ⟨j,h1,h2⟩:=Option.bind_eq_some_iff.mp hj
  have hr:=p5 h1
  refine tail_any (typeIs_str s z _) F.slot_str_getitem.lookup ?_ (hs _ _)
  refine P.getItem_str (c:=c) (by simp; (grind)) (by rw [<- wl]; exact hj) (.here r (.str _ _ ?_))
  unfold PyData.strOk at hz ⊢
  simp only [Array.all_eq_true'] at hz ⊢
  intro d hd
  simp at hd
  subst hd
  exact hz _ (Array.mem_of_getElem? h2)
 ·obtain ⟨l,vs,n,rfl,e1,_,v⟩:=va.tupE
  obtain ⟨t,rfl⟩:=vb.intE
  exact qd (.inr rfl) hs r e1 v
 ·obtain ⟨l,vs,n,rfl,e1,v⟩:=gy r va h1
  obtain ⟨t,rfl⟩:=vb.intE
  exact qd (.inl rfl) hs r e1 v
end
end Mine
namespace Mine
open PySem PyProof.Rows
structure xS (env:Env):Prop where
 kind:env.scope.kind=.function
 glob:env.globals=mainGlobals
 bins:env.builtins=builtinsNs
 ws:∀ (i:Nat) (x:Str) (k:NameKind),env.scope.names[i]?=some (x,k)->env.kindOf x=some k
 nodbg:∀ (i:Nat) (x:Str) (k:NameKind),env.scope.names[i]?=some (x,k)->(x == ("__debug__" : Str))=false
structure ai (env:Env) (ρ:aq) (h:Heap) (α:AL):Prop where
 ok:xS env
 la:env.locals ∉ α.all
 ns:∃ m,h.Ns env.locals m/\∀ (i:Nat) (x:Str) (v:PV),env.scope.names[i]?=some (x,.local)->ρ[i]?=some (some v)->∃ u,m x=some u/\VR h α v u
 ca:∀ x c,env.cells.lookup x=some c->c ∉ α.all/\c ≠ env.locals/\∃ v,h.IsCell c v
 cd:∀ x y c,env.cells.lookup x=some c->env.cells.lookup y=some c->x=y
 cv:∀ (i:Nat) (x:Str),env.scope.names[i]?=some (x,.cell)->∃ c,env.cells.lookup x=some c/\∀ v,ρ[i]?=some (some v)->∃ u,h.IsCell c (some u)/\VR h α v u
 inb:∀ (i:Nat) (v:PV),ρ[i]?=some (some v)->∃ x k,env.scope.names[i]?=some (x,k)/\(k=.local\/k=.cell)
theorem ack {h h':Heap} {fr:List Addr} {c:Addr} {o:Obj} {v:Option Value} (_e:h.get? c=some o) (_d:o.data=.cell v) (x:fL fr h' c o):h'.get? c=some o:=x.same (by rintro ⟨es,n,q⟩; rw [_d] at q; cases q)
theorem fC {F α h α' h'} {c:Addr} {v:Option Value} (x:aD F α h α' h') (hc:c ∉ α.ix) (hF:c ∉ F) (i:h.IsCell c v):h'.IsCell c v:=by
 obtain ⟨o,e,d⟩:=i
 exact ⟨o,ack e d (x.rest c o hc hF e),d⟩
theorem yD {F α h α' h'} {a:Addr} {m:Str->Option Value} (x:aD F α h α' h') (ha:a ∉ α.ix) (hF:a ∉ F) (n:h.Ns a m):h'.Ns a m:=by
 obtain ⟨o,es,ep,e,r⟩:=id n
 exact (x.rest a o ha hF e).ns n e
noncomputable def pd (env:Env) (F:List Addr):Prop:=env.locals ∉ F/\∀ x c,env.cells.lookup x=some c->c ∉ F
theorem pd.nil {env:Env}:pd env []:=⟨by simp,fun zz zz zz=>by simp⟩
theorem ai.ext {F α h α' h'} {env:Env} {ρ:aq} (x:aD F α h α' h') (ap:pd env F) (E:ai env ρ h α):ai env ρ h' α':=by
 obtain ⟨m,n,hm⟩:=E.ns
 obtain ⟨oL,_,_,eL,_⟩:=id n
 refine ⟨E.ok,x.notAll E.la eL,⟨m,yD x (AL.not_ix E.la) ap.1 n,fun i y v e1 e2=>?_⟩,fun y c hc=>?_,E.cd,fun i y e1=>?_,E.inb⟩
 ·obtain ⟨u,h1,h2⟩:=hm i y v e1 e2
  exact ⟨u,h1,h2.ext x⟩
 ·obtain ⟨h1,h2,v,h3⟩:=E.ca y c hc
  obtain ⟨o,e,d⟩:=id h3
  exact ⟨x.notAll h1 e,h2,v,fC x (AL.not_ix h1) (ap.2 y c hc) h3⟩
 ·obtain ⟨c,hc,hv⟩:=E.cv i y e1
  refine ⟨c,hc,fun v e2=>?_⟩
  obtain ⟨u,h1,h2⟩:=hv v e2
  exact ⟨u,fC x (AL.not_ix (E.ca y c hc).1) (ap.2 y c hc) h1,h2.ext x⟩
section
variable {K:Kt} {A:Around} {s:Shared} {α:AL} {σ:ac} {env:Env} {ρ:aq}
set_option tactic.hygienic true in
theorem tX {C:aV} {i:Nat} {x:Str} {k:NameKind} {p:Pos} (r:R K.hb s.heap σ α) (E:ai env ρ s.heap α) (hn:env.scope.names[i]?=some (x,k)) :
  Runs K VR A (eval (.Name x p) env) (ev C (.v i) ρ σ) s α:=by
 intro hc tk
 simp only [akz,abh] at hc ⊢
 split at hc
 ·rename_i v hv
  obtain ⟨x',k',h1,h2⟩:=E.inb i v hv
  rw [hn] at h1; cases h1
  have hk:=E.ok.ws i x k hn
  refine wpAny_Name ?_ (E.ok.nodbg i x k hn)
  rcases h2 with rfl | rfl
  ·obtain ⟨m,n,hm⟩:=E.ns
   obtain ⟨u,h3,h4⟩:=hm i x v hn hv
   exact wpAny_loadName_local E.ok.kind hk n h3 ⟨_,_,_,rfl,.refl,r,h4,.refl s⟩
  ·obtain ⟨c,h3,h4⟩:=E.cv i x hn
   obtain ⟨u,h5,h6⟩:=h4 v hv
   exact wpAny_loadName_cell E.ok.kind hk h3 h5 ⟨_,_,_,rfl,.refl,r,h6,.refl s⟩
 ·exact absurd rfl hc
theorem gI {i:Nat} {x:Str} {p:Pos} {v:Value} {Q:Value->Shared->Prop} {X:Value->Shared->Prop} (hK:K.Ok) (r:R K.hb s.heap σ α) (E:xS env) (hn:env.scope.names[i]?=some (x,.globalImplicit))
  (hv:K.mg x=some v) (h:Q v s):wpAny (model K.prog K.w) A (eval (.Name x p) env) Q X s:=
 Calls.Name_function_global E.kind (E.ws i x _ hn) (Calls.loadGlobal_global (by rw [E.glob]; exact hK.g.keeps r.base) hv h) (E.nodbg i x _ hn)
theorem ae8 {i:Nat} {x:Str} {p:Pos} {v:Value} {Q:Value->Shared->Prop} {X:Value->Shared->Prop} (hK:K.Ok) (r:R K.hb s.heap σ α) (E:xS env) (hn:env.scope.names[i]?=some (x,.globalImplicit))
  (hm:K.mg x=none) (hv:K.mb x=some v) (h:Q v s):wpAny (model K.prog K.w) A (eval (.Name x p) env) Q X s:=
 Calls.Name_function_global E.kind (E.ws i x _ hn) (Calls.loadGlobal_builtin (by rw [E.glob]; exact hK.g.keeps r.base) hm (by rw [E.bins]; exact hK.b.keeps r.base) hv h) (E.nodbg i x _ hn)
end
end Mine
namespace Mine
open PySem PyProof.Rows
theorem VR.re {h:Heap} {α α':AL} (h1:∀ (i:Nat) (a:Addr),α.ix[i]?=some a->α'.ix[i]?=some a) (h2:∀ a,a ∈ α'.all->a ∈ α.all) {p:PV} {v:Value} (r:VR h α p v):VR h α' p v:=by
 induction r with
 | none=>exact .none
 | bool b=>exact .bool b
 | int i t=>exact .int i t
 | str s t hs=>exact .str s t hs
 | tup e hn hl _ ih=>exact .tup e (fun q=>hn (h2 _ q)) hl ih
 | fl e hn hl _ ih=>exact .fl e (fun q=>hn (h2 _ q)) hl ih
 | exc e hc hd hn=>exact .exc e hc hd (fun q=>hn (h2 _ q))
 | inst e hn hi=>exact .inst e (fun q=>hn (h2 _ q)) (h1 _ _ hi)
 | ref e=>exact .ref (h1 _ _ e)
theorem VR.hide {h:Heap} {α:AL} {D:Addr} (hD:h.get? D=Option.none) {p:PV} {v:Value} (r:VR h α p v):VR h ⟨α.ix,D::α.hid,α.fr⟩ p v:=by
 have key:∀ {a:Addr} {o:Obj},h.get? a=some o->a ∉ α.all->a ∉ (⟨α.ix,D::α.hid,α.fr⟩:AL).all:=fun {a o} e hn q=>by
  rcases List.mem_append.mp q with q | q
  ·exact hn (List.mem_append_left _ q)
  ·rcases List.mem_cons.mp q with q | q
   ·subst q; rw [hD] at e; contradiction
   ·exact hn (List.mem_append_right _ q)
 induction r with
 | none=>exact .none
 | bool b=>exact .bool b
 | int i t=>exact .int i t
 | str s t hs=>exact .str s t hs
 | tup e hn hl _ ih=>exact .tup e (key e hn) hl ih
 | fl e hn hl _ ih=>exact .fl e (key e hn) hl ih
 | exc e hc hd hn=>exact .exc e hc hd (key e hn)
 | inst e hn hi=>exact .inst e (key e hn) hi
 | ref e=>exact .ref e
theorem aO.re {h:Heap} {α α':AL} (h1:∀ (i:Nat) (a:Addr),α.ix[i]?=some a->α'.ix[i]?=some a) (h2:∀ a,a ∈ α'.all->a ∈ α.all) {p:List PV} {v:List Value} (r:aO h α p v):aO h α' p v:=
 ⟨r.1,fun i x y e1 e2=>(r.2 i x y e1 e2).re h1 h2⟩
theorem aO.hide {h:Heap} {α:AL} {D:Addr} (hD:h.get? D=none) {p:List PV} {v:List Value} (r:aO h α p v):aO h ⟨α.ix,D::α.hid,α.fr⟩ p v:=
 ⟨r.1,fun i x y e1 e2=>(r.2 i x y e1 e2).hide hD⟩
theorem AL.not_hide {h:Heap} {α:AL} {D a:Addr} {o:Obj} (hD:h.get? D=none) (e:h.get? a=some o) (hn:a ∉ α.all):a ∉ (⟨α.ix,D::α.hid,α.fr⟩:AL).all:=fun q=>by
 rcases List.mem_append.mp q with q | q
 ·exact hn (List.mem_append_left _ q)
 ·rcases List.mem_cons.mp q with q | q
  ·subst q; rw [hD] at e; contradiction
  ·exact hn (List.mem_append_right _ q)
theorem VR.sameBut {h h':Heap} {α:AL} {D:Addr} (hD:D ∈ α.all) (k:∀ b,b ≠ D->h'.get? b=h.get? b) {p:PV} {v:Value} (r:VR h α p v):VR h' α p v:=by
 induction r with
 | none=>exact .none
 | bool b=>exact .bool b
 | int i t=>exact .int i t
 | str s t hs=>exact .str s t hs
 | tup e hn hl _ ih=>exact .tup ((k _ (by rintro rfl; exact hn hD)).trans e) hn hl ih
 | fl e hn hl _ ih=>exact .fl ((k _ (by rintro rfl; exact hn hD)).trans e) hn hl ih
 | exc e hc hd hn=>exact .exc ((k _ (by rintro rfl; exact hn hD)).trans e) hc hd hn
 | inst e hn hi=>exact .inst ((k _ (by rintro rfl; exact hn hD)).trans e) hn hi
 | ref e=>exact .ref e
theorem aO.sameBut {h h':Heap} {α:AL} {D:Addr} (hD:D ∈ α.all) (k:∀ b,b ≠ D->h'.get? b=h.get? b) {p:List PV} {v:List Value} (r:aO h α p v):aO h' α p v:=
 ⟨r.1,fun i x y e1 e2=>(r.2 i x y e1 e2).sameBut hD k⟩
noncomputable def ajl (K:Kt) (A:Around) (it v:Value) (P:Shared->Prop) (s:Shared):Prop:=
 ∀ (elts:List Expr) (k:Nat) (pos:Pos) (Q:Unit->Shared->Prop) (E:Value->Shared->Prop),(∀ s',P s'->Q () s')->wpAny (model K.prog K.w) A (letOwnedTupleGo (.Tuple elts k pos) it v) Q E s
noncomputable def yB:List String:=["enumerate", "zip", "dict_itemiterator", "dict_reverseitemiterator", "odict_iterator", "itertools.zip_longest", "itertools.pairwise"]
theorem kj {K:Kt} {A:Around} {I:Addr} {o:Obj} {n:String} {v:Value} {s:Shared} {P:Shared->Prop} (e:s.heap.get? I=some o) (hc:o.cls=.type n) (hn:yB.contains n=false) (h:P s):ajl K A (.ref I) v P s:=by
 intro elts k pos Q E hQ
 have hq:=hQ s h
 unfold letOwnedTupleGo
 cases v with
 | ref a =>
  refine wpAny_bind (wpAny_load e ?_)
  obtain ⟨c,d,dt,sl⟩:=o
  dsimp only at hc
  subst hc
  cases dt with
  | fields vs =>
   show wpAny _ A (if (yB.contains n && vs[0]? == some (rawInt a))=true then _ else _) Q E s
   rw [hn]
   exact wpAny_pure hq
  | _=>exact wpAny_pure hq
 | _=>exact wpAny_pure hq
structure gz (K:Kt) (A:Around) (en:Bool) (own:List Addr) (it:Value) (xs:List PV) (wt:Option (Nat × MO)) (St:Nat->Heap->AL->Prop):Prop where
 live:∀ i h α,St i h α->∀ b ∈ own,∃ o,h.get? b=some o
 apart:∀ i h α,St i h α->∀ b ∈ own,b ∉ α.all
 frame:∀ i F α h α' h',St i h α->aD F α h α' h'->(∀ b ∈ own,b ∉ F)->St i h' α'
 but:∀ i D α h h',St i h α->D ∈ α.all->(∀ b,b ≠ D->h'.get? b=h.get? b)->St i h' α
 hide:∀ i D α h,St i h α->h.get? D=none->St i h ⟨α.ix,D::α.hid,α.fr⟩
 item:∀ (i:Nat) (s:Shared) (σ:ac) (α:AL) (p:PV),xs[i]?=some p->St i s.heap α->R K.hb s.heap σ α->dg wt σ->∀ (Q:Option Value->Shared->Prop) (E:Value->Shared->Prop),
  (∀ v s',VR s'.heap α p v->(en=false->St (i + 1) s'.heap α)->ajl K A it v (fun aw=>VR aw.heap α p v/\St (i + 1) aw.heap α/\aD own α s'.heap α aw.heap/\R K.hb aw.heap σ α/\Sm s' aw) s'->aD own α s.heap α s'.heap->R K.hb s'.heap σ α->Sm s s'->Q (some v) s')->wpAny (model K.prog K.w) A (pyNext it) Q E s
 done:∀ (s:Shared) (σ:ac) (α:AL),St xs.length s.heap α->R K.hb s.heap σ α->dg wt σ->∀ (Q:Option Value->Shared->Prop) (E:Value->Shared->Prop),
  (∀ s',aD own α s.heap α s'.heap->R K.hb s'.heap σ α->Sm s s'->Q none s')->wpAny (model K.prog K.w) A (pyNext it) Q E s
 self:∀ (i:Nat) (s:Shared) (α:AL),St i s.heap α->∀ (Q:Value->Shared->Prop) (E:Value->Shared->Prop),Q it s->wpAny (model K.prog K.w) A (pyIter it) Q E s
theorem R.but {hb h h' σ α} {I:Addr} (r:R hb h σ α) (hI':I ∉ α.all) (hbI:hb.get? I=none) (k:∀ b o,b ≠ I->h.get? b=some o->h'.get? b=some o)
  (hs:∀ o,h.get? I=some o->¬ j1 o) (hd:I ∈ hb.fr->∀ o,h.get? I=some o->dl o->∃ o',h'.get? I=some o'/\dl o'):R hb h' σ α/\aD [I] α h α h':=by
 have hI:I ∉ α.ix:=AL.not_ix hI'
 have hI2:I ∉ α.hid:=fun q=>hI' (List.mem_append_right _ q)
 have x:aD [I] α h α h':=⟨rfl,⟨[],by simp,fun zz hx=>by simp at hx⟩,fun b o hb e q=>k b o (fun z=>by subst z; exact hs o e q) e,fun b o hb hF e=>.inl (k b o (by simpa using hF) e),fun b o hF e=>⟨o,k b o (by simpa using hF) e⟩,rfl⟩
 refine ⟨⟨fun b o e=>k b o (fun q=>by rw [q,hbI] at e; contradiction) (r.base b o e),r.fresh,r.nodup,r.len,fun b hb=>⟨(r.hidden b hb).1,?_⟩,fun j m a e1 e2=>?_,r.hfr,r.fe,fun b hb=>⟨(r.frs b hb).1,?_⟩,r.frNot⟩,x⟩
 ·obtain ⟨o,e⟩:=(r.hidden b hb).2
  exact ⟨o,k b o (fun q=>hI2 (q ▸ hb)) e⟩
 ·obtain ⟨o',e'⟩:=r.live (List.mem_of_getElem? e2)
  exact (r.obj j m a e1 e2).ext x (by rw [e',k a o' (fun q=>hI (q ▸ List.mem_of_getElem? e2)) e'])
 ·obtain ⟨_,o,e,d⟩:=r.frs b hb
  by_cases q:b=I
  ·subst q; exact hd hb o e d
  ·exact ⟨o,k b o q e,d⟩
theorem cD {h h':Heap} {fr:List Addr} {c:Addr} {o:Obj} {v:Array Value} (_e:h.get? c=some o) (_d:o.data=.fields v) (x:fL fr h' c o):h'.get? c=some o:=x.same (by rintro ⟨es,n,q⟩; rw [_d] at q; contradiction)
theorem bh {o:Obj} {v:Array Value} {T:String} (d:o.data=.fields v) (hc:o.cls=.type T):¬ j1 o:=by
 rintro (⟨xs,n,e⟩ | ⟨C,vs,e,_⟩ | ⟨C,e,_⟩)
 ·rw [d] at e; contradiction
 ·rw [hc] at e; contradiction
 ·rw [hc] at e; contradiction
theorem bi {o:Obj} {v:Array Value} (d:o.data=.fields v):¬ dl o:=by
 rintro ⟨xs,n,e⟩; rw [d] at e; contradiction
section
variable {K:Kt} {A:Around} {en:Bool}
theorem gz.list (hA:dv A) (hh:A.handled=none) {I:Addr} {l:Addr} {xs:List PV} (hbI:K.hb.get? I=none) :
  gz K A en [I] (.ref I) xs none (fun i h α=>h.IsListIter I l i/\I ∉ α.all/\VR h α (.fl xs) (.ref l)) where
 live:=fun i h α st b hb=>by simp at hb; subst hb; obtain ⟨⟨o,e,_⟩,_⟩:=st; exact ⟨o,e⟩
 apart:=fun i h α st b hb=>by simp at hb; subst hb; exact st.2.1
 frame:=fun i F α h α' h' st x hF=>by
  obtain ⟨⟨o,e,hc,hd⟩,hI,v⟩:=st
  exact ⟨⟨o,cD e hd (x.rest I o (AL.not_ix hI) (hF I (by simp)) e),hc,hd⟩,x.notAll hI e,v.ext x⟩
 but:=fun i D α h h' st hD k=>by
  obtain ⟨⟨o,e,hc,hd⟩,hI,v⟩:=st
  exact ⟨⟨o,(k I (fun q=>hI (q ▸ hD))).trans e,hc,hd⟩,hI,v.sameBut hD k⟩
 hide:=fun i D α h st hD=>by
  obtain ⟨⟨o,e,hc,hd⟩,hI,v⟩:=st
  exact ⟨⟨o,e,hc,hd⟩,AL.not_hide hD e hI,v.hide hD⟩
 item:=fun i s σ α p hp st r zz Q E hQ=>by
  obtain ⟨hit,hI,v⟩:=st
  obtain ⟨l',vs,n,hl,e1,hn,w⟩:=v.flE
  cases hl
  obtain ⟨u,hu,hv⟩:=w.get hp
  obtain ⟨o,e,hc,hd⟩:=id hit
  refine wpAny_pyNext_list_item hit (jG e1) (by simpa using hu) fun h' hit' hs'=>?_
  obtain ⟨r',x⟩:=r.but hI hbI (fun b o hb e=>(hs'.2 b hb).trans e) (fun o' e'=>by rw [e] at e'; obtain rfl:=oi e'; exact bh hd hc) fun zz o' e' d'=>by rw [e] at e'; obtain rfl:=oi e'; exact absurd d' (bi hd)
  obtain ⟨o',e',hc',_⟩:=id hit'
  exact hQ u _ (hv.ext x) (fun zz=>⟨hit',hI,v.ext x⟩) (kj (s:={ s with heap:=h' }) e' hc' (by decide) ⟨hv.ext x,⟨hit',hI,v.ext x⟩,.refl,r',.refl _⟩) x r' ⟨rfl,rfl⟩
 done:=fun s σ α st r zz Q E hQ=>by
  obtain ⟨hit,hI,v⟩:=st
  obtain ⟨l',vs,n,hl,e1,hn,w⟩:=v.flE
  cases hl
  obtain ⟨o,e,hc,hd⟩:=id hit
  refine wpAny_pyNext_list_end hh hit (jG e1) (by simp [w.1]) fun h' he'=>?_
  obtain ⟨r',x⟩:=r.but hI hbI (fun b o hb e=>he' b o hb e) (fun o' e'=>by rw [e] at e'; obtain rfl:=oi e'; exact bh hd hc) fun zz o' e' d'=>by rw [e] at e'; obtain rfl:=oi e'; exact absurd d' (bi hd)
  exact hQ _ x r' ⟨rfl,rfl⟩
 self:=fun i s α st Q E hQ=>wpAny_pyIter_listiter st.1 hQ
theorem gz.mlist (hA:dv A) (hh:A.handled=none) {I:Addr} {l:Addr} {j:Nat} {xs:List PV} (hbI:K.hb.get? I=none) :
  gz K A en [I] (.ref I) xs (some (j,.lst xs)) (fun i h α=>h.IsListIter I l i/\I ∉ α.all/\α.ix[j]?=some l) where
 live:=fun i h α st b hb=>by simp at hb; subst hb; obtain ⟨⟨o,e,_⟩,_⟩:=st; exact ⟨o,e⟩
 apart:=fun i h α st b hb=>by simp at hb; subst hb; exact st.2.1
 frame:=fun i F α h α' h' st x hF=>by
  obtain ⟨⟨o,e,hc,hd⟩,hI,v⟩:=st
  exact ⟨⟨o,cD e hd (x.rest I o (AL.not_ix hI) (hF I (by simp)) e),hc,hd⟩,x.notAll hI e,x.get v⟩
 but:=fun i D α h h' st hD k=>by
  obtain ⟨⟨o,e,hc,hd⟩,hI,v⟩:=st
  exact ⟨⟨o,(k I (fun q=>hI (q ▸ hD))).trans e,hc,hd⟩,hI,v⟩
 hide:=fun i D α h st hD=>by
  obtain ⟨⟨o,e,hc,hd⟩,hI,v⟩:=st
  exact ⟨⟨o,e,hc,hd⟩,AL.not_hide hD e hI,v⟩
 item:=fun i s σ α p hp st r wt Q E hQ=>by
  obtain ⟨hit,hI,v⟩:=st
  obtain ⟨vs,n,e1,w⟩:=r.obj j _ l wt v
  obtain ⟨u,hu,hv⟩:=w.get hp
  obtain ⟨o,e,hc,hd⟩:=id hit
  refine wpAny_pyNext_list_item hit (jG e1) (by simpa using hu) fun h' hit' hs'=>?_
  obtain ⟨r',x⟩:=r.but hI hbI (fun b o hb e=>(hs'.2 b hb).trans e) (fun o' e'=>by rw [e] at e'; obtain rfl:=oi e'; exact bh hd hc) fun zz o' e' d'=>by rw [e] at e'; obtain rfl:=oi e'; exact absurd d' (bi hd)
  obtain ⟨o',e',hc',_⟩:=id hit'
  exact hQ u _ (hv.ext x) (fun zz=>⟨hit',hI,v⟩) (kj (s:={ s with heap:=h' }) e' hc' (by decide) ⟨hv.ext x,⟨hit',hI,v⟩,.refl,r',.refl _⟩) x r' ⟨rfl,rfl⟩
 done:=fun s σ α st r wt Q E hQ=>by
  obtain ⟨hit,hI,v⟩:=st
  obtain ⟨vs,n,e1,w⟩:=r.obj j _ l wt v
  obtain ⟨o,e,hc,hd⟩:=id hit
  refine wpAny_pyNext_list_end hh hit (jG e1) (by simp [w.1]) fun h' he'=>?_
  obtain ⟨r',x⟩:=r.but hI hbI (fun b o hb e=>he' b o hb e) (fun o' e'=>by rw [e] at e'; obtain rfl:=oi e'; exact bh hd hc) fun zz o' e' d'=>by rw [e] at e'; obtain rfl:=oi e'; exact absurd d' (bi hd)
  exact hQ _ x r' ⟨rfl,rfl⟩
 self:=fun i s α st Q E hQ=>wpAny_pyIter_listiter st.1 hQ
theorem gz.signs {I:Addr} {x:Str} {t:Tok} {ty:String} (hbI:K.hb.get? I=none) (hx:PyData.strOk x=true) (hty:yB.contains ty=false)
  (it1:∀ (s:Shared) (i c:Nat) (Q:Option Value->Shared->Prop) (E:Value->Shared->Prop),s.heap.IsStrIter I ty x t i->x.cps[i]?=some c ->
   (∀ h',h'.IsStrIter I ty x t (i + 1)->Heap.SameBut I s.heap h'->Q (some (.str ⟨#[c]⟩ s.toks)) { s with heap:=h',toks:=s.toks + 1 })->wpAny (model K.prog K.w) A (pyNext (.ref I)) Q E s)
  (it2:∀ (s:Shared) (i:Nat) (Q:Option Value->Shared->Prop) (E:Value->Shared->Prop),s.heap.IsStrIter I ty x t i->x.cps[i]?=none->(∀ h',Heap.ExtBut I s.heap h'->Q none { s with heap:=h' })->wpAny (model K.prog K.w) A (pyNext (.ref I)) Q E s)
  (it3:∀ (s:Shared) (i:Nat) (Q:Value->Shared->Prop) (E:Value->Shared->Prop),s.heap.IsStrIter I ty x t i->Q (.ref I) s->wpAny (model K.prog K.w) A (pyIter (.ref I)) Q E s) :
  gz K A en [I] (.ref I) (tK x) none (fun i h α=>h.IsStrIter I ty x t i/\I ∉ α.all) where
 live:=fun i h α st b hb=>by simp at hb; subst hb; obtain ⟨⟨o,e,_⟩,_⟩:=st; exact ⟨o,e⟩
 apart:=fun i h α st b hb=>by simp at hb; subst hb; exact st.2
 frame:=fun i F α h α' h' st x hF=>by
  obtain ⟨⟨o,e,hc,hd⟩,hI⟩:=st
  exact ⟨⟨o,cD e hd (x.rest I o (AL.not_ix hI) (hF I (by simp)) e),hc,hd⟩,x.notAll hI e⟩
 but:=fun i D α h h' st hD k=>by
  obtain ⟨⟨o,e,hc,hd⟩,hI⟩:=st
  exact ⟨⟨o,(k I (fun q=>hI (q ▸ hD))).trans e,hc,hd⟩,hI⟩
 hide:=fun i D α h st hD=>by
  obtain ⟨⟨o,e,hc,hd⟩,hI⟩:=st
  exact ⟨⟨o,e,hc,hd⟩,AL.not_hide hD e hI⟩
 item:=fun i s σ α p hp st r zz Q E hQ=>by
  obtain ⟨hit,hI⟩:=st
  obtain ⟨o,e,hc,hd⟩:=id hit
  simp only [tK,List.getElem?_map] at hp
  obtain ⟨c,hcq,rfl⟩:=Option.map_eq_some_iff.mp hp
  have hcx:x.cps[i]?=some c:=by rw [<- Array.getElem?_toList]; exact hcq
  refine it1 s i c Q E hit hcx fun h' hit' hs'=>?_
  obtain ⟨r',x'⟩:=r.but hI hbI (fun b o hb e=>(hs'.2 b hb).trans e) (fun o' e'=>by rw [e] at e'; obtain rfl:=oi e'; exact bh hd hc) fun zz o' e' d'=>by rw [e] at e'; obtain rfl:=oi e'; exact absurd d' (bi hd)
  obtain ⟨o',e',hc',_⟩:=id hit'
  have hok:PyData.strOk ⟨#[c]⟩=true:=by
   unfold PyData.strOk at hx ⊢
   simp only [Array.all_eq_true'] at hx ⊢
   intro d hd'
   simp at hd'
   subst hd'
   exact hx _ (Array.mem_of_getElem? hcx)
  exact hQ _ _ (.str _ _ hok) (fun zz=>⟨hit',hI⟩) (kj (s:={ s with heap:=h',toks:=s.toks + 1 }) e' hc' hty ⟨.str _ _ hok,⟨hit',hI⟩,.refl,r',.refl _⟩) x' r' ⟨rfl,rfl⟩
 done:=fun s σ α st r zz Q E hQ=>by
  obtain ⟨hit,hI⟩:=st
  obtain ⟨o,e,hc,hd⟩:=id hit
  refine it2 s _ Q E hit (by simp [tK]) fun h' he'=>?_
  obtain ⟨r',x'⟩:=r.but hI hbI (fun b o hb e=>he' b o hb e) (fun o' e'=>by rw [e] at e'; obtain rfl:=oi e'; exact bh hd hc) fun zz o' e' d'=>by rw [e] at e'; obtain rfl:=oi e'; exact absurd d' (bi hd)
  exact hQ _ x' r' ⟨rfl,rfl⟩
 self:=fun i s α st Q E hQ=>it3 s i Q E st.1 hQ
theorem vA {s:Shared} {a:Addr} {am:List Value} {n:Nat} (e:s.heap.get? a=some { cls:=.type "tuple",data:=.seq am.toArray n }):s.heap.IsTuple a am.toArray:=⟨_,e,rfl,n,rfl⟩
theorem gz.tuple (hA:dv A) (hh:A.handled=none) {I:Addr} {l:Addr} {xs:List PV} (hbI:K.hb.get? I=none) :
  gz K A en [I] (.ref I) xs none (fun i h α=>h.IsTupleIter I l i/\I ∉ α.all/\VR h α (.tup xs) (.ref l)) where
 live:=fun i h α st b hb=>by simp at hb; subst hb; obtain ⟨⟨o,e,_⟩,_⟩:=st; exact ⟨o,e⟩
 apart:=fun i h α st b hb=>by simp at hb; subst hb; exact st.2.1
 frame:=fun i F α h α' h' st x hF=>by
  obtain ⟨⟨o,e,hc,hd⟩,hI,v⟩:=st
  exact ⟨⟨o,cD e hd (x.rest I o (AL.not_ix hI) (hF I (by simp)) e),hc,hd⟩,x.notAll hI e,v.ext x⟩
 but:=fun i D α h h' st hD k=>by
  obtain ⟨⟨o,e,hc,hd⟩,hI,v⟩:=st
  exact ⟨⟨o,(k I (fun q=>hI (q ▸ hD))).trans e,hc,hd⟩,hI,v.sameBut hD k⟩
 hide:=fun i D α h st hD=>by
  obtain ⟨⟨o,e,hc,hd⟩,hI,v⟩:=st
  exact ⟨⟨o,e,hc,hd⟩,AL.not_hide hD e hI,v.hide hD⟩
 item:=fun i s σ α p hp st r zz Q E hQ=>by
  obtain ⟨hit,hI,v⟩:=st
  obtain ⟨l',vs,n,hl,e1,hn,w⟩:=v.tupE
  cases hl
  obtain ⟨u,hu,hv⟩:=w.get hp
  obtain ⟨o,e,hc,hd⟩:=id hit
  refine wpAny_pyNext_tuple_item hit (vA e1) (by simpa using hu) fun h' hit' hs'=>?_
  obtain ⟨r',x⟩:=r.but hI hbI (fun b o hb e=>(hs'.2 b hb).trans e) (fun o' e'=>by rw [e] at e'; obtain rfl:=oi e'; exact bh hd hc) fun zz o' e' d'=>by rw [e] at e'; obtain rfl:=oi e'; exact absurd d' (bi hd)
  obtain ⟨o',e',hc',_⟩:=id hit'
  exact hQ u _ (hv.ext x) (fun zz=>⟨hit',hI,v.ext x⟩) (kj (s:={ s with heap:=h' }) e' hc' (by decide) ⟨hv.ext x,⟨hit',hI,v.ext x⟩,.refl,r',.refl _⟩) x r' ⟨rfl,rfl⟩
 done:=fun s σ α st r zz Q E hQ=>by
  obtain ⟨hit,hI,v⟩:=st
  obtain ⟨l',vs,n,hl,e1,hn,w⟩:=v.tupE
  cases hl
  obtain ⟨o,e,hc,hd⟩:=id hit
  refine wpAny_pyNext_tuple_end hh hit (vA e1) (by simp [w.1]) fun h' he'=>?_
  obtain ⟨r',x⟩:=r.but hI hbI (fun b o hb e=>he' b o hb e) (fun o' e'=>by rw [e] at e'; obtain rfl:=oi e'; exact bh hd hc) fun zz o' e' d'=>by rw [e] at e'; obtain rfl:=oi e'; exact absurd d' (bi hd)
  exact hQ _ x r' ⟨rfl,rfl⟩
 self:=fun i s α st Q E hQ=>wpAny_pyIter_tupleiter st.1 hQ
theorem gz.range (hA:dv A) (hh:A.handled=none) {I:Addr} {a c:Int} {n:Nat} (hbI:K.hb.get? I=none) :
  gz K A en [I] (.ref I) (aL a c n) none (fun i h α=>IsRangeIter h I (a + (i:Nat) * c) ((n:Int) - (i:Nat)) c/\I ∉ α.all) where
 live:=fun i h α st b hb=>by simp at hb; subst hb; exact ⟨_,st.1⟩
 apart:=fun i h α st b hb=>by simp at hb; subst hb; exact st.2
 frame:=fun i F α h α' h' st x hF=>by
  obtain ⟨e,hI⟩:=st
  exact ⟨cD e rfl (x.rest I _ (AL.not_ix hI) (hF I (by simp)) e),x.notAll hI e⟩
 but:=fun i D α h h' st hD k=>by
  obtain ⟨e,hI⟩:=st
  exact ⟨(k I (fun q=>hI (q ▸ hD))).trans e,hI⟩
 hide:=fun i D α h st hD=>by
  obtain ⟨e,hI⟩:=st
  exact ⟨e,AL.not_hide hD e hI⟩
 item:=fun i s σ α p hp st r zz Q E hQ=>by
  obtain ⟨hit,hI⟩:=st
  have hi:i < n:=by have:=(eY hp).1; simpa [aL] using this
  have hp':p=.int (a + (i:Int) * c):=by
   simp only [aL,List.getElem?_map,List.getElem?_range hi,Option.map_some,Option.some.injEq] at hp
   exact hp.symm
  subst hp'
  refine wpAny_pyNext_range_item hit (by grind) fun h' hit' hs'=>?_
  obtain ⟨r',x⟩:=r.but hI hbI (fun b o hb e=>(hs'.2 b hb).trans e) (fun o' e'=>by rw [show s.heap.get? I=_ from hit] at e'; obtain rfl:=oi e'; exact bh rfl rfl) fun zz o' e' d'=>by rw [show s.heap.get? I=_ from hit] at e'; obtain rfl:=oi e'; exact absurd d' (bi rfl)
  have e1:a + ((i + 1:Nat):Int) * c=a + (i:Int) * c + c:=by push_cast; rw [Int.add_mul,Int.one_mul,Int.add_assoc]
  have e2:(n:Int) - ((i + 1:Nat):Int)=(n:Int) - (i:Int) - 1:=by push_cast; (grind)
  have st':IsRangeIter h' I (a + ((i + 1:Nat):Int) * c) ((n:Int) - ((i + 1:Nat):Int)) c:=by rw [e1,e2]; exact hit'
  exact hQ _ _ (.int _ _) (fun zz=>⟨st',hI⟩) (kj (s:={ s with heap:=h',toks:=s.toks + 1 }) hit' rfl (by decide) ⟨.int _ _,⟨st',hI⟩,.refl,r',.refl _⟩) x r' ⟨rfl,rfl⟩
 done:=fun s σ α st r zz Q E hQ=>by
  obtain ⟨hit,hI⟩:=st
  refine wpAny_pyNext_range_end hh hit (by simp [aL]) fun h' he'=>?_
  obtain ⟨r',x⟩:=r.but hI hbI (fun b o hb e=>he' b o hb e) (fun o' e'=>by rw [show s.heap.get? I=_ from hit] at e'; obtain rfl:=oi e'; exact bh rfl rfl) fun zz o' e' d'=>by rw [show s.heap.get? I=_ from hit] at e'; obtain rfl:=oi e'; exact absurd d' (bi rfl)
  exact hQ _ x r' ⟨rfl,rfl⟩
 self:=fun i s α st Q E hQ=>wpAny_pyIter_rangeiter st.1 hQ
end
end Mine
namespace Mine
open PySem PyProof.Rows
theorem OR.hide {B:Bs} {h:Heap} {α:AL} {D:Addr} {m:MO} {a:Addr} (hD:h.get? D=none) (r:OR B h α m a):OR B h ⟨α.ix,D::α.hid,α.fr⟩ m a:=
 r.map (fun zz zz v=>v.hide hD) rfl fun b o hb e zz=>⟨e,AL.not_hide hD e hb⟩
theorem OR.re {B:Bs} {h:Heap} {α α':AL} {m:MO} {a:Addr} (h1:∀ (i:Nat) (a:Addr),α.ix[i]?=some a->α'.ix[i]?=some a) (h2:∀ a,a ∈ α'.all->a ∈ α.all) (r:OR B h α m a):OR B h α' m a:=
 r.map (fun zz zz v=>v.re h1 h2) rfl fun b o hb e zz=>⟨e,fun q=>hb (h2 b q)⟩
theorem ai.hide {h:Heap} {α:AL} {D:Addr} {env:Env} {ρ:aq} (hD:h.get? D=none) (E:ai env ρ h α):ai env ρ h ⟨α.ix,D::α.hid,α.fr⟩:=by
 obtain ⟨m,n,hm⟩:=E.ns
 obtain ⟨oL,_,_,eL,_⟩:=id n
 refine ⟨E.ok,AL.not_hide hD eL E.la,⟨m,n,fun i x v e1 e2=>let ⟨u,a,b⟩:=hm i x v e1 e2; ⟨u,a,b.hide hD⟩⟩,fun x c hc=>?_,E.cd,fun i x e1=>?_,E.inb⟩
 ·obtain ⟨h1,h2,v,h3⟩:=E.ca x c hc
  obtain ⟨o,e,d⟩:=id h3
  exact ⟨AL.not_hide hD e h1,h2,v,h3⟩
 ·obtain ⟨c,hc,hv⟩:=E.cv i x e1
  exact ⟨c,hc,fun v e2=>let ⟨u,a,b⟩:=hv v e2; ⟨u,a,b.hide hD⟩⟩
theorem R.hide {hb h h' σ α} {D:Addr} {o:Obj} (r:R hb h σ α) (hD:h.get? D=none) (k:∀ b o,h.get? b=some o->h'.get? b=some o) (e:h'.get? D=some o):R hb h' σ ⟨α.ix,D::α.hid,α.fr⟩:=by
 have r':=r.keeps k
 have hDi:D ∉ α.ix:=fun q=>by obtain ⟨o,e⟩:=r.live q; rw [hD] at e; cases e
 refine ⟨r'.base,r'.fresh,r'.nodup,r'.len,fun a ha=>?_,fun i m a e1 e2=>?_,fun a ha=>?_,r'.fe,r'.frs,r'.frNot⟩
 ·rcases List.mem_cons.mp ha with q | q
  ·subst q; exact ⟨hDi,_,e⟩
  ·exact r'.hidden a q
 ·have x:aD [] (⟨α.ix,D::α.hid,α.fr⟩:AL) h ⟨α.ix,D::α.hid,α.fr⟩ h':=.keeps k
  obtain ⟨o',e'⟩:=r.live (List.mem_of_getElem? e2)
  exact ((r.obj i m a e1 e2).hide hD).ext x (by rw [e',k a o' e'])
 ·rcases List.mem_cons.mp ha with q | q
  ·subst q
   cases hq:hb.get? a with
   | none=>rfl
   | some o=>rw [r.base _ _ hq] at hD; cases hD
  ·exact r.hfr a q
section
variable {K:Kt} {A:Around} {s:Shared} {α:AL} {σ:ac} {en:Bool}
inductive bz (K:Kt) (A:Around) (en:Bool) (c:af (List PV × Option (Nat × MO))) (s:Shared) (α:AL) (it:Value) (s':Shared):Prop where
 | mk (xs:List PV) (wt:Option (Nat × MO)) (σ':ac) (α':AL) (own:List Addr) (St:Nat->Heap->AL->Prop) (h:c=.ok (xs,wt) σ') (x:aD [] α s.heap α' s'.heap) (r:R K.hb s'.heap σ' α') (m:Sm s s') (I:gz K A en own it xs wt St) (st:St 0 s'.heap α') (ho:∀ b ∈ own,s.heap.get? b=none/\K.hb.get? b=none):bz K A en c s α it s'
theorem bz.lift {c:af (List PV × Option (Nat × MO))} {s₁:Shared} {α₁:AL} {it:Value} {s':Shared} (x:aD [] α s.heap α₁ s₁.heap) (m:Sm s s₁) (p:bz K A en c s₁ α₁ it s'):bz K A en c s α it s':=by
 obtain ⟨xs,wt,σ',α',own,St,e,x',r,m',I,st,ho⟩:=p
 refine ⟨xs,wt,σ',α',own,St,e,x.trans x',r,m.trans m',I,st,fun b hb=>⟨?_,(ho b hb).2⟩⟩
 cases hq:s.heap.get? b with
 | none=>rfl
 | some o=>obtain ⟨o',e'⟩:=x.alive b o (by simp) hq; rw [(ho b hb).1] at e'; cases e'
noncomputable def gc (K:Kt) (A:Around) (en:Bool) (t:Sem Value) (c:af (List PV × Option (Nat × MO))) (s:Shared) (α:AL):Prop:=
 c ≠ .stuck->K.Tk s->wpAny (model K.prog K.w) A t (fun x s₁=>wpAny (model K.prog K.w) A (pyIter x) (bz K A en c s α) (aY K A c s α) s₁) (aY K A c s α) s
theorem iG (r:R K.hb s.heap σ α):K.hb.get? s.heap.objs.size=none:=by
 cases hq:K.hb.get? s.heap.objs.size with
 | none=>rfl
 | some o=>exact absurd (Heap.lt_size (r.base _ _ hq)) (Nat.lt_irrefl _)
theorem bz.new {I:Addr} {o:Obj} {xs:List PV} {wt:Option (Nat × MO)} {St:Nat->Heap->AL->Prop} {tk:Nat} (hI:I=s.heap.objs.size) (r:R K.hb s.heap σ α) (it:gz K A en [I] (.ref I) xs wt St)
  (st:∀ h',h'=s.heap.push o->(∀ b o',s.heap.get? b=some o'->h'.get? b=some o')->I ∉ α.all->St 0 h' α):bz K A en (.ok (xs,wt) σ) s α (.ref I) { s with heap:=s.heap.push o,toks:=tk }:=by
 subst hI
 have k:∀ b o',s.heap.get? b=some o'->(s.heap.push o).get? b=some o':=fun b o' e=>Heap.get?_push_of_some _ e
 refine ⟨xs,wt,σ,α,_,St,rfl,.keeps k,r.keeps k,⟨rfl,rfl⟩,it,st _ rfl k (fun hm=>?_),fun b hb=>?_⟩
 ·obtain ⟨o,e⟩:=r.liveAll hm; rw [iD] at e; cases e
 ·simp at hb; subst hb; exact ⟨iD s,iG r⟩
theorem afi {a:PV} {x:Value} (hA:dv A) (hh:A.handled=none) (r:R K.hb s.heap σ α) (va:VR s.heap α a x) {E:Value->Shared->Prop}
  (hc:rD a σ ≠ .stuck) :
  wpAny (model K.prog K.w) A (pyIter x) (bz K A en (rD a σ) s α) E s:=by
 unfold rD at hc ⊢
 cases a with
 | fl xs =>
  obtain ⟨l,vs,n,rfl,e1,hn,v⟩:=va.flE
  refine wpAny_pyIter_list (jG e1) (bz.new (tk:=s.toks) rfl r (.list hA hh (l:=l) (iG r)) fun h' hh k hI=>?_)
  exact ⟨⟨_,by rw [hh]; exact Heap.get?_push_size _ rfl,rfl,rfl⟩,hI,va.ext (.keeps (F:=[]) k)⟩
 | tup xs =>
  obtain ⟨l,vs,n,rfl,e1,hn,v⟩:=va.tupE
  refine wpAny_pyIter_tuple (vA e1) (bz.new (tk:=s.toks) rfl r (.tuple hA hh (l:=l) (iG r)) fun h' hh k hI=>?_)
  exact ⟨⟨_,by rw [hh]; exact Heap.get?_push_size _ rfl,rfl,rfl⟩,hI,va.ext (.keeps (F:=[]) k)⟩
 | ref i =>
  obtain ⟨l,rfl,el⟩:=va.refE
  simp only [am,aaC] at hc ⊢
  cases hs:σ[i]? with
  | none=>rw [hs] at hc; exact absurd rfl hc
  | some m =>
   cases m with
   | lst xs =>
    obtain ⟨vs,n,e1,v⟩:=r.obj i _ l hs el
    refine wpAny_pyIter_list (jG e1) (bz.new (tk:=s.toks) rfl r (.mlist hA hh (l:=l) (j:=i) (iG r)) fun h' hh k hI=>?_)
    exact ⟨⟨_,by rw [hh]; exact Heap.get?_push_size _ rfl,rfl,rfl⟩,hI,el⟩
   | _=>rw [hs] at hc; exact absurd rfl hc
 | str z =>
  obtain ⟨t,rfl,hz⟩:=va.strE
  cases ha:z.cps.all (· < 128)
  ·refine wpAny_pyIter_wide ha (bz.new (tk:=s.toks) rfl r (.signs (t:=t) (ty := "str_iterator") (iG r) hz (by decide) (fun s i c Q E h1 h2 h3=>wpAny_pyNext_wide_item h1 h2 h3) (fun s i Q E h1 h2 h3=>wpAny_pyNext_wide_end hh h1 h2 h3) fun s i Q E h1 h2=>wpAny_pyIter_striter_wide h1 h2) fun h' hh k hI=>?_)
   exact ⟨⟨_,by rw [hh]; exact Heap.get?_push_size _ rfl,rfl,rfl⟩,hI⟩
  ·refine wpAny_pyIter_ascii ha (bz.new (tk:=s.toks) rfl r (.signs (t:=t) (ty := "str_ascii_iterator") (iG r) hz (by decide) (fun s i c Q E h1 h2 h3=>wpAny_pyNext_ascii_item h1 h2 h3) (fun s i Q E h1 h2 h3=>wpAny_pyNext_ascii_end hh h1 h2 h3) fun s i Q E h1 h2=>wpAny_pyIter_striter_ascii h1 h2) fun h' hh k hI=>?_)
   exact ⟨⟨_,by rw [hh]; exact Heap.get?_push_size _ rfl,rfl,rfl⟩,hI⟩
 | _=>exact absurd rfl hc
theorem aip {n:Int} (h0:0 <= n):Builtin.Range.rangeSize 0 n 1=n:=by
 unfold Builtin.Range.rangeSize
 simp; (grind)
theorem ag1 {n:Int} (h0:0 <= n) (h1:n <= (au:Int)):Builtin.Range.small 0 n 1=true:=
 small_one (by decide) (by decide) (Int.le_trans (by decide) h0) (Int.lt_of_le_of_lt h1 (by decide))
noncomputable def jc (s:Shared) (a b c:Int) (t u v tk:Nat):Shared:={ s with heap:=s.heap.push { cls:=.type "range",data:=.fields #[.int a t,.int b u,.int c v] },toks:=tk }
theorem tn {a b c:Int} {t u v tk:Nat} {x:Addr} {o:Obj} (e:s.heap.get? x=some o):(jc s a b c t u v tk).heap.get? x=some o:=Heap.get?_push_of_some _ e
inductive ik (K:Kt) (c:af (List PV × Option (Nat × MO))) (s:Shared) (α:AL) (y:Value) (s':Shared):Prop
 | mk (s₁:Shared) (σ₁:ac) (α₁:AL) (a b d:Int) (t u v tk n:Nat) (hy:y=.ref s₁.heap.objs.size) (hs:s'=jc s₁ a b d t u v tk) (hc:c=.ok (aL a d n,none) σ₁) (x:aD [] α s.heap α₁ s₁.heap) (r:R K.hb s₁.heap σ₁ α₁) (m:Sm s s₁) (sm:Builtin.Range.small a b d=true) (hn:Builtin.Range.rangeSize a b d=n) (hl:n <= 2000000):ik K c s α y s'
theorem ik.lift {c:af (List PV × Option (Nat × MO))} {dJ:Shared} {eF:AL} {y:Value} {s':Shared} (x:aD [] eF dJ.heap α s.heap) (m:Sm dJ s) (p:ik K c s α y s'):ik K c dJ eF y s':=by
 obtain ⟨s₁,σ₁,α₁,a,b,d,t,u,v,tk,n,hy,hs,hc,x',r,m',sm,hn,hl⟩:=p
 exact ⟨s₁,σ₁,α₁,a,b,d,t,u,v,tk,n,hy,hs,hc,x.trans x',r,m.trans m',sm,hn,hl⟩
theorem ahu {a b c:Int} {t u v tk n:Nat} {E:Value->Shared->Prop} (hA:dv A) (hh:A.handled=none) (r:R K.hb s.heap σ α) (hs:Builtin.Range.small a b c=true) (hn:Builtin.Range.rangeSize a b c=n) :
  wpAny (model K.prog K.w) A (pyIter (.ref s.heap.objs.size)) (bz K A en (.ok (aL a c n,none) σ) s α) E (jc s a b c t u v tk):=by
 have r':R K.hb (jc s a b c t u v tk).heap σ α:=r.keeps fun zz zz=>tn
 refine wpAny_pyIter_range (s:=jc s a b c t u v tk) (IsRange.new _ _ _ _ _ _ _) hs (bz.lift (s₁:=jc s a b c t u v tk) (.keeps fun zz zz=>tn) ⟨rfl,rfl⟩ ?_)
 refine bz.new (s:=jc s a b c t u v tk) (tk:=tk) rfl r' (.range hA hh (a:=a) (c:=c) (n:=n) (iG (s:=jc s a b c t u v tk) r')) fun h' hh k' hI=>⟨?_,hI⟩
 rw [hh,hn]
 unfold IsRangeIter
 simp only [Int.ofNat_zero,Int.zero_mul,Int.add_zero,Int.sub_zero]
 exact Heap.get?_push_size _ rfl
theorem aeT {a:PV} {P:Prop} (h:gH a σ ≠ .stuck) (k:∀ n:Nat,a=.int n->n <= au->gH a σ=.ok (aL 0 1 n,none) σ->P):P:=by
 cases a with
 | int i =>
  have e0:gH (.int i) σ=if 0 <= i/\i <= au then .ok (aL 0 1 i.toNat,none) σ else .stuck:=rfl
  by_cases hl:0 <= i/\i <= au
  ·obtain ⟨n,rfl⟩:=Int.eq_ofNat_of_zero_le hl.1
   exact k n rfl (Int.ofNat_le.mp hl.2) (e0.trans (if_pos hl))
  ·exact absurd (e0.trans (if_neg hl)) h
 | _=>exact absurd rfl h
theorem ik.iter {c:af (List PV × Option (Nat × MO))} {y:Value} {s':Shared} {E:Value->Shared->Prop} (hA:dv A) (hh:A.handled=none) (p:ik K c s α y s'):wpAny (model K.prog K.w) A (pyIter y) (bz K A en c s α) E s':=by
 obtain ⟨s₁,σ₁,α₁,a,b,d,t,u,v,tk,n,rfl,rfl,rfl,x,r,m,sm,hn,hl⟩:=p
 exact wpAny_mono (ahu hA hh r sm hn) (fun it aw hp=>hp.lift x m) fun zz zz e=>e
theorem afG {a:PV} {x:Value} (r:R K.hb s.heap σ α) (va:VR s.heap α a x) {E:Value->Shared->Prop} (hc:gH a σ ≠ .stuck):wpAny (model K.prog K.w) A (call (.type "range") [x]) (ik K (gH a σ) s α) E s:=by
 refine aeT hc fun n ha hl e=>?_
 subst ha
 obtain ⟨t,rfl⟩:=va.intE
 rw [e]
 exact call_range_1 ⟨s,σ,α,0,n,1,_,_,_,s.toks + 1 + 1,n,rfl,rfl,rfl,.refl,r,.refl s,ag1 (Int.natCast_nonneg n) (Int.ofNat_le.mpr hl),aip (Int.natCast_nonneg n),aC hl (by decide)⟩
theorem tV {x:Int} {n:Nat} (h:x.natAbs <= n):-(n:Int) <= x/\x <= n:=⟨Int.neg_le_of_neg_le (Int.le_trans (by rw [<- Int.natAbs_neg]; exact Int.le_natAbs) (Int.ofNat_le.mpr h)),Int.le_trans Int.le_natAbs (Int.ofNat_le.mpr h)⟩
theorem af2 {a b:Int} (ha:a.natAbs <= au) (hb:b.natAbs <= au) (h:a < b):0 <= b - a - 1/\b - a - 1 < 2000000:=
 ⟨Int.sub_nonneg_of_le (Int.le_sub_right_of_add_le (by rw [Int.add_comm]; exact h)),Int.lt_of_lt_of_le (Int.sub_lt_self _ (by decide)) (Int.le_trans (Int.sub_le_sub (tV hb).2 (tV ha).1) (by decide))⟩
theorem acY {a b c:Int} (hc:c ≠ 0) (ha:a.natAbs <= au) (hb:b.natAbs <= au):0 <= Builtin.Range.rangeSize a b c/\Builtin.Range.rangeSize a b c <= 2000000:=by
 have key:∀ x d:Int,0 <= x/\x < 2000000->0 < d->0 <= x / d + 1/\x / d + 1 <= 2000000:=fun x d h hd =>
  ⟨Int.le_add_one (Int.ediv_nonneg h.1 (Int.le_of_lt hd)),Int.lt_of_le_of_lt (Int.ediv_le_self _ h.1) h.2⟩
 unfold Builtin.Range.rangeSize
 by_cases h1:c > 0
 ·rw [if_pos h1]
  by_cases h2:a < b
  ·rw [if_pos h2]; exact key _ _ (af2 ha hb h2) h1
  ·rw [if_neg h2]; decide
 ·rw [if_neg h1]
  by_cases h2:a > b
  ·rw [if_pos h2]; exact key _ _ (af2 hb ha h2) (Int.neg_pos_of_neg (Int.lt_iff_le_and_ne.mpr ⟨Int.not_lt.mp h1,hc⟩))
  ·rw [if_neg h2]; decide
theorem adY {x:Int} (h:-3000000 <= x) (h2:x <= 3000000):Builtin.Range.rangeFitsLong x=true:=by
 unfold Builtin.Range.rangeFitsLong
 rw [Bool.and_eq_true,decide_eq_true_eq,decide_eq_true_eq]
 exact ⟨Int.le_trans (by decide) h,Int.lt_of_le_of_lt h2 (by decide)⟩
theorem qg {x:Int} (h:x.natAbs <= 3000000):Builtin.Range.rangeFitsLong x=true:=adY (tV h).1 (tV h).2
theorem ag0 {a b c:Int} (hc:c ≠ 0) (ha:a.natAbs <= au) (hb:b.natAbs <= au) (hcl:c.natAbs <= au):Builtin.Range.small a b c=true:=by
 have hz:=acY hc ha hb
 have up:∀ {x:Nat},x <= au->x <= 3000000:=fun h=>aC h (by decide)
 have add1:∀ {y:Int},y.natAbs <= 1->(b + (c + y)).natAbs <= 3000000:=fun {y} hy=>aC (Int.natAbs_add_le _ _) (aC (Nat.add_le_add hb (aC (Int.natAbs_add_le _ _) (Nat.add_le_add hcl hy))) (by decide))
 unfold Builtin.Range.small
 rw [qg (x:=a) (up ha),qg (x:=b) (up hb),qg (x:=c) (up hcl),adY (x:=Builtin.Range.rangeSize a b c) (Int.le_trans (by decide) hz.1) (Int.le_trans hz.2 (by decide))]
 have:(if c > 0 then Builtin.Range.rangeFitsLong (b + (c - 1)) else Builtin.Range.rangeFitsLong (b + (c + 1)))=true:=by
  split
  ·exact qg (add1 (y:=-1) (by decide))
  ·exact qg (add1 (y:=1) (by decide))
 rw [this,Bool.or_true]; rfl
inductive Rg3 (σ:ac) (a b c:PV):Prop
 | mk (x y z:Int) (n:Nat) (ha:a=.int x) (hb:b=.int y) (hc:c=.int z) (hz:z ≠ 0) (hs:Builtin.Range.small x y z=true) (hn:Builtin.Range.rangeSize x y z=n) (hl:n <= 2000000) (hd:z.natAbs < 1073741824) (e:j5 a b c σ=.ok (aL x z n,none) σ):Rg3 σ a b c
theorem aeS {a b c:PV} (h:j5 a b c σ ≠ .stuck):Rg3 σ a b c:=by
 cases a with
 | int x =>
  cases b with
  | int y =>
   cases c with
   | int z =>
    have e0:j5 (.int x) (.int y) (.int z) σ=if z ≠ 0/\x.natAbs <= au/\y.natAbs <= au/\z.natAbs <= au then .ok (aL x z (Builtin.Range.rangeSize x y z).toNat,none) σ else .stuck:=rfl
    by_cases hl:z ≠ 0/\x.natAbs <= au/\y.natAbs <= au/\z.natAbs <= au
    ·obtain ⟨h0,h1⟩:=acY hl.1 hl.2.1 hl.2.2.1
     obtain ⟨n,hn⟩:=Int.eq_ofNat_of_zero_le h0
     rw [hn] at h1
     refine ⟨x,y,z,n,rfl,rfl,rfl,hl.1,ag0 hl.1 hl.2.1 hl.2.2.1 hl.2.2.2,hn,Int.ofNat_le.mp h1,Nat.lt_of_le_of_lt hl.2.2.2 (by decide),(e0.trans (if_pos hl)).trans ?_⟩
     rw [hn]; rfl
    ·exact absurd (e0.trans (if_neg hl)) h
   | _=>exact absurd rfl h
  | _=>exact absurd rfl h
 | _=>exact absurd rfl h
theorem ac8 {vs:List PV} {P:Prop} (h:qV vs σ ≠ .stuck) (k:∀ a b c,vs=[a,b,c]->P):P:=by
 cases vs with
 | nil=>exact absurd rfl h
 | cons a l =>
  cases l with
  | nil=>exact absurd rfl h
  | cons b l =>
   cases l with
   | nil=>exact absurd rfl h
   | cons c l =>
    cases l with
    | nil=>exact k a b c rfl
    | cons d l=>exact absurd rfl h
theorem afF {a b c:PV} {x y z:Value} (r:R K.hb s.heap σ α) (va:VR s.heap α a x) (vb:VR s.heap α b y) (vc:VR s.heap α c z) {E:Value->Shared->Prop} (hc:j5 a b c σ ≠ .stuck):wpAny (model K.prog K.w) A (call (.type "range") [x,y,z]) (ik K (j5 a b c σ) s α) E s:=by
 obtain ⟨i,j,k,n,rfl,rfl,rfl,hz,hs,hn,hl,hd,e⟩:=aeS hc
 obtain ⟨t,rfl⟩:=va.intE
 obtain ⟨u,rfl⟩:=vb.intE
 obtain ⟨v,rfl⟩:=vc.intE
 rw [e]
 exact call_range_3 hz ⟨s,σ,α,i,j,k,t,u,v,s.toks,n,rfl,rfl,rfl,.refl,r,.refl s,hs,hn,hl⟩ (.inl (PyProof.noPylong_small hd))
end
end Mine
namespace Mine
open PySem PyProof.Rows
section
variable {prog:Program} {w:World} {A:Around} {E:Value->Shared->Prop} {s:Shared}
theorem rm {it t:Addr} {i:Nat} {am:Array Value} {x:Value} {Q:Value->Shared->Prop} (hit:s.heap.IsTupleIter it t i) (ht:s.heap.IsTuple t am) (hx:am[i]?=some x)
  (hQ:∀ h',h'.IsTupleIter it t (i + 1)->Heap.SameBut it s.heap h'->Q x { s with heap:=h' }):wpAny (model prog w) A (Builtin.SmallTypes.nextOf (.ref it)) Q E s:=by
 obtain ⟨o,ho,hc,hd⟩:=id hit
 obtain ⟨ol,hol,_,nl,hdl⟩:=ht
 unfold Builtin.SmallTypes.nextOf
 refine wpAny_bind (wpAny_callSpecial?_slot (name:=Str.ofString "__next__") hit.typeIs F.slot_tuple_iterator_next
  (wpAny_call_entry F.slot_tuple_iterator_next hit.typeIs F.entry_tuple_iterator_next ?_ (F.args_tuple_iterator_next_1 _)))
 show wpAny _ _ (field (.ref it) 0 >>= _) _ _ s
 refine wpAny_bind (wpAny_field ho hd (x:=.ref t) rfl ?_)
 show wpAny _ _ (if (Value.ref t == Value.none)=true then _ else _) _ _ s
 rw [if_neg (show ¬ ((Value.ref t == Value.none)=true) from Bool.false_ne_true)]
 show wpAny _ _ (field (.ref it) 1 >>= _) _ _ s
 refine wpAny_bind (wpAny_field ho hd (x:=.int i 0) rfl ?_)
 show wpAny _ _ (seqItems? (.ref t) >>= _) _ _ s
 refine wpAny_bind (wpAny_seqItems hol hdl ?_)
 simp only [Int.toNat_natCast,hx]
 refine wpAny_bind (wpAny_setField ho hd (by simp) (wpAny_pure ⟨x,rfl,wpAny_pure (hQ _ ?_ (Heap.SameBut.update ..))⟩))
 exact ⟨_,Heap.get?_update_self _ ho (Obj.isFreed_of_fields (Obj.data_mapFields hd _)),(Obj.cls_mapFields ..).trans hc,by
  rw [Obj.data_mapFields hd]; simp [rawInt]⟩
theorem si {it t:Addr} {i:Nat} {am:Array Value} {Q:Value->Shared->Prop} (hh:A.handled=none) (hit:s.heap.IsTupleIter it t i) (ht:s.heap.IsTuple t am) (hx:am[i]?=none)
  (hE:∀ h' e,Heap.ExtBut it s.heap h'->(∃ o,h'.get? e=some o/\o.cls=.type "StopIteration")->E (.ref e) { s with heap:=h' }):wpAny (model prog w) A (Builtin.SmallTypes.nextOf (.ref it)) Q E s:=by
 obtain ⟨o,ho,hc,hd⟩:=id hit
 obtain ⟨ol,hol,_,nl,hdl⟩:=ht
 unfold Builtin.SmallTypes.nextOf
 refine wpAny_bind (wpAny_callSpecial?_slot (name:=Str.ofString "__next__") hit.typeIs F.slot_tuple_iterator_next
  (wpAny_call_entry F.slot_tuple_iterator_next hit.typeIs F.entry_tuple_iterator_next ?_ (F.args_tuple_iterator_next_1 _)))
 show wpAny _ _ (field (.ref it) 0 >>= _) _ _ s
 refine wpAny_bind (wpAny_field ho hd (x:=.ref t) rfl ?_)
 show wpAny _ _ (if (Value.ref t == Value.none)=true then _ else _) _ _ s
 rw [if_neg (show ¬ ((Value.ref t == Value.none)=true) from Bool.false_ne_true)]
 show wpAny _ _ (field (.ref it) 1 >>= _) _ _ s
 refine wpAny_bind (wpAny_field ho hd (x:=.int i 0) rfl ?_)
 show wpAny _ _ (seqItems? (.ref t) >>= _) _ _ s
 refine wpAny_bind (wpAny_seqItems hol hdl ?_)
 simp only [Int.toNat_natCast,hx]
 refine wpAny_bind (wpAny_rule (wpAny_bind (wpAny_setField ho hd (by simp) ?_)))
 show wpAny _ _ (newExc (.type "StopIteration") [] >>= _) _ _ _
 refine wpAny_bind ?_
 simp only [newExc,newTuple]
 refine wpAny_bind (wpAny_newObj_type ?_ (by size_fits))
 refine wpAny_bind (m:=firstArgMember _ _) (wpAny_of_eq (a:=Value.none) (by first | rfl | (simp only [firstArgMember]; rfl)) ?_)
 refine wpAny_newObj_type ?_ (by size_fits)
 simp only [raiseNew]
 refine wpAny_bind (wpAny_handled ?_)
 first | rw [show A.in1.handled=none from hh] | rw [hh]
 refine wpAny_bind (wpAny_pure (wpAny_throw ?_))
 exact hE _ _ (((Heap.SameBut.update ..).extBut.push _).push _) ⟨_,Heap.get?_push_size _ rfl,rfl⟩
structure fK (h:Heap) (z TI TO i1 i2 t l:Addr) (k:Nat) (f0:Value):Prop where
 z:IsZip h z TI TO f0
 ti:IsPair h TI (.ref i1) (.ref i2)
 it:h.IsTupleIter i1 t k
 il:h.IsListIter i2 l k
structure rk (z TI TO i1 i2:Addr):Prop where
 a:TI ≠ z
 b:TO ≠ z
 c:i1 ≠ z
 d:i2 ≠ z
 e:TI ≠ TO
 f:TI ≠ i1
 g:TI ≠ i2
 h:TO ≠ i1
 i:TO ≠ i2
 j:i1 ≠ i2
theorem l8 {h h':Heap} {I t:Addr} {k:Nat} (x:h.IsTupleIter I t k) (g:∀ o,h.get? I=some o->h'.get? I=some o):h'.IsTupleIter I t k:=by
 obtain ⟨o,e,c,d⟩:=x; exact ⟨o,g o e,c,d⟩
theorem mh {h h':Heap} {I t:Addr} {k:Nat} (x:h.IsListIter I t k) (g:∀ o,h.get? I=some o->h'.get? I=some o):h'.IsListIter I t k:=by
 obtain ⟨o,e,c,d⟩:=x; exact ⟨o,g o e,c,d⟩
theorem fK.keep {h h':Heap} {z TI TO i1 i2 t l:Addr} {k:Nat} {f0:Value} (Z:fK h z TI TO i1 i2 t l k f0) (g:∀ b,b=z\/b=TI\/b=i1\/b=i2->∀ o,h.get? b=some o->h'.get? b=some o):fK h' z TI TO i1 i2 t l k f0:=
 ⟨g z (.inl rfl) _ Z.z,g TI (.inr (.inl rfl)) _ Z.ti,l8 Z.it (g i1 (.inr (.inr (.inl rfl)))),mh Z.il (g i2 (.inr (.inr (.inr rfl))))⟩
theorem wS {z TI TO i1 i2 t l:Addr} {k:Nat} {xs ys:Array Value} {x y a b:Value} {Q:Value->Shared->Prop} (D:rk z TI TO i1 i2) (Z:fK s.heap z TI TO i1 i2 t l k .none) (hTO:IsPair s.heap TO a b)
  (ht:∀ h':Heap,(∀ c o,c ≠ z->c ≠ TO->c ≠ i1->c ≠ i2->s.heap.get? c=some o->h'.get? c=some o)->h'.IsTuple t xs/\h'.IsList l ys) (hx:xs[k]?=some x) (hy:ys[k]?=some y)
  (hQ:∀ h',fK h' z TI TO i1 i2 t l (k + 1) (rawInt s.heap.objs.size)->IsPair h' TO x y->IsPair h' s.heap.objs.size x y ->
   (∀ c o,c ≠ z->c ≠ TO->c ≠ i1->c ≠ i2->s.heap.get? c=some o->h'.get? c=some o)->Q (.ref s.heap.objs.size) { s with heap:=h' }) :
  wpAny (model prog w) A (Builtin.«zip.__next__» ⟨[.ref z],[]⟩) (fun fin s'=>∃ v,fin=.done (.ret v)/\Q v s') E s:=by
 obtain ⟨hz,hTI,h1,h2⟩:=Z
 show wpAny _ _ (field (.ref z) 2 >>= _) _ _ _
 refine wpAny_bind (wpAny_field hz rfl (x:=.bool false) rfl ?_)
 show wpAny _ _ (field (.ref z) 3 >>= _) _ _ _
 refine wpAny_bind (wpAny_field hz rfl (x:=.ref TI) rfl ?_)
 refine wpAny_bind (wpAny_seqItems hTI rfl ?_)
 show wpAny _ _ (Builtin.SmallTypes.ownedTupleIsFree (.ref z) >>= _) _ _ _
 refine wpAny_bind ?_
 unfold Builtin.SmallTypes.ownedTupleIsFree
 refine wpAny_bind (wpAny_field hz rfl (x:=.none) rfl (wpAny_pure ?_))
 simp only [if_true]
 refine wpAny_bind (wpAny_rule ?_)
 refine wpAny_bind (wpAny_field hz rfl (x:=.ref TO) rfl ?_)
 refine wpAny_bind (wpAny_setField_rec hz (by simp) fun a7 oM da=>?_)
 replace oM:IsZip a7 z TI TO .ellipsis:=oM
 refine wpAny_bind ?_
 simp only [List.zipIdx_cons,List.zipIdx_nil,List.forIn_cons,List.forIn_nil]
 refine wpAny_bind (wpAny_bind (wpAny_onRaise ?_))
 show wpAny _ _ (Builtin.SmallTypes.nextOf (.ref i1) >>= _) _ _ _
 have aiR:∀ c o,c ≠ z->s.heap.get? c=some o->a7.get? c=some o:=fun c o c1 e=>da.extBut _ _ c1 e
 refine wpAny_bind (rm (h1.extBut da.extBut D.c) (ht a7 fun c o c1 zz zz zz e=>aiR c o c1 e).1 hx fun de ajZ lz=>wpAny_pure ?_)
 have adL:IsPair de TO a b:=lz.extBut _ _ D.h (da.extBut _ _ D.b hTO)
 refine wpAny_bind (wpAny_seqItems adL rfl ?_)
 refine wpAny_bind (wpAny_updateSeq_pair adL fun kr y6 ly=>?_)
 replace y6:IsPair kr TO x b:=y6
 refine wpAny_bind (wpAny_letGo (wpAny_pure ?_))
 refine wpAny_bind (wpAny_bind (wpAny_onRaise ?_))
 show wpAny _ _ (Builtin.SmallTypes.nextOf (.ref i2) >>= _) _ _ _
 have aiQ:∀ c o,c ≠ z->c ≠ TO->c ≠ i1->s.heap.get? c=some o->kr.get? c=some o:=fun c o c1 c2 c3 e=>ly.extBut _ _ c2 (lz.extBut _ _ c3 (aiR c o c1 e))
 refine wpAny_bind (wpAny_nextOf_list_item (((h2.extBut da.extBut D.d).extBut lz.extBut D.j.symm).extBut ly.extBut D.i.symm)
  (ht kr fun c o c1 c2 c3 zz e=>aiQ c o c1 c2 c3 e).2 hy fun ab1 ajX uj=>wpAny_pure ?_)
 have adK:IsPair ab1 TO x b:=uj.extBut _ _ D.i y6
 refine wpAny_bind (wpAny_seqItems adK rfl ?_)
 refine wpAny_bind (wpAny_updateSeq_pair adK fun gY um uh=>?_)
 replace um:IsPair gY TO x y:=um
 refine wpAny_bind (wpAny_letGo (wpAny_pure (wpAny_pure ?_)))
 refine wpAny_bind (wpAny_seqItems um rfl ?_)
 refine wpAny_bind (wpAny_newTuple ?_)
 have hsz:gY.objs.size=s.heap.objs.size:=by rw [uh.1,uj.1,ly.1,lz.1,da.1]
 have agj:IsZip gY z TI TO .ellipsis:=uh.extBut _ _ D.b.symm (uj.extBut _ _ D.d.symm (ly.extBut _ _ D.b.symm (lz.extBut _ _ D.c.symm oM)))
 have ajT:∀ c o,c ≠ z->c ≠ TO->c ≠ i1->c ≠ i2->s.heap.get? c=some o->gY.get? c=some o:=fun c o c1 c2 c3 c4 e =>
  uh.extBut _ _ c2 (uj.extBut _ _ c4 (aiQ c o c1 c2 c3 e))
 have ajY:gY.IsTupleIter i1 t (k + 1):=((ajZ.extBut ly.extBut D.h.symm).extBut uj.extBut D.j).extBut uh.extBut D.h.symm
 have ajW:gY.IsListIter i2 l (k + 1):=ajX.extBut uh.extBut D.i.symm
 have hzlt:z < gY.objs.size:=Heap.lt_size agj
 show wpAny _ _ (Builtin.SmallTypes.ownedTupleHandOut (.ref z) (.ref gY.objs.size) >>= _) _ _ _
 refine wpAny_bind ?_
 unfold Builtin.SmallTypes.ownedTupleHandOut
 have ajR:IsZip (gY.push { cls:=.type "tuple",data:=.seq #[x,y] }) z TI TO .ellipsis:=Heap.get?_push_of_some _ agj
 refine wpAny_bind (wpAny_setField_rec ajR (by simp) fun yY ab2 agm=>?_)
 replace ab2:IsZip yY z TI TO (rawInt gY.objs.size):=ab2
 refine wpAny_setField_rec ab2 (by simp) fun yX xM agl=>?_
 replace xM:IsZip yX z TI TO (rawInt gY.objs.size):=xM
 have up:∀ c o,c ≠ z->gY.get? c=some o->yX.get? c=some o:=fun c o c1 e=>agl.extBut _ _ c1 (agm.extBut _ _ c1 (Heap.get?_push_of_some _ e))
 have ags:IsPair yX gY.objs.size x y:=agl.extBut _ _ (Nat.ne_of_gt hzlt) (agm.extBut _ _ (Nat.ne_of_gt hzlt) (Heap.get?_push_size _ rfl))
 rw [hsz] at xM ags
 refine wpAny_pure ⟨_,rfl,?_⟩
 show Q (.ref gY.objs.size) _
 rw [hsz]
 have kk:∀ c o,c ≠ z->c ≠ TO->c ≠ i1->c ≠ i2->s.heap.get? c=some o->yX.get? c=some o:=fun c o c1 c2 c3 c4 e=>up c o c1 (ajT c o c1 c2 c3 c4 e)
 exact hQ yX ⟨xM,kk _ _ D.a D.e D.f D.g hTI,l8 ajY fun o e=>up _ o D.c e,mh ajW fun o e=>up _ o D.d e⟩ (up _ _ D.b um) ags kk
theorem xV {z TI TO i1 i2 t l:Addr} {k:Nat} {xs:Array Value} {Q:Fin->Shared->Prop} (hh:A.handled=none) (D:rk z TI TO i1 i2) (Z:fK s.heap z TI TO i1 i2 t l k .none)
  (ht:∀ h':Heap,(∀ c o,c ≠ z->c ≠ i1->s.heap.get? c=some o->h'.get? c=some o)->h'.IsTuple t xs) (hx:xs[k]?=none)
  (hE:∀ (h':Heap) (e:Addr),(∀ c o,c ≠ z->c ≠ i1->s.heap.get? c=some o->h'.get? c=some o)->(∃ o,h'.get? e=some o/\o.cls=.type "StopIteration")->E (.ref e) { s with heap:=h' }) :
  wpAny (model prog w) A (Builtin.«zip.__next__» ⟨[.ref z],[]⟩) Q E s:=by
 obtain ⟨hz,hTI,h1,h2⟩:=Z
 show wpAny _ _ (field (.ref z) 2 >>= _) _ _ _
 refine wpAny_bind (wpAny_field hz rfl (x:=.bool false) rfl ?_)
 show wpAny _ _ (field (.ref z) 3 >>= _) _ _ _
 refine wpAny_bind (wpAny_field hz rfl (x:=.ref TI) rfl ?_)
 refine wpAny_bind (wpAny_seqItems hTI rfl ?_)
 show wpAny _ _ (Builtin.SmallTypes.ownedTupleIsFree (.ref z) >>= _) _ _ _
 refine wpAny_bind ?_
 unfold Builtin.SmallTypes.ownedTupleIsFree
 refine wpAny_bind (wpAny_field hz rfl (x:=.none) rfl (wpAny_pure ?_))
 simp only [if_true]
 refine wpAny_bind (wpAny_rule ?_)
 refine wpAny_bind (wpAny_field hz rfl (x:=.ref TO) rfl ?_)
 refine wpAny_bind (wpAny_setField_rec hz (by simp) fun a7 oM da=>?_)
 replace oM:IsZip a7 z TI TO .ellipsis:=oM
 refine wpAny_bind ?_
 simp only [List.zipIdx_cons,List.zipIdx_nil,List.forIn_cons,List.forIn_nil]
 refine wpAny_bind (wpAny_bind (wpAny_onRaise ?_))
 show wpAny _ _ (Builtin.SmallTypes.nextOf (.ref i1) >>= _) _ _ _
 refine wpAny_bind (si hh (h1.extBut da.extBut D.c) (ht a7 fun c o c1 zz e=>da.extBut _ _ c1 e) hx fun de e lz he=>?_)
 obtain ⟨oe,hoe,hce⟩:=he
 have agk:IsZip de z TI TO .ellipsis:=lz _ _ D.c.symm oM
 have hez:e ≠ z:=fun x=>by subst x; rw [agk] at hoe; cases hoe; simp at hce
 exact wpAny_setField_rec agk (by simp) fun kr zz ly=>hE kr e (fun c o c1 c3 x=>ly.extBut _ _ c1 (lz _ _ c3 (da.extBut _ _ c1 x))) ⟨oe,ly.extBut _ _ hez hoe,hce⟩
theorem tj {z TI TO i1 i2 t l:Addr} {k:Nat} {xs ys:Array Value} {x y a b:Value} {Q:Option Value->Shared->Prop} (D:rk z TI TO i1 i2) (Z:fK s.heap z TI TO i1 i2 t l k .none) (hTO:IsPair s.heap TO a b)
  (ht:∀ h':Heap,(∀ c o,c ≠ z->c ≠ TO->c ≠ i1->c ≠ i2->s.heap.get? c=some o->h'.get? c=some o)->h'.IsTuple t xs/\h'.IsList l ys) (hx:xs[k]?=some x) (hy:ys[k]?=some y)
  (hQ:∀ h',fK h' z TI TO i1 i2 t l (k + 1) (rawInt s.heap.objs.size)->IsPair h' TO x y->IsPair h' s.heap.objs.size x y ->
   (∀ c o,c ≠ z->c ≠ TO->c ≠ i1->c ≠ i2->s.heap.get? c=some o->h'.get? c=some o)->Q (some (.ref s.heap.objs.size)) { s with heap:=h' }) :
  wpAny (model prog w) A (pyNext (.ref z)) Q E s:=by
 have hT:s.TypeIs (.ref z) "zip" := ⟨_,Z.z,rfl⟩
 unfold pyNext
 exact wpAny_bind (wpAny_attempt (wpAny_callSpecial?_slot (name:=Str.ofString "__next__") hT F.slot_zip_next
  (wpAny_call_entry F.slot_zip_next hT F.entry_zip_next
   (wS D Z hTO ht hx hy fun h' a1 a2 a3 a4=>wpAny_pure (hQ h' a1 a2 a3 a4)) (F.args_zip_next_1 _))))
theorem uX {z TI TO i1 i2 t l:Addr} {k:Nat} {xs:Array Value} {Q:Option Value->Shared->Prop} (hh:A.handled=none) (D:rk z TI TO i1 i2) (Z:fK s.heap z TI TO i1 i2 t l k .none)
  (ht:∀ h':Heap,(∀ c o,c ≠ z->c ≠ i1->s.heap.get? c=some o->h'.get? c=some o)->h'.IsTuple t xs) (hx:xs[k]?=none)
  (hQ:∀ h':Heap,(∀ c o,c ≠ z->c ≠ i1->s.heap.get? c=some o->h'.get? c=some o)->Q none { s with heap:=h' }):wpAny (model prog w) A (pyNext (.ref z)) Q E s:=by
 have hT:s.TypeIs (.ref z) "zip" := ⟨_,Z.z,rfl⟩
 unfold pyNext
 refine wpAny_bind (wpAny_attempt (wpAny_callSpecial?_slot (name:=Str.ofString "__next__") hT F.slot_zip_next
  (wpAny_call_entry F.slot_zip_next hT F.entry_zip_next (xV hh D Z ht hx fun h' e hk he=>?_) (F.args_zip_next_1 _))))
 obtain ⟨o,ho,hc⟩:=he
 refine wpAny_bind (wpAny_isInstance (T := "StopIteration") (b:=true) ⟨o,ho,hc⟩ isSubtype_stop ?_)
 exact wpAny_pure (hQ _ hk)
noncomputable abbrev xC (h:Heap) (t:Addr):Heap:=h.push { cls:=.type "tuple_iterator",data:=.fields #[.ref t,.int 0 0] }
noncomputable abbrev xB (h:Heap) (t l:Addr):Heap:=(xC h t).push { cls:=.type "list_iterator",data:=.fields #[.ref l,.int 0 0] }
noncomputable abbrev xA (h:Heap) (t l:Addr):Heap:=(xB h t l).push { cls:=.type "tuple",data:=.seq #[.ref h.objs.size,.ref (xC h t).objs.size] }
noncomputable abbrev xz (h:Heap) (t l:Addr):Heap:=(xA h t l).push { cls:=.type "tuple",data:=.seq #[.none,.none] }
noncomputable abbrev qL (h:Heap) (t l:Addr):Heap:=(xz h t l).push { cls:=.type "zip",data:=.fields #[.none,.bool false,.bool false,.ref (xB h t l).objs.size,.ref (xA h t l).objs.size] }
theorem w0 (t l:Addr) (xs ys:Array Value) :
  Meets (Builtin.«zip.__new__» ⟨[.type "zip",.ref t,.ref l],[]⟩) (fun zz R s=>s.heap.IsTuple t xs/\s.heap.IsList l ys ∧
   R (.ok (.ret (.ref (xz s.heap t l).objs.size))) { s with heap:=qL s.heap t l }):=
 .of_wp fun prog w A R s h=>by
  obtain ⟨hp,g,d,tk,os⟩:=s; obtain ⟨hl1,hl2,h⟩:=h
  have hsub:=sub_zip
  have hL1:Heap.IsTuple (Shared.heap ⟨hp,g,d,tk,os⟩) t xs:=hl1
  have hL2:Heap.IsList (Shared.heap ⟨hp.push { cls:=.type "tuple_iterator",data:=.fields #[.ref t,.int 0 0] },g,d,tk,os⟩) l ys:=Heap.IsList.push hl2 _
  wp_walk using wpAny_pyIter_tuple hL1,wpAny_pyIter_list hL2
  exact ⟨_,rfl,h⟩
theorem afE {t l:Addr} {xs ys:Array Value} {Q:Value->Shared->Prop} (hl1:s.heap.IsTuple t xs) (hl2:s.heap.IsList l ys)
  (h:∀ h',fK h' (s.heap.objs.size + 4) (s.heap.objs.size + 2) (s.heap.objs.size + 3) s.heap.objs.size (s.heap.objs.size + 1) t l 0 .none->IsPair h' (s.heap.objs.size + 3) .none .none ->
   (∀ c o,s.heap.get? c=some o->h'.get? c=some o)->Q (.ref (s.heap.objs.size + 4)) { s with heap:=h' }) :
  wpAny (model prog w) A (call (.type "zip") [.ref t,.ref l]) Q E s:=by
 refine callType_new F.called_zip (by decide) (F.typeCall_zip_2 _ _) (F.newCall_zip_2 _ _) (fun obj=>F.args_object_init_3 obj _ _) F.entry_zip_new
  (w0 t l xs ys) ⟨hl1,hl2,?_⟩
 have z1:(xC s.heap t).objs.size=s.heap.objs.size + 1:=Heap.size_push ..
 have z2:(xB s.heap t l).objs.size=s.heap.objs.size + 2:=by rw [Heap.size_push,z1]
 have z3:(xA s.heap t l).objs.size=s.heap.objs.size + 3:=by rw [Heap.size_push,z2]
 have z4:(xz s.heap t l).objs.size=s.heap.objs.size + 4:=by rw [Heap.size_push,z3]
 have g5:(qL s.heap t l).get? (xz s.heap t l).objs.size=some _:=Heap.get?_push_size _ rfl
 have g4:(qL s.heap t l).get? (xA s.heap t l).objs.size=some _:=Heap.get?_push_of_some _ (Heap.get?_push_size _ rfl)
 have g3:(qL s.heap t l).get? (xB s.heap t l).objs.size=some _:=Heap.get?_push_of_some _ (Heap.get?_push_of_some _ (Heap.get?_push_size _ rfl))
 have g2:(qL s.heap t l).get? (xC s.heap t).objs.size=some _:=Heap.get?_push_of_some _ (Heap.get?_push_of_some _ (Heap.get?_push_of_some _ (Heap.get?_push_size _ rfl)))
 have g1:(qL s.heap t l).get? s.heap.objs.size=some _:=Heap.get?_push_of_some _ (Heap.get?_push_of_some _ (Heap.get?_push_of_some _ (Heap.get?_push_of_some _ (Heap.get?_push_size _ rfl))))
 show _/\_
 rw [z2,z3,z4] at g5
 rw [z1,z2] at g3
 rw [z3] at g4
 rw [z1] at g2
 rw [z4]
 exact ⟨⟨_,g5,rfl⟩,h _ ⟨g5,g3,⟨_,g1,rfl,rfl⟩,⟨_,g2,rfl,rfl⟩⟩ g4 fun c o x =>
  Heap.get?_push_of_some _ (Heap.get?_push_of_some _ (Heap.get?_push_of_some _ (Heap.get?_push_of_some _ (Heap.get?_push_of_some _ x))))⟩
end
theorem yt {h:Heap} {a b:Addr} {o:Obj} {v xs:Array Value} {n:Nat} {c:Value} (e1:h.get? a=some { cls:=c,data:=.seq xs n }) (e2:h.get? b=some o) (hd:o.data=.fields v):a ≠ b:=fun q=>by
 rw [q,e2] at e1
 rw [oi e1] at hd
 contradiction
theorem R.but2 {hb:Bs} {h h':Heap} {σ:ac} {α:AL} {own:List Addr} {TO:Addr} {j:Nat} {x y:Value} (r:R hb h σ α) (hj:σ[j]?=some .tp) (eT:α.ix[j]?=some TO) (e':IsPair h' TO x y) (hI:∀ b ∈ own,b ∉ α.all) (hbI:∀ b ∈ own,hb.get? b=none)
  (k:∀ b o,b ∉ own->b ≠ TO->h.get? b=some o->h'.get? b=some o) (hs:∀ b ∈ own,∀ o,h.get? b=some o->¬ j1 o/\¬ dl o):R hb h' σ α/\aD own α h α h':=by
 have mT:TO ∈ α.ix:=List.mem_of_getElem? eT
 have al:∀ b o,b ∉ own->h.get? b=some o->∃ o',h'.get? b=some o':=fun b o hF e=>by
  by_cases q:b=TO
  ·subst q; exact ⟨_,e'⟩
  ·exact ⟨o,k b o hF q e⟩
 have z:aD own α h α h':=⟨rfl,⟨[],by simp,fun zz hx=>by simp at hx⟩,fun b o hb e q=>k b o (fun z=>(hs b z o e).1 q) (fun z=>hb (z ▸ mT)) e,fun b o hb hF e=>.inl (k b o hF (fun z=>hb (z ▸ mT)) e),al,rfl⟩
 refine ⟨⟨fun b o e=>k b o (fun q=>by rw [hbI b q] at e; contradiction) (fun q=>by rw [q,r.fresh _ mT] at e; contradiction) (r.base b o e),r.fresh,r.nodup,r.len,fun b hb=>⟨(r.hidden b hb).1,?_⟩,fun i m a e1 e2=>?_,r.hfr,r.fe,fun b hb=>⟨(r.frs b hb).1,?_⟩,r.frNot⟩,z⟩
 ·obtain ⟨o,e⟩:=(r.hidden b hb).2
  exact al b o (fun q=>hI b q (List.mem_append_right _ hb)) e
 ·by_cases q:a=TO
  ·subst q
   obtain rfl:=(List.getElem?_inj (eY e2).1 r.nodup).mp (e2.trans eT.symm)
   obtain rfl:=oi (hj.symm.trans e1)
   exact ⟨x,y,e'⟩
  ·obtain ⟨o',q'⟩:=r.live (List.mem_of_getElem? e2)
   exact (r.obj i m a e1 e2).ext z (by rw [q',k a o' (fun q=>AL.not_ix (hI a q) (List.mem_of_getElem? e2)) q q'])
 ·obtain ⟨_,o,e,d⟩:=r.frs b hb
  exact ⟨o,k b o (fun q=>(hs b q o e).2 d) (fun q=>r.frNot b hb (q ▸ mT)) e,d⟩
theorem acA:∀ {xs ys:List PV} {i:Nat} {p:PV},(gQ xs ys)[i]?=some p->∃ a b,xs[i]?=some a/\ys[i]?=some b/\p=.tup [a,b]:=by
 intro xs
 induction xs with
 | nil=>intro ys i p h; cases ys <;> contradiction
 | cons x xs ih =>
  intro ys i p h
  cases ys with
  | nil=>contradiction
  | cons y ys =>
   cases i with
   | zero=>obtain rfl:=oi h; exact ⟨x,y,rfl,rfl,rfl⟩
   | succ i=>exact ih (i:=i) h
theorem abb:∀ {xs ys:List PV},xs.length=ys.length->(gQ xs ys).length=xs.length:=by
 intro xs
 induction xs with
 | nil=>intro ys h; cases ys <;> rfl
 | cons x xs ih =>
  intro ys h
  cases ys with
  | nil=>contradiction
  | cons y ys=>exact congrArg Nat.succ (ih (Nat.succ.inj h))
section
variable {K:Kt} {A:Around} {s:Shared} {α:AL} {σ:ac}
structure akb (z TI TO i1 i2 t l:Addr) (j:Nat) (xs ys:List PV) (i:Nat) (h:Heap) (α:AL):Prop where
 Z:fK h z TI TO i1 i2 t l i .none
 eT:α.ix[j]?=some TO
 nT:TI ∉ α.all
 nz:z ∉ α.all
 n1:i1 ∉ α.all
 n2:i2 ∉ α.all
 vt:VR h α (.tup xs) (.ref t)
 vl:VR h α (.fl ys) (.ref l)
theorem gz.zip (hh:A.handled=none) {z TI TO i1 i2 t l:Addr} {j:Nat} {xs ys:List PV} (D:rk z TI TO i1 i2) (hl:xs.length=ys.length) (hb:∀ b ∈ [z,i1,i2],K.hb.get? b=none) :
  gz K A true [z,i1,i2] (.ref z) (gQ xs ys) (some (j,.tp)) (akb z TI TO i1 i2 t l j xs ys):=by
 have three:∀ {P:Addr->Prop},P z->P i1->P i2->∀ b ∈ [z,i1,i2],P b:=fun {P} h1 h2 h3 b hb=>by
  rcases List.mem_cons.mp hb with rfl | hb
  ·exact h1
  ·rcases List.mem_cons.mp hb with rfl | hb
   ·exact h2
   ·rw [List.mem_singleton.mp hb]; exact h3
 have soft:∀ {h:Heap} {n:Nat} {f0:Value},fK h z TI TO i1 i2 t l n f0->∀ b ∈ [z,i1,i2],∀ o,h.get? b=some o->¬ j1 o/\¬ dl o:=fun {h n f0} Z=>three
  (fun o q=>by rw [Z.z] at q; obtain rfl:=oi q; exact ⟨bh rfl rfl,bi rfl⟩)
  (fun o q=>by obtain ⟨o',e',hc',hd'⟩:=Z.it; rw [e'] at q; obtain rfl:=oi q; exact ⟨bh hd' hc',bi hd'⟩)
  (fun o q=>by obtain ⟨o',e',hc',hd'⟩:=Z.il; rw [e'] at q; obtain rfl:=oi q; exact ⟨bh hd' hc',bi hd'⟩)
 have apart:∀ {h:Heap} {n:Nat} {f0:Value} {a:Addr} {c:Value} {us:Array Value} {m:Nat},fK h z TI TO i1 i2 t l n f0->h.get? a=some { cls:=c,data:=.seq us m }->∀ b ∈ [z,i1,i2],a ≠ b:=fun {h n f0 a c us m} Z e=>three (yt e Z.z rfl)
  (by obtain ⟨o',e',hc',hd'⟩:=Z.it; exact yt e e' hd') (by obtain ⟨o',e',hc',hd'⟩:=Z.il; exact yt e e' hd')
 refine ⟨fun i h α st=>?_,fun i h α st=>three st.nz st.n1 st.n2,fun i F α h α' h' st x hF=>?_,fun i D α h h' st hD k=>?_,fun i D α h st hD=>?_,fun i s σ α p hp st r hw Q E hQ=>?_,fun s σ α st r hw Q E hQ=>?_,fun i s α st Q E hQ=>?_⟩
 ·obtain ⟨o1,e1,_⟩:=st.Z.it
  obtain ⟨o2,e2,_⟩:=st.Z.il
  exact three ⟨_,st.Z.z⟩ ⟨o1,e1⟩ ⟨o2,e2⟩
 ·obtain ⟨Z,eT,nT,nz,n1,n2,vt,vl⟩:=st
  obtain ⟨Zz,Zt,⟨o1,e1,c1,d1⟩,⟨o2,e2,c2,d2⟩⟩:=Z
  exact ⟨⟨cD Zz rfl (x.rest z _ (AL.not_ix nz) (hF z (by simp)) Zz),x.seqs TI _ (AL.not_ix nT) Zt (.inl ⟨_,_,rfl⟩),⟨o1,cD e1 d1 (x.rest i1 o1 (AL.not_ix n1) (hF i1 (by simp)) e1),c1,d1⟩,⟨o2,cD e2 d2 (x.rest i2 o2 (AL.not_ix n2) (hF i2 (by simp)) e2),c2,d2⟩⟩,
   x.get eT,x.notAll nT Zt,x.notAll nz Zz,x.notAll n1 e1,x.notAll n2 e2,vt.ext x,vl.ext x⟩
 ·obtain ⟨Z,eT,nT,nz,n1,n2,vt,vl⟩:=st
  refine ⟨Z.keep fun b hb o e=>(k b fun q=>?_).trans e,eT,nT,nz,n1,n2,vt.sameBut hD k,vl.sameBut hD k⟩
  subst q
  rcases hb with rfl | rfl | rfl | rfl
  ·exact nz hD
  ·exact nT hD
  ·exact n1 hD
  ·exact n2 hD
 ·obtain ⟨Z,eT,nT,nz,n1,n2,vt,vl⟩:=st
  obtain ⟨o1,e1,_⟩:=Z.it
  obtain ⟨o2,e2,_⟩:=Z.il
  exact ⟨Z,eT,AL.not_hide hD Z.ti nT,AL.not_hide hD Z.z nz,AL.not_hide hD e1 n1,AL.not_hide hD e2 n2,vt.hide hD,vl.hide hD⟩
 ·obtain ⟨Z,eT,nT,nz,n1,n2,vt,vl⟩:=st
  have hw:σ[j]?=some .tp:=hw
  obtain ⟨q1,q2,h1,h2,rfl⟩:=acA hp
  obtain ⟨t',us,n,ht,e1,hn,w⟩:=vt.tupE
  cases ht
  obtain ⟨l',ws,m,hl',e2,hm,w'⟩:=vl.flE
  cases hl'
  obtain ⟨u,hu,hv⟩:=w.get h1
  obtain ⟨u',hu',hv'⟩:=w'.get h2
  obtain ⟨y1,y2,eO⟩:=r.obj j _ TO hw eT
  have mT:TO ∈ α.all:=List.mem_append_left _ (List.mem_of_getElem? eT)
  have a1:=apart Z e1
  have a2:=apart Z e2
  refine tj D Z eO (xs:=us.toArray) (ys:=ws.toArray) (fun h' k=>⟨vA (s:={ s with heap:=h' }) (k t _ (a1 z (by simp)) (fun q=>hn (q ▸ mT)) (a1 i1 (by simp)) (a1 i2 (by simp)) e1),jG (s:={ s with heap:=h' }) (k l _ (a2 z (by simp)) (fun q=>hm (q ▸ mT)) (a2 i1 (by simp)) (a2 i2 (by simp)) e2)⟩) (by simpa using hu) (by simpa using hu') fun h' Z' tp' hT k=>?_
  obtain ⟨r',x⟩:=r.but2 (h':=h') hw eT tp' (three nz n1 n2) hb (fun b o hb hO=>k b o (fun z=>hb (by simp [z])) hO (fun z=>hb (by simp [z])) (fun z=>hb (by simp [z]))) (soft Z)
  have fresh:s.heap.objs.size ∉ α.all:=fun z=>by
   obtain ⟨o,e⟩:=r.liveAll z
   exact absurd (Heap.lt_size e) (Nat.lt_irrefl _)
  have vp:VR h' α (.tup [q1,q2]) (.ref s.heap.objs.size):=VR.tupI (am:=[u,u']) hT fresh (.cons (hv.ext x) (.cons (hv'.ext x) .nil))
  refine hQ _ _ vp (fun z=>by contradiction) ?_ x r' ⟨rfl,rfl⟩
  intro elts kk pos Q' E' hQ'
  refine wpAny_letOwnedTupleGo_zip (s:={ s with heap:=h' }) Z'.z fun de e2 sb=>?_
  obtain ⟨r2,x2⟩:=r'.but2 (h':=de) hw eT ((sb.2 TO D.b).trans tp') (three nz n1 n2) hb (fun b o hb zz q=>(sb.2 b (fun z=>hb (by simp [z]))).trans q) (soft Z')
  exact hQ' _ ⟨vp.ext x2,⟨⟨e2,(sb.2 TI D.a).trans Z'.ti,l8 Z'.it fun o e=>(sb.2 i1 D.c).trans e,mh Z'.il fun o e=>(sb.2 i2 D.d).trans e⟩,eT,nT,nz,n1,n2,(vt.ext x).ext x2,(vl.ext x).ext x2⟩,x2,r2,⟨rfl,rfl⟩⟩
 ·obtain ⟨Z,eT,nT,nz,n1,n2,vt,vl⟩:=st
  have hw:σ[j]?=some .tp:=hw
  obtain ⟨t',us,n,ht,e1,hn,w⟩:=vt.tupE
  cases ht
  obtain ⟨y1,y2,eO⟩:=r.obj j _ TO hw eT
  have a1:=apart Z e1
  refine uX (xs:=us.toArray) hh D Z (fun h' k=>vA (s:={ s with heap:=h' }) (k t _ (a1 z (by simp)) (a1 i1 (by simp)) e1)) (by simp [abb hl,w.1]) fun h' k=>?_
  obtain ⟨r',x⟩:=r.but2 (h':=h') hw eT (k TO _ D.b D.h eO) (three nz n1 n2) hb (fun b o hb zz=>k b o (fun z=>hb (by simp [z])) (fun z=>hb (by simp [z]))) (soft Z)
  exact hQ _ x r' ⟨rfl,rfl⟩
 ·exact wpAny_pyIter_zip st.Z.z hQ
theorem AL.not_add {b D:Addr} (h:b ∉ α.all) (hD:b ≠ D):b ∉ (α.add D).all:=fun q=>by
 rcases List.mem_append.mp q with q | q
 ·rcases List.mem_append.mp q with q | q
  ·exact h (List.mem_append_left _ q)
  ·exact hD (List.mem_singleton.mp q)
 ·exact h (List.mem_append_right _ q)
theorem ah3 (n:Nat):rk (n + 4) (n + 2) (n + 3) n (n + 1):=
 have h:∀ a b:Nat,a ≠ b->(n + a:Nat) ≠ n + b:=fun a b h q=>h (Nat.add_left_cancel q)
 ⟨h 2 4 (by decide),h 3 4 (by decide),h 0 4 (by decide),h 1 4 (by decide),h 2 3 (by decide),h 2 0 (by decide),h 2 1 (by decide),h 3 0 (by decide),h 3 1 (by decide),h 0 1 (by decide)⟩
theorem ajr {a b:PV} {P:Prop} (h:uY a b σ ≠ .stuck) (k:∀ xs ys,a=.tup xs->b=.fl ys->xs.length=ys.length->uY a b σ=.ok (gQ xs ys,some (σ.length,.tp)) (σ++[.tp])->P):P:=by
 cases a with
 | tup xs =>
  cases b with
  | fl ys =>
   have e0:uY (.tup xs) (.fl ys) σ=if xs.length=ys.length/\ys.length <= au then .ok (gQ xs ys,some (σ.length,.tp)) (σ++[.tp]) else .stuck:=rfl
   by_cases hl:xs.length=ys.length/\ys.length <= au
   ·exact k xs ys rfl rfl hl.1 (e0.trans (if_pos hl))
   ·exact absurd (e0.trans (if_neg hl)) h
  | _=>exact absurd rfl h
 | _=>exact absurd rfl h
theorem afh {a b:PV} {x y:Value} {E:Value->Shared->Prop} (hh:A.handled=none) (r:R K.hb s.heap σ α) (va:VR s.heap α a x) (vb:VR s.heap α b y) (hc:uY a b σ ≠ .stuck) :
  wpAny (model K.prog K.w) A (call (.type "zip") [x,y]) (fun y s₁=>wpAny (model K.prog K.w) A (pyIter y) (bz K A true (uY a b σ) s α) E s₁) E s:=by
 refine ajr hc fun xs ys ha hb hl e=>?_
 subst ha hb
 rw [e]
 obtain ⟨t,us,n,rfl,e1,hn,w⟩:=va.tupE
 obtain ⟨l,ws,m,rfl,e2,hm,w'⟩:=vb.flE
 refine afE (vA e1) (jG e2) fun h' Z tp k=>wpAny_pyIter_zip (s:={ s with heap:=h' }) Z.z ?_
 have out:∀ i,s.heap.get? (s.heap.objs.size + i)=none/\s.heap.objs.size + i ∉ α.all/\K.hb.get? (s.heap.objs.size + i)=none:=fun i=>by
  have q0:s.heap.get? (s.heap.objs.size + i)=none:=by
   cases q:s.heap.get? (s.heap.objs.size + i) with
   | none=>rfl
   | some o=>exact absurd (Heap.lt_size q) (Nat.not_lt.mpr (Nat.le_add_right _ _))
  refine ⟨q0,fun z=>?_,?_⟩
  ·obtain ⟨o,e⟩:=r.liveAll z
   rw [q0] at e; contradiction
  ·cases q:K.hb.get? (s.heap.objs.size + i) with
   | none=>rfl
   | some o=>rw [r.base _ _ q] at q0; contradiction
 have D:=ah3 s.heap.objs.size
 obtain ⟨r',x⟩:=r.add (D:=s.heap.objs.size + 3) (m:=.tp) k (out 3).1 ⟨_,_,tp⟩
 have own:∀ b ∈ [s.heap.objs.size + 4,s.heap.objs.size,s.heap.objs.size + 1],s.heap.get? b=none/\K.hb.get? b=none:=fun b hb=>by
  rcases List.mem_cons.mp hb with rfl | hb
  ·exact ⟨(out 4).1,(out 4).2.2⟩
  ·rcases List.mem_cons.mp hb with rfl | hb
   ·exact ⟨(out 0).1,(out 0).2.2⟩
   ·rw [List.mem_singleton.mp hb]; exact ⟨(out 1).1,(out 1).2.2⟩
 refine ⟨_,_,_,_,_,_,rfl,x,r',⟨rfl,rfl⟩,.zip (t:=t) (l:=l) hh D hl fun b hb=>(own b hb).2,⟨Z,?_,AL.not_add (out 2).2.1 D.e,AL.not_add (out 4).2.1 D.b.symm,AL.not_add (out 0).2.1 D.h.symm,AL.not_add (out 1).2.1 D.i.symm,va.ext x,vb.ext x⟩,own⟩
 show (α.ix++[s.heap.objs.size + 3])[σ.length]?=_
 rw [r.len,List.getElem?_append_right (Nat.le_refl _),Nat.sub_self]; rfl
end
end Mine
namespace Mine
open PySem PyProof.Rows
end Mine
namespace Mine
open PySem PyProof.Rows
structure aI (hb:Bs) (env:Env):Prop where
 l:hb.get? env.locals=none
 c:∀ x c,env.cells.lookup x=some c->hb.get? c=none
 f:∃ L r,env.frame=some L/\hb.fr=L::r
theorem OR.sameBut {B:Bs} {h h':Heap} {α:AL} {D:Addr} {m:MO} {a:Addr} (hD:D ∈ α.all) (hne:a ≠ D) (k:∀ b,b ≠ D->h'.get? b=h.get? b) (r:OR B h α m a):OR B h' α m a:=
 r.map (fun zz zz v=>v.sameBut hD k) (k a hne) fun b o hb e zz=>⟨(k b (by rintro rfl; exact hb hD)).trans e,hb⟩
theorem ai.sameBut {h h':Heap} {α:AL} {D:Addr} {env:Env} {ρ:aq} (hD:D ∈ α.all) (k:∀ b,b ≠ D->h'.get? b=h.get? b) (E:ai env ρ h α):ai env ρ h' α:=by
 obtain ⟨m,n,hm⟩:=E.ns
 have hL:env.locals ≠ D:=by intro q; exact E.la (q ▸ hD)
 refine ⟨E.ok,E.la,⟨m,?_,fun i x v e1 e2=>let ⟨u,a,b⟩:=hm i x v e1 e2; ⟨u,a,b.sameBut hD k⟩⟩,fun x c hc=>?_,E.cd,fun i x e1=>?_,E.inb⟩
 ·obtain ⟨o,es,ep,e,r⟩:=n
  exact ⟨o,es,ep,(k _ hL).trans e,r⟩
 ·obtain ⟨h1,h2,v,o,e,d⟩:=E.ca x c hc
  exact ⟨h1,h2,v,o,(k _ (by intro q; exact h1 (q ▸ hD))).trans e,d⟩
 ·obtain ⟨c,hc,hv⟩:=E.cv i x e1
  refine ⟨c,hc,fun v e2=>?_⟩
  obtain ⟨u,⟨o,e,d⟩,b⟩:=hv v e2
  exact ⟨u,⟨o,(k _ (by intro q; exact (E.ca x c hc).1 (q ▸ hD))).trans e,d⟩,b.sameBut hD k⟩
theorem R.sameHid {hb h h' σ α} {D:Addr} (r:R hb h σ α) (hD:D ∈ α.hid) (hbD:hb.get? D=none) (k:∀ b,b ≠ D->h'.get? b=h.get? b) (al:∃ o,h'.get? D=some o) (nd:∀ o,h.get? D=some o->¬ dl o):R hb h' σ α:=by
 have hDi:=(r.hidden D hD).1
 have hDa:D ∈ α.all:=List.mem_append_right _ hD
 refine ⟨fun b o e=>(k b (by rintro rfl; rw [hbD] at e; contradiction)).trans (r.base b o e),r.fresh,r.nodup,r.len,fun b hb'=>⟨(r.hidden b hb').1,?_⟩,fun j m a e1 e2=>?_,r.hfr,r.fe,fun b hb'=>⟨(r.frs b hb').1,?_⟩,r.frNot⟩
 ·by_cases q:b=D
  ·subst q; exact al
  ·rw [k b q]; exact (r.hidden b hb').2
 ·exact (r.obj j m a e1 e2).sameBut hDa (by rintro rfl; exact hDi (List.mem_of_getElem? e2)) k
 ·obtain ⟨_,o,e,d⟩:=r.frs b hb'
  exact ⟨o,(k b (by rintro rfl; exact nd o e d)).trans e,d⟩
theorem aD.sameBut {F α h α' h' h''} {D:Addr} (x:aD F α h α' h') (hD:h.get? D=none) (k:∀ b,b ≠ D->h''.get? b=h'.get? b):aD F α h α' h'':=by
 have ne:∀ b o,h.get? b=some o->b ≠ D:=fun b o e q=>by rw [q,hD] at e; contradiction
 refine ⟨x.hid,x.pre,fun b o hb e hs=>(k b (ne b o e)).trans (x.seqs b o hb e hs),fun b o hb hF e=>?_,fun b o hF e=>?_,x.fre⟩
 ·rcases x.rest b o hb hF e with q | ⟨f,d,sl,q⟩
  ·exact .inl ((k b (ne b o e)).trans q)
  ·exact .inr ⟨f,d,sl,(k b (ne b o e)).trans q⟩
 ·obtain ⟨o',e'⟩:=x.alive b o hF e
  exact ⟨o',(k b (ne b o e)).trans e'⟩
theorem aD.rehid {F α h α' h'} (x:aD F α h α' h') (hid:List Addr):aD F ⟨α.ix,hid,α.fr⟩ h ⟨α'.ix,hid,α'.fr⟩ h':=
 ⟨rfl,x.pre,x.seqs,x.rest,x.alive,x.fre⟩
section
variable {K:Kt} {A:Around} {s:Shared} {α:AL} {σ:ac} {env:Env} {ρ:aq}
noncomputable def td (names:List (Str × NameKind)):Prop:=∀ (i j:Nat) (x:Str) (k k':NameKind),names[i]?=some (x,k)->names[j]?=some (x,k')->i=j
theorem j8 {ρ:aq} {i j:Nat} {v w:PV} (e:(ρ.set i (some v))[j]?=some (some w)):(j=i/\w=v)\/(j ≠ i/\ρ[j]?=some (some w)):=by
 by_cases q:j=i
 ·subst q
  rw [List.getElem?_set_self'] at e
  cases hq:ρ[j]? with
  | none=>rw [hq] at e; contradiction
  | some o=>rw [hq] at e; simp at e; exact .inl ⟨rfl,e.symm⟩
 ·rw [List.getElem?_set_ne (Ne.symm q)] at e
  exact .inr ⟨q,e⟩
theorem rx {i:Nat} {x:Str} {v:PV} {u:Value} {Q:Unit->Shared->Prop} {X:Value->Shared->Prop} (hU:td env.scope.names) (r:R K.hb s.heap σ α) (E:ai env ρ s.heap α) (hL:K.hb.get? env.locals=none)
  (hn:env.scope.names[i]?=some (x,.local)) (vu:VR s.heap α v u)
  (hQ:∀ s',R K.hb s'.heap σ α->ai env (ρ.set i (some v)) s'.heap α->aD [env.locals] α s.heap α s'.heap->(∀ b,b ≠ env.locals->s'.heap.get? b=s.heap.get? b)->Sm s s'->Q () s') :
  wpAny (model K.prog K.w) A (storeName env x u) Q X s:=by
 obtain ⟨m,n,hm⟩:=E.ns
 refine wpAny_storeName_local (E.ok.ws i x _ hn) n (fun h' hn' hs'=>?_) (by rw [E.ok.kind]; rfl)
 obtain ⟨r',x'⟩:=r.but E.la hL (fun b o hb e=>(hs'.2 b hb).trans e) (fun o e=>by
  obtain ⟨o',es,ep,e',d,_⟩:=id n
  rw [e] at e'; obtain rfl:=oi e'
  exact dl.notSolid ⟨_,_,d⟩) fun zz o e zz=>by
  obtain ⟨o',es,ep,e',d,_⟩:=id hn'
  exact ⟨o',e',es,ep,d⟩
 refine hQ _ r' ⟨E.ok,E.la,⟨_,hn',fun j y w e1 e2=>?_⟩,fun y c hc=>?_,E.cd,fun j y e1=>?_,fun j w e=>?_⟩ x' (fun b hb=>hs'.2 b hb) ⟨rfl,rfl⟩
 ·rcases j8 e2 with ⟨rfl,rfl⟩ | ⟨hne,e2⟩
  ·rw [hn] at e1; cases e1
   exact ⟨u,by simp,vu.ext x'⟩
  ·obtain ⟨u',h1,h2⟩:=hm j y w e1 e2
   have:y ≠ x:=by rintro rfl; exact hne (hU j i _ _ _ e1 hn)
   exact ⟨u',by simp [this,h1],h2.ext x'⟩
 ·obtain ⟨h1,h2,w,h3⟩:=E.ca y c hc
  exact ⟨h1,h2,w,fC x' (AL.not_ix h1) (by simpa using h2) h3⟩
 ·obtain ⟨c,hc,hv⟩:=E.cv j y e1
  refine ⟨c,hc,fun w e2=>?_⟩
  rcases j8 e2 with ⟨rfl,rfl⟩ | ⟨hne,e2⟩
  ·rw [hn] at e1; cases e1
  ·obtain ⟨u',h1,h2⟩:=hv w e2
   obtain ⟨q1,q2,_⟩:=E.ca y c hc
   exact ⟨u',fC x' (AL.not_ix q1) (by simpa using q2) h1,h2.ext x'⟩
 ·rcases j8 e with ⟨rfl,rfl⟩ | ⟨hne,e2⟩
  ·exact ⟨x,_,hn,.inl rfl⟩
  ·exact E.inb j w e2
theorem abC {i:Nat} {x:Str} {v:PV} {u:Value} {Q:Unit->Shared->Prop} {X:Value->Shared->Prop} (hU:td env.scope.names) (r:R K.hb s.heap σ α) (E:ai env ρ s.heap α) (hN:aI K.hb env)
  (hn:env.scope.names[i]?=some (x,.cell)) (vu:VR s.heap α v u)
  (hQ:∀ c s',env.cells.lookup x=some c->R K.hb s'.heap σ α->ai env (ρ.set i (some v)) s'.heap α->aD [c] α s.heap α s'.heap->Sm s s'->Q () s') :
  wpAny (model K.prog K.w) A (storeName env x u) Q X s:=by
 obtain ⟨m,n,hm⟩:=E.ns
 obtain ⟨c,hc,hv⟩:=E.cv i x hn
 obtain ⟨q1,q2,v0,q3⟩:=E.ca x c hc
 refine wpAny_storeName_cell E.ok.kind (E.ok.ws i x _ hn) hc q3 fun h' hc' hs'=>?_
 obtain ⟨r',x'⟩:=r.but q1 (hN.c x c hc) (fun b o hb e=>(hs'.2 b hb).trans e) (fun o e=>by
  obtain ⟨o',e',d⟩:=q3
  rw [e] at e'; obtain rfl:=oi e'
  rintro (⟨xs,n,q⟩ | ⟨C,vs,_,q⟩ | ⟨C,_,q⟩) <;> rw [d] at q <;> contradiction) fun zz o e dd=>by
  obtain ⟨o',e',d⟩:=q3
  rw [e] at e'; obtain rfl:=oi e'
  obtain ⟨xs,n,q⟩:=dd
  rw [d] at q; contradiction
 have hns:h'.Ns env.locals m:=yD x' (AL.not_ix E.la) (by simpa using (Ne.symm q2)) n
 refine hQ c _ hc r' ⟨E.ok,E.la,⟨m,hns,fun j y w e1 e2=>?_⟩,fun y c' hy=>?_,E.cd,fun j y e1=>?_,fun j w e=>?_⟩ x' ⟨rfl,rfl⟩
 ·rcases j8 e2 with ⟨rfl,rfl⟩ | ⟨hne,e2⟩
  ·rw [hn] at e1; cases e1
  ·obtain ⟨u',h1,h2⟩:=hm j y w e1 e2
   exact ⟨u',h1,h2.ext x'⟩
 ·obtain ⟨h1,h2,w,h3⟩:=E.ca y c' hy
  by_cases q:c'=c
  ·subst q; exact ⟨h1,h2,_,hc'⟩
  ·exact ⟨h1,h2,w,fC x' (AL.not_ix h1) (by simpa using q) h3⟩
 ·obtain ⟨c',hy,hv'⟩:=E.cv j y e1
  refine ⟨c',hy,fun w e2=>?_⟩
  rcases j8 e2 with ⟨rfl,rfl⟩ | ⟨hne,e2⟩
  ·rw [hn] at e1; cases e1
   rw [hc] at hy; obtain rfl:=oi hy
   exact ⟨u,hc',vu.ext x'⟩
  ·obtain ⟨u',h1,h2⟩:=hv' w e2
   have:c' ≠ c:=by
    rintro rfl
    have:=E.cd _ _ _ hy hc
    subst this
    exact hne (hU j i _ _ _ e1 hn)
   exact ⟨u',fC x' (AL.not_ix (E.ca y c' hy).1) (by simpa using this) h1,h2.ext x'⟩
 ·rcases j8 e with ⟨rfl,rfl⟩ | ⟨hne,e2⟩
  ·exact ⟨x,_,hn,.inr rfl⟩
  ·exact E.inb j w e2
end
noncomputable def d5 (cells:List (Str × Addr)):List (Str × NameKind)->List (Str × Addr)->List (Str × Addr)
 | [],acc=>acc
 | (n,k)::r,acc=>if k == .free then d5 cells r ((n,(cells.lookup n).getD 0)::acc) else d5 cells r acc
theorem jF {env:Env} (f:Str × NameKind->List (Str × Addr)->Sem (ForInStep (List (Str × Addr))))
  (hf:∀ n k cs,f (n,k) cs=if k == .free then (do let c <- cellOf env n; pure (.yield ((n,c)::cs))) else pure (.yield cs)) :
  ∀ (names:List (Str × NameKind)) (acc:List (Str × Addr)),(∀ n,(n,NameKind.free) ∈ names->(env.cells.lookup n).isSome)->(forIn names acc f)=pure (d5 env.cells names acc)
 | [],acc,_=>by rw [List.forIn_nil]; rfl
 | (n,k)::r,acc,h=>by
  rw [List.forIn_cons,hf]
  unfold d5
  cases hk:k == .free with
  | true =>
   have hk':k=.free:=by simpa using hk
   subst hk'
   obtain ⟨c,hc⟩:=Option.isSome_iff_exists.mp (h n List.mem_cons_self)
   simp only [if_true]
   unfold cellOf
   rw [hc]
   simp only [Option.getD_some,pure_bind]
   exact jF f hf r _ fun n hn=>h n (bJ _ hn)
  | false =>
   simp only [Bool.false_eq_true,if_false,pure_bind]
   exact jF f hf r _ fun n hn=>h n (bJ _ hn)
theorem pK {scope:Scope} {env:Env} (h:∀ n,(n,NameKind.free) ∈ scope.names->(env.cells.lookup n).isSome):closureFor scope env=pure (d5 env.cells scope.names []):=by
 unfold closureFor
 refine (congrArg (· >>= fun cs=>pure cs) (jF (env:=env) _ (fun n k cs=>?_) scope.names [] h)).trans (pure_bind _ _)
 cases hk:k == NameKind.free <;> simp [hk]
set_option tactic.hygienic true in
theorem sV {cells:List (Str × Addr)}:∀ (names:List (Str × NameKind)) (acc:List (Str × Addr)),(∀ n,(n,NameKind.free) ∈ names->(cells.lookup n).isSome)->(∀ n c,(n,c) ∈ acc->cells.lookup n=some c) ->
  ∀ n c,(n,c) ∈ d5 cells names acc->cells.lookup n=some c
 | [],_,_,h2,n,c,h=>h2 n c h
 | (n',k)::r,acc,h1,h2,n,c,h=>by
  unfold d5 at h
  split at h
  ·rename_i hk
   have hk':k=.free:=by simpa using hk
   subst hk'
   refine sV r _ (fun n hn=>h1 n (bJ _ hn)) (fun m d hm=>?_) n c h
   rcases List.mem_cons.mp hm with e | hm
   ·cases e
    obtain ⟨c',hc'⟩:=Option.isSome_iff_exists.mp (h1 n' List.mem_cons_self)
    rw [hc']; rfl
   ·exact h2 m d hm
  ·exact sV r _ (fun n hn=>h1 n (bJ _ hn)) h2 n c h
theorem sX {cells:List (Str × Addr)}:∀ (names:List (Str × NameKind)) (acc:List (Str × Addr)) (n:Str) (c:Addr),(n,c) ∈ acc->(n,c) ∈ d5 cells names acc
 | [],_,_,_,h=>h
 | (_,k)::r,acc,n,c,h=>by
  unfold d5
  split
  ·exact sX r _ n c (bJ _ h)
  ·exact sX r _ n c h
theorem sW {cells:List (Str × Addr)}:∀ (names:List (Str × NameKind)) (acc:List (Str × Addr)) (n:Str),(n,NameKind.free) ∈ names->∃ c,(n,c) ∈ d5 cells names acc
 | (n',k)::r,acc,n,h=>by
  unfold d5
  rcases List.mem_cons.mp h with e | h
  ·cases e; exact ⟨_,sX r _ _ _ List.mem_cons_self⟩
  ·split
   ·exact sW r _ n h
   ·exact sW r _ n h
theorem pf {l:List (Str × Addr)} {n:Str} {c:Addr} (h:(n,c) ∈ l):∃ c',l.lookup n=some c':=by
 induction l with
 | nil=>simp at h
 | cons p r ih =>
  obtain ⟨k,v⟩:=p
  rw [List.lookup_cons]
  cases hb:n == k with
  | true=>exact ⟨v,rfl⟩
  | false =>
   rcases List.mem_cons.mp h with e | h
   ·cases e; simp at hb
   ·exact ih h
theorem ey {cells:List (Str × Addr)} {names:List (Str × NameKind)} (h:∀ n,(n,NameKind.free) ∈ names->(cells.lookup n).isSome) {n:Str} {c:Addr} (e:(d5 cells names []).lookup n=some c):cells.lookup n=some c:=
 sV names [] h (fun zz zz h=>by simp at h) n c (mem_of_lookup e)
theorem ad9 {cells:List (Str × Addr)} {names:List (Str × NameKind)} (h:∀ n,(n,NameKind.free) ∈ names->(cells.lookup n).isSome) {n:Str} (hn:(n,NameKind.free) ∈ names):(d5 cells names []).lookup n=cells.lookup n:=by
 obtain ⟨c,hc⟩:=sW (cells:=cells) names [] n hn
 obtain ⟨c',hc'⟩:=pf hc
 rw [hc',ey h hc']
end Mine
namespace Mine
open PySem PyProof.Rows
structure afU (names:List (Str × NameKind)):Prop where
 uniq:td names
 nodbg:∀ (i:Nat) (x:Str) (k:NameKind),names[i]?=some (x,k)->(x == ("__debug__" : Str))=false
 kinds:∀ (i:Nat) (x:Str) (k:NameKind),names[i]?=some (x,k)->k=.local\/k=.cell\/k=.globalImplicit
theorem cQ:∀ {names:List (Str × NameKind)},td names->∀ {i:Nat} {x:Str} {k:NameKind},names[i]?=some (x,k)->names.lookup x=some k
 | [],_,i,x,k,h=>by simp at h
 | (y,k')::r,hU,i,x,k,h=>by
  rw [List.lookup_cons]
  cases i with
  | zero=>simp at h; obtain ⟨rfl,rfl⟩:=h; simp
  | succ i =>
   have h':r[i]?=some (x,k):=by simpa using h
   have hne:(x == y)=false:=by
    cases hb:x == y with
    | false=>rfl
    | true =>
     have:x=y:=by simpa using hb
     subst this
     exact absurd (hU 0 (i + 1) x k' k (by simp) h) (by omega)
   rw [hne]
   exact cQ (fun i j x k k' h1 h2=>by have:=hU (i + 1) (j + 1) x k k' (by simpa using h1) (by simpa using h2); omega) h'
theorem gj:∀ {names:List (Str × NameKind)} {x:Str} {k:NameKind},names.lookup x=some k->∃ i,names.findIdx? (·.1 == x)=some i/\names[i]?=some (x,k)
 | [],_,_,h=>by simp at h
 | (y,k')::r,x,k,h=>by
  rw [List.lookup_cons] at h
  rw [List.findIdx?_cons]
  cases hb:x == y with
  | true =>
   rw [hb] at h; obtain rfl:=oi h
   have:x=y:=by simpa using hb
   subst this
   exact ⟨0,by simp,by simp⟩
  | false =>
   rw [hb] at h
   obtain ⟨i,h1,h2⟩:=gj h
   have:(y == x)=false:=by
    cases hq:y == x with
    | false=>rfl
    | true =>
     have:y=x:=by simpa using hq
     subst this; simp at hb
   exact ⟨i + 1,by simp [this,h1],by simpa using h2⟩
theorem jA {scope:Scope} {env:Env} (hk:env.scope.kind=.function):(relabel scope env).names=a8 env.scope.names scope.names:=by
 unfold relabel a8 Env.kindOf
 simp [hk]
structure ft (N:List (Str × NameKind)) (scope:Scope) (t:Nat) (x:Str):Prop where
 kind:scope.kind=.function
 sc:afU (a8 N scope.names)
 nocell:∀ y ∈ scope.names,y.2 ≠ .cell
 tgt:(a8 N scope.names)[t]?=some (x,.local)
section
variable {N:List (Str × NameKind)} {scope:Scope} {t:Nat} {x:Str}
theorem ft.free (c:ft N scope t x) {n:Str} (h:(n,NameKind.free) ∈ scope.names):N.lookup n=some .cell:=by
 obtain ⟨i,hi⟩:=List.mem_iff_getElem?.mp h
 by_cases hq:N.lookup n=some .cell
 ·exact hq
 ·have:(a8 N scope.names)[i]?=some (n,.free):=by simp [a8,hi,hq]
  rcases c.sc.kinds i n _ this with q | q | q <;> contradiction
set_option tactic.hygienic true in
theorem ft.cell_ (c:ft N scope t x) {i:Nat} {y:Str} (h:(a8 N scope.names)[i]?=some (y,.cell)):(y,NameKind.free) ∈ scope.names/\N.lookup y=some .cell:=by
 simp only [a8,List.getElem?_map] at h
 cases hq:scope.names[i]? with
 | none=>rw [hq] at h; contradiction
 | some p =>
  obtain ⟨n,k⟩:=p
  rw [hq] at h
  simp only [Option.map_some,Option.some.injEq] at h
  split at h
  ·rename_i hc
   (first | contradiction | (obtain rfl:=oi h) | cases h)
   simp at hc
   exact ⟨hc.1 ▸ List.mem_of_getElem? hq,hc.2⟩
  ·(first | contradiction | (obtain rfl:=oi h) | cases h)
   exact absurd rfl (c.nocell _ (List.mem_of_getElem? hq))
theorem ft.names (c:ft N scope t x):∀ y ∈ scope.names,y.2=.local->scope.names.lookup y.1=some .local:=by
 rintro ⟨y,k⟩ hy rfl
 obtain ⟨i,hi⟩:=List.mem_iff_getElem?.mp hy
 refine cQ (i:=i) (fun i j z k k' h1 h2=>?_) hi
 have e1:∃ q,(a8 N scope.names)[i]?=some (z,q):=by
  simp only [a8,List.getElem?_map,h1]; simp only [Option.map_some,Option.some.injEq]; split <;> exact ⟨_,rfl⟩
 have e2:∃ q,(a8 N scope.names)[j]?=some (z,q):=by
  simp only [a8,List.getElem?_map,h2]; simp only [Option.map_some,Option.some.injEq]; split <;> exact ⟨_,rfl⟩
 obtain ⟨_,e1⟩:=e1
 obtain ⟨_,e2⟩:=e2
 exact c.sc.uniq i j z _ _ e1 e2
end
section
variable {K:Kt} {A:Around} {s:Shared} {α:AL} {σ:ac} {env:Env} {ρ:aq} {scope:Scope} {t:Nat} {x:Str}
theorem lV {h:Heap} (c:ft env.scope.names scope t x) (E:ai env ρ h α):∀ n,(n,NameKind.free) ∈ scope.names->(env.cells.lookup n).isSome:=fun n hn=>by
 obtain ⟨i,_,hi⟩:=gj (c.free hn)
 obtain ⟨a,ha,_⟩:=E.cv i n hi
 rw [ha]; rfl
theorem afC {h:Heap} {C:Addr} {m:Str->Option Value} (c:ft env.scope.names scope t x) (E:ai env ρ h α) (hC:h.Ns C m) (hCa:C ∉ α.all) (hne:∀ y a,env.cells.lookup y=some a->a ≠ C) :
  ai (compEnvC scope (d5 env.cells scope.names []) C env) (bI (dH env.scope.names (a8 env.scope.names scope.names)) ρ) h α:=by
 have hcl:=lV c E
 have hnm:(compEnvC scope (d5 env.cells scope.names []) C env).scope.names=a8 env.scope.names scope.names:=jA E.ok.kind
 refine ⟨⟨?_,E.ok.glob,E.ok.bins,?_,?_⟩,hCa,⟨m,hC,fun i y v e1 e2=>?_⟩,fun y a ha=>?_,fun y z a h1 h2=>?_,fun i y e1=>?_,fun i v e=>?_⟩
 ·exact c.kind
 ·intro i y k hi
  rw [hnm] at hi
  show (compEnvC scope (d5 env.cells scope.names []) C env).scope.names.lookup y=some k
  rw [hnm]; exact cQ c.sc.uniq hi
 ·intro i y k hi
  rw [hnm] at hi
  exact c.sc.nodbg i y k hi
 ·rw [hnm] at e1
  exfalso
  simp only [bI,dH,List.getElem?_map,e1] at e2
  simp at e2
 ·have ha':=ey hcl ha
  obtain ⟨h1,h2,h3⟩:=E.ca y a ha'
  exact ⟨h1,hne y a ha',h3⟩
 ·exact E.cd y z a (ey hcl h1) (ey hcl h2)
 ·rw [hnm] at e1
  obtain ⟨h1,h2⟩:=c.cell_ e1
  obtain ⟨j,hj,hj'⟩:=gj h2
  obtain ⟨a,ha,hv⟩:=E.cv j y hj'
  refine ⟨a,(ad9 hcl h1).trans ha,fun v e2=>hv v ?_⟩
  simp only [bI,dH,List.getElem?_map,e1] at e2
  simp [hj] at e2
  cases hq:ρ[j]? with
  | none=>rw [hq] at e2; contradiction
  | some o=>rw [hq] at e2; simp at e2; rw [e2]
 ·rw [hnm]
  simp only [bI,dH,List.getElem?_map] at e
  cases hq:(a8 env.scope.names scope.names)[i]? with
  | none=>rw [hq] at e; contradiction
  | some p =>
   obtain ⟨y,k⟩:=p
   rw [hq] at e
   by_cases hk:k=.cell
   ·exact ⟨y,k,rfl,.inr hk⟩
   ·simp [hk] at e
end
end Mine
namespace Mine
open PySem PyProof.Rows
structure eI (K:Kt) (A:Around):Prop where
 ex:∃ l,A.frames=some l/\l.map (·.frame)=K.hb.fr.map some/\∀ e ∈ l,e.scope.kind ≠ .module
theorem uq {h base:Heap}:∀ {l:List Env} {fr:List Addr},l.map (·.frame)=fr.map some->(∀ e ∈ l,e.scope.kind ≠ .module)->(∀ a ∈ fr,base.get? a=none/\∃ o,h.get? a=some o/\dl o)->h.FunFrames base l/\l.filterMap (·.frame)=fr
 | [],[],_,_,_=>⟨trivial,rfl⟩
 | [],_::_,h,_,_=>by simp at h
 | _::_,[],h,_,_=>by simp at h
 | e::l,a::fr,h1,h2,h3=>by
  simp only [List.map_cons,List.cons.injEq] at h1
  obtain ⟨p,q⟩:=uq h1.2 (fun e he=>h2 e (bJ _ he)) fun a ha=>h3 a (bJ _ ha)
  obtain ⟨b1,o,b2,es,n,b3⟩:=h3 a List.mem_cons_self
  exact ⟨⟨h2 e List.mem_cons_self,⟨a,o,h1.1,b1,b2,fun vs z=>by rw [b3] at z; cases z⟩,p⟩,by rw [List.filterMap_cons,h1.1,q]⟩
section
variable {K:Kt} {A:Around} {env:Env} {s:Shared} {aP:Heap} {σ:ac} {α:AL}
theorem aao {qA:Env} {outer:List Env} {L:Addr} {base:Heap} {Q:Value->Shared->Prop} {E:Value->Shared->Prop} (hfr:A.frames=some (qA::outer)) (hl:s.heap.FunFrames base (qA::outer)) (hf0:qA.frame=some L) (hf:env.frame=some L)
  (h:∀ h',Heap.SlotsOnly ((qA::outer).filterMap (·.frame)) s.heap h'->Q (.ref L) { s with heap:=h' }):wpAny (model K.prog K.w) A (frameOf env) Q E s:=by
 unfold PySem.frameOf
 refine wpAny_bind (wpAny_frameEnvs hfr ?_)
 have hdw:((qA::outer).dropWhile fun x=>x.frame != env.frame)=qA::outer:=by simp [List.dropWhile,hf0,hf]
 rw [hdw]
 unfold frameObject
 refine wpAny_bind (wpAny_bind (wpAny_readyFrames_fun hl fun a7 da=>wpAny_pure ?_))
 rw [hf0]
 exact wpAny_pure (h a7 da)
theorem wL {i:Nat} {a L:Addr} {oe:Obj} {vs:Array Value} {head:Value} {hadNext:Bool} {Q:Unit->Shared->Prop} {E:Value->Shared->Prop} (hA:eI K A) (hN:aI K.hb env) (hL:env.frame=some L) (r:R K.hb aP σ α) (u:Up K.hb.fr aP s.heap)
  (new:aP.get? a=none) (he:s.heap.get? a=some oe) (hc:oe.cls=.ref i) (hd:oe.data=.fields vs) (hsz:1 < vs.size) (cx:∃ y,vs[2]?=some y/\(K.ph=false->y=.none))
  (hQ:∀ h',Up K.hb.fr aP h'->im K.ph aP h' i a true->Q () { s with heap:=h' }) :
  wpAny (model K.prog K.w) A (do let x <- frameOf env; let pl <- entryPlaceOf L hadNext; let b <- EntryCells.newEntry head x .none (rawInt L) .none pl; setField (.ref a) 1 b) Q E s:=by
 obtain ⟨l,hl1,hl2,hl3⟩:=hA.ex
 have r':=r.up u
 obtain ⟨hl,hfm⟩:=uq hl2 hl3 r'.frs
 obtain ⟨L',rest,hf,hfr⟩:=hN.f
 rw [hL] at hf; obtain rfl:=oi hf
 cases l with
 | nil=>rw [hfr] at hl2; simp at hl2
 | cons qA outer =>
  have hf0:qA.frame=some L:=by rw [hfr] at hl2; simp at hl2; exact hl2.1
  have haf:a ∉ K.hb.fr:=fun q=>by
   obtain ⟨_,o,e,es,n,d⟩:=r'.frs a q
   rw [he] at e; obtain rfl:=oi e
   rw [hd] at d; contradiction
  refine wpAny_bind (aao hl1 hl hf0 hL fun a7 da=>?_)
  rw [hfm] at da
  refine wpAny_bind (wpAny_entryPlaceOf fun pl hpl=>?_)
  unfold EntryCells.newEntry newFields
  refine wpAny_bind (wpAny_newObj_type ?_ (hpl.sizeOk5 _ _ _ _ _))
  have agq:a7.get? a=some oe:=(da.2.1 a haf).trans he
  have agp:=Heap.get?_push_of_some (h:=a7) { cls:=.type "traceback",dict:=none,data:=.fields ([head,.ref L,.none,rawInt L,.none]++(if pl.isEmpty then List.replicate 6 Value.none else pl)).toArray } agq
  refine wpAny_setField agp hd hsz (hQ _ ?_ ?_)
  ·intro b o hb
   have hba:a ≠ b:=fun q=>by rw [<- q,new] at hb; contradiction
   have keep:∀ o',a7.get? b=some o'->((a7.push { cls:=.type "traceback",dict:=none,data:=.fields ([head,.ref L,.none,rawInt L,.none]++(if pl.isEmpty then List.replicate 6 Value.none else pl)).toArray }).update a (Obj.mapFields (·.setIfInBounds 1 (Value.ref a7.objs.size)))).get? b=some o':=fun o' q=>by
    rw [Heap.get?_update_other _ _ hba]; exact Heap.get?_push_of_some _ q
   rcases u b o hb with q | ⟨m,sl,q⟩
   ·by_cases hm:b ∈ K.hb.fr
    ·obtain ⟨sl,z⟩:=da.2.2 b o q
     exact .inr ⟨hm,sl,keep _ z⟩
    ·exact .inl (keep _ ((da.2.1 b hm).trans q))
   ·obtain ⟨sl',z⟩:=da.2.2 b _ q
    exact .inr ⟨m,sl',keep _ z⟩
  ·have hTe:a7.objs.size ≠ a:=Nat.ne_of_gt (Heap.lt_size agq)
   have agr:=Obj.data_mapFields hd (·.setIfInBounds 1 (Value.ref a7.objs.size))
   have ajU:=Heap.get?_update_self (Obj.mapFields (·.setIfInBounds 1 (Value.ref a7.objs.size))) agp (Obj.isFreed_of_fields agr)
   have ajV:=(Heap.get?_update_other (a7.push { cls:=.type "traceback",dict:=none,data:=.fields ([head,.ref L,.none,rawInt L,.none]++(if pl.isEmpty then List.replicate 6 Value.none else pl)).toArray })
    (Obj.mapFields (·.setIfInBounds 1 (Value.ref a7.objs.size))) (Ne.symm hTe)).trans (Heap.get?_push_size a7 rfl)
   refine ⟨new,_,_,.ref a7.objs.size,ajU,(Obj.cls_mapFields _ _).trans hc,agr,by simp [hsz],.inr a7.objs.size _ _ rfl ?_ hTe ajV rfl rfl ?_,?_⟩
   ·cases q:aP.get? a7.objs.size with
    | none=>rfl
    | some o =>
     have:∃ o',s.heap.get? a7.objs.size=some o':=by
      rcases u _ _ q with q | ⟨_,_,q⟩
      ·exact ⟨_,q⟩
      ·exact ⟨_,q⟩
     obtain ⟨o',z⟩:=this
     obtain ⟨sl,z'⟩:=da.2.2 _ _ z
     exact absurd (Heap.lt_size z') (Nat.lt_irrefl _)
   ·simp
   ·obtain ⟨y,y1,y2⟩:=cx
    exact ⟨y,by rw [Array.getElem?_setIfInBounds_ne (by decide)]; exact y1,y2⟩
theorem yE {i:Nat} {a:Addr} {nt:Bool} {Q:Unit->Shared->Prop} {E:Value->Shared->Prop} (hA:eI K A) (hN:aI K.hb env) (r:R K.hb aP σ α) (u:Up K.hb.fr aP s.heap) (x:im K.ph aP s.heap i a nt)
  (hQ:∀ h',Up K.hb.fr aP h'->im K.ph aP h' i a true->Q () { s with heap:=h' }):wpAny (model K.prog K.w) A (noteFrame (.ref a) env) Q E s:=by
 obtain ⟨new,oe,vs,xv,he,hc,hd,h1,ht,cx⟩:=x
 obtain ⟨L,rest,hf,hfr⟩:=id hN.f
 have hsz:=(Array.getElem?_eq_some_iff.mp h1).1
 unfold noteFrame
 simp only [hf]
 refine wpAny_bind (wpAny_field he hd h1 ?_)
 rcases ht with ⟨_,rfl⟩ | ⟨T,oT,ts,rfl,hT0,hTa,hT,hTc,hTd,hT3⟩
 ·rw [if_neg (by decide)]
  exact wL hA hN hf r u new he hc hd hsz cx hQ
 ·rw [if_pos (show (Value.ref T != Value.none)=true from by simp)]
  refine wpAny_bind (wpAny_field hT hTd (x:=ts[3]) (by simp [hT3]) ?_)
  by_cases hq:(ts[3] == rawInt L)=true
  ·rw [if_pos hq]
   exact wpAny_pure (hQ _ u ⟨new,oe,vs,_,he,hc,hd,h1,.inr T oT ts rfl hT0 hTa hT hTc hTd hT3,cx⟩)
  ·rw [if_neg hq]
   refine wpAny_bind (wpAny_setField hT hTd hT3 ?_)
   have other:∀ b,b ≠ T->(s.heap.update T (Obj.mapFields (·.setIfInBounds 3 Value.none))).get? b=s.heap.get? b:=fun b hb=>Heap.get?_update_other _ _ (Ne.symm hb)
   refine wL (s:={ s with heap:=s.heap.update T (Obj.mapFields (·.setIfInBounds 3 Value.none)) }) hA hN hf r (fun b o hb=>?_) new ((other a (Ne.symm hTa)).trans he) hc hd hsz cx hQ
   have hbT:b ≠ T:=fun q=>by rw [q,hT0] at hb; contradiction
   show (s.heap.update T _).get? b=_\/_
   rcases u b o hb with q | ⟨m,sl,q⟩
   ·exact .inl ((other b hbT).trans q)
   ·exact .inr ⟨m,sl,(other b hbT).trans q⟩
theorem oN {i:Nat} {a:Addr} {f:Option Addr} {Q:Unit->Shared->Prop} {E:Value->Shared->Prop} (r:R K.hb aP σ α) (u:Up K.hb.fr aP s.heap) (x:im K.ph aP s.heap i a true)
  (hQ:∀ h',Up K.hb.fr aP h'->im K.ph aP h' i a true->Q () { s with heap:=h' }):wpAny (model K.prog K.w) A (setFlight (.ref a) f) Q E s:=by
 obtain ⟨new,oe,vs,xv,he,hc,hd,h1,ht,cx⟩:=x
 rcases ht with ⟨z,_⟩ | ⟨T,oT,ts,rfl,hT0,hTa,hT,hTc,hTd,hT3⟩
 ·contradiction
 unfold setFlight
 refine wpAny_bind (wpAny_field he hd h1 ?_)
 rw [if_pos (show (Value.ref T != Value.none)=true from by simp)]
 have other:∀ (g:Obj->Obj) b,b ≠ T->(s.heap.update T g).get? b=s.heap.get? b:=fun g b hb=>Heap.get?_update_other _ _ (Ne.symm hb)
 refine wpAny_setField hT hTd hT3 (hQ _ (fun b o hb=>?_) ⟨new,oe,vs,_,(other _ a (Ne.symm hTa)).trans he,hc,hd,h1,.inr T _ _ rfl hT0 hTa (Heap.get?_update_self _ hT (Obj.isFreed_of_fields (Obj.data_mapFields hTd _))) ((Obj.cls_mapFields _ _).trans hTc) (Obj.data_mapFields hTd _) (by simpa using hT3),cx⟩)
 have hbT:b ≠ T:=fun q=>by rw [q,hT0] at hb; contradiction
 rcases u b o hb with q | ⟨m,sl,q⟩
 ·exact .inl ((other _ b hbT).trans q)
 ·exact .inr ⟨m,sl,(other _ b hbT).trans q⟩
theorem adC {i:Nat} {a:Addr} {nt:Bool} {Q:Unit->Shared->Prop} {E:Value->Shared->Prop} (hA:eI K A) (hN:aI K.hb env) (r:R K.hb aP σ α) (u:Up K.hb.fr aP s.heap) (x:im K.ph aP s.heap i a nt)
  (hQ:∀ h',Up K.hb.fr aP h'->im K.ph aP h' i a true->Q () { s with heap:=h' }):wpAny (model K.prog K.w) A (leaving env (.ref a)) Q E s:=by
 unfold leaving
 refine wpAny_bind (yE hA hN r u x fun h' u' x'=>?_)
 exact oN (s:={ s with heap:=h' }) r u' x' fun h'' u'' x''=>hQ h'' u'' x''
end
end Mine
namespace Mine
open PySem PyProof.Rows
noncomputable def eH (tC:PV->ac->af Bool) (eC:PV->ac->af PV) (x:PV) (σ:ac):af (Option PV):=
 (tC x σ).bind fun b σ=>if b then (eC x σ).bind fun v σ=>.ok (some v) σ else .ok none σ
theorem aO.snoc {h:Heap} {α:AL} {xs:List PV} {vs:List Value} {p:PV} {v:Value} (a:aO h α xs vs) (b:VR h α p v):aO h α (xs++[p]) (vs++[v]):=
 a.append (.cons b .nil)
section
variable {K:Kt} {A:Around} {s:Shared} {α:AL} {env:Env} {ρ:aq} {scope:Scope} {t:Nat} {x:Str}
inductive tf (K:Kt) (s:Shared) (α:AL) (c:af PV) (acc:Value) (C:Addr) (r:Result) (s':Shared):Prop
 | inl (e:r=.ok .next) (v:PV) (σ':ac) (α':AL) (m:Str->Option Value) (hc:c=.ok v σ') (x:aD [] α s.heap α' s'.heap) (rr:R K.hb s'.heap σ' α') (vr:VR s'.heap α' v acc) (sm:Sm s s') (ns:s'.heap.Ns C m) (h1:C ∉ α'.all) (h2:s.heap.get? C=none) (h3:K.hb.get? C=none) (h4:C ∉ K.hb.fr):tf K s α c acc C r s'
inductive aa8 (K:Kt) (s:Shared) (α:AL) (xs:List PV) (St:Nat->Heap->AL->Prop) (D:Addr) (cenv:Env) (t:Nat) (ρc:aq) (go:List PV->List PV->ac->af PV) (c:af PV) (n:Nat) (s₁:Shared):Prop
 | mk (i:Nat) (σ₁:ac) (α₁:AL) (ys:List PV) (us:List Value) (ρ₁:aq) (nn:Nat) (hn:n=xs.length - i) (hi:i <= xs.length) (hid:α₁.hid=D::α.hid) (x:aD [] α s.heap ⟨α₁.ix,α.hid,α₁.fr⟩ s₁.heap) (r:R K.hb s₁.heap σ₁ α₁) (st:St i s₁.heap α₁) (E:ai cenv ρ₁ s₁.heap α₁)
   (kt:∀ v,ρ₁.set t (some v)=ρc.set t (some v)) (hl:s₁.heap.get? D=some { cls:=.type "list",data:=.seq (List.toArray us) nn }) (vs:aO s₁.heap α₁ ys us) (m:Sm s s₁) (hgo:go ys (xs.drop i) σ₁=c) (hyl:ys.length <= i) (tk:K.Tk s₁):aa8 K s α xs St D cenv t ρc go c n s₁
theorem ahD {h:Heap} {C b:Addr} (hb:b ≠ C):(PySem.W.hideAll h [C]).get? b=h.get? b:=by
 cases e:h.get? b with
 | some o=>exact PySem.W.hideAll_get _ e (by simpa using hb)
 | none =>
  cases e':(PySem.W.hideAll h [C]).get? b with
  | none=>rfl
  | some o=>rw [PySem.W.of_hideAll _ e'] at e; contradiction
theorem R.unhide {hb h σ α} {hid:List Addr} (r:R hb h σ α) (hs:∀ a ∈ hid,a ∈ α.hid):R hb h σ ⟨α.ix,hid,α.fr⟩:=
 ⟨r.base,r.fresh,r.nodup,r.len,fun a ha=>r.hidden a (hs a ha),fun j m a e1 e2=>(r.obj j m a e1 e2).re (α:=α) (α':=⟨α.ix,hid,α.fr⟩) (fun zz zz e=>e) (fun a ha=>by
  rcases List.mem_append.mp ha with q | q
  ·exact List.mem_append_left _ q
  ·exact List.mem_append_right _ (hs a q)),fun a ha=>r.hfr a (hs a ha),r.fe,r.frs,r.frNot⟩
noncomputable def eB (n:Nat) (fz:Bool) (w:Option (Nat × MO)) (tC:PV->ac->af Bool) (eC:PV->ac->af PV) (ys xs:List PV) (σ:ac):af PV:=
 fH n (b9 w (eH tC eC) xs σ) fun zs σ=>cg fz (ys++zs) σ
theorem adO {n fz w tC eC ys xs σ} (h:eB n fz w tC eC ys xs σ ≠ .stuck):dg w σ:=by
 by_cases hw:dg w σ
 ·exact hw
 ·refine absurd ?_ h
  unfold eB
  cases xs with
  | nil=>rw [show b9 w (eH tC eC) [] σ=.stuck from if_neg hw]; rfl
  | cons x xs=>rw [show b9 w (eH tC eC) (x::xs) σ=.stuck from if_neg hw]; rfl
theorem ahF {n fz w tC eC ys p xs σ} (hw:dg w σ):eB n fz w tC eC ys (p::xs) σ=fH n ((eH tC eC p σ).bind fun y σ=>(b9 w (eH tC eC) xs σ).bind fun zs σ=>.ok (agC y zs) σ) fun zs σ=>cg fz (ys++zs) σ:=by
 unfold eB
 rw [show b9 w (eH tC eC) (p::xs) σ=_ from if_pos hw]
theorem adP {n fz w tC eC ys p xs σ} (h:eB n fz w tC eC ys (p::xs) σ ≠ .stuck):dg w σ/\tC p σ ≠ .stuck/\(∀ i σ',tC p σ ≠ .exc i σ') ∧
  (∀ σ',tC p σ=.ok false σ'->eB n fz w tC eC ys (p::xs) σ=eB n fz w tC eC ys xs σ') ∧
  (∀ σ',tC p σ=.ok true σ'->eC p σ' ≠ .stuck/\(∀ i ez,eC p σ' ≠ .exc i ez)/\∀ v ez,eC p σ'=.ok v ez->eB n fz w tC eC ys (p::xs) σ=eB n fz w tC eC (ys++[v]) xs ez):=by
 have hw:=adO h
 rw [ahF hw] at h ⊢
 have cf:∀ {c},(tC p σ).bind (fun b σ=>if b then (eC p σ).bind fun v σ=>.ok (some v) σ else .ok none σ)=c->eH tC eC p σ=c:=fun q=>q
 have ct:∀ {σ'},tC p σ=.ok true σ'->eH tC eC p σ=(eC p σ').bind fun v σ=>.ok (some v) σ:=fun q=>cf (by rw [q]; rfl)
 refine ⟨hw,fun e=>?_,fun i σ' e=>?_,fun σ' e=>?_,fun σ' e=>⟨fun e'=>?_,fun i ez e'=>?_,fun v ez e'=>?_⟩⟩
 ·rw [cf (c:=.stuck) (by rw [e]; rfl)] at h; exact h rfl
 ·rw [cf (c:=.exc i σ') (by rw [e]; rfl)] at h; exact h rfl
 ·rw [cf (c:=.ok none σ') (by rw [e]; rfl)]
  unfold eB
  show fH n ((b9 w (eH tC eC) xs σ').bind fun zs σ=>.ok zs σ) _=_
  cases b9 w (eH tC eC) xs σ' <;> rfl
 ·rw [ct e,e'] at h; exact h rfl
 ·rw [ct e,e'] at h; exact h rfl
 ·rw [ct e,e']
  unfold eB
  show fH n ((b9 w (eH tC eC) xs ez).bind fun zs σ=>.ok (v::zs) σ) _=_
  cases b9 w (eH tC eC) xs ez with
  | ok zs σ=>show cg _ _ _=cg _ _ _; rw [List.append_assoc]; rfl
  | exc i σ=>rfl
  | stuck=>rfl
set_option tactic.hygienic true in
theorem y8 {n fz w tC eC ys xs σ} (hn:ys.length <= n) (h:eB n fz w tC eC ys xs σ ≠ .stuck):ys.length <= au:=by
 unfold eB at h
 cases hq:b9 w (eH tC eC) xs σ with
 | ok zs σ' =>
  rw [hq] at h
  simp only [fH,cg] at h
  split at h
  ·rename_i hl; simp at hl; (grind)
  ·exact absurd rfl h
 | exc i σ'=>rw [hq] at h; exact absurd rfl h
 | stuck=>rw [hq] at h; exact absurd rfl h
theorem ad8 {elt iter:Expr} {px:Pos} {ifs:List Expr} {pos:Pos} {it:Value} {own:List Addr} {xs:List PV} {w:Option (Nat × MO)} {St:Nat->Heap->AL->Prop} {D C:Addr}
  {tC:PV->ac->af Bool} {eC:PV->ac->af PV} {fz:Bool} {c:af PV} {cenv:Env} {ρc:aq}
  (I:gz K A false own it xs w St) (hx:cenv.scope.names[t]?=some (x,.local)) (hU:td cenv.scope.names) (hCl:cenv.locals=C)
  (hown:∀ b ∈ own,s.heap.get? b=none) (hD:s.heap.get? D=none) (hC:s.heap.get? C=none) (hbD:K.hb.get? D=none) (hbC:K.hb.get? C=none)
  (hDx:D ∉ α.hid) (apart:pd cenv own) (hc:c ≠ .stuck) (hF:eI K A) (hNc:aI K.hb cenv) (hCf:C ∉ K.hb.fr)
  (htest:∀ v s σ α,ai cenv (ρc.set t (some v)) s.heap α->R K.hb s.heap σ α ->
   Runs K dI A (forIn ifs true fun c r=>if r=true then do let ok <- isTrue c cenv (eval c cenv); pure (ForInStep.yield ok) else pure (ForInStep.yield r)) (tC v σ) s α)
  (helt:∀ v s σ α,ai cenv (ρc.set t (some v)) s.heap α->R K.hb s.heap σ α->Runs K VR A (eval elt cenv) (eC v σ) s α)
  {i:Nat} {σ₁:ac} {α₁:AL} {s₁:Shared} {ys:List PV} {us:List Value} {ρ₁:aq} {n:Nat}
  (hi:i <= xs.length) (hid:α₁.hid=D::α.hid) (l6:aD [] α s.heap ⟨α₁.ix,α.hid,α₁.fr⟩ s₁.heap) (jz:R K.hb s₁.heap σ₁ α₁) (st:St i s₁.heap α₁) (gB:ai cenv ρ₁ s₁.heap α₁)
  (kt:∀ v,ρ₁.set t (some v)=ρc.set t (some v)) (hl:s₁.heap.get? D=some { cls:=.type "list",data:=.seq us.toArray n }) (vs:aO s₁.heap α₁ ys us) (iE:Sm s s₁)
  (hgo:eB xs.length fz w tC eC ys (xs.drop i) σ₁=c) (hyl:ys.length <= i) (gR:K.Tk s₁) :
  codeAny (model K.prog K.w) A (.compLoop (.ListComp elt [⟨.Name x px,iter,ifs,0⟩] scope pos) 0 it (.ref D) cenv) (tf K s α c (.ref D) C) s₁:=by
 refine codeAny_compLoop_tests (aa8 K s α xs St D cenv t ρc (eB xs.length fz w tC eC) c)
  (fun n s₁ inv=>?_) _ ⟨i,σ₁,α₁,ys,us,ρ₁,n,rfl,hi,hid,l6,jz,st,gB,kt,hl,vs,iE,hgo,hyl,gR⟩
 clear gR hyl hgo iE vs hl kt gB st jz l6 hid hi
 obtain ⟨i,σ₁,α₁,ys,us,ρ₁,nn,rfl,hi,hid,l6,jz,st,gB,kt,hl,vs,iE,hgo,hyl,gR⟩:=inv
 have hDh:D ∈ α₁.hid:=by rw [hid]; exact List.mem_cons_self
 have hDa:D ∈ α₁.all:=List.mem_append_right _ hDh
 by_cases hlt:i < xs.length
 ·
  have hdrop:xs.drop i=xs[i]::xs.drop (i + 1):=List.drop_eq_getElem_cons hlt
  rw [hdrop] at hgo
  obtain ⟨hw,ht1,ht2,ht3,ht4⟩:=adP (by rw [hgo]; exact hc)
  refine eJ gR (I.item i s₁ σ₁ α₁ xs[i] (by simp [hlt]) st jz hw _ _ fun v aw vr abA zz xo bF gr lh=>?_)
  have abA:=abA rfl
  have cT:aD [] α s.heap ⟨α₁.ix,α.hid,α₁.fr⟩ aw.heap:=aD.drop l6 hown (by simp) (by simpa using xo.rehid α.hid)
  have iS:=gB.ext xo apart
  have ul:=xo.seqs D _ (jz.hidden D hDh).1 hl .seq
  have xD:=vs.ext xo
  refine eJ lh (wpAny_assign_Name (rx hU bF iS (by rw [hCl]; exact hbC) hx vr fun b5 gq iR xc sb km iU=>?_))
  rw [kt] at iR
  rw [hCl] at xc sb
  have hCD:D ≠ C:=by rintro rfl; exact gB.la (by rw [hCl]; exact hDa)
  have u0:aD [] α s.heap ⟨α₁.ix,α.hid,α₁.fr⟩ b5.heap:=cT.sameBut hC sb
  have ajS:b5.heap.get? D=_:=(sb D hCD).trans ul
  have ajt:=xD.ext xc
  have jO:=I.frame _ _ _ _ _ _ abA xc (fun b hb q=>by simp at q; subst q; exact apart.1 (hCl ▸ hb))
  refine wpAny_mono (cb (htest xs[i] b5 σ₁ α₁ iR gq ht1 iU)) (fun ok l9 hp=>?_) fun e l9 hx=>?_
  ·obtain ⟨⟨b,σ₄,n5,hb,x4,yu,e4,abS⟩,ajw⟩:=hp
   have qO:=Kt.Tk.up iU ajw
   have e4':ok=b:=e4
   subst e4'
   have y5:n5.hid=D::α.hid:=x4.hid.trans hid
   have abd:aD [] α s.heap ⟨n5.ix,α.hid,n5.fr⟩ l9.heap:=u0.trans (x4.rehid α.hid)
   have qJ:=iR.ext x4 .nil
   have ago:=x4.seqs D _ (gq.hidden D hDh).1 ajS .seq
   have afX:=ajt.ext x4
   have tG:=I.frame _ _ _ _ _ _ jO x4 (by simp)
   cases ok with
   | false =>
    rw [if_neg (by simp)]
    refine ⟨xs.length - (i + 1),Nat.sub_succ_lt_self _ _ hlt,i + 1,σ₄,n5,ys,us,_,nn,rfl,hlt,y5,abd,yu,tG,qJ,fun v=>by rw [List.set_set],ago,afX,((iE.trans gr).trans km).trans abS,?_,by (exact aC (by assumption) (Nat.le_add_right _ _)),qO⟩
    rw [<- ht3 _ hb]; exact hgo
   | true =>
    rw [if_pos rfl]
    obtain ⟨he1,he2,he3⟩:=ht4 _ hb
    refine wpAny_mono (cb (helt xs[i] l9 σ₄ n5 qJ yu he1 qO)) (fun u p0 hp=>?_) fun e p0 hx=>?_
    ·obtain ⟨⟨v5,σ₅,lc,hv5,x5,vg,vr5,ae9⟩,abu⟩:=hp
     have xF:=Kt.Tk.up qO abu
     have adI:lc.hid=D::α.hid:=x5.hid.trans y5
     have adM:D ∈ lc.hid:=by rw [adI]; exact List.mem_cons_self
     have y7:D ∈ lc.all:=List.mem_append_right _ adM
     have xW:aD [] α s.heap ⟨lc.ix,α.hid,lc.fr⟩ p0.heap:=abd.trans (x5.rehid α.hid)
     have wc:=qJ.ext x5 .nil
     have agn:=x5.seqs D _ (yu.hidden D (by rw [y5]; exact List.mem_cons_self)).1 ago .seq
     have ajs:=afX.ext x5
     have xG:=I.frame _ _ _ _ _ _ tG x5 (by simp)
     refine wpAny_list_append_plain ⟨_,agn⟩ (fun akx xN ajC=>?_) ?_
     ·obtain ⟨n6,xN⟩:=xN
      have kb:∀ b,b ≠ D->akx.get? b=p0.heap.get? b:=fun b hb=>ajC.2 b hb
      refine ⟨xs.length - (i + 1),Nat.sub_succ_lt_self _ _ hlt,i + 1,σ₅,lc,ys++[v5],us++[u],_,n6,rfl,hlt,adI,xW.sameBut hD kb,vg.sameHid adM hbD kb ⟨_,xN⟩ (fun o e=>by rw [agn] at e; obtain rfl:=oi e; rintro ⟨_,_,q⟩; contradiction),I.but _ _ _ _ _ xG y7 kb,wc.sameBut y7 kb,fun v=>by rw [List.set_set],?_,(ajs.snoc vr5).sameBut y7 kb,(((iE.trans gr).trans km).trans abS).trans (ae9.trans ⟨rfl,rfl⟩),?_,by simp; (assumption),xF⟩
      ·rw [xN]; simp
      ·rw [<- he3 _ _ hv5]; exact hgo
     ·have:=y8 (n:=xs.length) (ys:=ys) (by (exact aC (by assumption) (by assumption))) (by rw [hgo]; exact hc)
      have h2:=vs.1
      simp
      rw [<- h2]
      exact cq this
    ·obtain ⟨⟨j,σ₅,e5,_⟩,_⟩:=hx
     exact absurd e5 (he2 _ _)
  ·obtain ⟨⟨j,σ₅,e5,_⟩,_⟩:=hx
   exact absurd e5 (ht2 _ _)
 ·
  have hie:i=xs.length:=Nat.le_antisymm hi (Nat.not_lt.mp hlt)
  subst hie
  rw [List.drop_length] at hgo
  have hw:=adO (by rw [hgo]; exact hc)
  have hlim:=y8 (n:=xs.length) (ys:=ys) (by (assumption)) (by rw [hgo]; exact hc)
  have hgo':cg fz ys σ₁=c:=by
   rw [<- hgo]
   unfold eB
   rw [show b9 w (eH tC eC) [] σ₁=.ok [] σ₁ from if_pos hw]
   show _=cg fz (ys++[]) σ₁
   rw [List.append_nil]
  refine I.done s₁ σ₁ α₁ st jz hw _ _ fun aw xo bF gr=>?_
  have cT:aD [] α s.heap ⟨α₁.ix,α.hid,α₁.fr⟩ aw.heap:=aD.drop l6 hown (by simp) (by simpa using xo.rehid α.hid)
  have iS:=gB.ext xo apart
  have hDi:=(bF.hidden D hDh).1
  have ul:=xo.seqs D _ (jz.hidden D hDh).1 hl .seq
  have xD:=vs.ext xo
  obtain ⟨mC,nC,_⟩:=iS.ns
  rw [hCl] at nC
  have hCa:C ∉ α₁.all:=by rw [<- hCl]; exact gB.la
  have rZ:∀ a,a ∈ (⟨α₁.ix,α.hid,α₁.fr⟩:AL).all->a ∈ α₁.all:=fun a ha=>by
   rcases List.mem_append.mp ha with q | q
   ·exact List.mem_append_left _ q
   ·exact List.mem_append_right _ (by rw [hid]; exact bJ _ q)
  unfold cg at hgo'
  rw [if_pos hlim] at hgo'
  cases fz with
  | true =>
   refine .inl rfl _ _ ⟨α₁.ix,α.hid,α₁.fr⟩ mC hgo'.symm cT (bF.unhide fun a ha=>by rw [hid]; exact bJ _ ha) ?_ (iE.trans gr) nC (fun q=>hCa (rZ _ q)) hC hbC hCf
   refine VR.flI ul (fun q=>?_) (xD.re (α:=α₁) (α':=⟨α₁.ix,α.hid,α₁.fr⟩) (fun zz zz e=>e) rZ)
   rcases List.mem_append.mp q with q | q
   ·exact hDi q
   ·exact hDx q
  | false =>
   have get1:∀ (j:Nat) (a:Addr),α₁.ix[j]?=some a->(α₁.ix++[D])[j]?=some a:=fun j a e=>by
    rw [List.getElem?_append_left (eY e).1]; exact e
   have sub2:∀ a,a ∈ (⟨α₁.ix++[D],α.hid,α₁.fr⟩:AL).all->a ∈ α₁.all:=fun a ha=>by
    rcases List.mem_append.mp ha with q | q
    ·rcases List.mem_append.mp q with q | q
     ·exact List.mem_append_left _ q
     ·simp at q; subst q; exact hDa
    ·exact List.mem_append_right _ (by rw [hid]; exact bJ _ q)
   refine .inl rfl _ _ ⟨α₁.ix++[D],α.hid,α₁.fr⟩ mC hgo'.symm ?_ ⟨bF.base,?_,?_,?_,fun a ha=>⟨?_,(bF.hidden a (by rw [hid]; exact bJ _ ha)).2⟩,fun j m a e1 e2=>?_,fun a ha=>bF.hfr a (by rw [hid]; exact bJ _ ha),bF.fe,bF.frs,fun a ha q=>?_⟩ (.ref ?_) (iE.trans gr) nC (fun q=>hCa (sub2 _ q)) hC hbC hCf
   ·obtain ⟨β,q1,q2⟩:=cT.pre
    refine ⟨rfl,⟨β++[D],by show α₁.ix++[D]=_; rw [show α₁.ix=α.ix++β from q1,List.append_assoc],fun a ha=>?_⟩,cT.seqs,cT.rest,cT.alive,cT.fre⟩
    rcases List.mem_append.mp ha with q | q
    ·exact q2 a q
    ·simp at q; subst q; exact ⟨hD,by simp⟩
   ·intro a ha
    rcases List.mem_append.mp ha with q | q
    ·exact bF.fresh a q
    ·simp at q; subst q; exact hbD
   ·show (α₁.ix++[D]).Nodup
    rw [List.nodup_append]
    exact ⟨bF.nodup,by simp,fun a ha b hb=>by simp at hb; subst hb; rintro rfl; exact hDi ha⟩
   ·simp [bF.len]
   ·intro q
    rcases List.mem_append.mp q with q | q
    ·exact (bF.hidden a (by rw [hid]; exact bJ _ ha)).1 q
    ·simp at q; subst q; exact hDx ha
   ·by_cases hj:j < σ₁.length
    ·rw [List.getElem?_append_left hj] at e1
     have e2':(α₁.ix++[D])[j]?=some a:=e2
     rw [List.getElem?_append_left (by rw [<- bF.len]; exact hj)] at e2'
     exact (bF.obj j m a e1 e2').re get1 sub2
    ·have e3:j=σ₁.length:=by
      have:=(eY e1).1
      simp at this; (grind)
     subst e3
     have e2':(α₁.ix++[D])[σ₁.length]?=some a:=e2
     rw [List.getElem?_append_right (Nat.le_refl _)] at e1
     rw [List.getElem?_append_right (by rw [bF.len]; exact Nat.le_refl _)] at e2'
     simp [bF.len] at e1 e2'
     subst e1 e2'
     exact ⟨us,nn,ul,xD.re get1 sub2⟩
   ·rcases List.mem_append.mp q with q | q
    ·exact bF.frNot a ha q
    ·simp at q; subst q
     obtain ⟨_,o,e,es,n',d⟩:=bF.frs a ha
     rw [ul] at e; obtain rfl:=oi e; contradiction
   ·rw [bF.len]; simp
end
end Mine
namespace Mine
open PySem PyProof.Rows
section
variable {K:Kt} {A:Around} {s:Shared} {α:AL} {env:Env} {ρ:aq} {scope:Scope} {t:Nat} {x:Str}
noncomputable abbrev bq (scope:Scope) (C:Addr) (env:Env):Env:=compEnvC scope (d5 env.cells scope.names []) C env
noncomputable abbrev iO (scope:Scope) (env:Env) (ρ:aq):aq:=bI (dH env.scope.names (a8 env.scope.names scope.names)) ρ
noncomputable def gO (fz:Bool) (tC:PV->ac->af Bool) (eC:PV->ac->af PV) (ci:af (List PV × Option (Nat × MO))):af PV:=
 ci.bind fun p σ=>eB p.1.length fz p.2 tC eC [] p.1 σ
theorem uN {elt iter:Expr} {px:Pos} {ifs:List Expr} {pos:Pos} {ci:af (List PV × Option (Nat × MO))}
  {tC:PV->ac->af Bool} {eC:PV->ac->af PV} {fz:Bool} {RR:Value->Addr->Result->Shared->Prop} {E:Value->Shared->Prop}
  (c:ft env.scope.names scope t x) (te:ai env ρ s.heap α) (hit:gc K A false (eval iter env) ci s α) (hc:gO fz tC eC ci ≠ .stuck) (tk:K.Tk s)
  (htest:∀ C v s σ α,aI K.hb (bq scope C env)->ai (bq scope C env) ((iO scope env ρ).set t (some v)) s.heap α->R K.hb s.heap σ α ->
   Runs K dI A (forIn ifs true fun c r=>if r=true then do let ok <- isTrue c (bq scope C env) (eval c (bq scope C env)); pure (ForInStep.yield ok) else pure (ForInStep.yield r)) (tC v σ) s α)
  (helt:∀ C v s σ α,aI K.hb (bq scope C env)->ai (bq scope C env) ((iO scope env ρ).set t (some v)) s.heap α->R K.hb s.heap σ α->Runs K VR A (eval elt (bq scope C env)) (eC v σ) s α)
  (hF:eI K A) (hN:aI K.hb env) (ou:∃ σ,R K.hb s.heap σ α)
  (hE:∀ e s',aY K A ci s α e s'->E e s') (hRR:∀ acc C r s',tf K s α (gO fz tC eC ci) acc C r s'->RR acc C r s') :
  wpAny (model K.prog K.w) A (eval iter env) (fun xv s₁=>wpAny (model K.prog K.w) A (pyIter xv) (fun it aw=>wpAny (model K.prog K.w) A (newList []) (fun acc b5 =>
   wpAny (model K.prog K.w) A (newFunctionEnv scope env.globals (d5 env.cells scope.names []) [] env.qual none .none (some env)) (fun cenv l9 =>
    codeAny (model K.prog K.w) A (.compStart (.ListComp elt [⟨.Name x px,iter,ifs,0⟩] scope pos) 0 it acc { cenv with scope:=relabel scope env }) (RR acc cenv.locals) l9) E b5) E aw) E s₁) E s:=by
 have hci:ci ≠ .stuck:=by rintro rfl; exact hc rfl
 refine wpAny_mono (cb (hit hci tk)) (fun xv s₁ a7=>wpAny_mono (cb a7.1) (fun it aw de=>?_) fun e s' h=>hE e s' h.1) fun e s' h=>hE e s' h.1
 have lh:K.Tk aw:=Kt.Tk.up tk (aC a7.2 de.2)
 obtain ⟨xs,w,σ₂,aM,own,St,hci2,cT,bF,gr,I,st,ho⟩:=de.1
 have cell:∀ y ∈ scope.names,y.2 ≠ .cell:=c.nocell
 refine wpAny_newObj_type (wpAny_newFunctionEnv cell (by intro y hy; simp at hy) (fun a7 yZ uk=>?_) c.kind)
 dsimp only at yZ uk ⊢
 generalize hH2:aw.heap.push { cls:=.type "list",dict:=none,data:=.seq ([]:List Value).toArray }=H2 at yZ uk ⊢
 have hCs:H2.objs.size=aw.heap.objs.size + 1:=by rw [<- hH2,Heap.size_push]
 have hDC:aw.heap.objs.size ≠ H2.objs.size:=by rw [hCs]; exact Nat.ne_of_lt (Nat.lt_succ_self _)
 have old:∀ b o,aw.heap.get? b=some o->a7.get? b=some o:=fun b o e=>uk.extBut b o (by rw [hCs]; exact Nat.ne_of_lt (Nat.lt_succ_of_lt (Heap.lt_size e))) (Heap.get?_push_of_some _ (hH2 ▸ Heap.get?_push_of_some _ e))
 have hacc:a7.get? aw.heap.objs.size=some { cls:=.type "list",data:=.seq ([]:List Value).toArray }:=uk.extBut _ _ hDC (Heap.get?_push_of_some _ (hH2 ▸ Heap.get?_push_size _ rfl))
 have fresh:∀ a,aw.heap.objs.size <= a->aw.heap.get? a=none:=fun a ha=>by
  cases e:aw.heap.get? a with
  | none=>rfl
  | some o'=>exact absurd (Heap.lt_size e) (Nat.not_lt.mpr ha)
 have hD2:=fresh aw.heap.objs.size (Nat.le_refl _)
 have hC2:aw.heap.get? H2.objs.size=none:=fresh _ (by rw [hCs]; exact Nat.le_succ _)
 have back:∀ a,aw.heap.get? a=none->s.heap.get? a=none:=fun a ha=>by
  cases e:s.heap.get? a with
  | none=>rfl
  | some o=>obtain ⟨o',e'⟩:=cT.alive a o (by simp) e; rw [ha] at e'; contradiction
 have base:∀ a,aw.heap.get? a=none->K.hb.get? a=none:=fun a ha=>by
  cases e:K.hb.get? a with
  | none=>rfl
  | some o=>rw [bF.base a o e] at ha; contradiction
 have iS:=te.ext cT .nil
 have gq:R K.hb a7 σ₂ ⟨aM.ix,aw.heap.objs.size::aM.hid,aM.fr⟩:=bF.hide hD2 old hacc
 have iR:ai env ρ a7 ⟨aM.ix,aw.heap.objs.size::aM.hid,aM.fr⟩:=(iS.hide hD2).ext (.keeps (F:=[]) old) .nil
 have cells:∀ y a,env.cells.lookup y=some a->∃ o,s.heap.get? a=some o:=fun y a ha=>by
  obtain ⟨_,_,v,o,e,_⟩:=te.ca y a ha; exact ⟨o,e⟩
 have hCa:H2.objs.size ∉ (⟨aM.ix,aw.heap.objs.size::aM.hid,aM.fr⟩:AL).all:=fun q=>by
  rcases List.mem_append.mp q with q | q
  ·obtain ⟨o,e⟩:=bF.live q; rw [hC2] at e; contradiction
  ·rcases List.mem_cons.mp q with q | q
   ·exact hDC q.symm
   ·obtain ⟨o,e⟩:=(bF.hidden _ q).2; rw [hC2] at e; contradiction
 have hne:∀ y a,env.cells.lookup y=some a->a ≠ H2.objs.size:=fun y a ha q=>by
  obtain ⟨o,e⟩:=cells y a ha
  rw [q,back _ hC2] at e; contradiction
 have qJ:=afC c iR yZ hCa hne
 have hcl:=lV c te
 have apart:pd (bq scope H2.objs.size env) own:=by
  refine ⟨fun q=>?_,fun y a ha q=>?_⟩
  ·obtain ⟨o,e⟩:=I.live _ _ _ st _ q
   have e':aw.heap.get? H2.objs.size=some o:=e
   rw [hC2] at e'; contradiction
  ·obtain ⟨o,e⟩:=cells y a (ey hcl ha)
   rw [(ho a q).1] at e; contradiction
 have hN':aI K.hb (bq scope H2.objs.size env):=⟨base _ hC2,fun y a ha=>hN.c y a (ey hcl ha),hN.f⟩
 have hCf:H2.objs.size ∉ K.hb.fr:=fun q=>by
  obtain ⟨_,o,e,_⟩:=bF.frs _ q
  rw [hC2] at e; contradiction
 have hnm:(bq scope H2.objs.size env).scope.names=a8 env.scope.names scope.names:=jA te.ok.kind
 have jO:St 0 a7 ⟨aM.ix,aw.heap.objs.size::aM.hid,aM.fr⟩:=I.frame _ [] _ _ _ _ (I.hide _ _ _ _ st hD2) (.keeps old) (by simp)
 have loop:∀ b5:Shared,b5={ aw with heap:=a7,toks:=aw.toks + ([]:List (Str × Value)).length } ->
   codeAny (model K.prog K.w) A (.compLoop (.ListComp elt [⟨.Name x px,iter,ifs,0⟩] scope pos) 0 it (.ref aw.heap.objs.size) (compEnvC scope (d5 env.cells scope.names []) H2.objs.size env))
    (RR (.ref aw.heap.objs.size) H2.objs.size) b5:=by
  rintro b5 rfl
  refine codeAny_mono (ad8 (s:=s) (α:=α) (D:=aw.heap.objs.size) (C:=H2.objs.size) (fz:=fz) (c:=gO fz tC eC ci) (cenv:=bq scope H2.objs.size env) (ρc:=iO scope env ρ) (t:=t) (tC:=tC) (eC:=eC)
   (i:=0) (σ₁:=σ₂) (α₁:=⟨aM.ix,aw.heap.objs.size::aM.hid,aM.fr⟩) (ys:=[]) (us:=[]) (ρ₁:=iO scope env ρ) (n:=0) I (by rw [hnm]; exact c.tgt) (by rw [hnm]; exact c.sc.uniq) rfl (fun b hb=>(ho b hb).1) (back _ hD2) (back _ hC2) (base _ hD2) (base _ hC2) ?_ apart hc hF hN' hCf
   (fun v s σ α=>htest _ v s σ α hN') (fun v s σ α=>helt _ v s σ α hN') (Nat.zero_le _) (by show _::aM.hid=_; rw [cT.hid]) ?_ gq jO qJ (fun v=>rfl) hacc .nil ⟨gr.gens,gr.os⟩ ?_ (Nat.le_refl _) (Kt.Tk.up lh (Nat.le_add_right _ _))) (fun r s'=>hRR _ _ r s')
  ·obtain ⟨σ,ou⟩:=ou
   intro q
   obtain ⟨o,e⟩:=(ou.hidden _ q).2
   rw [back _ hD2] at e; contradiction
  ·have h3:aD [] α s.heap ⟨aM.ix,α.hid,aM.fr⟩ aw.heap:=by
    have:=cT.rehid α.hid
    exact this
   exact h3.trans (.keeps old)
  ·rw [hci2]; rfl
 exact codeAny_compStart_list (loop _ rfl) (I.self 0 _ _ jO _ _ (loop _ rfl))
theorem vw {elt iter:Expr} {px:Pos} {ifs:List Expr} {pos:Pos} {ci:af (List PV × Option (Nat × MO))} {σ:ac}
  {tC:PV->ac->af Bool} {eC:PV->ac->af PV} {fz:Bool}
  (c:ft env.scope.names scope t x) (te:ai env ρ s.heap α) (hit:gc K A false (eval iter env) ci s α)
  (htest:∀ C v s σ α,aI K.hb (bq scope C env)->ai (bq scope C env) ((iO scope env ρ).set t (some v)) s.heap α->R K.hb s.heap σ α ->
   Runs K dI A (forIn ifs true fun c r=>if r=true then do let ok <- isTrue c (bq scope C env) (eval c (bq scope C env)); pure (ForInStep.yield ok) else pure (ForInStep.yield r)) (tC v σ) s α)
  (helt:∀ C v s σ α,aI K.hb (bq scope C env)->ai (bq scope C env) ((iO scope env ρ).set t (some v)) s.heap α->R K.hb s.heap σ α->Runs K VR A (eval elt (bq scope C env)) (eC v σ) s α)
  (hF:eI K A) (hN:aI K.hb env) (ou:R K.hb s.heap σ α) (hs:∀ x,foldedSetIterable iter env x=pure x) :
  Runs K VR A (eval (.ListComp elt [⟨.Name x px,iter,ifs,0⟩] scope pos) env) (gO fz tC eC ci) s α:=by
 intro hc tk
 rw [eval_ListComp]
 refine wpAny_comprehension_free (use:=none) rfl hs (pK (lV c te)) c.kind c.names (uN (fz:=fz) (RR:=fun acc C=>compPost (model K.prog K.w) A _ none _ acc C) c te hit hc tk htest helt hF hN ⟨_,ou⟩ (fun e s' hx=>?_) ?_)
 ·obtain ⟨i,σ',e1,fx⟩:=hx
  exact ⟨i,σ',by rw [e1]; rfl,fx⟩
 ·rintro acc C r s' ⟨rfl,v,σ',α',m,e,x',r',vr,sm,ns,ha,hC,hbC,hCf⟩
  ·refine ⟨m,ns,fun h' hs'=>?_⟩
   obtain ⟨r'',x''⟩:=r'.but ha hbC (fun b o hb e=>(hs'.2 b hb).trans e) (fun o e=>by
    obtain ⟨o',es,ep,e',d,_⟩:=id ns
    rw [e] at e'; obtain rfl:=oi e'
    exact dl.notSolid ⟨_,_,d⟩) fun q=>absurd q hCf
   exact ⟨v,σ',α',e,x'.sameBut hC (fun b hb=>hs'.2 b hb),r'',vr.ext x'',sm.trans ⟨rfl,rfl⟩⟩
end
end Mine
namespace Mine
open PySem PyProof.Rows
noncomputable def dK:Expr->Bool
 | .Set ..=>false
 | .Starred ..=>false
 | _=>true
theorem rA {op:CmpOp} {e:Expr} (h:dK e=true):behindInMarks op e=false:=by
 cases e <;> first | rfl | contradiction
theorem ki {e:Expr} {env:Env} (h:dK e=true) (x:Value):foldedSetIterable e env x=pure x:=by
 cases e <;> first | rfl | contradiction
theorem bK {e:Expr} {rest:List Expr} {env:Env} (h:dK e=true):starEach (e::rest) env=(false,eval e env)::starEach rest env:=by
 cases e <;> first | rfl | contradiction
inductive agI (h:Heap) (c:Nat) (up:List Nat):Prop
 | mk (nm q:Str) (N:Addr) (bs:List Value) (hdct:Bool) (sn:List Str) (sub:List Value) (ab:Bool) (col:Option Bool) (dd:Option Addr) (k0 k1 k2 k3 k5:Option Value)
   (ho:h.get? c=some (excClassObj nm q c N bs (up.map Value.ref++[.type "ValueError",.type "Exception",.type "BaseException",.type "object"]) hdct sn sub ab col dd k0 k1 k2 k3 k5 "ValueError.__new__"))
   (mN:Str->Option Value) (hN:h.Ns N mN) (hi:mN "__init__" = none):agI h c up
structure nZ (K:Kt) (x:Str) (c:Nat) (up:List Nat):Prop where
 mg:K.mg x=some (.ref c)
 ob:agI K.hb.h c up
 tail:OwnTail K.hb.h [.type "ValueError",.type "Exception",.type "BaseException",.type "object"] (up.map Value.ref++[.type "ValueError",.type "Exception",.type "BaseException",.type "object"])
open PySem.W in
noncomputable def o5 (F:PySem.W.Frag) (T:aN) (c:Nat):Bool:=
 findIn F (.ref c) "__getattribute__" == some (some (.builtin "BaseException.__getattribute__")) && findIn F (.ref c) "__getattr__" == some none && findIn F (.ref c) "__class__" == some (some (.builtin "object.__class__")) &&
  subIn F (.ref c) (.type "BaseException") == some true && subIn F (.ref c) (.type "object") == some true && (clsIn F c).isSome &&
  T.excs.all (fun q=>kitOne F (.ref c) (.ref q.2.1) == some ((gS T q.2.1).contains c)) && kitOne F (.ref c) (.type "ValueError") == some true
open PySem.W in
structure fw (K:Kt) (F:Frag) (b:Str) (c:Addr):Prop where
 mg:K.mg b=some (.ref c)
 inn:F.In K.hb.h
 keep:keepIn F (.ref c)=true
 makes:makesIn F c=true
 plain:plainOver F c=true
 hasd:(clsIn F c).any (·.hasDict)=true
 seta:findIn F (.ref c) "__setattr__" = some (some (.builtin "object.__setattr__"))
 free:∀ n ∈ cO,takerIn F c n=some none
 geta:findIn F (.ref c) "__getattribute__" = some (some (.builtin "object.__getattribute__"))
 getr:findIn F (.ref c) "__getattr__" = some none
 none:∀ n ∈ cO,findIn F (.ref c) n=some none
noncomputable def acx (K:Kt) (A:Around):Prop:=∃ (a:Addr) (o:Obj) (vs:Array Value),A.handled=some (.ref a)/\K.hb.get? a=some o/\o.data=.fields vs/\vs[2]?=some .none
structure Ctx (K:Kt) (A:Around) (T:aN) (C:aV):Prop where
 hK:K.Ok
 hA:dv A
 hd:C.hd=false->A.handled=none
 ph:K.ph=C.hd
 rz:C.rz=true->C.hd=true->acx K A
 rp:T.repl=true->K.pos=true
 fr:eI K A
 exc:∃ F:PySem.W.Frag,F.In K.hb.h/\∀ p ∈ T.excs,nZ K p.1 p.2.1 p.2.2/\o5 F T p.2.1=true
 cst:∀ x v,T.cst.lookup x=some v->∃ u,K.mg x=some u/\∀ h σ α,R K.hb h σ α->VR h α v u
 fn:∀ f x,T.fns[f]?=some x->∃ a o fd,K.mg x=some (.ref a)/\K.hb.get? a=some o/\o.data=.func fd/\∀ vs us s σ α,R K.hb s.heap σ α->aO s.heap α vs us->Runs K VR A (call (.ref a) us) (C.call f vs σ) s α
 bin:∀ x,x ∈ T.bins->K.mg x=none/\∃ v,i6 x=some v/\K.mb x=some v
 brd:∀ b c,T.brd=some (b,c)->∃ F,fw K F b c/\(∀ j,T.meths[j]?=some ("__init__" : Str)->∀ vs us s σ α,R K.hb s.heap σ α->aO s.heap α vs us->Runs K VR A (call (.ref c) us) (oB C c (T.fns.length + j) vs σ) s α)
  /\ ∀ j n,T.meths[j]?=some n->∃ a o fd,PySem.W.findIn F (.ref c) n=some (some (.ref a))/\PySem.W.typeIn F (.ref a)=some (.type "function")/\K.hb.get? a=some o/\o.data=.func fd/\∀ vs us s σ α,R K.hb s.heap σ α->aO s.heap α vs us->Runs K VR A (call (.ref a) us) (C.call (T.fns.length + j) vs σ) s α
noncomputable def k8 (K:Kt) (A:Around) (C:aV) (N:List (Str × NameKind)) (e:Expr) (x:X):Prop:=
 ∀ env ρ σ s α,env.scope.names=N->aI K.hb env->ai env ρ s.heap α->R K.hb s.heap σ α ->
  Runs K VR A (eval e env) (ev C x ρ σ) s α/\Runs K dI A (isTrue e env (eval e env)) (tst C x ρ σ) s α
noncomputable def SE (K:Kt) (A:Around) (C:aV) (f:List (Str × NameKind)->Expr->Option X):Prop:=
 ∀ N e x,f N e=some x->dK e=true/\k8 K A C N e x
section
variable {K:Kt} {A:Around} {β γ rq γ':Type} {Rel:Heap->AL->β->γ->Prop} {Rel':Heap->AL->rq->γ'->Prop} {s:Shared} {α:AL} {σ:ac}
theorem Runs.operate {vs:List Value} {t:Sem Value} {Rel:Heap->AL->β->Value->Prop} {c:af β} (H:Runs K Rel A t c s α):Runs K Rel A (operate vs t) c s α:=
 fun h tk=>wpAny_operating (H h tk)
theorem ahH {t:Sem Value} {c:af PV} {p:Pos} (H:Runs K VR A t c s α):Runs K dI A (do let v <- t; standAt p; holding [v] (truthy v)) (c.bind cU) s α:=
 Runs.bind H fun b σ' α' y s' zz x r v m=>Runs.standAt (Runs.holding (iT r v))
theorem cr.vr {h:Heap} {α:AL} {b:Bool} {y:Value} (v:cr h α b y):VR h α (.bool b) y:=by
 have:y=.bool b:=v
 subst this; exact .bool b
end
section
variable {K:Kt} {A:Around} {T:aN} {C:aV} {f:List (Str × NameKind)->Expr->Option X} {N:List (Str × NameKind)} {env:Env} {ρ:aq} {σ:ac} {s:Shared} {α:AL}
theorem rN {c:Const} {v:PV} {k:Nat} {p:Pos} (h:u7 c=some v) (r:R K.hb s.heap σ α):Runs K VR A (eval (.Constant c k p) env) (.ok v σ) s α:=by
 intro _ _
 cases c with
 | none=>obtain rfl:=oi h; exact wpAny_Constant_none (a6.here (tk:=s.toks) r .none)
 | bool b=>obtain rfl:=oi h; exact wpAny_Constant_bool (a6.here (tk:=s.toks) r (.bool b))
 | int i=>obtain rfl:=oi h; exact wpAny_Constant_int (a6.here r (.int i _))
 | str x =>
  change ay _ _=_ at h
  exact aB h fun hx h=>by obtain rfl:=oi h; exact wpAny_Constant_str (a6.here r (.str x _ hx))
 | _=>contradiction
theorem bg {e:Expr} {y:X} (he:∀ env whole,isTrue e env whole=(do let v <- whole; standAt e.pos; holding [v] (truthy v))) (ht:∀ ρ σ,tst C y ρ σ=(ev C y ρ σ).bind cU)
  (H:∀ {env ρ σ s α},env.scope.names=N->aI K.hb env->ai env ρ s.heap α->R K.hb s.heap σ α->Runs K VR A (eval e env) (ev C y ρ σ) s α):k8 K A C N e y:=fun env ρ σ s α hN hn E r =>
 ⟨H hN hn E r,by rw [he,ht]; exact ahH (H hN hn E r)⟩
theorem yT {N:List (Str × NameKind)} {x:Str} {i:Nat} {q:Str × NameKind} (hi:N.findIdx? (·.1 == x)=some i) (hq:N[i]?=some q):q.1=x:=by
 obtain ⟨h1,h2,_⟩:=List.findIdx?_eq_some_iff_getElem.mp hi
 obtain rfl:=oi ((List.getElem?_eq_getElem h1).symm.trans hq)
 exact eq_of_beq h2
theorem yd {x:Str} {y:X} {p:Pos} (c:Ctx K A T C) (h:ye T N x=some y):k8 K A C N (.Name x p) y:=by
 unfold ye at h
 refine aF h fun i hi h=>aF h fun q hq h=>?_
 have hx:=yT hi hq
 obtain ⟨z,k⟩:=q
 dsimp only at hx
 subst hx
 cases k with
 | «local»=>obtain rfl:=oi h; exact bg (fun zz zz=>rfl) (fun zz zz=>rfl) fun hN zz E r=>tX r E (by rw [hN]; exact hq)
 | cell=>obtain rfl:=oi h; exact bg (fun zz zz=>rfl) (fun zz zz=>rfl) fun hN zz E r=>tX r E (by rw [hN]; exact hq)
 | globalImplicit =>
  change (T.cst.lookup z).map X.k=_ at h
  refine b6 h fun v hv=>?_
  obtain ⟨u,h1,h2⟩:=c.cst z v hv
  exact bg (fun zz zz=>rfl) (fun zz zz=>rfl) fun {env ρ σ s α} hN _ E r _ _=>gI c.hK r E.ok (by rw [hN]; exact hq) h1 ⟨v,σ,α,rfl,.refl,r,h2 _ _ _ r,.refl s⟩
 | _=>contradiction
theorem eK {g:Expr->Option X} {e:Expr} {es:List Expr} {xs:X} (h:eM g (e::es)=some xs):∃ a b,g e=some a/\eM g es=some b/\xs=.cons a b:=by
 change o2 _ _ _=_ at h
 exact dX (M:=fun xs=>∃ a b,g e=some a/\eM g es=some b/\xs=.cons a b) h fun a b h1 h2=>⟨a,b,h1,h2,rfl⟩
theorem gM {es:List Expr} {xs:X} {pos:Pos} (S:SE K A C f) (h:eM (f N) es=some xs) (hN:env.scope.names=N) (hn:aI K.hb env) :
  ∀ {σ s α},ai env ρ s.heap α->R K.hb s.heap σ α->Runs K aO A (spliced (backTo pos (starEach es env))) (evs C xs ρ σ) s α:=by
 induction es generalizing xs with
 | nil =>
  obtain rfl:=oi h
  intro σ s α E r
  simp only [bC,dy]
  exact fun zz zz=>wpAny_items_nil ⟨[],σ,α,rfl,.refl,r,.nil,.refl s⟩
 | cons e es ih =>
  obtain ⟨a,b,ha,hb,rfl⟩:=eK h
  ·skip
   intro σ s α E r
   obtain ⟨hp,H⟩:=S N e a ha
   have H:=(H env ρ σ s α hN hn E r).1
   simp only [bC,dy]
   intro hc tk
   refine wpAny_items_cons ?_ (bK hp)
   have h1:ev C a ρ σ ≠ .stuck:=by intro q; rw [q] at hc; exact hc rfl
   refine wpAny_mono (cb (H h1 tk)) (fun v s₁ hp=>?_) fun e s₁ hx=>?_
   ·obtain ⟨⟨pv,σ₁,α₁,e1,x1,r1,v1,m1⟩,tl1⟩:=hp
    rw [e1] at hc ⊢
    have h2:evs C b ρ σ₁ ≠ .stuck:=by intro q; simp [af.bind,q] at hc
    refine wpAny_mono (ih hb (E.ext x1 .nil) r1 h2 (Kt.Tk.up tk tl1)) (fun vs aw hp=>?_) fun e aw hx=>?_
    ·obtain ⟨pvs,σ₂,aM,e2,x2,r2,v2,m2⟩:=hp
     refine ⟨pv::pvs,σ₂,aM,by simp [af.bind,e2],x1.trans x2,r2,.cons (v1.ext x2) v2,m1.trans m2⟩
    ·obtain ⟨i,σ₂,e2,nt,fx⟩:=hx
     exact ⟨i,σ₂,by simp [af.bind,e2],nt,fx.lift x1 m1⟩
   ·obtain ⟨⟨i,σ₁,e1,nt,fx⟩,_⟩:=hx
    exact ⟨i,σ₁,by rw [e1]; rfl,nt,fx⟩
theorem aei {es:List Expr} {xs:X} {pos:Pos} (S:SE K A C f) (h:eM (f N) es=some xs) (hN:env.scope.names=N) (hn:aI K.hb env) :
  ∀ {σ s α},ai env ρ s.heap α->R K.hb s.heap σ α->Runs K VR A (boolOp pos .And (evalEach es env)) (evAnd C xs ρ σ) s α/\Runs K dI A (allTrue .And es env) (tstAnd C xs ρ σ) s α:=by
 induction es generalizing xs with
 | nil =>
  obtain rfl:=oi h
  intro σ s α E r
  refine ⟨fun hc=>absurd (by simp only [qE,qD,ie]) hc,?_⟩
  simp only [tu,ej]
  exact fun zz zz=>wpAny_allTrue_And_nil ⟨true,σ,α,rfl,.refl,r,rfl,.refl s⟩
 | cons e es ih =>
  obtain ⟨a,b,ha,hb,rfl⟩:=eK h
  ·skip
   intro σ s α E r
   obtain ⟨hp,H⟩:=S N e a ha
   have H:=H env ρ σ s α hN hn E r
   constructor
   ·cases es with
    | nil =>
     obtain rfl:=oi hb
     simp only [qE,qD,ie]
     exact H.1
    | cons e2 es2 =>
     have hbc:∃ b1 b2,b=.cons b1 b2:=by
      obtain ⟨b1,b2,_,_,rfl⟩:=eK hb
      exact ⟨_,_,rfl⟩
     obtain ⟨b1,b2,rfl⟩:=hbc
     simp only [qE,qD,ie]
     refine Runs.bind H.1 fun v σ₁ α₁ y s₁ e1 x1 r1 v1 m1=>Runs.standAt ?_
     refine Runs.bind (Runs.holding (iT r1 v1)) fun t σ₂ aM y2 aw e2 x2 r2 v2 m2=>?_
     have:y2=t:=v2
     subst this
     cases y2 with
     | false=>simp only [Bool.false_eq_true,if_false]; exact Runs.pure r2 (v1.ext x2)
     | true=>simp only [if_true]; exact (ih hb ((E.ext x1 .nil).ext x2 .nil) r2).1
   ·simp only [tu,ej]
    refine Runs.bind H.2 fun t σ₁ α₁ y s₁ e1 x1 r1 v1 m1=>?_
    have:y=t:=v1
    subst this
    cases y with
    | false=>simp only [Bool.false_eq_true,if_false]; exact Runs.pure r1 rfl
    | true=>simp only [if_true]; exact (ih hb (E.ext x1 .nil) r1).2
theorem ae2 {es:List Expr} {xs:X} {pos:Pos} (S:SE K A C f) (h:eM (f N) es=some xs) (hN:env.scope.names=N) (hn:aI K.hb env) :
  ∀ {σ s α},ai env ρ s.heap α->R K.hb s.heap σ α->Runs K VR A (boolOp pos .Or (evalEach es env)) (evOr C xs ρ σ) s α/\Runs K dI A (allTrue .Or es env) (tstOr C xs ρ σ) s α:=by
 induction es generalizing xs with
 | nil =>
  obtain rfl:=oi h
  intro σ s α E r
  refine ⟨fun hc=>absurd (by simp only [sT,sS,lU]) hc,?_⟩
  simp only [wd,fy]
  exact fun zz zz=>wpAny_allTrue_Or_nil ⟨false,σ,α,rfl,.refl,r,rfl,.refl s⟩
 | cons e es ih =>
  obtain ⟨a,b,ha,hb,rfl⟩:=eK h
  ·skip
   intro σ s α E r
   obtain ⟨hp,H⟩:=S N e a ha
   have H:=H env ρ σ s α hN hn E r
   constructor
   ·cases es with
    | nil =>
     obtain rfl:=oi hb
     simp only [sT,sS,lU]
     exact H.1
    | cons e2 es2 =>
     have hbc:∃ b1 b2,b=.cons b1 b2:=by
      obtain ⟨b1,b2,_,_,rfl⟩:=eK hb
      exact ⟨_,_,rfl⟩
     obtain ⟨b1,b2,rfl⟩:=hbc
     simp only [sT,sS,lU]
     refine Runs.bind H.1 fun v σ₁ α₁ y s₁ e1 x1 r1 v1 m1=>Runs.standAt ?_
     refine Runs.bind (Runs.holding (iT r1 v1)) fun t σ₂ aM y2 aw e2 x2 r2 v2 m2=>?_
     have:y2=t:=v2
     subst this
     cases y2 with
     | true=>simp only [if_true]; exact Runs.pure r2 (v1.ext x2)
     | false=>simp only [Bool.false_eq_true,if_false]; exact (ih hb ((E.ext x1 .nil).ext x2 .nil) r2).1
   ·simp only [wd,fy]
    refine Runs.bind H.2 fun t σ₁ α₁ y s₁ e1 x1 r1 v1 m1=>?_
    have:y=t:=v1
    subst this
    cases y with
    | true=>simp only [if_true]; exact Runs.pure r1 rfl
    | false=>simp only [Bool.false_eq_true,if_false]; exact (ih hb (E.ext x1 .nil) r1).2
end
end Mine
set_option maxRecDepth 100000
namespace Mine
open PySem PySem.W PyProof.Rows
section
variable {prog:Program} {w:World} {A:Around} {E:Value->Shared->Prop} {h:Heap} {g:Array GenState} {d:Drawn} {t:Nat} {os:OsState} {a c:Addr} {o:Obj} {Fg:Frag}
theorem abf {R:Result->Shared->Prop} (X:Fg.In h) (hx:h.get? a=some o) (hc:o.cls=.ref c) (ho:subIn Fg (.ref c) (.type "object")=some true) (hq:R (.ok (.ret (.ref c))) ⟨h,g,d,t,os⟩) :
  codeAny (model prog w) A (.call (.builtin "getset_descriptor.__get__") ⟨[.builtin "object.__class__",.ref a,.ref c],[]⟩) R ⟨h,g,d,t,os⟩:=by
 have hT5:(⟨h,g,d,t,os⟩:Shared).TypeIs (.builtin "object.__class__") "getset_descriptor" := F.typeOf_object_class
 have ho':subIn Fg (.ref c) (.type (".".intercalate ("object.__class__".cutAt '.').dropLast))=some true:=by rw [F.owner_object_class]; exact ho
 have L:=looks_subIn (M:=model prog w) X ho'
 refine codeAny_call_builtin F.slot_gs_get.plain F.entry_gs_get (F.slot_gs_get.check _ _ _ _ _ _ _ _ hT5 (F.args_gs_get _ _ _) ?_)
 repeat (any_goals (first | assumption | (with_reducible refine wpAny_loadPart_at hx ?_; rw [hc]) | with_reducible refine L.at ?_ | wp_step))
 refine ⟨Code.quiet_builtin _ (by decide +kernel),codeAny_builtin F.entry_object_class ?_⟩
 repeat (any_goals (first | assumption | (with_reducible refine wpAny_loadPart_at hx ?_; rw [hc]) | wp_step))
theorem xX {tk:Tok} {Q:Fin->Shared->Prop} (X:Fg.In h) (hx:h.get? a=some o) (hc:o.cls=.ref c) (ho:subIn Fg (.ref c) (.type "object")=some true) (hl:findIn Fg (.ref c) "__class__" = some (some (.builtin "object.__class__")))
  (hq:Q (.done (.ret (.ref c))) ⟨h,g,d,t,os⟩):wpAny (model prog w) A (Builtin.«object.__getattribute__» ⟨[.ref a,.str "__class__" tk],[]⟩) Q E ⟨h,g,d,t,os⟩:=by
 have hT5:(⟨h,g,d,t,os⟩:Shared).TypeIs (.builtin "object.__class__") "getset_descriptor" := F.typeOf_object_class
 have f5:=F.typeOf_object_class
 have f6:=F.slot_gs_get.lookup
 have f7:=F.slot_gs_set.lookup
 have L:=looks_findIn (M:=model prog w) X hl
 repeat (any_goals (first | assumption | (with_reducible refine wpAny_loadPart_at hx ?_; rw [hc]) | with_reducible refine L.at ?_ | wp_step))
 refine abf X hx hc ho ?_
 repeat (any_goals (first | assumption | wp_step))
theorem acC {M:Model} {nameV:Value} {Q:Unit->Shared->Prop} (X:Fg.In h) (hx:h.get? a=some o) (hc:o.cls=.ref c) (hb:subIn Fg (.ref c) (.type "BaseException")=some true) (hq:Q () ⟨h,g,d,t,os⟩) :
  wpAny M A (checkBuiltinCall "BaseException.__getattribute__" ⟨[.ref a,nameV],[]⟩) Q E ⟨h,g,d,t,os⟩:=by
 have hk:builtinKind "BaseException.__getattribute__" = some .slot:=by decide +kernel
 have hsplit:splitId "BaseException.__getattribute__" = some ("BaseException", "__getattribute__"):=by decide +kernel
 have L:=looks_subIn (M:=M) X hb
 have ha:=F.args_bexc_ga (.ref a) nameV
 simp only [checkBuiltinCall,hk,hsplit]
 refine wpAny_bind ?_
 ·unfold isInstance
  repeat (first | (with_reducible refine wpAny_loadPart_at hx ?_; rw [hc]) | with_reducible refine L.at ?_ | wp_step)
  exact hq
theorem acB {tk:Tok} {Q:Value->Shared->Prop} (X:Fg.In h) (hx:h.get? a=some o) (hc:o.cls=.ref c) (hb:subIn Fg (.ref c) (.type "BaseException")=some true) (ho:subIn Fg (.ref c) (.type "object")=some true)
  (hl:findIn Fg (.ref c) "__class__" = some (some (.builtin "object.__class__"))) (hga:findIn Fg (.ref c) "__getattribute__" = some (some (.builtin "BaseException.__getattribute__"))) (hgt:findIn Fg (.ref c) "__getattr__" = some none)
  (hq:Q (.ref c) ⟨h,g,d,t,os⟩):wpAny (model prog w) A (getAttrBy (.ref a) (.str "__class__" tk) false) Q E ⟨h,g,d,t,os⟩:=by
 have f3:=F.attr_ValueError.ga.bind (.ref a)
 have hx2:(Value.builtin "BaseException.__getattribute__" == Value.builtin "object.__getattribute__")=false:=by decide +kernel
 have hx1:(onTheHeap (Value.ref c) && Value.builtin "BaseException.__getattribute__" == Value.builtin "object.__getattribute__")=false:=by rw [hx2]; rfl
 have L1:=looks_findIn (M:=model prog w) X hga
 have L2:=looks_findIn (M:=model prog w) X hgt
 repeat (any_goals (first | assumption | (with_reducible refine wpAny_loadPart_at hx ?_; rw [hc]) | with_reducible refine L1.at ?_ | with_reducible refine L2.at ?_ | wp_step))
 refine codeAny_call_builtin F.attr_ValueError.ga.plain F.entry_bexc_ga (acC X hx hc hb (xX X hx hc ho hl ?_))
 repeat (any_goals (first | assumption | wp_step))
theorem zR {Q:Option Value->Shared->Prop} (X:Fg.In h) (hx:h.get? a=some o) (hc:o.cls=.ref c) (hb:subIn Fg (.ref c) (.type "BaseException")=some true) (ho:subIn Fg (.ref c) (.type "object")=some true)
  (hl:findIn Fg (.ref c) "__class__" = some (some (.builtin "object.__class__"))) (hga:findIn Fg (.ref c) "__getattribute__" = some (some (.builtin "BaseException.__getattribute__"))) (hgt:findIn Fg (.ref c) "__getattr__" = some none)
  (hq:Q (some (.ref c)) ⟨h,g,d,t + 1,os⟩):wpAny (model prog w) A (getAttr? (.ref a) "__class__") Q E ⟨h,g,d,t,os⟩:=by
 unfold getAttr? getAttrBy?
 repeat (any_goals (first | assumption | with_reducible apply acB X hx hc hb ho hl hga hgt | wp_step))
end
theorem oZ {Fg:Frag} {T:aN} {c:Nat} (e:o5 Fg T c=true):findIn Fg (.ref c) "__getattribute__" = some (some (.builtin "BaseException.__getattribute__"))/\findIn Fg (.ref c) "__getattr__" = some none/\findIn Fg (.ref c) "__class__" = some (some (.builtin "object.__class__")) ∧
  subIn Fg (.ref c) (.type "BaseException")=some true/\subIn Fg (.ref c) (.type "object")=some true/\(clsIn Fg c).isSome=true/\(∀ q ∈ T.excs,kitOne Fg (.ref c) (.ref q.2.1)=some ((gS T q.2.1).contains c))/\kitOne Fg (.ref c) (.type "ValueError")=some true:=by
 unfold o5 at e
 simp only [Bool.and_eq_true,beq_iff_eq,List.all_eq_true] at e
 obtain ⟨⟨⟨⟨⟨⟨⟨h1,h2⟩,h3⟩,h4⟩,h5⟩,h6⟩,h7⟩,h8⟩:=e
 exact ⟨h1,h2,h3,h4,h5,h6,fun q hq=>by have:=h7 q hq; exact this,h8⟩
set_option tactic.hygienic true in
theorem afg {Fg:Frag} {T:aN} {a c:Addr} (e:o5 Fg T c=true):KitX Fg (.ref a) (.ref c) (fun h=>∃ o,h.get? a=some o/\o.cls=.ref c) where
 ty:=fun M h zz p=>by
  obtain ⟨o,h1,h2⟩:=p
  exact h2 ▸ (Looks.ld h1).andThen .now
 it:=fun zz zz X zz=>by
  have hc:=(oZ e).2.2.2.2.2.1
  unfold clsIn at hc
  split at hc
  ·rename_i c' d' cd' sl' ho
   intro A' Q' E' s' k q
   unfold isType loadHead
   exact wpAny_bind (wpAny_loadPart (k _ _ (X _ _ ho)) (wpAny_pure q))
  ·contradiction
 ne:=fun h tp dd its n sl X htp=>by
  have hc:=(oZ e).2.2.2.2.2.1
  refine Bool.eq_false_iff.mpr fun q=>?_
  have e:c=tp:=Value.ref.inj (beq_iff_eq.mp q)
  subst e
  unfold clsIn at hc
  split at hc
  ·rename_i c' d' cd' sl' ho
   have z:=(X _ _ ho).symm.trans htp
   cases z
  ·contradiction
 ca:=fun {_ _ _ _ _ s} X p k=>by
  obtain ⟨o,h1,h2⟩:=p
  obtain ⟨q1,q2,q3,q4,q5,_⟩:=oZ e
  obtain ⟨h,g,d,t,os⟩:=s
  exact zR X h1 h2 q4 q5 q3 q1 q2 k
section
variable {K:Kt} {A:Around} {T:aN} {C:aV} {s:Shared} {α:AL} {σ:ac}
set_option tactic.hygienic true in
theorem yQ {a:PV} {x cv:Value} {sup:List Nat} (ct:Ctx K A T C) (hcv:(∃ q ∈ T.excs,cv=.ref q.2.1/\sup=gS T q.2.1)\/(cv=.type "ValueError" /\ sup=T.excs.map (·.2.1)))
  (r:R K.hb s.heap σ α) (va:VR s.heap α a x):Runs K cr A (call (.builtin "isinstance") [x,cv]) (ud a sup (T.excs.map (·.2.1)) σ) s α:=by
 intro hc tk
 cases a with
 | exc c =>
  have e0:ud (.exc c) sup (T.excs.map (·.2.1)) σ=if (T.excs.map (·.2.1)).contains c then .ok (sup.contains c) σ else .stuck:=rfl
  rw [e0] at hc ⊢
  split at hc
  ·rename_i hd
   rw [if_pos hd]
   cases va with
   | exc e hcl _ _ =>
    obtain ⟨p,hp,hpc⟩:=List.mem_map.mp (List.contains_iff_mem.mp hd)
    obtain ⟨Fg,X,H⟩:=ct.exc
    have he:=(H p hp).2
    rw [hpc] at he
    obtain ⟨_,_,_,_,_,_,q7,q8⟩:=oZ he
    have hk:kitOne Fg (.ref c) cv=some (sup.contains c):=by
     rcases hcv with ⟨q,hq,rfl,rfl⟩ | ⟨rfl,rfl⟩
     ·exact q7 q hq
     ·rw [hd]; exact q8
    exact kia_one (afg he) (X.keeps r.base) ⟨_,e,hcl⟩ hk (by simp) fun tk=>⟨_,σ,α,rfl,.refl,r,rfl,⟨rfl,rfl⟩⟩
  ·exact absurd rfl hc
 | _=>exact absurd rfl hc
end
end Mine
namespace Mine
open PySem PyProof.Rows
section
variable {K:Kt} {A:Around} {β γ rq γ':Type} {Rel:Heap->AL->β->γ->Prop} {Rel':Heap->AL->rq->γ'->Prop} {s:Shared} {α:AL} {σ:ac}
theorem afK {a:β} {f:β->ac->af rq}:(af.ok a σ).bind f=f a σ:=rfl
theorem a6.lift {c:af β} {s₁:Shared} {α₁:AL} {y:γ} {s':Shared} (x:aD [] α s.heap α₁ s₁.heap) (m:Sm s s₁) (p:a6 K Rel c s₁ α₁ y s'):a6 K Rel c s α y s':=by
 obtain ⟨b,σ',α',e,x',r,v,m'⟩:=p
 exact ⟨b,σ',α',e,x.trans x',r,v,m.trans m'⟩
theorem aY.bind {c:af β} {f:β->ac->af rq} {y:Value} {s':Shared} (p:aY K A c s α y s'):aY K A (c.bind f) s α y s':=by
 obtain ⟨i,σ',e,fx⟩:=p
 exact ⟨i,σ',by rw [e]; rfl,fx⟩
theorem Runs.useL {t:Sem γ} {c:af β} {f:β->ac->af rq} {W:γ->Shared->Prop} {dJ:Shared} {eF:AL} (abe:aD [] eF dJ.heap α s.heap) (abT:Sm dJ s) (H:Runs K Rel A t c s α) (hc:c.bind f ≠ .stuck) (tk:K.Tk s)
  (N:∀ b σ' α' y s',c=.ok b σ'->f b σ' ≠ .stuck->aD [] α s.heap α' s'.heap->R K.hb s'.heap σ' α'->Rel s'.heap α' b y->Sm s s'->K.Tk s'->W y s'):wpAny (model K.prog K.w) A t W (aY K A (c.bind f) dJ eF) s:=by
 have h1:c ≠ .stuck:=by rintro rfl; exact hc rfl
 refine wpAny_mono (cb (H h1 tk)) (fun y s' hp=>?_) fun e s' hx=>(hx.1.lift abe abT).bind
 obtain ⟨⟨b,σ',α',rfl,x,r,v,m⟩,tl⟩:=hp
 exact N b σ' α' y s' rfl hc x r v m (Kt.Tk.up tk tl)
theorem Runs.endL {t:Sem γ} {c:af β} {dJ:Shared} {eF:AL} (abe:aD [] eF dJ.heap α s.heap) (abT:Sm dJ s) (H:Runs K Rel A t c s α) (hc:c ≠ .stuck) (tk:K.Tk s):wpAny (model K.prog K.w) A t (a6 K Rel c dJ eF) (aY K A c dJ eF) s:=
 wpAny_mono (H hc tk) (fun zz zz h=>h.lift abe abT) fun zz zz h=>h.lift abe abT
theorem Runs.use {t:Sem γ} {c:af β} {f:β->ac->af rq} {W:γ->Shared->Prop} (H:Runs K Rel A t c s α) (hc:c.bind f ≠ .stuck) (tk:K.Tk s)
  (N:∀ b σ' α' y s',c=.ok b σ'->f b σ' ≠ .stuck->aD [] α s.heap α' s'.heap->R K.hb s'.heap σ' α'->Rel s'.heap α' b y->Sm s s'->K.Tk s'->W y s'):wpAny (model K.prog K.w) A t W (aY K A (c.bind f) s α) s:=H.useL .refl (.refl s) hc tk N
theorem Runs.boolV {t:Sem Value} {c:af Bool} (H:Runs K cr A t c s α):Runs K VR A t (c.bind fun b σ=>.ok (.bool b) σ) s α:=by
 intro hc tk
 have h1:c ≠ .stuck:=by rintro rfl; exact hc rfl
 refine wpAny_mono (H h1 tk) (fun y s' hp=>?_) fun e s' hx=>hx.bind
 obtain ⟨b,σ',α',rfl,x,r,v,m⟩:=hp
 exact ⟨_,_,_,rfl,x,r,v.vr,m⟩
end
section
variable {K:Kt} {A:Around} {T:aN} {C:aV} {f:List (Str × NameKind)->Expr->Option X} {N:List (Str × NameKind)} {env:Env} {ρ:aq} {σ:ac} {s:Shared} {α:AL}
theorem j7 {g:Str} (h:fN N g=true):∃ i:Nat,N[i]?=some (g,NameKind.globalImplicit):=by
 unfold fN at h
 obtain ⟨i,_,hi⟩:=gj (by simpa using h)
 exact ⟨i,hi⟩
theorem dz {g:Str} {bv:Value} {p:Pos} {Q X:Value->Shared->Prop} (c:Ctx K A T C) (hg:fN N g=true) (hbin:g ∈ T.bins) (hv:i6 g=some bv) (hN:env.scope.names=N) (E:xS env) (r:R K.hb s.heap σ α) (h:Q bv s):wpAny (model K.prog K.w) A (eval (.Name g p) env) Q X s:=by
 obtain ⟨hm,v,hv1,hmb⟩:=c.bin _ hbin
 obtain ⟨j,hj⟩:=j7 hg
 obtain rfl:=oi (hv.symm.trans hv1)
 exact ae8 c.hK r E (hN ▸ hj) hm hmb h
theorem zD {g:Str} {args:List Expr} {p pos:Pos} {i:Nat} {xs:X} (c:Ctx K A T C) (S:SE K A C f) (hi:T.fns[i]?=some g) (hg:fN N g=true) (hne:args ≠ []) (h:eM (f N) args=some xs)
  (hN:env.scope.names=N) (hn:aI K.hb env) (E:ai env ρ s.heap α) (r:R K.hb s.heap σ α) :
  Runs K VR A (eval (.Call (.Name g p) args [] pos) env) ((evs C xs ρ σ).bind fun vs σ=>C.call i vs σ) s α:=by
 intro hc tk
 obtain ⟨a,o,fd,hm,ho,hd,hcall⟩:=c.fn i g hi
 obtain ⟨j,hj⟩:=j7 hg
 refine wpAny_Call_Name_kw (gI c.hK r E.ok (by rw [hN]; exact hj) hm ?_)
 cases args with
 | nil=>exact absurd rfl hne
 | cons e es =>
  have H:=gM (pos:=pos) S h hN hn E r
  obtain ⟨a',b',ha',hb',_⟩:=eK h
  rw [bK (S N e a' ha').1] at H ⊢
  refine Calls.callWith_function (o:=o) (fd:=fd) (Calls.evalArgs_plain (Runs.use H hc tk fun vs σ' α' us s' e1 hc' x' r' v' m' tk'=>?_))
  refine ⟨⟨r'.base _ _ ho,hd⟩,?_⟩
  rw [e1]
  exact (hcall vs us s' σ' α' r' v').endL x' m' hc' tk'
theorem afN {fz:Bool} {g:Str} {b:B1} (h:uR fz g=some b):i6 g=some (pa b):=
 (show ∀ p ∈ aco fz,i6 p.1=some (pa p.2) from (by repeat (first | refine List.forall_mem_cons.mpr ⟨rfl,?_⟩ | exact fun zz h=>nomatch h))) _ (eW h)
theorem afM {g:Str} {t:Ty} (h:x9 g=some t):i6 g=abi t:=
 (show ∀ p ∈ afY,i6 p.1=abi p.2 from (by repeat (first | refine List.forall_mem_cons.mpr ⟨rfl,?_⟩ | exact fun zz h=>nomatch h))) _ (eW h)
noncomputable def adG (b:B1):Bool:=
 match pa b with
 | .none=>true
 | _=>false
theorem qH {fz:Bool} {g:Str} {b:B1} (h:uR fz g=some b):pa b ≠ .none:=by
 have h:=(show ∀ p ∈ aco fz,adG p.2=false from (by repeat (first | refine List.forall_mem_cons.mpr ⟨rfl,?_⟩ | exact fun zz h=>nomatch h))) _ (eW h)
 intro e
 unfold adG at h
 rw [e] at h
 contradiction
theorem aee {hd:Bool} {b:B1} {a:PV} {σ:ac} (h:lW hd b a σ ≠ .stuck):(xO b=true->hd=false)/\lW hd b a σ=cK b a σ:=by
 unfold lW at h ⊢
 cases hd with
 | false=>exact ⟨fun zz=>rfl,rfl⟩
 | true =>
  cases hb:xO b with
  | false=>exact ⟨fun q=>(by contradiction),rfl⟩
  | true=>rw [hb] at h; exact absurd rfl h
theorem afO {g:Str} {a:Expr} {p pos:Pos} {fz:Bool} {b:B1} {x:X} (c:Ctx K A T C) (S:SE K A C f) (hb:uR fz g=some b) (hg:fN N g=true) (hbin:g ∈ T.bins) (h:f N a=some x)
  (hN:env.scope.names=N) (hn:aI K.hb env) (E:ai env ρ s.heap α) (r:R K.hb s.heap σ α) :
  Runs K VR A (eval (.Call (.Name g p) [a] [] pos) env) ((ev C x ρ σ).bind fun v σ=>lW C.hd b v σ) s α:=by
 intro hc tk
 obtain ⟨hp,H⟩:=S N a x h
 have H:=(H env ρ σ s α hN hn E r).1
 refine wpAny_Call_Name_kw (dz c hg hbin (afN hb) hN E.ok r ?_)
 rw [bK hp]
 have fin:wpAny (model K.prog K.w) A (eval a env) (fun y s'=>wpAny (model K.prog K.w) A (call (pa b) [y]) (a6 K VR ((ev C x ρ σ).bind fun v σ=>lW C.hd b v σ) s α) (aY K A ((ev C x ρ σ).bind fun v σ=>lW C.hd b v σ) s α) s') (aY K A ((ev C x ρ σ).bind fun v σ=>lW C.hd b v σ) s α) s:=by
  refine Runs.use H hc tk fun v σ' α' y s' e1 hc' x' r' v' m' tk'=>?_
  rw [e1]
  obtain ⟨z1,z2⟩:=aee hc'
  show wpAny _ _ _ (a6 K VR (lW C.hd b v σ') s α) (aY K A (lW C.hd b v σ') s α) _
  rw [z2] at hc' ⊢
  exact (aed (qH hb) c.hA (fun q=>c.hd (z1 q)) r' v').endL x' m' hc' tk'
 cases b with
 | lenset=>exact absurd rfl (qH hb)
 | dict=>exact absurd rfl (qH hb)
 | len=>exact PySem.callWith_builtin1 fin
 | sum=>exact PySem.callWith_builtin1 fin
 | min=>exact PySem.callWith_builtin1 fin
 | max=>exact PySem.callWith_builtin1 fin
 | all=>exact PySem.callWith_builtin1 fin
 | list _=>exact PySem.callWith_type1 fin
 | tuple=>exact PySem.callWith_type1 fin
 | int=>exact PySem.callWith_type1 fin
 | str=>exact PySem.callWith_type1 fin
theorem w6 {t:Str} {ty:Ty} {a:Expr} {p p2 pos:Pos} {x:X} (c:Ctx K A T C) (S:SE K A C f) (hb:x9 t=some ty) (hg:fN N "isinstance" = true) (hbin:("isinstance" : Str) ∈ T.bins)
  (hgt:fN N t=true) (hbt:t ∈ T.bins) (h:f N a=some x)
  (hN:env.scope.names=N) (hn:aI K.hb env) (E:ai env ρ s.heap α) (r:R K.hb s.heap σ α) :
  Runs K VR A (eval (.Call (.Name "isinstance" p) [a,.Name t p2] [] pos) env) ((ev C x ρ σ).bind fun v σ=>(fB v ty σ).bind fun b σ=>.ok (.bool b) σ) s α:=by
 intro hc tk
 obtain ⟨_,v2,hv2,_⟩:=c.bin _ hbt
 have hty:=(afM hb).symm.trans hv2
 obtain ⟨hp,H⟩:=S N a x h
 have H:=(H env ρ σ s α hN hn E r).1
 refine wpAny_Call_Name_kw (dz c hg hbin rfl hN E.ok r ?_)
 rw [bK hp]
 refine Calls.callWith_builtin rfl (Calls.evalArgs_plain (Calls.spliced_cons ?_))
 refine Runs.use H hc tk fun v σ' α' y s' e1 hc' x' r' v' m' tk'=>?_
 rw [e1]
 exact Calls.spliced_cons (dz c hgt hbt hv2 hN E.ok r' (Calls.spliced_nil ((yP hty r' v').boolV.endL x' m' hc' tk')))
theorem sR {x:Str} {c:Nat} (h:oY T N x=some c):fN N x=true/\∃ q ∈ T.excs,q.1=x/\q.2.1=c:=by
 unfold oY at h
 refine aB h fun hg h=>⟨hg,?_⟩
 exact b6 (M:=fun c=>∃ q ∈ T.excs,q.1=x/\q.2.1=c) h fun q hq=>⟨(x,q),eW hq,rfl,rfl⟩
theorem yR {t:Str} {sup:List Nat} {a:Expr} {p p2 pos:Pos} {x:X} (c:Ctx K A T C) (S:SE K A C f) (hsup:zv T N t=some sup) (hg:fN N "isinstance" = true) (hbin:("isinstance" : Str) ∈ T.bins)
  (h:f N a=some x) (hN:env.scope.names=N) (hn:aI K.hb env) (E:ai env ρ s.heap α) (r:R K.hb s.heap σ α) :
  Runs K VR A (eval (.Call (.Name "isinstance" p) [a,.Name t p2] [] pos) env) ((ev C x ρ σ).bind fun v σ=>(ud v sup (T.excs.map (·.2.1)) σ).bind fun b σ=>.ok (.bool b) σ) s α:=by
 intro hc tk
 have nm:∃ cv,((∃ q ∈ T.excs,cv=.ref q.2.1/\sup=gS T q.2.1)\/(cv=.type "ValueError" /\ sup=T.excs.map (·.2.1))) ∧
   ∀ {s':Shared} {σ':ac} {α':AL} {Q X:Value->Shared->Prop},R K.hb s'.heap σ' α'->Q cv s'->wpAny (model K.prog K.w) A (eval (.Name t p2) env) Q X s':=by
  unfold zv at hsup
  refine eU hsup (fun c' hc' hsup=>?_) fun zz hsup=>aB hsup fun hb hsup=>?_
  ·obtain rfl:=oi hsup
   obtain ⟨hg',q,hq,rfl,rfl⟩:=sR hc'
   obtain ⟨j2,hj2⟩:=j7 hg'
   obtain ⟨Fg,X,H⟩:=c.exc
   exact ⟨_,.inl ⟨q,hq,rfl,rfl⟩,fun r' k=>gI c.hK r' E.ok (by rw [hN]; exact hj2) (H q hq).1.mg k⟩
  ··obtain rfl:=oi hsup
    simp only [yS,Bool.and_eq_true,beq_iff_eq] at hb
    obtain ⟨rfl,hg',hb'⟩:=hb
    exact ⟨_,.inr ⟨rfl,rfl⟩,fun r' k=>dz c hg' (by simpa using hb') rfl hN E.ok r' k⟩
 obtain ⟨cv,hcv,nm⟩:=nm
 obtain ⟨hp,H⟩:=S N a x h
 have H:=(H env ρ σ s α hN hn E r).1
 refine wpAny_Call_Name_kw (dz c hg hbin rfl hN E.ok r ?_)
 rw [bK hp]
 refine Calls.callWith_builtin rfl (Calls.evalArgs_plain (Calls.spliced_cons ?_))
 refine Runs.use H hc tk fun v σ' α' y s' e1 hc' x' r' v' m' tk'=>?_
 rw [e1]
 exact Calls.spliced_cons (nm r' (Calls.spliced_nil ((yQ c hcv r' v').boolV.endL x' m' hc' tk')))
theorem acn {o:Op} {l r':Expr} {op:Operator} {pos:Pos} {a b:X} (c:Ctx K A T C) (S:SE K A C f) (ho:aib op=some o) (h1:f N l=some a) (h2:f N r'=some b)
  (hN:env.scope.names=N) (hn:aI K.hb env) (E:ai env ρ s.heap α) (r:R K.hb s.heap σ α) :
  Runs K VR A (eval (.BinOp l op r' pos) env) (ev C (.bin o a b) ρ σ) s α:=by
 have hop:op=aix o:=by cases op <;> cases ho <;> rfl
 subst hop
 rw [arm_eval_BinOp]
 refine Runs.bind ((S N l a h1).2 env ρ σ s α hN hn E r).1 fun va σ₁ α₁ y s₁ e1 x1 r1 v1 m1=>?_
 refine Runs.bind (Runs.holding ((S N r' b h2).2 env ρ σ₁ s₁ α₁ hN hn (E.ext x1 .nil) r1).1) fun vb σ₂ aM y2 aw e2 x2 r2 v2 m2=>?_
 exact Runs.standAt (Runs.operate (aax c.hA r2 (v1.ext x2) v2))
theorem aci {o:Cm} {l r':Expr} {op:CmpOp} {pos:Pos} {a b:X} (c:Ctx K A T C) (S:SE K A C f) (ho:u8 op=some o) (h1:f N l=some a) (h2:f N r'=some b)
  (hN:env.scope.names=N) (hn:aI K.hb env) (E:ai env ρ s.heap α) (r:R K.hb s.heap σ α) :
  Runs K VR A (eval (.Compare l [op] [r'] pos) env) (ev C (.cmp a o b) ρ σ) s α/\Runs K dI A (isTrue (.Compare l [op] [r'] pos) env (eval (.Compare l [op] [r'] pos) env)) (tst C (.cmp a o b) ρ σ) s α:=by
 have hop:op=fV o:=by cases op <;> cases ho <;> rfl
 subst hop
 obtain ⟨hp2,H2⟩:=S N r' b h2
 have hmk:markedBehindIn (fV o) r' (eval r' env)=eval r' env:=by unfold markedBehindIn; rw [rA hp2]
 constructor
 ·rw [arm_eval_Compare]
  refine Runs.bind ((S N l a h1).2 env ρ σ s α hN hn E r).1 fun va σ₁ α₁ y s₁ e1 x1 r1 v1 m1=>?_
  show Runs K VR A (do let rv <- holding [y] (markedBehindIn (fV o) r' (eval r' env)); standAt pos; operate [y,rv] (compareOp (fV o) y rv)) _ _ _
  rw [hmk]
  refine Runs.bind (Runs.holding (H2 env ρ σ₁ s₁ α₁ hN hn (E.ext x1 .nil) r1).1) fun vb σ₂ aM y2 aw e2 x2 r2 v2 m2=>Runs.standAt (Runs.operate ?_)
  exact (ew c.hK c.hA r2 (v1.ext x2) v2).boolV
 ·rw [arm_isTrue_Compare]
  refine Runs.bind ((S N l a h1).2 env ρ σ s α hN hn E r).1 fun va σ₁ α₁ y s₁ e1 x1 r1 v1 m1=>?_
  show Runs K dI A (do let rv <- holding [y] (markedBehindIn (fV o) r' (eval r' env)); standAt pos; let c <- operate [y,rv] (compareOp (fV o) y rv); holding [c] (truthy c)) _ _ _
  rw [hmk]
  refine Runs.bind (Runs.holding (H2 env ρ σ₁ s₁ α₁ hN hn (E.ext x1 .nil) r1).1) fun vb σ₂ aM y2 aw e2 x2 r2 v2 m2=>Runs.standAt ?_
  intro hc tk
  refine wpAny_bind (wpAny_operating (wpAny_mono (ew c.hK c.hA r2 (v1.ext x2) v2 hc tk) (fun y s'' hp=>?_) fun e s'' hx=>hx))
  obtain ⟨bb,ez,iw,e3,x3,r3,v3,m3⟩:=hp
  have:y=.bool bb:=v3
  subst this
  exact wpAny_holding (wpAny_truthy_bool ⟨bb,ez,iw,e3,x3,r3,rfl,m3⟩)
theorem Runs.release {vs ks:List Value} {β γ:Type} {Rel:Heap->AL->β->γ->Prop} {t:Sem γ} {c:af β}
  (H:Runs K Rel A t c s α):Runs K Rel A (do PySem.release vs ks; t) c s α:=
 fun h tk=>wpAny_bind (wpAny_release' (H h tk))
end
end Mine
namespace Mine
open PySem PyProof.Rows
section
variable {K:Kt} {A:Around} {T:aN} {C:aV} {f:List (Str × NameKind)->Expr->Option X} {N:List (Str × NameKind)} {env:Env} {ρ:aq} {σ:ac} {s:Shared} {α:AL}
theorem aau {o o2:Cm} {l r' r2':Expr} {op op2:CmpOp} {pos:Pos} {a b b2:X} (c:Ctx K A T C) (S:SE K A C f) (ho:u8 op=some o) (ho2:u8 op2=some o2) (h1:f N l=some a) (h2:f N r'=some b) (h3:f N r2'=some b2)
  (hN:env.scope.names=N) (hn:aI K.hb env) (E:ai env ρ s.heap α) (r:R K.hb s.heap σ α) :
  Runs K VR A (eval (.Compare l [op,op2] [r',r2'] pos) env) (ev C (.cmp2 a o b o2 b2) ρ σ) s α/\Runs K dI A (isTrue (.Compare l [op,op2] [r',r2'] pos) env (eval (.Compare l [op,op2] [r',r2'] pos) env)) (tst C (.cmp2 a o b o2 b2) ρ σ) s α:=by
 have hop:op=fV o:=by cases op <;> cases ho <;> rfl
 subst hop
 have hop2:op2=fV o2:=by cases op2 <;> cases ho2 <;> rfl
 subst hop2
 obtain ⟨hp2,H2⟩:=S N r' b h2
 obtain ⟨hp3,H3⟩:=S N r2' b2 h3
 have hmk:markedBehindIn (fV o2) r2' (eval r2' env)=eval r2' env:=by unfold markedBehindIn; rw [rA hp3]
 constructor
 ·rw [arm_eval_Compare]
  refine Runs.bind ((S N l a h1).2 env ρ σ s α hN hn E r).1 fun va σ₁ α₁ y s₁ e1 x1 r1 v1 m1=>?_
  show Runs K VR A (do let rv <- holding [y] (eval r' env); standAt pos; let c <- holding [y,rv] (compareOp (fV o) y rv); release [y,rv] [c]; if <- holding [c,rv] (truthy c) then (do let rv' <- holding [rv] (markedBehindIn (fV o2) r2' (eval r2' env)); standAt pos; operate [rv,rv'] (compareOp (fV o2) rv rv')) else pure c) _ _ _
  rw [hmk]
  refine Runs.bind (Runs.holding (H2 env ρ σ₁ s₁ α₁ hN hn (E.ext x1 .nil) r1).1) fun vb σ₂ aM y2 aw e2 x2 r2 v2 m2=>Runs.standAt ?_
  refine Runs.bind (Runs.holding (ew c.hK c.hA r2 (v1.ext x2) v2)) fun bb σ₃ n7 y3 b5 e3 x3 r3 v3 m3=>Runs.release ?_
  have:y3=.bool bb:=v3
  subst this
  intro hc tk
  refine wpAny_bind (wpAny_holding (wpAny_truthy_bool ?_))
  cases bb with
  | false=>exact wpAny_pure ⟨_,_,_,rfl,.refl,r3,.bool _,.refl _⟩
  | true =>
   refine (Runs.bind (Runs.holding (H3 env ρ σ₃ b5 n7 hN hn (((E.ext x1 .nil).ext x2 .nil).ext x3 .nil) r3).1) fun vc σ₄ n5 y4 l9 e4 x4 r4 v4 m4=>Runs.standAt (Runs.operate ?_)) hc tk
   exact (ew c.hK c.hA r4 ((v2.ext x3).ext x4) v4).boolV
 ·rw [arm_isTrue_Compare]
  refine Runs.bind ((S N l a h1).2 env ρ σ s α hN hn E r).1 fun va σ₁ α₁ y s₁ e1 x1 r1 v1 m1=>?_
  show Runs K dI A (do let rv <- holding [y] (eval r' env); standAt pos; let c <- holding [y,rv] (compareOp (fV o) y rv); release [y,rv] [c]; if <- holding [c,rv] (truthy c) then (do let rv' <- holding [rv] (markedBehindIn (fV o2) r2' (eval r2' env)); standAt pos; let c <- operate [rv,rv'] (compareOp (fV o2) rv rv'); holding [c] (truthy c)) else pure false) _ _ _
  rw [hmk]
  refine Runs.bind (Runs.holding (H2 env ρ σ₁ s₁ α₁ hN hn (E.ext x1 .nil) r1).1) fun vb σ₂ aM y2 aw e2 x2 r2 v2 m2=>Runs.standAt ?_
  refine Runs.bind (Runs.holding (ew c.hK c.hA r2 (v1.ext x2) v2)) fun bb σ₃ n7 y3 b5 e3 x3 r3 v3 m3=>Runs.release ?_
  have:y3=.bool bb:=v3
  subst this
  intro hc tk
  refine wpAny_bind (wpAny_holding (wpAny_truthy_bool ?_))
  cases bb with
  | false=>exact wpAny_pure ⟨_,_,_,rfl,.refl,r3,rfl,.refl _⟩
  | true =>
   refine (Runs.bind (Runs.holding (H3 env ρ σ₃ b5 n7 hN hn (((E.ext x1 .nil).ext x2 .nil).ext x3 .nil) r3).1) fun vc σ₄ n5 y4 l9 e4 x4 r4 v4 m4=>Runs.standAt ?_) hc tk
   intro hc tk
   refine wpAny_bind (wpAny_operating (wpAny_mono (ew c.hK c.hA r4 ((v2.ext x3).ext x4) v4 hc tk) (fun y s'' hp=>?_) fun e s'' hx=>hx))
   obtain ⟨bb,ez,iw,e3,x3,r3,v3,m3⟩:=hp
   have:y=.bool bb:=v3
   subst this
   exact wpAny_holding (wpAny_truthy_bool ⟨bb,ez,iw,e3,x3,r3,rfl,m3⟩)
theorem abO {e:Expr} {pos:Pos} {x:X} (S:SE K A C f) (h1:f N e=some x)
  (hN:env.scope.names=N) (hn:aI K.hb env) (E:ai env ρ s.heap α) (r:R K.hb s.heap σ α) :
  Runs K VR A (eval (.UnaryOp .Not e pos) env) (ev C (.not x) ρ σ) s α/\Runs K dI A (isTrue (.UnaryOp .Not e pos) env (eval (.UnaryOp .Not e pos) env)) (tst C (.not x) ρ σ) s α:=by
 have H:=(S N e x h1).2 env ρ σ s α hN hn E r
 constructor
 ·rw [arm_eval_UnaryOp]
  refine Runs.bind H.1 fun v σ₁ α₁ y s₁ e1 x1 r1 v1 m1=>Runs.standAt (Runs.holding ?_)
  intro hc tk
  have h3:cU v σ₁ ≠ .stuck:=by intro q; rw [q] at hc; exact hc rfl
  refine not_value (wpAny_mono (iT r1 v1 h3 tk) (fun b s'' hp=>?_) fun e s'' hx=>hx.bind)
  obtain ⟨bb,ez,iw,e3,x3,r3,v3,m3⟩:=hp
  have:b=bb:=v3
  subst this
  exact ⟨.bool (!b),ez,iw,by simp [af.bind,e3],x3,r3,.bool _,m3⟩
 ·rw [arm_isTrue_UnaryOp]
  refine Runs.bind H.2 fun b σ₁ α₁ y s₁ e1 x1 r1 v1 m1=>?_
  have:y=b:=v1
  subst this
  exact Runs.pure r1 rfl
theorem abQ {e:Expr} {pos:Pos} {x:X} (S:SE K A C f) (h1:f N e=some x)
  (hN:env.scope.names=N) (hn:aI K.hb env) (E:ai env ρ s.heap α) (r:R K.hb s.heap σ α) :
  Runs K VR A (eval (.UnaryOp .USub e pos) env) (ev C (.neg x) ρ σ) s α:=by
 rw [arm_eval_UnaryOp]
 exact Runs.bind ((S N e x h1).2 env ρ σ s α hN hn E r).1 fun v σ₁ α₁ y s₁ e1 x1 r1 v1 m1=>Runs.standAt (Runs.holding (adj r1 v1))
theorem aan {es:List Expr} {pos:Pos} {xs:X} {fz:Bool} (S:SE K A C f) (h:eM (f N) es=some xs)
  (hN:env.scope.names=N) (hn:aI K.hb env) (E:ai env ρ s.heap α) (r:R K.hb s.heap σ α) :
  Runs K VR A (eval (.List es pos) env) (ev C (.lst fz xs) ρ σ) s α:=by
 rw [arm_eval_List]
 exact Runs.standAt (Runs.bind (gM S h hN hn E r) fun vs σ₁ α₁ us s₁ e1 x1 r1 v1 m1=>wZ r1 v1)
theorem abj {es:List Expr} {k:Nat} {pos:Pos} {xs:X} (S:SE K A C f) (h:eM (f N) es=some xs)
  (hN:env.scope.names=N) (hn:aI K.hb env) (E:ai env ρ s.heap α) (r:R K.hb s.heap σ α) :
  Runs K VR A (eval (.Tuple es k pos) env) (ev C (.tup xs) ρ σ) s α:=by
 rw [arm_eval_Tuple]
 exact Runs.standAt (Runs.bind (gM S h hN hn E r) fun vs σ₁ α₁ us s₁ e1 x1 r1 v1 m1=>vk r1 v1)
theorem aby {o i:Expr} {pos:Pos} {x y:X} (c:Ctx K A T C) (S:SE K A C f) (hns:∀ l u st p,i ≠ .Slice l u st p) (h1:f N o=some x) (h2:f N i=some y)
  (hN:env.scope.names=N) (hn:aI K.hb env) (E:ai env ρ s.heap α) (r:R K.hb s.heap σ α) :
  Runs K VR A (eval (.Subscript o i pos) env) (ev C (.sub x y) ρ σ) s α:=by
 rw [arm_eval_Subscript]
 refine Runs.bind ((S N o x h1).2 env ρ σ s α hN hn E r).1 fun va σ₁ α₁ y1 s₁ e1 x1 r1 v1 m1=>?_
 refine Runs.bind (Runs.holding ((S N i y h2).2 env ρ σ₁ s₁ α₁ hN hn (E.ext x1 .nil) r1).1) fun vb σ₂ aM y2 aw e2 x2 r2 v2 m2=>Runs.standAt ?_
 exact abx c.hA (fun l u p=>hns l u none p) r2 (v1.ext x2) v2
theorem o9 {o:Expr} {m:Str} {whole:Sem Value} (h:iC o=true):attributeBase o m env whole=whole:=by
 cases o with
 | Call f a k p =>
  cases a with
  | nil=>contradiction
  | cons x r=>cases f <;> rfl
 | _=>rfl
theorem acr {r:Nat} {a:Addr} {v:PV} {u:Value} {xs:List PV} (zN:R K.hb s.heap σ α) (ea:α.ix[r]?=some a) (hs:σ[r]?=some (.lst xs)) (hl:xs.length < au) (vu:VR s.heap α v u) {X:Value->Shared->Prop} :
  wpAny (model K.prog K.w) A (call (.builtin "list.append") [.ref a,u]) (a6 K VR (.ok .none (σ.set r (.lst (xs++[v])))) s α) X s:=by
 obtain ⟨am,n,e1,w⟩:=zN.obj r _ a hs ea
 refine wpAny_list_append_plain ⟨n,e1⟩ (fun h' hl' sb=>?_) (by simp; rw [<- w.1]; exact cq (Nat.le_of_lt hl))
 obtain ⟨n',e'⟩:=hl'
 obtain ⟨r',x'⟩:=zN.set (m:=.lst (xs++[v])) ea (fun b o hb e=>(sb.2 b hb).trans e) e' fun x'=>⟨am++[u],n',by rw [e']; simp,(w.snoc vu).ext x'⟩
 exact ⟨.none,_,α,rfl,x',r',.none,⟨rfl,rfl⟩⟩
end
end Mine
namespace Mine
open PySem PyProof.Rows
noncomputable def meT:Me->String
 | .get => "dict"
 | _ => "list"
noncomputable def abW:Me->String
 | .append => "list.append" | .extend => "list.extend"
 | .get => "dict.get"
noncomputable def meN:Me->Str
 | .append => "append" | .extend => "extend"
 | .get => "get"
theorem adt {x:Str} {m:Me} (h:yN x=some m):x=meN m:=
 (show ∀ p ∈ agc,p.1=meN p.2 from (by repeat (first | refine List.forall_mem_cons.mpr ⟨rfl,?_⟩ | exact fun zz h=>nomatch h))) _ (eW h)
section
variable {K:Kt} {A:Around} {s:Shared} {α:AL} {σ:ac}
theorem ah8 {h:Heap} {a:Addr} {am:Array Value} {n:Nat} {g:Array Value->Array Value} (e:h.get? a=some { cls:=.type "list",data:=.seq am n }) :
  ∃ n',(h.update a (Obj.mapSeq g)).get? a=some { cls:=.type "list",data:=.seq (g am) n' }:=by
 exact ⟨_,Heap.get?_update_self (Obj.mapSeq g) e rfl⟩
theorem ah7 {h:Heap} {a b:Addr} {g:Obj->Obj} (hb:b ≠ a):(h.update a g).get? b=h.get? b:=Heap.get?_update_ne h b a g hb
theorem uJ {r:Nat} {a b:Addr} {xs ys:List PV} {vs:List Value} {m:Nat} {T:String} (hT:T = "tuple" \/ T = "list") (zN:R K.hb s.heap σ α) (ea:α.ix[r]?=some a) (hs:σ[r]?=some (.lst xs)) (hl:xs.length + ys.length <= au)
  (e2:s.heap.get? b=some { cls:=.type T,data:=.seq vs.toArray m }) (w2:aO s.heap α ys vs) {X:Value->Shared->Prop} :
  wpAny (model K.prog K.w) A (call (.builtin "list.extend") [.ref a,.ref b]) (a6 K VR (.ok .none (σ.set r (.lst (xs++ys)))) s α) X s:=by
 obtain ⟨am,n,e1,w⟩:=zN.obj r _ a hs ea
 have hlen:=w.1
 have hlen2:=w2.1
 have hln:=cq hl
 have hll:=qY hl
 have door:¬(!am.toArray.isEmpty && Builtin.List.listTooLong (am.toArray.size + vs.toArray.size))=true:=by
  rw [List.size_toArray,List.size_toArray,<- hlen,<- hlen2]
  have:Builtin.List.listTooLong (xs.length + ys.length)=false:=by unfold Builtin.List.listTooLong; simpa using hln
  rw [this]; simp
 have fin:a6 K VR (.ok .none (σ.set r (.lst (xs++ys)))) s α .none { s with heap:=s.heap.update a (Obj.mapSeq fun x=>x++vs.toArray) }:=by
  obtain ⟨n',e'⟩:=ah8 (g:=fun x=>x++vs.toArray) e1
  have e3:am.toArray++vs.toArray=(am++vs).toArray:=by simp
  simp only [e3] at e'
  obtain ⟨r',x'⟩:=zN.set (m:=.lst (xs++ys)) ea (fun b o hb e=>(ah7 hb).trans e) e' fun x'=>⟨_,n',e',(w.append w2).ext x'⟩
  exact ⟨.none,_,α,rfl,x',r',.none,⟨rfl,rfl⟩⟩
 rcases hT with rfl | rfl
 ·exact call_meets F.slot_list_extend ⟨_,e1,rfl⟩ F.entry_list_extend (F.args_list_extend_2 _ _) (AutoSeq1.list_extend_list_tuple_0 a am.toArray n b vs.toArray m door (by rw [List.size_toArray]; (grind)) (by rw [List.size_toArray,List.size_toArray]; (grind))) ⟨e1,e2,fin⟩
 ·exact call_meets F.slot_list_extend ⟨_,e1,rfl⟩ F.entry_list_extend (F.args_list_extend_2 _ _) (AutoSeq1.list_extend_list_list_0 a am.toArray n b vs.toArray m door (by rw [List.size_toArray]; (grind)) (by rw [List.size_toArray,List.size_toArray]; (grind))) ⟨e1,e2,fin⟩
section
variable {σ:ac} {v:PV} {P:PV->af PV->Prop}
theorem afQ (h0:∀ o,P o .stuck) (h1:∀ r xs,σ[r]?=some (.lst xs)->xs.length < au->P (.ref r) (.ok .none (σ.set r (.lst (xs++[v]))))):∀ o,P o (iP o v σ):=by
 intro o
 cases o with
 | ref r =>
  unfold iP
  dsimp only
  cases hs:σ[r]? with
  | none=>exact h0 _
  | some m =>
   cases m with
   | lst xs =>
    dsimp only
    by_cases hl:xs.length < au
    ·rw [if_pos hl]; exact h1 r xs hs hl
    ·rw [if_neg hl]; exact h0 _
   | _=>exact h0 _
 | _=>exact h0 _
theorem afw {Q:PV->PV->af PV->Prop} (h0:∀ o v,Q o v .stuck) (h1:∀ r xs ys,σ[r]?=some (.lst xs)->xs.length + ys.length <= au->Q (.ref r) (.tup ys) (.ok .none (σ.set r (.lst (xs++ys))))) (h2:∀ r xs ys,σ[r]?=some (.lst xs)->xs.length + ys.length <= au->Q (.ref r) (.fl ys) (.ok .none (σ.set r (.lst (xs++ys))))):∀ o v,Q o v (nU o v σ):=by
 intro o v
 cases o with
 | ref r =>
  unfold nU
  dsimp only
  cases hs:σ[r]? with
  | none=>exact h0 _ _
  | some m =>
   cases m with
   | lst xs =>
    cases v with
    | tup ys =>
     dsimp only
     by_cases hl:xs.length + ys.length <= au
     ·rw [if_pos hl]; exact h1 r xs ys hs hl
     ·rw [if_neg hl]; exact h0 _ _
    | fl ys =>
     dsimp only
     by_cases hl:xs.length + ys.length <= au
     ·rw [if_pos hl]; exact h2 r xs ys hs hl
     ·rw [if_neg hl]; exact h0 _ _
    | _=>exact h0 _ _
   | _=>exact h0 _ _
 | _=>exact h0 _ _
theorem aj0 {Q:PV->PV->af PV->Prop} (h0:∀ o v,Q o v .stuck) (h1:∀ r es k,σ[r]?=some (.ds es)->Q (.ref r) (.str k) (.ok ((ah k es).getD .none) σ)) (h2:∀ r es v k,σ[r]?=some (.dp es)->dZ v=some k->Q (.ref r) v (.ok ((ah k es).getD .none) σ)):∀ o v,Q o v (za o v σ):=by
 intro o v
 cases o with
 | ref r =>
  unfold za
  dsimp only
  cases hs:σ[r]? with
  | none=>exact h0 _ _
  | some m =>
   cases m with
   | ds es =>
    cases v with
    | str k=>exact h1 r es k hs
    | _=>exact h0 _ _
   | dp es =>
    dsimp only
    cases hk:dZ v with
    | none=>exact h0 _ _
    | some k=>exact h2 r es v k hs hk
   | _=>exact h0 _ _
 | _=>exact h0 _ _
end
theorem adq {m:Me} {o v:PV} {x u:Value} (hK:K.Ok) (hA:dv A) (r:R K.hb s.heap σ α) (va:VR s.heap α o x) (vv:VR s.heap α v u):Runs K VR A (call (.builtin (abW m)) [x,u]) (mV m o [v] σ) s α:=by
 cases m with
 | append =>
  exact afQ (P:=fun o c=>VR s.heap α o x->Runs K VR A (call (.builtin "list.append") [x,u]) c s α) (fun zz zz hc=>absurd rfl hc) (fun q xs hs hl va zz zz=>by
   obtain ⟨a,rfl,ea⟩:=va.refE; exact acr r ea hs hl vv) o va
 | extend =>
  exact afw (Q:=fun o v c=>VR s.heap α o x->VR s.heap α v u->Runs K VR A (call (.builtin "list.extend") [x,u]) c s α) (fun zz zz zz zz hc=>absurd rfl hc)
   (fun q xs ys hs hl va vv zz zz=>by
    obtain ⟨a,rfl,ea⟩:=va.refE
    obtain ⟨b,vs,n,rfl,e1,_,w⟩:=vv.tupE
    exact uJ (.inl rfl) r ea hs hl e1 w)
   (fun q xs ys hs hl va vv zz zz=>by
    obtain ⟨a,rfl,ea⟩:=va.refE
    obtain ⟨b,vs,n,rfl,e1,_,w⟩:=vv.flE
    exact uJ (.inr rfl) r ea hs hl e1 w) o v va vv
 | get =>
  exact aj0 (Q:=fun o v c=>VR s.heap α o x->VR s.heap α v u->Runs K VR A (call (.builtin "dict.get") [x,u]) c s α) (fun zz zz zz zz hc=>absurd rfl hc)
   (fun q es k hs va vv zz zz=>by
    obtain ⟨a,rfl,ea⟩:=va.refE
    obtain ⟨_,rfl,_⟩:=vv.strE; exact aiY hK r hs ea)
   (fun q es w k hs hk va vv zz zz=>by
    obtain ⟨a,rfl,ea⟩:=va.refE
    exact aiZ hK hA r hs ea hk vv) o v va vv
theorem afc (m:Me):PlainAttrs (meT m)/\Slot (meT m) (meN m) (abW m)/\typeOf (.builtin (abW m))=pure (.type "method_descriptor"):=by
 cases m
 ·exact ⟨F.plainAttrs_list,F.slot_list_append,F.type_list_append⟩
 ·exact ⟨F.plainAttrs_list,F.slot_list_extend,F.type_list_extend⟩
 ·exact ⟨F.plainAttrs_dict,F.slot_dict_get,F.type_dict_get⟩
set_option tactic.hygienic true in
theorem ahh {m:Me} {o:PV} {x:Value} (r:R K.hb s.heap σ α) (va:VR s.heap α o x) (h:sk m o σ=true):s.TypeIs x (meT m)/\∀ a,x=.ref a->∃ ob,s.heap.get? a=some ob/\ob.dict=none:=by
 have lst:∀ xs,be σ o=some xs->s.TypeIs x "list" /\ ∀ a,x=.ref a->∃ ob,s.heap.get? a=some ob/\ob.dict=none:=fun xs e=>by
  obtain ⟨l,vs,n,rfl,e1,_⟩:=gy r va e
  exact ⟨⟨_,e1,rfl⟩,fun a ha=>by cases ha; exact ⟨_,e1,rfl⟩⟩
 have mutb:jV o σ=true->∃ xs,be σ o=some xs:=fun h=>by
  unfold jV at h
  split at h
  ·split at h
   ·rename_i xs hs; exact ⟨xs,by simp [be,hs]⟩
   ·contradiction
  ·contradiction
 have txt:ajM o=true->s.TypeIs x "str" /\ ∀ a,x=.ref a->∃ ob,s.heap.get? a=some ob/\ob.dict=none:=fun h=>by
  cases o with
  | str z=>obtain ⟨_,rfl,_⟩:=va.strE; exact ⟨typeIs_str _ _ _,fun a ha=>by cases ha⟩
  | _=>contradiction
 cases m with
 | append=>obtain ⟨xs,e⟩:=mutb h; exact lst xs e
 | extend=>obtain ⟨xs,e⟩:=mutb h; exact lst xs e
 | get =>
  change ue o σ=true at h
  unfold ue at h
  split at h
  ·obtain ⟨a,rfl,ea⟩:=va.refE
   split at h
   ·rename_i hs
    obtain ⟨kvs,h1,_⟩:=rd r hs ea
    exact ⟨h1.typeIs,h1.mapOf.noDict⟩
   ·rename_i hs
    obtain ⟨xs,h1,_⟩:=rf r hs ea
    exact ⟨h1.typeIs,dictOfH_noDict h1⟩
   ·contradiction
  ·contradiction
end
section
variable {K:Kt} {A:Around} {T:aN} {C:aV} {f:List (Str × NameKind)->Expr->Option X} {N:List (Str × NameKind)} {env:Env} {ρ:aq} {σ:ac} {s:Shared} {α:AL}
set_option tactic.hygienic true in
theorem adu {m:Me} {mn:Str} {o a:Expr} {apos pos:Pos} {x y:X} (c:Ctx K A T C) (S:SE K A C f) (hm:yN mn=some m) (hline:(apos.endLine == pos.line)=true) (hn0:iC o=true) (h1:f N o=some x) (h2:f N a=some y)
  (hN:env.scope.names=N) (hn:aI K.hb env) (E:ai env ρ s.heap α) (r:R K.hb s.heap σ α) :
  Runs K VR A (eval (.Call (.Attribute o mn apos) [a] [] pos) env) (ev C (.me m x (.cons y .nil)) ρ σ) s α:=by
 rw [adt hm,agx]
 intro hc tk
 obtain ⟨hp,H2⟩:=S N a y h2
 refine Call_method1 (o9 hn0) (bK hp) hline ?_
 refine Runs.use ((S N o x h1).2 env ρ σ s α hN hn E r).1 hc tk fun va σ₁ α₁ y1 s₁ e1 hc1 x1 r1 v1 m1 tk1=>?_
 rw [e1]
 split at hc1
 ·rename_i hok
  obtain ⟨q1,q2,q3⟩:=afc m
  obtain ⟨q4,q5⟩:=ahh r1 v1 hok
  refine ⟨meT m,abW m,q1,q2,q3,q4,q5,?_⟩
  refine Calls.callWith_builtin (by cases m <;> rfl) (Calls.evalArgs_plain (Calls.spliced_cons ?_))
  have ee:∀ {σ:ac},((evs C (.cons y .nil) ρ σ).bind fun vs σ=>mV m va vs σ)=(ev C y ρ σ).bind fun v σ=>mV m va [v] σ:=fun {σ}=>by
   show ((ev C y ρ σ).bind fun v σ=>.ok [v] σ).bind _=_
   cases ev C y ρ σ <;> rfl
  rw [afK,if_pos hok,ee]
  rw [ee] at hc1
  refine Runs.useL x1 m1 (f:=fun v σ=>mV m va [v] σ) (H2 env ρ σ₁ s₁ α₁ hN hn (E.ext x1 .nil) r1).1 hc1 tk1 fun pv σ₂ aM u aw e2 hc2 x2 r2 v2 m2 tk2=>Calls.spliced_nil ?_
  show wpAny _ _ _ (a6 K VR ((ev C y ρ σ₁).bind fun v σ=>mV m va [v] σ) _ _) (aY K A ((ev C y ρ σ₁).bind fun v σ=>mV m va [v] σ) _ _) _
  rw [e2]
  exact (adq c.hK c.hA r2 (v1.ext x2) v2).endL (x1.trans x2) (m1.trans m2) hc2 tk2
 ·exact absurd rfl hc1
end
end Mine
namespace Mine
open PySem PyProof.Rows
theorem aO.drop {h:Heap} {α:AL}:∀ {xs:List PV} {vs:List Value} (k:Nat),aO h α xs vs->aO h α (xs.drop k) (vs.drop k)
 | _,_,0,v=>v
 | [],vs,k + 1,v=>by
  have:vs=[]:=List.eq_nil_of_length_eq_zero v.1.symm
  subst this; exact .nil
 | x::xs,vs,k + 1,v=>by
  obtain ⟨u,us,rfl,v1,v2⟩:=v.inv_cons
  exact v2.drop k
theorem aO.take {h:Heap} {α:AL}:∀ {xs:List PV} {vs:List Value} (k:Nat),aO h α xs vs->aO h α (xs.take k) (vs.take k)
 | _,_,0,v=>.nil
 | [],vs,k + 1,v=>by
  have:vs=[]:=List.eq_nil_of_length_eq_zero v.1.symm
  subst this; exact .nil
 | x::xs,vs,k + 1,v=>by
  obtain ⟨u,us,rfl,v1,v2⟩:=v.inv_cons
  exact .cons v1 (v2.take k)
section
variable {K:Kt} {A:Around} {s:Shared} {α:AL} {σ:ac}
theorem aaO {p:PV} {v:Value} {k:Option Int} (h:eS p=some k) (r:VR s.heap α p v):IsPart v k:=by
 cases p with
 | none=>obtain rfl:=oi h; obtain rfl:=r.noneE; exact .none
 | int i=>obtain rfl:=oi h; obtain ⟨_,rfl⟩:=r.intE; exact .int _ _
 | _=>contradiction
theorem aO.slice {h:Heap} {xs:List PV} {vs:List Value} (v:aO h α xs vs) (lo hi:Option Int):aO h α (bN xs lo hi) (bN vs lo hi):=by
 unfold bN
 rw [v.1]
 exact (v.drop _).take _
theorem abM {vs:List Value} {lo hi:Option Int}:slicePick vs.toArray lo hi none=(bN vs lo hi).toArray:=by
 rw [slicePick_plain]; simp [bN]
noncomputable def fW (s:Shared) (y z:Value):Shared:={ s with heap:=s.heap.push { cls:=.type "slice",data:=.fields #[y,z,.none] } }
section
variable {a v:PV} {lo hi:Option Int} {x y z:Value} {value:Expr} {l u:Option Expr} {p:Pos} {E:Value->Shared->Prop}
theorem tm {b:Addr} {o:Obj} (e:s.heap.get? b=some o):(fW s y z).heap.get? b=some o:=Heap.get?_push_of_some _ e
theorem yq {xs:List PV} (r:R K.hb s.heap σ α) (va:VR s.heap α a x) (pb:IsPart y lo) (pc:IsPart z hi) (e:be σ a=some xs) (hl:xs.length <= au) :
  wpAny (model K.prog K.w) A (subscriptTail value (.Slice l u none p) x (.ref s.heap.objs.size)) (a6 K VR (.ok (.fl (bN xs lo hi)) σ) (fW s y z) α) E (fW s y z):=by
 obtain ⟨ad,vs,n,rfl,e1,w⟩:=gy r va e
 have k:∀ b o,s.heap.get? b=some o->(fW s y z).heap.get? b=some o:=fun zz zz=>tm
 have hL:(fW s y z).heap.IsList ad vs.toArray:=⟨_,k _ _ e1,rfl,n,rfl⟩
 refine tail_any hL.typeIs slot_list_getitem.lookup (wpAny_getItem_list_slice hL (Heap.IsSliceOf.new ..) pb pc .none (by simp) ?_ (by rw [List.size_toArray,<- w.1]; exact cq hl)) rfl
 rw [abM]
 exact a6.fl (r.keeps k) ((w.ext (.keeps (F:=[]) k)).slice lo hi)
theorem acW (h:slV σ a lo hi=some v) (r:R K.hb s.heap σ α) (va:VR s.heap α a x) (pb:IsPart y lo) (pc:IsPart z hi) :
  wpAny (model K.prog K.w) A (subscriptTail value (.Slice l u none p) x (.ref s.heap.objs.size)) (a6 K VR (.ok v σ) (fW s y z) α) E (fW s y z):=by
 have gen:((be σ a).bind fun xs=>if xs.length <= au then some (PV.fl (bN xs lo hi)) else none)=some v->wpAny (model K.prog K.w) A (subscriptTail value (.Slice l u none p) x (.ref s.heap.objs.size)) (a6 K VR (.ok v σ) (fW s y z) α) E (fW s y z):=fun h =>
  aF h fun xs e h=>xL h fun hl h=>oi h ▸ yq r va pb pc e hl
 cases a with
 | _=>exact gen h
end
theorem yn {value:Expr} {l u:Option Expr} {p:Pos} {a b c:PV} {x y z:Value} (r:R K.hb s.heap σ α) (va:VR s.heap α a x) (vb:VR s.heap α b y) (vc:VR s.heap α c z) :
  Runs K VR A (subscriptTail value (.Slice l u none p) x (.ref s.heap.objs.size)) (eQ a b c σ) (fW s y z) α:=by
 intro hc tk
 cases h:(eS b).bind fun lo=>(eS c).bind fun hi=>slV σ a lo hi with
 | none=>unfold eQ at hc; rw [h] at hc; exact absurd rfl hc
 | some v =>
  unfold eQ
  rw [h]
  exact aF h fun lo h1 h=>aF h fun hi h2 h=>acW h r va (aaO h1 vb) (aaO h2 vc)
set_option tactic.hygienic true in
theorem abV {a b:PV} {x y:Value} (hA:dv A) (hh:A.handled=none) (r:R K.hb s.heap σ α) (va:VR s.heap α a x) (vb:VR s.heap α b y):Runs K VR A (call (.builtin "min") [x,y]) (t6 a b σ) s α:=by
 intro hc tk
 cases a with
 | int i =>
  cases b with
  | int j =>
   obtain ⟨_,rfl⟩:=va.intE; obtain ⟨_,rfl⟩:=vb.intE
   refine min_two_ints hh fun h' tk k=>?_
   have:∀ {q:PV} {w:Value},q=.int (min i j)->VR h' α q w->a6 K VR (t6 (.int i) (.int j) σ) s α w { s with heap:=h',toks:=tk }:=fun {q w} e v=>⟨q,σ,α,by rw [e]; rfl,.keeps k,r.keeps k,v,⟨rfl,rfl⟩⟩
   split
   ·rename_i h; exact this (by congr 1; (grind)) (.int j _)
   ·rename_i h; exact this (by congr 1; (grind)) (.int i _)
  | _=>exact absurd rfl hc
 | _=>exact absurd rfl hc
end
section
variable {K:Kt} {A:Around} {T:aN} {C:aV} {f:List (Str × NameKind)->Expr->Option X} {N:List (Str × NameKind)} {env:Env} {ρ:aq} {σ:ac} {s:Shared} {α:AL}
theorem tQ {o:Option Expr} {x:X} (S:SE K A C f) (h:tz (f N) o=some x) (hN:env.scope.names=N) (hn:aI K.hb env) (E:ai env ρ s.heap α) (r:R K.hb s.heap σ α) :
  Runs K VR A (valueOrNone (evalOpt o env)) (ev C x ρ σ) s α:=by
 cases o with
 | none=>obtain rfl:=oi h; exact Runs.pure r .none
 | some e=>exact ((S N e x h).2 env ρ σ s α hN hn E r).1
theorem yp {o:Expr} {lo hi:Option Expr} {p pos:Pos} {x y z:X} (S:SE K A C f) (h1:f N o=some x) (h2:tz (f N) lo=some y) (h3:tz (f N) hi=some z)
  (hN:env.scope.names=N) (hn:aI K.hb env) (E:ai env ρ s.heap α) (r:R K.hb s.heap σ α) :
  Runs K VR A (eval (.Subscript o (.Slice lo hi none p) pos) env) (ev C (.slice x y z) ρ σ) s α:=by
 rw [zx,arm_eval_Subscript]
 refine Runs.bind ((S N o x h1).2 env ρ σ s α hN hn E r).1 fun va σ₁ α₁ u1 s₁ e1 x1 r1 v1 m1=>?_
 rw [arm_eval_Slice]
 intro hc tk
 refine wpAny_bind (wpAny_holding (wpAny_bind ?_))
 refine Runs.use (tQ S h2 hN hn (E.ext x1 .nil) r1) hc tk fun vb σ₂ aM u2 aw e2 hc2 x2 r2 v2 m2 tk2=>?_
 refine wpAny_bind (wpAny_holding ?_)
 rw [e2]
 show wpAny _ _ _ _ (aY K A ((ev C z ρ σ₂).bind fun b σ=>eQ va vb b σ) _ _) _
 refine Runs.useL x2 m2 (tQ S h3 hN hn ((E.ext x1 .nil).ext x2 .nil) r2) hc2 tk2 fun vc σ₃ n7 u3 b5 e3 hc3 x3 r3 v3 m3 tk3=>?_
 refine wpAny_bind (wpAny_holding (wpAny_pure ?_))
 refine wpAny_newObj_type ?_ (by size_fits)
 refine wpAny_bind (wpAny_standAt ?_)
 show wpAny _ _ _ (a6 K VR ((ev C z ρ σ₂).bind _) _ _) (aY K A ((ev C z ρ σ₂).bind _) _ _) _
 rw [e3]
 have mm:=m2.trans m3
 exact (yn (value:=o) (l:=lo) (u:=hi) (p:=p) r3 ((v1.ext x2).ext x3) (v2.ext x3) v3).endL ((x2.trans x3).trans (.keeps fun zz zz=>tm)) ⟨mm.gens,mm.os⟩ hc3 tk3
theorem aak {a b:Expr} {p pos:Pos} {x y:X} (c:Ctx K A T C) (S:SE K A C f) (hg:fN N "min" = true) (hbin:("min" : Str) ∈ T.bins) (h1:f N a=some x) (h2:f N b=some y)
  (hN:env.scope.names=N) (hn:aI K.hb env) (E:ai env ρ s.heap α) (r:R K.hb s.heap σ α) :
  Runs K VR A (eval (.Call (.Name "min" p) [a,b] [] pos) env) (ev C (.min2 x y) ρ σ) s α:=by
 rw [ahT]
 cases hhd:C.hd with
 | true=>exact fun hc=>absurd rfl hc
 | false =>
 simp only [cond_false]
 intro hc tk
 obtain ⟨hp1,H1⟩:=S N a x h1
 obtain ⟨hp2,H2⟩:=S N b y h2
 refine wpAny_Call_Name_kw (dz c hg hbin rfl hN E.ok r ?_)
 rw [bK hp1,bK hp2]
 refine Calls.callWith_builtin rfl (Calls.evalArgs_plain (Calls.spliced_cons ?_))
 refine Runs.use (H1 env ρ σ s α hN hn E r).1 hc tk fun v1 σ₁ α₁ u1 s₁ e1 hc1 x1 r1 w1 m1 tk1=>?_
 rw [e1]
 refine Calls.spliced_cons ?_
 show wpAny _ _ _ _ (aY K A ((ev C y ρ σ₁).bind fun y σ=>t6 v1 y σ) _ _) _
 refine Runs.useL x1 m1 (H2 env ρ σ₁ s₁ α₁ hN hn (E.ext x1 .nil) r1).1 hc1 tk1 fun v2 σ₂ aM u2 aw e2 hc2 x2 r2 w2 m2 tk2=>Calls.spliced_nil ?_
 show wpAny _ _ _ (a6 K VR ((ev C y ρ σ₁).bind _) _ _) (aY K A ((ev C y ρ σ₁).bind _) _ _) _
 rw [e2]
 exact (abV c.hA (c.hd hhd) r2 (w1.ext x2) w2).endL (x1.trans x2) (m1.trans m2) hc2 tk2
set_option tactic.hygienic true in
theorem w5 {a:Expr} {p p2 pos pos2:Pos} {x:X} (c:Ctx K A T C) (S:SE K A C f) (hg:fN N "len" = true) (hbin:("len" : Str) ∈ T.bins) (hg2:fN N "set" = true) (hbin2:("set" : Str) ∈ T.bins) (h:f N a=some x)
  (hN:env.scope.names=N) (hn:aI K.hb env) (E:ai env ρ s.heap α) (r:R K.hb s.heap σ α) :
  Runs K VR A (eval (.Call (.Name "len" p) [.Call (.Name "set" p2) [a] [] pos2] [] pos) env) (ev C (.b1 .lenset x) ρ σ) s α:=by
 rw [agy]
 intro hc tk
 obtain ⟨hp,H⟩:=S N a x h
 refine wpAny_Call_Name_kw (dz c hg hbin rfl hN E.ok r ?_)
 rw [bK (e:=.Call (.Name "set" p2) [a] [] pos2) rfl]
 refine PySem.callWith_builtin1 ?_
 refine wpAny_Call_Name_kw (dz c hg2 hbin2 rfl hN E.ok r ?_)
 rw [bK hp]
 refine PySem.callWith_type1 ?_
 refine Runs.use (H env ρ σ s α hN hn E r).1 hc tk fun v1 σ₁ α₁ u1 s₁ e1 hc1 x1 r1 w1 m1 tk1=>?_
 rw [e1]
 have q:cK .lenset v1 σ₁=match (aZ σ₁ v1).bind dj with
   | some l=>if l.length <= 1000 then .ok (.int (b8 l).length) σ₁ else .stuck
   | none=>.stuck:=by cases v1 <;> rfl
 obtain ⟨z1,z2⟩:=aee hc1
 have hhd:=z1 rfl
 show wpAny _ _ _ (fun v s₁=>wpAny _ _ _ (a6 K VR (lW C.hd .lenset v1 σ₁) s α) (aY K A (lW C.hd .lenset v1 σ₁) s α) s₁) _ _
 rw [z2,q] at hc1 ⊢
 split at hc1
 ·rename_i l hl
  split at hc1
  ·rename_i hn2
   rw [if_pos hn2]
   refine abY c.hA (c.hd hhd) r1 w1 hl hn2 fun D h' tk k hlen=>hlen _ _ fun t tk'=>?_
   exact ⟨_,σ₁,α₁,rfl,x1.trans (.keeps k),r1.keeps k,.int _ _,⟨m1.gens,m1.os⟩⟩
  ·exact absurd rfl hc1
 ·exact absurd rfl hc1
end
end Mine
namespace Mine
open PySem PyProof.Rows
section
variable {K:Kt} {A:Around} {T:aN} {C:aV} {f:List (Str × NameKind)->Expr->Option X} {N:List (Str × NameKind)} {env:Env} {ρ:aq} {σ:ac} {s:Shared} {α:AL}
theorem p8 {es:List Expr} {xs:X} {pos:Pos} (S:SE K A C f) (h:eM (f N) es=some xs):(backTo pos (starEach es env)).all (fun x=>!x.1)=true/\(backTo pos (starEach es env)).any (·.1)=false:=by
 have:∀ {es:List Expr} {xs:X},eM (f N) es=some xs->∀ x ∈ starEach es env,x.1=false:=by
  intro es
  induction es with
  | nil=>intro xs h x hx; contradiction
  | cons e es ih =>
   intro xs h x hx
   obtain ⟨a,b,ha,hb,_⟩:=eK h
   rw [bK (S N e a ha).1] at hx
   rcases List.mem_cons.mp hx with q | q
   ·rw [q]
   ·exact ih hb x q
 have key:∀ x ∈ backTo pos (starEach es env),x.1=false:=by
  intro x hx
  unfold backTo at hx
  first
   | (obtain ⟨y,hy,rfl⟩:=List.mem_map.mp hx; exact this h y hy)
   | (split at hx <;> first | (obtain ⟨y,hy,rfl⟩:=List.mem_map.mp hx; exact this h y hy) | exact this h x hx)
 exact ⟨List.all_eq_true.mpr fun x hx=>by rw [key x hx]; rfl,List.any_eq_false.mpr fun x hx=>by rw [key x hx]; simp⟩
theorem uU {F:Value} {es:List Expr} {pos:Pos} {Q:Args->Shared->Prop} {E:Value->Shared->Prop} (h:wpAny (model K.prog K.w) A (spliced (backTo pos (starEach es env))) (fun vs s₁=>Q ⟨vs,[]⟩ s₁) E s)
  (pl:(backTo pos (starEach es env)).any (·.1)=false):wpAny (model K.prog K.w) A (evalArgs F true (backTo pos (starEach es env)) []) Q E s:=by
 cases hq:backTo pos (starEach es env) with
 | nil =>
  rw [hq] at h
  unfold evalArgs
  show wpAny _ A (spliced [] >>= _) Q E s
  refine wpAny_bind (wpAny_mono h (fun vs s' h'=>?_) fun zz zz x=>x)
  refine wpAny_bind (wpAny_pure (wpAny_holding ?_))
  exact wpAny_bind (wpAny_pure (wpAny_bind (wpAny_pure (wpAny_pure h'))))
 | cons p r =>
  rw [hq] at h pl
  obtain ⟨b,t⟩:=p
  rw [List.any_cons,Bool.or_eq_false_iff] at pl
  obtain rfl:b=false:=pl.1
  exact Calls.evalArgs_plain h
theorem zF {g:Str} {bv:Value} {es:List Expr} {xs:X} {p pos:Pos} {β:Type} {F:List PV->ac->af β} {W:Value->Shared->Prop} (c:Ctx K A T C) (S:SE K A C f) (hg:fN N g=true) (hbin:g ∈ T.bins) (hv:i6 g=some bv) (ht:(∃ t,bv=.type t)\/∃ b,bv=.builtin b)
  (h:eM (f N) es=some xs) (hN:env.scope.names=N) (hn:aI K.hb env) (E:ai env ρ s.heap α) (r:R K.hb s.heap σ α) (hc:(evs C xs ρ σ).bind F ≠ .stuck) (tk:K.Tk s)
  (k:∀ vs σ' α' us s',evs C xs ρ σ=.ok vs σ'->F vs σ' ≠ .stuck->aD [] α s.heap α' s'.heap->R K.hb s'.heap σ' α'->aO s'.heap α' vs us->Sm s s'->K.Tk s'->wpAny (model K.prog K.w) A (call bv us) W (aY K A ((evs C xs ρ σ).bind F) s α) s') :
  wpAny (model K.prog K.w) A (eval (.Call (.Name g p) es [] pos) env) W (aY K A ((evs C xs ρ σ).bind F) s α) s:=by
 obtain ⟨_,pl2⟩:=p8 (env:=env) (pos:=pos) S h
 refine wpAny_Call_Name_kw (dz c hg hbin hv hN E.ok r ?_)
 have H:=gM (pos:=pos) S h hN hn E r
 have H':∀ {fv:Value},wpAny (model K.prog K.w) A (evalArgs fv true (backTo pos (starEach es env)) []) (fun a s₁=>wpAny (model K.prog K.w) A (call bv ([]++a.pos) a.kw) W (aY K A ((evs C xs ρ σ).bind F) s α) s₁) (aY K A ((evs C xs ρ σ).bind F) s α) s:=
  uU (Runs.use H hc tk fun vs σ' α' us s' e1 hc' x' r' v' m' tk'=>k vs σ' α' us s' e1 hc' x' r' v' m' tk') pl2
 rcases ht with ⟨t,rfl⟩ | ⟨b,rfl⟩
 ·exact PySem.callWith_type pl2 H'
 ·exact Calls.callWith_builtin pl2 H'
end
end Mine
namespace Mine
open PySem PyProof.Rows
section
variable {K:Kt} {A:Around} {T:aN} {C:aV} {f:List (Str × NameKind)->Expr->Option X} {N:List (Str × NameKind)} {env:Env} {ρ:aq} {σ:ac} {s:Shared} {α:AL}
theorem ahi {e:Expr} {x:Str} (h:aiJ e=some x):∃ k p,e=.Constant (.str x) k p/\PyData.strOk x=true:=by
 cases e with
 | Constant c k p =>
  cases c with
  | str z =>
   change ay _ _=_ at h
   exact aB h fun hz h=>by obtain rfl:=oi h; exact ⟨_,_,rfl,hz⟩
  | _=>contradiction
 | _=>contradiction
end
end Mine
namespace Mine
open PySem PyProof.Rows
section
variable {K:Kt} {A:Around} {T:aN} {C:aV} {f:List (Str × NameKind)->Expr->Option X} {N:List (Str × NameKind)} {env:Env} {ρ:aq} {σ:ac} {s:Shared} {α:AL}
variable {en:Bool}
theorem ahC {x:X} (h:afl x=false):evIt C x ρ σ=(ev C x ρ σ).bind rD:=by
 cases x <;> first | (contradiction; done) | (rfl)
theorem aiT {e:Expr} {x:X} (c:Ctx K A T C) (hhd:C.hd=false) (S:SE K A C f) (h:f N e=some x) (hi:afl x=false) (hN:env.scope.names=N) (hn:aI K.hb env) (E:ai env ρ s.heap α) (r:R K.hb s.heap σ α) :
  gc K A en (eval e env) (evIt C x ρ σ) s α:=by
 rw [ahC hi]
 intro hc tk
 refine Runs.use ((S N e x h).2 env ρ σ s α hN hn E r).1 hc tk fun v σ₁ α₁ y s₁ e1 hc1 x1 r1 v1 m1 tk1=>?_
 rw [e1]
 exact wpAny_mono (afi c.hA (c.hd hhd) r1 v1 hc1) (fun it aw hp=>hp.lift x1 m1) fun zz zz e=>e
noncomputable def ij (K:Kt) (A:Around) (t:Sem Value) (c:af (List PV × Option (Nat × MO))) (s:Shared) (α:AL):Prop:=c ≠ .stuck->K.Tk s->wpAny (model K.prog K.w) A t (ik K c s α) (aY K A c s α) s
theorem afj {a:Expr} {p pos:Pos} {x:X} (c:Ctx K A T C) (S:SE K A C f) (h:f N a=some x) (hg:fN N "range" = true) (hbin:("range" : Str) ∈ T.bins) (hN:env.scope.names=N) (hn:aI K.hb env) (E:ai env ρ s.heap α) (r:R K.hb s.heap σ α) :
  ij K A (eval (.Call (.Name "range" p) [a] [] pos) env) (evIt C (.range1 x) ρ σ) s α:=by
 show ij K A _ ((ev C x ρ σ).bind gH) s α
 intro hc tk
 obtain ⟨hp,H⟩:=S N a x h
 refine wpAny_Call_Name_kw (dz c hg hbin rfl hN E.ok r ?_)
 rw [bK hp]
 refine PySem.callWith_type1 (Runs.use (H env ρ σ s α hN hn E r).1 hc tk fun v σ₁ α₁ y s₁ e1 hc1 x1 r1 v1 m1 tk1=>?_)
 rw [e1]
 exact wpAny_mono (afG r1 v1 hc1) (fun it aw hp=>hp.lift x1 m1) fun zz zz e=>e
theorem dQ {e:Expr} {q:Str × Pos} (h:jj e=some q):e=.Name q.1 q.2:=by
 cases e with
 | Name x p=>obtain rfl:=oi h; rfl
 | _=>contradiction
theorem sY {e:Expr} {q:acz} (h:xR e=some q):e=.Call (.Name q.g q.p) [q.a] [] q.pos:=by
 cases e with
 | Call f as ks pos =>
  change ay _ _=_ at h
  refine aB h fun h0 h=>dX (M:=fun q:acz=>Expr.Call f as ks pos=.Call (.Name q.g q.p) [q.a] [] q.pos) h fun n a h1 h2=>?_
  rw [dQ h1,tR h2,List.isEmpty_iff.mp h0]
 | _=>contradiction
theorem afI {e:Expr} {q:acy} (h:callN? e=some q):e=.Call (.Name q.g q.p) q.as [] q.pos:=by
 cases e with
 | Call f as ks pos =>
  change ay _ _=_ at h
  refine aB h fun h0 h=>b6 (M:=fun q:acy=>Expr.Call f as ks pos=.Call (.Name q.g q.p) q.as [] q.pos) h fun n h1=>?_
  rw [dQ h1,List.isEmpty_iff.mp h0]
 | _=>contradiction
theorem aaF {g:Str} {k:Nat} {e:Expr} {xs:X} {P:Prop} (h:yk T N (f N) g k e=some xs) (kk:∀ p as pos,e=.Call (.Name g p) as [] pos->fN N g=true->g ∈ T.bins->as.length=k->eM (f N) as=some xs->P):P:=by
 refine aF h fun q hq h'=>aB h' fun hc h6=>?_
 obtain ⟨hc,h3⟩:=bY hc
 obtain ⟨h1,h2⟩:=bY hc
 obtain ⟨h4,h5⟩:=bY h2
 obtain rfl:=eq_of_beq h1
 exact kk q.p q.as q.pos (afI hq) h4 (by simpa using h5) (eq_of_beq h3) h6
theorem adE {e:Expr} {xs:X} (c:Ctx K A T C) (S:SE K A C f) (h:yk T N (f N) "range" 3 e=some xs) (hN:env.scope.names=N) (hn:aI K.hb env) (E:ai env ρ s.heap α) (r:R K.hb s.heap σ α) :
  ij K A (eval e env) (evIt C (.range3 xs) ρ σ) s α/\dK e=true:=by
 refine aaF h fun p as pos he hg hb hl h6=>?_
 subst he
 refine ⟨?_,rfl⟩
 show ij K A _ ((evs C xs ρ σ).bind qV) s α
 intro hc tk
 refine zF c S hg hb rfl (.inl ⟨_,rfl⟩) h6 hN hn E r hc tk fun vs σ₁ α₁ us s₁ e1 hc1 x1 r1 v1 m1 tk1=>?_
 rw [e1]
 refine ac8 hc1 fun a b d hv=>?_
 subst hv
 obtain ⟨x,us1,rfl,va,v1⟩:=v1.inv_cons
 obtain ⟨y,us2,rfl,vb,v1⟩:=v1.inv_cons
 obtain ⟨z,us3,rfl,vd,v1⟩:=v1.inv_cons
 obtain rfl:=List.eq_nil_of_length_eq_zero v1.1.symm
 exact wpAny_mono (afF r1 va vb vd hc1) (fun it aw hp=>hp.lift x1 m1) fun zz zz e=>e
theorem ah5 {vs:List PV} {P:Prop} (h:abc vs σ ≠ .stuck) (k:∀ a b,vs=[a,b]->P):P:=by
 cases vs with
 | nil=>exact absurd rfl h
 | cons a l =>
  cases l with
  | nil=>exact absurd rfl h
  | cons b l =>
   cases l with
   | nil=>exact k a b rfl
   | cons c l=>exact absurd rfl h
theorem aiS {e:Expr} {xs:X} (c:Ctx K A T C) (hhd:C.hd=false) (S:SE K A C f) (h:yk T N (f N) "zip" 2 e=some xs) (hN:env.scope.names=N) (hn:aI K.hb env) (E:ai env ρ s.heap α) (r:R K.hb s.heap σ α) :
  gc K A true (eval e env) (evIt C (.zip xs) ρ σ) s α/\dK e=true:=by
 refine aaF h fun p as pos he hg hb hl h6=>?_
 subst he
 refine ⟨?_,rfl⟩
 show gc K A true _ ((evs C xs ρ σ).bind abc) s α
 intro hc tk
 refine zF c S hg hb rfl (.inl ⟨_,rfl⟩) h6 hN hn E r hc tk fun vs σ₁ α₁ us s₁ e1 hc1 x1 r1 v1 m1 tk1=>?_
 rw [e1]
 refine ah5 hc1 fun a b hv=>?_
 subst hv
 obtain ⟨x,us1,rfl,va,v1⟩:=v1.inv_cons
 obtain ⟨y,us2,rfl,vb,v1⟩:=v1.inv_cons
 obtain rfl:=List.eq_nil_of_length_eq_zero v1.1.symm
 exact wpAny_mono (afh (c.hd hhd) r1 va vb hc1) (fun it aw hp=>wpAny_mono hp (fun y b5 hp=>hp.lift x1 m1) fun zz zz e=>e) fun zz zz e=>e
theorem abo {e:Expr} {x:X} {P:X->Prop} (h:u5 T N (f N) e=some x) (k:∀ p a pos y,e=.Call (.Name "range" p) [a] [] pos->fN N "range" = true->("range" : Str) ∈ T.bins->f N a=some y->P (.range1 y)):P x:=by
 unfold u5 at h
 refine aF h fun q hq h=>aB h fun hc h=>?_
 obtain ⟨h1,h2⟩:=bY hc
 obtain ⟨h4,h5⟩:=bY h2
 have he:=sY hq
 rw [eq_of_beq h1] at he h4 h5
 exact b6 h fun y hy=>k q.p q.a q.pos y he h4 (by simpa using h5) hy
theorem abn {e:Expr} {x:X} (c:Ctx K A T C) (S:SE K A C f) (h:aey T N (f N) e=some x) (hN:env.scope.names=N) (hn:aI K.hb env) (E:ai env ρ s.heap α) (r:R K.hb s.heap σ α) :
  ij K A (eval e env) (evIt C x ρ σ) s α/\dK e=true:=by
 unfold aey at h
 refine eU h (fun y hy h=>?_) fun zz h=>b6 (M:=fun x=>ij K A (eval e env) (evIt C x ρ σ) s α/\dK e=true) h fun xs hx=>adE c S hx hN hn E r
 obtain rfl:=oi h
 replace h:=hy
 exact abo (P:=fun x=>ij K A (eval e env) (evIt C x ρ σ) s α/\dK e=true) h fun p a pos y he hg hb h6=>by subst he; exact ⟨afj c S h6 hg hb hN hn E r,rfl⟩
theorem ij.it {e:Expr} {cc:af (List PV × Option (Nat × MO))} (c:Ctx K A T C) (hhd:C.hd=false) (H:ij K A (eval e env) cc s α):gc K A en (eval e env) cc s α:=fun hc tk =>
 wpAny_mono (H hc tk) (fun zz zz p=>p.iter c.hA (c.hd hhd)) fun zz zz e=>e
theorem jN {e:Expr} {x:X} (c:Ctx K A T C) (hhd:C.hd=false) (S:SE K A C f) (h:rY T N (f N) e=some x) (hN:env.scope.names=N) (hn:aI K.hb env) (E:ai env ρ s.heap α) (r:R K.hb s.heap σ α) :
  gc K A en (eval e env) (evIt C x ρ σ) s α/\dK e=true:=by
 unfold rY at h
 refine eU h (fun y hy h=>?_) fun zz h=>?_
 ·obtain rfl:=oi h
  obtain ⟨q1,q2⟩:=abn c S hy hN hn E r
  exact ⟨q1.it c hhd,q2⟩
 ·unfold af0 at h
  refine aF h fun y hq h=>aB h fun hi h=>?_
  obtain rfl:=oi h
  exact ⟨aiT c hhd S hq (by simpa using hi) hN hn E r,(S N e _ hq).1⟩
theorem zY {e:Expr} {x:X} (c:Ctx K A T C) (hhd:C.hd=false) (S:SE K A C f) (h:xE T N (f N) e=some x) (hN:env.scope.names=N) (hn:aI K.hb env) (E:ai env ρ s.heap α) (r:R K.hb s.heap σ α) :
  ∃ en,gc K A en (eval e env) (evIt C x ρ σ) s α/\dK e=true:=by
 unfold xE at h
 refine eU h (fun y hy h=>?_) fun zz h=>?_
 ·obtain rfl:=oi h
  exact b6 (M:=fun y=>∃ en,gc K A en (eval e env) (evIt C y ρ σ) s α/\dK e=true) hy fun xs hx=>⟨true,aiS c hhd S hx hN hn E r⟩
 exact ⟨false,jN c hhd S h hN hn E r⟩
end
end Mine
namespace Mine
open PySem PyProof.Rows
section
variable {K:Kt} {A:Around} {T:aN} {C:aV} {f:List (Str × NameKind)->Expr->Option X} {N:List (Str × NameKind)} {env:Env} {ρ:aq} {σ:ac} {s:Shared} {α:AL}
theorem aar {pos:Pos} {pk:Bool} (r:R K.hb s.heap σ α):Runs K VR A (eval (.Dict [] [] pos) env) (ev C (.dnew pk) ρ σ) s α:=by
 intro hc tk
 refine wpAny_Dict_empty ?_
 have k:∀ b o,s.heap.get? b=some o->(s.heap.push { cls:=.type "dict",data:=.dict #[] }).get? b=some o:=fun b o e=>Heap.get?_push_of_some _ e
 cases pk with
 | true =>
  obtain ⟨r',x⟩:=r.add (D:=s.heap.objs.size) (m:=.dp []) k (iD s) ⟨[],Heap.DictOfH.new _,rfl,(fun x hx=>nomatch hx),.nil⟩
  refine ⟨_,_,_,rfl,x,r',.ref ?_,⟨rfl,rfl⟩⟩
  rw [r.len]; simp [AL.add]
 | false =>
  obtain ⟨r',x⟩:=r.add (D:=s.heap.objs.size) (m:=.ds []) k (iD s) ⟨[],Heap.DictOf.new _,rfl,.nil⟩
  refine ⟨_,_,_,rfl,x,r',.ref ?_,⟨rfl,rfl⟩⟩
  rw [r.len]; simp [AL.add]
theorem zX {g:Str} {args:List Expr} {p pos:Pos} {x:X} (c:Ctx K A T C) (S:SE K A C f) (hg:fN N g=true) (h:abq T (f N) g args=some x):k8 K A C N (.Call (.Name g p) args [] pos) x:=by
 unfold abq at h
 refine aF h fun q hb h=>aB h fun hc h=>aF h fun j hj h=>b6 h fun xs hxs=>bg (fun zz zz=>rfl) (fun zz zz=>rfl) fun {env ρ σ s α} hN hn E r hc' tk=>?_
 obtain ⟨b,cl⟩:=q
 rw [ad0] at hc' ⊢
 obtain ⟨h1,h2⟩:=bY hc
 obtain rfl:=eq_of_beq h1
 have hj':T.meths[j]?=some ("__init__" : Str):=by
  obtain ⟨h1,h2,_⟩:=List.findIdx?_eq_some_iff_getElem.mp hj
  rw [List.getElem?_eq_getElem h1,eq_of_beq h2]
 obtain ⟨F,B,hcall,_⟩:=c.brd _ cl hb
 have hcall:=hcall j hj'
 obtain ⟨i,hi⟩:=j7 hg
 refine wpAny_Call_Name_kw (gI c.hK r E.ok (by rw [hN]; exact hi) B.mg ?_)
 cases args with
 | nil=>contradiction
 | cons e es =>
  have H:=gM (pos:=pos) S hxs hN hn E r
  obtain ⟨a',b',ha',hb',_⟩:=eK hxs
  refine PySem.W.callWith_K B.inn B.keep ?_ (bK (S N e a' ha').1) (p8 S hb').2
  refine Runs.use H hc' tk fun vs σ' α' us s' e1 hc1 x' r' v' m' tk'=>⟨fun a o e=>r'.base a o (B.inn a o e),?_⟩
  show wpAny (model K.prog K.w) A (call (.ref cl) us) (a6 K VR ((evs C xs ρ σ).bind fun vs σ=>oB C cl (T.fns.length + j) vs σ) s α) (aY K A ((evs C xs ρ σ).bind fun vs σ=>oB C cl (T.fns.length + j) vs σ) s α) s'
  rw [e1]
  exact wpAny_mono (hcall vs us s' σ' α' r' v' hc1 tk') (fun y s'' hp=>hp.lift x' m') fun e s'' hx=>hx.lift x' m'
end
end Mine
namespace Mine
open PySem PyProof.Rows
section
variable {K:Kt} {A:Around} {T:aN} {C:aV} {f:List (Str × NameKind)->Expr->Option X} {N:List (Str × NameKind)} {env:Env} {ρ:aq} {σ:ac} {s:Shared} {α:AL}
open PySem.W
theorem R.frag {F:Frag} {h:Heap} (x:F.In K.hb.h) (r:R K.hb h σ α):F.In h:=fun a o e=>r.base a o (x a o e)
theorem aaT {c i:Nat} {x:Value} (v:VR s.heap α (.inst c i) x):∃ a D,x=.ref a/\s.heap.get? a=some (instObj c D)/\a ∉ α.all/\α.ix[i]?=some D:=by
 cases v with | inst e hn hi=>exact ⟨_,_,rfl,e,hn,hi⟩
theorem adw {o:Obj} {es:Array DictEntry} {ep:Nat} {n:Str} (hd:o.data=.dict es ep) (hk:StrKeys es):lookIn n o=some (nsFind es n):=by
 unfold lookIn
 rw [hd]
 dsimp only
 unfold nsFind findBy
 have h0:(es.toList.any fun x=>x.refKey)=false:=by
  rw [List.any_eq_false]
  intro e he
  obtain ⟨m,t,h⟩:=hk e (by simpa using he)
  simp [DictEntry.refKey,h]
 rw [h0,<- Array.find?_toList]
 cases es.toList.find? (fun e=>e.key.isStr n) <;> rfl
theorem aaU {c i:Nat} {x:Value} {fs:List (Str × PV)} (r:R K.hb s.heap σ α) (vx:VR s.heap α (.inst c i) x) (hs:σ[i]?=some (.ns fs)) :
  ∃ a D oD,x=.ref a/\InstAt s.heap a (instObj c D) c (some oD)/\∀ n,∃ q,lookIn n oD=some q/\(∀ v,ah n fs=some v->∃ u,q=some u/\VR s.heap α v u)/\(ah n fs=none->q=none):=by
 obtain ⟨a,D,rfl,ea,ha,hi⟩:=aaT vx
 obtain ⟨m,ns1,o1,o2⟩:=r.obj i _ D hs hi
 obtain ⟨oD,esD,epD,eD,dD,kD,_,fD⟩:=ns1
 refine ⟨a,D,oD,rfl,⟨ea,rfl,rfl,eD⟩,fun n=>⟨m n,?_,o1 n,o2 n⟩⟩
 rw [adw dD kD,fD]
theorem adJ {v:PV} {u:Value} (h:VR s.heap α v u):handedIn u=true:=by cases h <;> rfl
theorem aay {F:Frag} {b n:Str} {c:Nat} {o:PV} {x:Value} (B:fw K F b c) (hn:n ∈ cO) (r:R K.hb s.heap σ α) (vx:VR s.heap α o x):Runs K VR A (getAttr x n true) (uS c o n σ) s α:=by
 intro hc tk
 unfold uS at hc ⊢
 cases o with
 | inst c' i =>
  dsimp only at hc ⊢
  by_cases q:c'=c
  ·subst q
   rw [if_pos rfl] at hc ⊢
   cases hs:σ[i]? with
   | none=>rw [hs] at hc; exact absurd rfl hc
   | some mo =>
    rw [hs] at hc
    cases mo with
    | ns fs =>
     dsimp only at hc ⊢
     cases hv:ah n fs with
     | none=>rw [hv] at hc; exact absurd rfl hc
     | some v =>
      obtain ⟨a,D,oD,rfl,I,H⟩:=aaU r vx hs
      obtain ⟨q,h1,h2,_⟩:=H n
      obtain ⟨u,rfl,vu⟩:=h2 v hv
      exact get_value (r.frag B.inn) I B.geta (findObj_own B.hasd (B.none n hn) rfl h1) (adJ vu) (.here r vu)
    | _=>exact absurd rfl hc
  ·rw [if_neg q] at hc; exact absurd rfl hc
 | _=>exact absurd rfl hc
theorem aaz {o:Expr} {n:Str} {pos:Pos} {x:X} {b:Str} {cl:Nat} (c:Ctx K A T C) (S:SE K A C f) (hb:T.brd=some (b,cl)) (hn0:iC o=true) (hm:n ∈ cO) (h1:f N o=some x)
  (hN:env.scope.names=N) (hn:aI K.hb env) (E:ai env ρ s.heap α) (r:R K.hb s.heap σ α):Runs K VR A (eval (.Attribute o n pos) env) (ev C (.attr cl x n) ρ σ) s α:=by
 obtain ⟨F,B,_⟩:=c.brd b cl hb
 rw [aa3,arm_eval_Attribute,o9 hn0]
 refine Runs.bind ((S N o x h1).2 env ρ σ s α hN hn E r).1 fun va σ₁ α₁ u1 s₁ e1 x1 r1 v1 m1=>Runs.standAt ?_
 intro hc tk
 exact wpAny_bind (wpAny_holding (wpAny_mono (aay B hm r1 v1 hc tk) (fun u s' hp=>wpAny_bind (wpAny_letTemporaryGo (wpAny_pure hp))) fun zz zz e=>e))
theorem aec {prog:Program} {w:World} {o:Expr} {name:Str} {apos pos:Pos} {args:List Expr} {Q:Value->Shared->Prop} {E:Value->Shared->Prop}
  (hbase:attributeBase o name env (eval o env)=eval o env)
  (hfew:methodCallForm (args.length + ([]:List Keyword).length) (backTo pos (starEach args env)) (backToKw pos (keywordEach [] env))=true) (hline:(apos.endLine == pos.line)=true)
  (h:wpAny (model prog w) A (eval o env) (fun ov s₁=>∀ pl,wpAny (model prog w) A (getMethod ov name pl) (fun q aw=>wpAny (model prog w) A (callWith pos q.1 q.2 (backTo pos (starEach args env)) []) Q E aw) E s₁) E s) :
  wpAny (model prog w) A (eval (.Call (.Attribute o name apos) args [] pos) env) Q E s:=by
 rw [arm_eval_Call,hbase]
 refine wpAny_bind (wpAny_mono h (fun ov s₁ a7=>wpAny_bind (wpAny_standAt ?_)) fun zz zz e=>e)
 have hpos:methodCallPos true o env apos pos=pure pos:=by unfold methodCallPos; simp [hline]
 unfold methodCall
 rw [hfew]
 refine wpAny_bind (wpAny_holding ?_)
 exact wpAny_mono (a7 _) (fun q aw de=>wpAny_bind (wpAny_of_eq hpos de)) fun zz zz e=>e
theorem aal {o:Expr} {es:List Expr} {mn:Str} {apos pos:Pos} {x xs:X} {b:Str} {cl j:Nat} (c:Ctx K A T C) (S:SE K A C f) (hb:T.brd=some (b,cl)) (hj:T.meths[j]?=some mn) (hn0:iC o=true) (hline:(apos.endLine == pos.line)=true) (hlen:es.length < 20)
  (h1:f N o=some x) (h2:eM (f N) es=some xs) (hN:env.scope.names=N) (hn:aI K.hb env) (E:ai env ρ s.heap α) (r:R K.hb s.heap σ α) :
  Runs K VR A (eval (.Call (.Attribute o mn apos) es [] pos) env) (ev C (.meth cl (T.fns.length + j) mn x xs) ρ σ) s α:=by
 obtain ⟨F,B,_,HM⟩:=c.brd b cl hb
 obtain ⟨ma,mo,fd,q1,q2,q3,q4,hcall⟩:=HM j mn hj
 rw [aa2]
 intro hc tk
 obtain ⟨pl1,pl2⟩:=p8 (env:=env) (pos:=pos) S h2
 refine aec (o9 hn0) (by unfold methodCallForm; rw [pl1]; simp [backToKw,show keywordEach [] env=[] from rfl]; omega) hline ?_
 refine Runs.use ((S N o x h1).2 env ρ σ s α hN hn E r).1 hc tk fun va σ₁ α₁ y1 s₁ e1 hc1 x1 r1 v1 m1 tk1 pl=>?_
 rw [e1]
 change lq C cl (T.fns.length + j) mn va _ σ₁ ≠ _ at hc1
 show wpAny _ _ _ (fun q aw=>wpAny _ _ _ (a6 K VR (lq C cl (T.fns.length + j) mn va _ σ₁) s α) (aY K A (lq C cl (T.fns.length + j) mn va _ σ₁) s α) aw) (aY K A (lq C cl (T.fns.length + j) mn va _ σ₁) s α) _
 unfold lq at hc1 ⊢
 cases va with
 | inst c' i =>
  dsimp only at hc1 ⊢
  by_cases q:c'=cl
  ·subst q
   rw [if_pos rfl] at hc1 ⊢
   cases hs:σ₁[i]? with
   | none=>rw [hs] at hc1; exact absurd rfl hc1
   | some mo' =>
    rw [hs] at hc1
    cases mo' with
    | ns fs =>
     dsimp only at hc1 ⊢
     cases hv:ah mn fs with
     | some v=>rw [hv] at hc1; exact absurd rfl hc1
     | none =>
      rw [hv] at hc1
      dsimp only at hc1 ⊢
      obtain ⟨a,D,oD,rfl,I,H⟩:=aaU r1 v1 hs
      obtain ⟨q,g1,_,g2⟩:=H mn
      obtain rfl:=g2 hv
      refine method_fn (r1.frag B.inn) I B.geta B.getr q1 q2 (by show (lookIn mn oD).map (·.isSome)=_; rw [g1]; rfl) ?_
      have He:=gM (pos:=pos) S h2 hN hn (E.ext x1 .nil) r1
      refine Calls.callWith_function (o:=mo) (fd:=fd) (uU ?_ pl2)
      refine Runs.useL x1 m1 He hc1 tk1 fun vs σ₂ aM us aw e2 hc2 x2 r2 v2 m2 tk2=>⟨⟨r2.base _ _ q3,q4⟩,?_⟩
      rw [e2]
      exact (hcall (.inst c' i::vs) _ aw σ₂ aM r2 (.cons (v1.ext x2) v2)).endL (x1.trans x2) (m1.trans m2) hc2 tk2
    | _=>exact absurd rfl hc1
  ·rw [if_neg q] at hc1; exact absurd rfl hc1
 | _=>exact absurd rfl hc1
end
end Mine
namespace Mine
open PySem PyProof.Rows
theorem j3:∀ {names:List (Str × NameKind)},oq names=true->afU names
 | [],_=>⟨fun i j x k k' h=>by simp at h,fun i x k h=>by simp at h,fun i x k h=>by simp at h⟩
 | (y,k0)::r,h=>by
  simp only [oq,Bool.and_eq_true,Bool.not_eq_true',Bool.or_eq_true,beq_iff_eq] at h
  obtain ⟨⟨⟨h1,h2⟩,h3⟩,h4⟩:=h
  have ih:=j3 h4
  have no:∀ (i:Nat) (k:NameKind),r[i]? ≠ some (y,k):=fun i k e=>by
   have hm:=List.mem_of_getElem? e
   rw [List.any_eq_false] at h1
   exact h1 _ hm (by simp)
  refine ⟨fun i j x k k' e1 e2=>?_,fun i x k e=>?_,fun i x k e=>?_⟩
  ·cases i with
   | zero =>
    cases j with
    | zero=>rfl
    | succ j =>
     simp at e1 e2
     obtain ⟨rfl,rfl⟩:=e1
     exact absurd e2 (no j k')
   | succ i =>
    cases j with
    | zero =>
     simp at e1 e2
     obtain ⟨rfl,rfl⟩:=e2
     exact absurd e1 (no i k)
    | succ j =>
     simp at e1 e2
     rw [ih.uniq i j x k k' e1 e2]
  ·cases i with
   | zero=>simp at e; obtain ⟨rfl,rfl⟩:=e; exact h2
   | succ i=>simp at e; exact ih.nodbg i x k e
  ·cases i with
   | zero =>
    simp at e; obtain ⟨rfl,rfl⟩:=e
    rcases h3 with (h3 | h3) | h3
    ·exact .inl h3
    ·exact .inr (.inl h3)
    ·exact .inr (.inr h3)
   | succ i=>simp at e; exact ih.kinds i x k e
section
variable {K:Kt} {A:Around} {T:aN} {C:aV} {f:List (Str × NameKind)->Expr->Option X} {N:List (Str × NameKind)} {env:Env} {ρ:aq} {σ:ac} {s:Shared} {α:AL}
theorem uO {fz:Bool} {t:Nat} {cap:List (Option Nat)} {elt cond it:X} (hhd:C.hd=false):ev C (.comp fz t cap elt cond it) ρ σ =
  gO fz (fun v σ=>tst C cond ((bI cap ρ).set t (some v)) σ) (fun v σ=>ev C elt ((bI cap ρ).set t (some v)) σ) (evIt C it ρ σ):=by
 rw [nV,hhd]
 unfold gO eB
 rw [cond_false]
 congr 1
structure qK (T:aN) (N:List (Str × NameKind)) (f:List (Str × NameKind)->Expr->Option X) (elt:Expr) (x:Str) (iter:Expr) (ifs:List Expr) (scope:Scope) (fz:Bool) (t:Nat) (e c i:X):Prop where
 kind:scope.kind=.function
 sc:oq (a8 N scope.names)=true
 cells:∀ p ∈ scope.names,p.2 ≠ .cell
 tgt:(a8 N scope.names)[t]?=some (x,NameKind.local)
 it:rY T N (f N) iter=some i
 elt:f (a8 N scope.names) elt=some e
 cond:aez (f (a8 N scope.names)) ifs=some c
theorem wg {elt iter:Expr} {x:Str} {pos:Pos} {ifs:List Expr} {scope:Scope} {y:X} {P:X->Prop} (h:tB T N f elt x iter ifs scope pos=some y)
  (k:∀ t e c i,qK T N f elt x iter ifs scope (!(T.muts.contains (pos.line,pos.col))) t e c i->P (.comp (!(T.muts.contains (pos.line,pos.col))) t (dH N (a8 N scope.names)) e c i)):P y:=by
 unfold tB at h
 refine aB h fun hk h=>aF h fun t zz h=>aB h fun ht h=>mf h fun i e c h1 h2 h3=>k t e c i ?_
 obtain ⟨hk,hk3⟩:=bY hk
 obtain ⟨hk1,hk2⟩:=bY hk
 exact ⟨eq_of_beq hk1,hk2,fun p hp=>bne_iff_ne.mp (List.all_eq_true.mp hk3 p hp),eq_of_beq ht,h1,h2,h3⟩
theorem qK.ok {elt iter:Expr} {x:Str} {ifs:List Expr} {scope:Scope} {fz:Bool} {t:Nat} {e c i:X} (q:qK T N f elt x iter ifs scope fz t e c i) (hN:env.scope.names=N):ft env.scope.names scope t x:=by
 subst hN; exact ⟨q.kind,j3 q.sc,q.cells,q.tgt⟩
theorem jY {scope:Scope} {C':Addr} (hN:env.scope.names=N) (E:ai env ρ s.heap α):(bq scope C' env).scope.names=a8 N scope.names:=by rw [<- hN]; exact jA E.ok.kind
theorem o8 {scope:Scope} (hN:env.scope.names=N):iO scope env ρ=bI (dH N (a8 N scope.names)) ρ:=by rw [<- hN]
theorem uM {ifs:List Expr} {cond:X} {M:List (Str × NameKind)} {cenv:Env} (S:SE K A C f) (h:aez (f M) ifs=some cond) (hM:cenv.scope.names=M) (n':aI K.hb cenv) (E':ai cenv ρ s.heap α) (r':R K.hb s.heap σ α) :
  Runs K dI A (forIn ifs true fun c r=>if r=true then do let ok <- isTrue c cenv (eval c cenv); pure (ForInStep.yield ok) else pure (ForInStep.yield r)) (tst C cond ρ σ) s α:=by
 cases ifs with
 | nil =>
  obtain rfl:=oi h
  exact fun zz zz=>wpAny_tests_nil ⟨true,σ,α,rfl,.refl,r',rfl,.refl _⟩
 | cons c1 cs =>
  change ay _ _=_ at h
  refine aB h fun h0 h=>?_
  rw [List.isEmpty_iff.mp h0]
  exact fun hc tk=>wpAny_tests_one (((S _ c1 cond h).2 _ _ σ s α hM n' E' r').2 hc tk)
theorem rO {elt iter:Expr} {x:Str} {px pos:Pos} {ifs:List Expr} {scope:Scope} {fz:Bool} {t:Nat} {e cc i:X} (c:Ctx K A T C) (S:SE K A C f) (q:qK T N f elt x iter ifs scope fz t e cc i)
  (hN:env.scope.names=N) (hn:aI K.hb env) (E:ai env ρ s.heap α) (r:R K.hb s.heap σ α) :
  Runs K VR A (eval (.ListComp elt [⟨.Name x px,iter,ifs,0⟩] scope pos) env) (ev C (.comp fz t (dH N (a8 N scope.names)) e cc i) ρ σ) s α:=by
 cases hhd:C.hd with
 | true=>rw [nV,hhd]; exact fun hc=>absurd rfl hc
 | false =>
 rw [uO hhd]
 obtain ⟨hit',hpl⟩:=jN c hhd S q.it hN hn E r
 refine vw (q.ok hN) E hit' (fun C' v s' σ' α' n' E' r'=>?_) (fun C' v s' σ' α' n' E' r'=>?_) c.fr hn r (ki hpl)
 ·rw [o8 hN] at E'
  exact uM S q.cond (jY hN E) n' E' r'
 ·rw [o8 hN] at E'
  exact ((S _ elt e q.elt).2 _ _ σ' s' α' (jY hN E) n' E' r').1
theorem z6 {l:Expr} {os:List CmpOp} {rs:List Expr} {pos:Pos} {x:X} (c:Ctx K A T C) (S:SE K A C f) (h:abt (f N) l os rs=some x):k8 K A C N (.Compare l os rs pos) x:=by
 unfold abt at h
 cases os with
 | nil=>contradiction
 | cons o os =>
  cases rs with
  | nil=>contradiction
  | cons r1 rs =>
   cases os with
   | nil =>
    change ay _ _=_ at h
    refine aB h fun h0 h=>?_
    rw [List.isEmpty_iff.mp h0]
    exact mf h fun o' a b h1 h2 h3 env ρ σ s α hN hn E r=>aci c S h1 h2 h3 hN hn E r
   | cons o2 os =>
    cases rs with
    | nil=>contradiction
    | cons r2 rs =>
     change ay _ _=_ at h
     refine aB h fun h0 h=>aF h fun o' h1 h=>?_
     obtain ⟨h0,h0'⟩:=bY h0
     rw [List.isEmpty_iff.mp h0,List.isEmpty_iff.mp h0']
     exact aks h fun a b o2' b2 h2 h3 h4 h5 env ρ σ s α hN hn E r=>aau c S h1 h4 h2 h3 h5 hN hn E r
theorem zW {g:Str} {a:Expr} {p pos:Pos} {x:X} (c:Ctx K A T C) (S:SE K A C f) (hg:fN N g=true) (hb':g ∈ T.bins) (h:abp T N (f N) pos g a=some x):k8 K A C N (.Call (.Name g p) [a] [] pos) x:=by
 unfold abp at h
 refine eU h (fun y hls h'=>?_) fun zz h=>?_
 rotate_left
 ·exact dX h fun b1 x1 hb1 hx1=>bg (fun zz zz=>rfl) (fun zz zz=>rfl) fun hN hn E r=>afO c S hb1 hg hb' hx1 hN hn E r
 unfold adA at hls
 clear h
 refine aF hls fun q hq hls1=>aB hls1 fun hcond hls2=>?_
 clear hls1 hls
 have hq:=sY hq
 obtain ⟨g2,p2,a2,pos2⟩:=q
 obtain rfl:=oi hls2
 simp only [Bool.and_eq_true,beq_iff_eq,yS] at hcond
 obtain ⟨⟨h1,h2⟩,hg2,hb2⟩:=hcond
 subst h1 h2 hq
 exact b6 h' fun z hz=>bg (fun zz zz=>rfl) (fun zz zz=>rfl) fun hN hn E r=>w5 c S hg hb' hg2 (by simpa using hb2) hz hN hn E r
theorem zU {g:Str} {a b:Expr} {p pos:Pos} {x:X} (c:Ctx K A T C) (S:SE K A C f) (hg:fN N g=true) (hb':g ∈ T.bins) (h:abl T N (f N) g a b=some x):k8 K A C N (.Call (.Name g p) [a,b] [] pos) x:=by
 unfold abl at h
 refine ad7 h (fun hcond h=>?_) fun h=>aB h fun hcond h=>?_
 ·obtain rfl:=eq_of_beq hcond
  refine aF h fun q hq h=>?_
  rw [dQ hq]
  refine eU h (fun sup hsup h=>b6 h fun z hz=>bg (fun zz zz=>rfl) (fun zz zz=>rfl) fun hN hn E r=>yR c S hsup hg hb' hz hN hn E r) fun zz h=>?_
  refine aB h fun hcond h=>?_
  obtain ⟨hgt,hbt⟩:=bY hcond
  exact dX h fun x1 ty hx1 hty=>bg (fun zz zz=>rfl) (fun zz zz=>rfl) fun hN hn E r=>w6 c S hty hg hb' hgt (by simpa using hbt) hx1 hN hn E r
 ·obtain rfl:=eq_of_beq hcond
  exact dX h fun x1 y1 hx1 hy1=>bg (fun zz zz=>rfl) (fun zz zz=>rfl) fun hN hn E r=>aak c S hg hb' hx1 hy1 hN hn E r
theorem yi {g:Str} {args:List Expr} {p pos:Pos} {x:X} (c:Ctx K A T C) (S:SE K A C f) (h:yj T N (f N) pos g args=some x):k8 K A C N (.Call (.Name g p) args [] pos) x:=by
 unfold yj at h
 refine aB h fun hg h=>eU h (fun i hi h=>aB h fun hne h=>b6 h fun xs hq=>bg (fun zz zz=>rfl) (fun zz zz=>rfl) fun hN hn E r=>?_) fun zz h=>eU h (fun y hy h=>by obtain rfl:=oi h; exact zX c S hg hy) fun zz h=>aB h fun hb h=>?_
 ·have hi':T.fns[i]?=some g:=by
   obtain ⟨h1,h2,_⟩:=List.findIdx?_eq_some_iff_getElem.mp hi
   rw [List.getElem?_eq_getElem h1,eq_of_beq h2]
  exact zD c S hi' hg (fun q=>by subst q; contradiction) hq hN hn E r
 ·have hb':g ∈ T.bins:=by simpa using hb
  cases args with
  | nil=>contradiction
  | cons a r =>
   cases r with
   | nil=>exact zW c S hg hb' h
   | cons b r =>
    change ay _ _=_ at h
    refine aB h fun h0 h=>?_
    rw [List.isEmpty_iff.mp h0]
    exact zU c S hg hb' h
theorem yf {o:Expr} {m:Str} {args:List Expr} {apos pos:Pos} {x:X} (c:Ctx K A T C) (S:SE K A C f) (hl:(apos.endLine == pos.line)=true) (h:yg T (f N) o m args=some x):k8 K A C N (.Call (.Attribute o m apos) args [] pos) x:=by
 unfold yg at h
 refine aB h fun hnc h=>?_
 ·refine ad7 h (fun hm h=>aF h fun q hb h=>aF h fun j hj h=>aB h fun hlen h=>dX h fun ox xs h1 h2=>bg (fun zz zz=>rfl) (fun zz zz=>rfl) fun hN hn E r=>?_) fun h=>?_
  ·have hj':T.meths[j]?=some m:=by
    obtain ⟨g1,g2,_⟩:=List.findIdx?_eq_some_iff_getElem.mp hj
    rw [List.getElem?_eq_getElem g1,eq_of_beq g2]
   exact aal (b:=q.1) c S hb hj' hnc hl (of_decide_eq_true hlen) h1 h2 hN hn E r
  cases args with
  | nil=>contradiction
  | cons a r =>
   cases r with
   | nil=>exact mf h fun mm ox ax h0 h1 h2=>bg (fun zz zz=>rfl) (fun zz zz=>rfl) fun hN hn E r=>adu c S h0 hl hnc h1 h2 hN hn E r
   | cons b r =>
    contradiction
theorem acq {e:Expr} {q:Option Expr × Option Expr × Option Expr × Pos} (h:aa6 e=some q):e=.Slice q.1 q.2.1 q.2.2.1 q.2.2.2:=by
 cases e with
 | Slice lo hi st p=>obtain rfl:=oi h; rfl
 | _=>contradiction
theorem ya {o i:Expr} {pos:Pos} {x:X} (c:Ctx K A T C) (S:SE K A C f) (h:yb (f N) o i=some x):k8 K A C N (.Subscript o i pos) x:=by
 unfold yb at h
 refine eU h (fun q hi h=>?_) fun hi h=>dX h fun a b h1 h2=>bg (fun zz zz=>rfl) (fun zz zz=>rfl) fun hN hn E r=>aby c S (fun l u st p q=>by subst q; contradiction) h1 h2 hN hn E r
 have hi:=acq hi
 obtain ⟨lo,hi,st,p⟩:=q
 subst hi
 cases st with
 | none=>exact mf h fun ox lx hx h1 h2 h3=>bg (fun zz zz=>rfl) (fun zz zz=>rfl) fun hN hn E r=>yp S h1 h2 h3 hN hn E r
 | some st=>contradiction
theorem tA {elt:Expr} {gens:List Comprehension} {scope:Scope} {pos:Pos} {x:X} (h:mP T N f elt gens scope pos=some x):∃ z p iter ifs,gens=[⟨.Name z p,iter,ifs,0⟩]/\tB T N f elt z iter ifs scope pos=some x:=by
 unfold mP at h
 refine aF h fun g hg h=>aB h fun ha h=>aF h fun q hq h=>?_
 obtain ⟨tg,iter,ifs,asy⟩:=g
 obtain rfl:=dQ hq
 obtain rfl:=eq_of_beq ha
 exact ⟨q.1,q.2,iter,ifs,tR hg,h⟩
theorem wV {elt:Expr} {gens:List Comprehension} {scope:Scope} {pos:Pos} {x:X} (c:Ctx K A T C) (S:SE K A C f) (h:mP T N f elt gens scope pos=some x):k8 K A C N (.ListComp elt gens scope pos) x:=by
 obtain ⟨z,p,iter,ifs,rfl,h⟩:=tA h
 exact wg h fun t e cc i q=>bg (fun zz zz=>rfl) (fun zz zz=>rfl) fun hN hn E r=>rO c S q hN hn E r
theorem yc (c:Ctx K A T C) (S:SE K A C f):SE K A C (acH T f):=by
 intro N e x h
 cases e with
 | Constant cc _ _=>exact ⟨rfl,b6 h fun v hq=>bg (fun zz zz=>rfl) (fun zz zz=>rfl) fun zz zz zz r=>rN hq r⟩
 | Name z p=>exact ⟨rfl,yd c h⟩
 | BoolOp o es pos =>
  cases o with
  | And=>exact ⟨rfl,b6 h fun v hq env ρ σ s α hN hn E r=>aei S hq hN hn E r⟩
  | Or=>exact ⟨rfl,b6 h fun v hq env ρ σ s α hN hn E r=>ae2 S hq hN hn E r⟩
 | UnaryOp o a pos =>
  cases o with
  | Not=>exact ⟨rfl,b6 h fun v hq env ρ σ s α hN hn E r=>abO S hq hN hn E r⟩
  | USub=>exact ⟨rfl,b6 h fun v hq=>bg (fun zz zz=>rfl) (fun zz zz=>rfl) fun hN hn E r=>abQ S hq hN hn E r⟩
  | _=>contradiction
 | BinOp l o r' pos=>exact ⟨rfl,mf h fun zz zz zz ho ha hb=>bg (fun zz zz=>rfl) (fun zz zz=>rfl) fun hN hn E r=>acn c S ho ha hb hN hn E r⟩
 | Compare l os rs pos=>exact ⟨rfl,z6 c S h⟩
 | List es pos=>exact ⟨rfl,b6 h fun v hq=>bg (fun zz zz=>rfl) (fun zz zz=>rfl) fun hN hn E r=>aan S hq hN hn E r⟩
 | Tuple es k pos=>exact ⟨rfl,b6 h fun v hq=>bg (fun zz zz=>rfl) (fun zz zz=>rfl) fun hN hn E r=>abj S hq hN hn E r⟩
 | Call fn args kws pos =>
  refine ⟨rfl,?_⟩
  change ay _ _=_ at h
  refine aB h fun hk h=>?_
  rw [List.isEmpty_iff.mp hk]
  cases fn with
  | Name g p=>exact yi c S h
  | Attribute o m apos =>
   change ay _ _=_ at h
   exact aB h fun hl h=>yf c S hl h
  | _=>contradiction
 | Attribute o n pos =>
  refine ⟨rfl,aF h fun q hb h=>aB h fun hc h=>b6 h fun ox h1=>?_⟩
  obtain ⟨hc1,hc2⟩:=bY hc
  exact bg (fun zz zz=>rfl) (fun zz zz=>rfl) fun hN hn E r=>aaz (b:=q.1) c S hb hc1 (List.contains_iff_mem.mp hc2) h1 hN hn E r
 | Subscript o i pos=>exact ⟨rfl,ya c S h⟩
 | Dict ks vs pos =>
  change ay _ _=_ at h
  refine ⟨rfl,aB h fun hc h=>?_⟩
  obtain ⟨h1,h2⟩:=bY hc
  rw [List.isEmpty_iff.mp h1,List.isEmpty_iff.mp h2]
  obtain rfl:=oi h
  exact bg (fun zz zz=>rfl) (fun zz zz=>rfl) fun zz zz zz r=>aar r
 | ListComp elt gens scope pos=>exact ⟨rfl,wV c S h⟩
 | _=>contradiction
theorem we (c:Ctx K A T C):∀ n,SE K A C (trE T n)
 | 0=>fun N e x h=>by contradiction
 | n + 1=>yc c (we c n)
end
end Mine
namespace Mine
open PySem PyProof.Rows
section
variable {K:Kt} {A:Around} {s:Shared} {α:AL} {σ:ac}
theorem wX {l:Addr} {am:List Value} {n:Nat} {k:Int} {t:Tok} {v:Value} {Q:Unit->Shared->Prop} {E:Value->Shared->Prop} (ho:s.heap.get? l=some { cls:=.type "list",data:=.seq am.toArray n })
  (h0:0 <= k) (hfit:k < 2 ^ 63) (hn:k < am.length)
  (hQ:∀ h' n',h'.get? l=some { cls:=.type "list",data:=.seq (am.set k.toNat v).toArray n' }->Heap.SameBut l s.heap h'->Q () { s with heap:=h' }) :
  wpAny (model K.prog K.w) A (setItem (.ref l) (.int k t) v) Q E s:=by
 have hl:=jG ho
 unfold setItem
 try with_reducible refine wpAny_holding ?_
 first | refine wpAny_bind (wpAny_pure ?_) | skip
 refine wpAny_bind (wpAny_sequenceKey hl.typeIs (by decide) ?_)
 refine wpAny_bind (wpAny_callSpecial?_slot (name:=Str.ofString "__setitem__") hl.typeIs slot_list_setitem
  (wpAny_call_entry slot_list_setitem hl.typeIs entry_list_setitem ?_ (args_list_setitem _ _ _)))
 show wpAny _ _ (Builtin.List.listSubscript? (.int k t) >>= _) _ _ s
 refine wpAny_bind (wpAny_listSubscript_int (fitsIndex_of h0 hfit) ?_)
 clear hfit
 obtain ⟨j,rfl⟩:=Int.eq_ofNat_of_zero_le h0
 have hj:j < am.length:=by omega
 have hx':am.toArray[j]?=some am[j]:=by simp [hj]
 show wpAny _ _ ((seqItemAt l j >>= fun r=>pure (r.map (j,·))) >>= _) _ _ s
 refine wpAny_bind (wpAny_bind (wpAny_seqItemAt ho rfl (wpAny_pure ?_)))
 rw [hx']
 show wpAny _ _ (setSeqItemAt l j v >>= _) _ _ s
 have hfin:(s.heap.update l (Obj.mapSeq (·.setIfInBounds j v))).get? l=some { cls:=.type "list",data:=.seq (am.set j v).toArray n }:=by
  rw [Heap.get?_update_self _ ho (by rfl)]
  simp [Obj.mapSeq]
 refine wpAny_bind (wpAny_setSeqItemAt ho rfl ?_)
 first
  | exact wpAny_bind (wpAny_pure (wpAny_pure ⟨.none,rfl,wpAny_pure (hQ _ _ hfin (Heap.SameBut.update ..))⟩))
  | exact wpAny_pure ⟨.none,rfl,wpAny_pure (hQ _ _ hfin (Heap.SameBut.update ..))⟩
end
noncomputable def d9 (env:Env):List Addr:=env.locals::env.cells.map (·.2)
theorem bH {env:Env} {ρ:aq} {h:Heap} {α:AL} (E:ai env ρ h α) (hd:∀ p ∈ env.cells,env.cells.lookup p.1=some p.2):∀ b ∈ d9 env,∃ o,h.get? b=some o:=by
 intro b hb
 rcases List.mem_cons.mp hb with q | q
 ·subst q
  obtain ⟨m,⟨o,_,_,e,_⟩,_⟩:=E.ns
  exact ⟨o,e⟩
 ·obtain ⟨p,hp,rfl⟩:=List.mem_map.mp q
  obtain ⟨_,_,v,o,e,_⟩:=E.ca p.1 p.2 (hd p hp)
  exact ⟨o,e⟩
structure bM (hb:Bs) (env:Env):Prop where
 sc:afU env.scope.names
 new:aI hb env
 cl:∀ p ∈ env.cells,env.cells.lookup p.1=some p.2
 inter:interactive env=false
noncomputable def ajn (c:ba) (h:Heap) (α:AL) (fl:Flow) (ρ:aq) (σ:ac):Prop:=
 match c with
 | .next ρ' σ'=>fl=.next/\ρ'=ρ/\σ'=σ
 | .brk ρ' σ'=>fl=.brk/\ρ'=ρ/\σ'=σ
 | .cont ρ' σ'=>fl=.cont/\ρ'=ρ/\σ'=σ
 | .ret v ρ' σ'=>(∃ u,fl=.ret u/\VR h α v u)/\ρ'=ρ/\σ'=σ
 | _=>False
inductive d6 (K:Kt) (env:Env) (c:ba) (s:Shared) (α:AL) (fl:Flow) (s':Shared):Prop where
 | mk (ρ':aq) (σ':ac) (α':AL) (x:aD (d9 env) α s.heap α' s'.heap) (r:R K.hb s'.heap σ' α') (er:ai env ρ' s'.heap α') (m:Sm s s') (fo:ajn c s'.heap α' fl ρ' σ'):d6 K env c s α fl s'
inductive fq (K:Kt) (_A:Around) (env:Env) (c:ba) (s:Shared) (α:AL) (e:Value) (s':Shared):Prop where
 | mk (i:Nat) (ρ:aq) (σ':ac) (s₁:Shared) (α₁:AL) (nt:Bool) (h:c=.exc i ρ σ') (x:aD (d9 env) α s.heap α₁ s₁.heap) (er:ai env ρ s₁.heap α₁) (m:Sm s s₁) (fx:FX K s₁ α₁ i σ' nt e s'):fq K _A env c s α e s'
noncomputable def cB (K:Kt) (env:Env) (A:Around) (t:Sem Flow) (c:ba) (s:Shared) (α:AL):Prop:=
 c ≠ .stuck->K.Tk s->wpAny (model K.prog K.w) A t (d6 K env c s α) (fq K A env c s α) s
section
variable {K:Kt} {A:Around} {T:aN} {C:aV} {N:List (Str × NameKind)} {env:Env} {ρ:aq} {σ:ac} {s:Shared} {α:AL}
theorem d6.lift {c:ba} {s₁:Shared} {α₁:AL} {fl:Flow} {s':Shared} (x:aD (d9 env) α s.heap α₁ s₁.heap) (m:Sm s s₁) (p:d6 K env c s₁ α₁ fl s'):d6 K env c s α fl s':=by
 obtain ⟨ρ',σ',α',x',r,E,m',fo⟩:=p
 exact ⟨ρ',σ',α',x.trans x',r,E,m.trans m',fo⟩
theorem fq.lift {c:ba} {s₁:Shared} {α₁:AL} {e:Value} {s':Shared} (x:aD (d9 env) α s.heap α₁ s₁.heap) (m:Sm s s₁) (p:fq K A env c s₁ α₁ e s'):fq K A env c s α e s':=by
 obtain ⟨i,ρ,σ',aw,aM,nt,h,x',E,m',fx⟩:=p
 exact ⟨i,ρ,σ',aw,aM,nt,h,x.trans x',E,m.trans m',fx⟩
theorem aY.toS {β:Type} {c:af β} {f:β->ac->ba} {e:Value} {s':Shared} (E:ai env ρ s.heap α) (p:aY K A c s α e s'):fq K A env (c.toS ρ f) s α e s':=by
 obtain ⟨i,σ',h,nt,fx⟩:=p
 exact ⟨i,ρ,σ',s,α,nt,by rw [h]; rfl,.refl,E,.refl s,fx⟩
theorem dm (F:bM K.hb env) (E:ai env ρ s.heap α) {α':AL} {h':Heap} (x:aD [] α s.heap α' h'):aD (d9 env) α s.heap α' h':=
 x.mono (by simp) (bH E F.cl)
theorem Runs.useS {β γ:Type} {Rel:Heap->AL->β->γ->Prop} {t:Sem γ} {c:af β} {f:β->ac->ba} {W:γ->Shared->Prop} (E:ai env ρ s.heap α) (H:Runs K Rel A t c s α) (hc:c.toS ρ f ≠ .stuck) (tk:K.Tk s)
  (N:∀ b σ' α' y s',c=.ok b σ'->f b σ' ≠ .stuck->aD [] α s.heap α' s'.heap->R K.hb s'.heap σ' α'->Rel s'.heap α' b y->Sm s s'->K.Tk s'->W y s'):wpAny (model K.prog K.w) A t W (fq K A env (c.toS ρ f) s α) s:=by
 have h1:c ≠ .stuck:=by rintro rfl; exact hc rfl
 refine wpAny_mono (cb (H h1 tk)) (fun y s' hp=>?_) fun e s' hx=>hx.1.toS E
 obtain ⟨⟨b,σ',α',rfl,x,r,v,m⟩,tl⟩:=hp
 exact N b σ' α' y s' rfl hc x r v m (Kt.Tk.up tk tl)
theorem gD {i:Nat} {x:Str} {k:NameKind} {v:PV} {u:Value} {Q:Unit->Shared->Prop} {X:Value->Shared->Prop} (F:bM K.hb env) (r:R K.hb s.heap σ α) (E:ai env ρ s.heap α)
  (hn:env.scope.names[i]?=some (x,k)) (hk:k=.local\/k=.cell) (vu:VR s.heap α v u)
  (hQ:∀ s',R K.hb s'.heap σ α->ai env (ρ.set i (some v)) s'.heap α->aD (d9 env) α s.heap α s'.heap->Sm s s'->Q () s') :
  wpAny (model K.prog K.w) A (storeName env x u) Q X s:=by
 rcases hk with rfl | rfl
 ·refine rx F.sc.uniq r E F.new.l hn vu fun s' r' E' x' zz m'=>hQ s' r' E' (x'.mono (by simp [d9]) (bH E F.cl)) m'
 ·refine abC F.sc.uniq r E F.new hn vu fun c s' hc r' E' x' m'=>hQ s' r' E' (x'.mono ?_ (bH E F.cl)) m'
  intro b hb
  simp at hb; subst hb
  exact bJ _ (List.mem_map.mpr ⟨_,mem_of_lookup hc,rfl⟩)
theorem iV {e:Expr} {t:Option Expr} {line:Nat} (h:gW e=false):swapsWith e t line env=pure false:=by
 cases e <;> first | rfl | contradiction
theorem aef {x:Str} {p pos:Pos} {e:Expr} {i:Nat} {k:NameKind} {y:X} (F:bM K.hb env) (hcp:gW e=false) (hn:env.scope.names[i]?=some (x,k)) (hk:k=.local\/k=.cell)
  (H:Runs K VR A (eval e env) (ev C y ρ σ) s α) (E:ai env ρ s.heap α) {n:Nat} :
  cB K env A (exec (.Assign [.Name x p] e pos) env) (ex C n (.asg i y) ρ σ) s α:=by
 change cB K env A _ ((ev C y ρ σ).toS ρ fun v σ=>.next (ρ.set i (some v)) σ) s α
 intro hc tk
 refine wpAny_Assign_Name (Runs.useS E H hc tk fun v σ₁ α₁ u s₁ e1 hc1 x1 r1 v1 m1 tk1=>?_) (iV hcp)
 refine gD F r1 (E.ext x1 .nil) hn hk v1 fun aw r2 E2 x2 m2=>?_
 rw [e1]
 exact ⟨_,_,_,(dm F E x1).trans x2,r2,E2,m1.trans m2,rfl,rfl,rfl⟩
theorem acd {e:Expr} {pos:Pos} {y:X} (F:bM K.hb env) (hcp:gW e=false)
  (H:Runs K VR A (eval e env) (ev C y ρ σ) s α) (E:ai env ρ s.heap α) {n:Nat} :
  cB K env A (exec (.Expr e pos) env) (ex C n (.expr y) ρ σ) s α:=by
 change cB K env A _ ((ev C y ρ σ).toS ρ fun zz σ=>.next ρ σ) s α
 intro hc tk
 refine wpAny_Expr_any (Runs.useS E H hc tk fun v σ₁ α₁ u s₁ e1 hc1 x1 r1 v1 m1 tk1=>?_) F.inter (iV hcp)
 rw [e1]
 exact ⟨ρ,σ₁,α₁,dm F E x1,r1,E.ext x1 .nil,m1,rfl,rfl,rfl⟩
theorem ac4 {e:Expr} {pos:Pos} {y:X} (F:bM K.hb env)
  (H:Runs K VR A (eval e env) (ev C y ρ σ) s α) (E:ai env ρ s.heap α) {n:Nat} :
  cB K env A (exec (.Return (some e) pos) env) (ex C n (.ret y) ρ σ) s α:=by
 change cB K env A _ ((ev C y ρ σ).toS ρ fun v σ=>.ret v ρ σ) s α
 intro hc tk
 refine wpAny_Return_some (Runs.useS E H hc tk fun v σ₁ α₁ u s₁ e1 hc1 x1 r1 v1 m1 tk1=>?_)
 rw [e1]
 exact ⟨ρ,σ₁,α₁,dm F E x1,r1,E.ext x1 .nil,m1,⟨u,rfl,v1⟩,rfl,rfl⟩
theorem z9 {q:Nat} {l:Addr} {es:List ((Str × Int) × PV)} {p v:PV} {k:Str × Int} {x u:Value} {Q:Unit->Shared->Prop} {X:Value->Shared->Prop} (hA:dv A) (r:R K.hb s.heap σ α) (hs:σ[q]?=some (.dp es)) (el:α.ix[q]?=some l)
  (hk:dZ p=some k) (vp:VR s.heap α p x) (vv:VR s.heap α v u) (hl:es.length < au)
  (hQ:∀ s',R K.hb s'.heap (σ.set q (.dp (bQ k v es))) α->aD [] α s.heap α s'.heap->Sm s s'->Q () s'):wpAny (model K.prog K.w) A (setItem (.ref l) x u) Q X s:=by
 obtain ⟨xs,h1,h2,h3,h4⟩:=rf r hs el
 obtain ⟨b,rfl,hb,hbn⟩:=ub (K:=K) hk vp
 have hlen:xs.length <= sizeLine:=by
  have e:=congrArg List.length h2
  simp only [List.length_map,kvsOf] at e
  rw [e]
  exact cq (Nat.le_of_lt hl)
 refine wpAny_setItem_heap (hsz:=hlen) (tN hA) hb h1 fun h' hd' sb=>?_
 obtain ⟨o',es',ep',e',_⟩:=id hd'
 have hkv:=zI oI (k:=k) h2 h4 vv
 obtain ⟨r',x'⟩:=r.set (m:=.dp (bQ k v es)) el (fun b o hb e=>(sb.2 b hb).trans e) e' fun x'=>⟨storedH xs (mi k) b u,hd',by
   have:=hkv.1
   rw [<- kvsOf_storedH,kvsOf,List.map_map] at this
   exact this,fun y hy=>by
   rcases mem_storedH hy with ⟨z,hz,_,e2⟩ | ⟨_,e2⟩
   ·rw [e2]; exact h3 z hz
   ·rw [e2]; exact hbn,by
   have:=hkv.2
   rw [<- kvsOf_storedH,kvsOf,List.map_map] at this
   exact this.ext x'⟩
 exact hQ _ r' x' ⟨rfl,rfl⟩
theorem z8 {q:Nat} {l:Addr} {es:List (Str × PV)} {v:PV} {k:Str} {t:Tok} {u:Value} {Q:Unit->Shared->Prop} {X:Value->Shared->Prop} (r:R K.hb s.heap σ α) (hs:σ[q]?=some (.ds es)) (el:α.ix[q]?=some l)
  (vv:VR s.heap α v u) (hl:es.length < au)
  (hQ:∀ s',R K.hb s'.heap (σ.set q (.ds (bQ k v es))) α->aD [] α s.heap α s'.heap->Sm s s'->Q () s'):wpAny (model K.prog K.w) A (setItem (.ref l) (.str k t) u) Q X s:=by
 obtain ⟨kvs,h1,h2,h4⟩:=rd r hs el
 have hlen:kvs.length <= sizeLine:=by
  have e:=congrArg List.length h2
  simp only [List.length_map] at e
  rw [e]
  exact cq (Nat.le_of_lt hl)
 refine wpAny_setItem_pairs (hsz:=hlen) p3 h1 fun h' hd' sb=>?_
 obtain ⟨o',es',ep',e',_⟩:=id hd'
 have hkv:=zI (g:=id) (fun zz zz h=>h) (k:=k) h2 h4 vv
 obtain ⟨r',x'⟩:=r.set (m:=.ds (bQ k v es)) el (fun b o hb e=>(sb.2 b hb).trans e) e' fun x'=>⟨stored kvs k u,hd',hkv.1,hkv.2.ext x'⟩
 exact hQ _ r' x' ⟨rfl,rfl⟩
set_option tactic.hygienic true in
theorem ym {q:Nat} {l:Addr} {m m':MO} {i v:PV} {x u:Value} {Q:Unit->Shared->Prop} {X:Value->Shared->Prop} (hA:dv A) (r:R K.hb s.heap σ α) (hs:σ[q]?=some m) (el:α.ix[q]?=some l)
  (h:mQ m i v=some m') (vi:VR s.heap α i x) (vv:VR s.heap α v u)
  (hQ:∀ s',R K.hb s'.heap (σ.set q m') α->aD [] α s.heap α s'.heap->Sm s s'->Q () s'):wpAny (model K.prog K.w) A (setItem (.ref l) x u) Q X s:=by
 cases m with
 | lst xs =>
  cases i with
  | int k =>
   refine xL h fun hb h=>?_
   obtain rfl:=oi h
   obtain ⟨am,nn,q1,w⟩:=r.obj q _ l hs el
   obtain ⟨t,rfl⟩:=vi.intE
   have hlen:=w.1
   have hb2:(am.length:Int) <= 1000000:=by have:=hb.2.2; unfold au at this; omega
   refine wX q1 hb.1 (by omega) (by omega) fun h' n' e' sb=>?_
   obtain ⟨r',x'⟩:=r.set (m:=.lst (xs.set k.toNat v)) el (fun b o hb e=>(sb.2 b hb).trans e) e' fun x'=>⟨am.set k.toNat u,n',e',by
    refine ⟨by simp [hlen],fun j pv uv e1 e2=>?_⟩
    rw [List.getElem?_set] at e1 e2
    split at e1
    ·rename_i hj
     rw [if_pos hj] at e2
     split at e1
     ·rw [if_pos (by omega)] at e2
      obtain rfl:=oi e1; obtain rfl:=oi e2
      exact vv.ext x'
     ·contradiction
    ·rename_i hj
     rw [if_neg hj] at e2
     exact (w.2 j pv uv e1 e2).ext x'⟩
   exact hQ _ r' x' ⟨rfl,rfl⟩
  | _=>contradiction
 | ds es =>
  cases i with
  | str k =>
   refine xL h fun hl h=>?_
   obtain rfl:=oi h
   obtain ⟨_,rfl,_⟩:=vi.strE
   exact z8 r hs el vv hl hQ
  | _=>contradiction
 | dp es =>
  refine aF h fun k hk h=>xL h fun hl h=>?_
  obtain rfl:=oi h
  exact z9 hA r hs el hk vi vv hl hQ
 | _=>contradiction
theorem abE {o i v:PV} {P:Prop} (h:bp o i v ρ σ ≠ .stuck) (k:∀ q m m',o=.ref q->σ[q]?=some m->mQ m i v=some m'->bp o i v ρ σ=.next ρ (σ.set q m')->P):P:=by
 cases o with
 | ref q =>
  cases hm:(σ[q]?).bind fun m=>mQ m i v with
  | none=>exact absurd (by unfold bp; dsimp only; rw [hm]) h
  | some m'=>exact aF hm fun m h1 h2=>k q m m' rfl h1 h2 (by unfold bp; dsimp only; rw [hm])
 | _=>exact absurd rfl h
theorem zH {o i v:Expr} {p pos:Pos} {x y z:X} (hA:dv A) (F:bM K.hb env) (hcp:gW v=false) {n:Nat}
  (H1:∀ {σ s α},ai env ρ s.heap α->R K.hb s.heap σ α->Runs K VR A (eval v env) (ev C z ρ σ) s α)
  (H2:∀ {σ s α},ai env ρ s.heap α->R K.hb s.heap σ α->Runs K VR A (eval o env) (ev C x ρ σ) s α)
  (H3:∀ {σ s α},ai env ρ s.heap α->R K.hb s.heap σ α->Runs K VR A (eval i env) (ev C y ρ σ) s α) (E:ai env ρ s.heap α) (r:R K.hb s.heap σ α) :
  cB K env A (exec (.Assign [.Subscript o i p] v pos) env) (ex C n (.asgSub x y z) ρ σ) s α:=by
 change cB K env A _ ((ev C z ρ σ).toS ρ fun v σ=>(ev C x ρ σ).toS ρ fun o σ=>(ev C y ρ σ).toS ρ fun i σ=>bp o i v ρ σ) s α
 intro hc tk
 refine wpAny_Assign_Subscript (Runs.useS E (H1 E r) hc tk fun vv σ₁ α₁ u s₁ e1 hc1 x1 r1 v1 m1 tk1=>?_) (iV hcp)
 rw [e1]
 have E1:=E.ext x1 .nil
 refine wpAny_mono (Runs.useS (env:=env) (s:=s₁) (α:=α₁) E1 (H2 E1 r1) hc1 tk1 fun vo σ₂ aM uo aw e2 hc2 x2 r2 v2 m2 tk2=>?_) (fun zz zz q=>q) (fun zz zz q=>fq.lift (dm F E x1) m1 q)
 have E2:=E1.ext x2 .nil
 refine wpAny_mono (Runs.useS (env:=env) (s:=aw) (α:=aM) E2 (H3 E2 r2) hc2 tk2 fun vi σ₃ n7 ui b5 e3 hc3 x3 r3 v3 m3 tk3=>?_) (fun zz zz q=>q) (fun zz zz q=>by
  show fq K A env ((ev C x ρ σ₁).toS ρ _) s α _ _
  rw [e2]; exact fq.lift (dm F E (x1.trans x2)) (m1.trans m2) q)
 show wpAny (model K.prog K.w) A (setItem uo ui u) _ _ b5
 refine abE hc3 fun q m m' ho hs hm he=>?_
 subst ho
 obtain ⟨l,rfl,el⟩:=v2.refE
 refine ym hA r3 hs (x3.get el) hm v3 ((v1.ext x2).ext x3) fun s' r' x' m'=>?_
 show d6 K env ((ev C x ρ σ₁).toS ρ _) _ _ _ _
 rw [e2]
 show d6 K env ((ev C y ρ σ₂).toS ρ _) _ _ _ _
 rw [e3]
 show d6 K env (bp (.ref q) vi vv ρ σ₃) _ _ _ _
 rw [he]
 exact ⟨ρ,_,n7,dm F E (((x1.trans x2).trans x3).trans x'),r',(E2.ext x3 .nil).ext x' .nil,((m1.trans m2).trans m3).trans m',rfl,rfl,rfl⟩
end
end Mine
namespace Mine
open PySem PyProof.Rows
theorem adD {q:Prop} {_:Decidable q} {a b:ba} (h:(if q then a else .stuck)=b) (hb:b ≠ .stuck):q/\a=b:=by
 by_cases hq:q
 ·rw [if_pos hq] at h; exact ⟨hq,h⟩
 ·rw [if_neg hq] at h; exact absurd h.symm hb
section
variable {K:Kt} {A:Around} {T:aN} {C:aV} {N:List (Str × NameKind)} {env:Env} {ρ:aq} {σ:ac} {s:Shared} {α:AL}
theorem adW {own:List Addr} {h:Heap} (E:ai env ρ h α) (F:bM K.hb env) (ho:∀ b ∈ own,h.get? b=none):pd env own/\∀ b ∈ own,b ∉ d9 env:=by
 have al:=bH E F.cl
 refine ⟨⟨fun q=>?_,fun x c hc q=>?_⟩,fun b hb q=>?_⟩
 ·obtain ⟨o,e⟩:=al env.locals List.mem_cons_self
  rw [ho _ q] at e; contradiction
 ·obtain ⟨_,_,v,o,e,_⟩:=E.ca x c hc
  rw [ho _ q] at e; contradiction
 ·obtain ⟨o,e⟩:=al b q
  rw [ho _ hb] at e; contradiction
noncomputable def acu (K:Kt) (A:Around) (en:Bool) (env:Env) (target:Expr) (bind:PV->aq->Option aq):Prop:=
 ((en=false/\∀ it v,letOwnedTupleGo target it v=pure ())\/∃ elts k pos,target=.Tuple elts k pos)/\∀ (s:Shared) (σ:ac) (α:AL) (ρ ρ':aq) (p:PV) (u:Value),bind p ρ=some ρ'->ai env ρ s.heap α->R K.hb s.heap σ α->VR s.heap α p u ->
  ∀ (Q:Unit->Shared->Prop) (X:Value->Shared->Prop),(∀ s',R K.hb s'.heap σ α->ai env ρ' s'.heap α->aD (d9 env) α s.heap α s'.heap->Sm s s'->Q () s')->wpAny (model K.prog K.w) A (assign target env u) Q X s
theorem aeA {i:Nat} {x:Str} {k:NameKind} {p:Pos} (F:bM K.hb env) (hn:env.scope.names[i]?=some (x,k)) (hk:k=.local\/k=.cell):acu K A false env (.Name x p) (bE i):=
 ⟨.inl ⟨rfl,fun zz zz=>rfl⟩,fun s σ α ρ ρ' pv u hb E r v Q X hQ=>by
  obtain rfl:=oi hb
  exact wpAny_assign_Name (gD F r E hn hk v hQ)⟩
inductive aeq (K:Kt) (env:Env) (s:Shared) (xs:List PV) (Ex:AL->Heap->Prop) (St:Nat->Heap->AL->Prop) (go:List PV->aq->ac->ba) (c:ba) (k:Nat) (s₁:Shared):Prop
 | mk (i:Nat) (σ₁:ac) (α₁:AL) (ρ₁:aq) (hk:k=xs.length - i) (hi:i <= xs.length) (x:Ex α₁ s₁.heap) (r:R K.hb s₁.heap σ₁ α₁) (st:St i s₁.heap α₁) (E:ai env ρ₁ s₁.heap α₁) (m:Sm s s₁) (hgo:go (xs.drop i) ρ₁ σ₁=c) (tk:K.Tk s₁):aeq K env s xs Ex St go c k s₁
set_option tactic.hygienic true in
theorem wE {target it:Expr} {body:List Stmt} {pos:Pos} {bind:PV->aq->Option aq} {ix:X} {b:S} {n:Nat} {c:ba} {en:Bool} (F:bM K.hb env) (tg:acu K A en env target bind) (hpl:dK it=true)
  (hit:gc K A en (eval it env) (evIt C ix ρ σ) s α) (hb:∀ {ρ σ s α},ai env ρ s.heap α->R K.hb s.heap σ α->cB K env A (execs body env) (ex C n b ρ σ) s α) (E:ai env ρ s.heap α)
  (hcc:c=(evIt C ix ρ σ).toS ρ fun p σ=>aX p.2 bind (fun ρ σ=>ex C n b ρ σ) p.1 ρ σ) :
  cB K env A (exec (.For target it body [] pos) env) c s α:=by
 subst hcc
 intro hc tk
 have hci:evIt C ix ρ σ ≠ .stuck:=by intro q; rw [q] at hc; exact hc rfl
 refine wpAny_For (wpAny_mono (cb (hit hci tk)) (fun xv s₁ a7=>wpAny_mono (cb a7.1) (fun rD aw de=>?_) fun zz zz q=>q.1.toS E) fun zz zz q=>q.1.toS E) (ki hpl)
 have lh:K.Tk aw:=Kt.Tk.up tk (aC a7.2 de.2)
 obtain ⟨xs,w,σ₂,aM,own,St,hci2,cT,bF,gr,I,st,ho⟩:=de.1
 obtain ⟨ap,apF⟩:=adW E F fun b hb=>(ho b hb).1
 rw [hci2] at hc ⊢
 generalize hcq:(af.ok (xs,w) σ₂).toS ρ (fun p σ=>aX p.2 bind (fun ρ σ=>ex C n b ρ σ) p.1 ρ σ)=c at hc ⊢
 have hgo:aX w bind (fun ρ σ=>ex C n b ρ σ) xs ρ σ₂=c:=hcq
 have iS:=E.ext cT .nil
 have al2:∀ b ∈ own++d9 env,∃ o,aw.heap.get? b=some o:=fun b hb=>by
  rcases List.mem_append.mp hb with q | q
  ·exact I.live _ _ _ st b q
  ·exact bH iS F.cl b q
 refine codeAny_forLoop_any (aeq K env s xs (aD (own++d9 env) aM aw.heap) St (aX w bind fun ρ σ=>ex C n b ρ σ) c) (fun k s₁ inv=>?_) _ ⟨0,σ₂,aM,ρ,rfl,Nat.zero_le _,.refl,bF,st,iS,gr,by simpa using hgo,lh⟩
 obtain ⟨i,σ₁,α₁,ρ₁,rfl,hi,l6,jz,abB,gB,iE,bG,gR⟩:=inv
 have al1:∀ b ∈ own++d9 env,∃ o,s₁.heap.get? b=some o:=fun b hb=>by
  rcases List.mem_append.mp hb with q | q
  ·exact I.live _ _ _ abB b q
  ·exact bH gB F.cl b q
 by_cases hlt:i < xs.length
 ·have hdrop:xs.drop i=xs[i]::xs.drop (i + 1):=List.drop_eq_getElem_cons hlt
  rw [hdrop] at bG
  obtain ⟨hw,bG⟩:=adD bG hc
  cases hbi:bind xs[i] ρ₁ with
  | none=>rw [hbi] at bG; exact absurd bG.symm hc
  | some ρ1 =>
  rw [hbi] at bG
  change p9 _ (ex C n b ρ1 σ₁)=c at bG
  have hf1:ex C n b ρ1 σ₁ ≠ .stuck:=by intro q; rw [q] at bG; exact hc bG.symm
  refine eJ gR (I.item i s₁ σ₁ α₁ xs[i] (by simp [hlt]) abB jz hw _ _ fun v b5 vr jO ow xo gq km iU=>?_)
  have go:∀ {Q:Unit->Shared->Prop} {E:Value->Shared->Prop},(∀ s',VR s'.heap α₁ xs[i] v->St (i + 1) s'.heap α₁->aD own α₁ s₁.heap α₁ s'.heap->R K.hb s'.heap σ₁ α₁->Sm s₁ s'->K.Tk s'->Q () s')->wpAny (model K.prog K.w) A (letOwnedTupleGo target rD v) Q E b5:=fun h=>by
   rcases tg.1 with ⟨he,hgo⟩ | ⟨elts,k,pos,rfl⟩
   ·exact wpAny_of_eq (hgo rD v) (h b5 vr (jO he) xo gq km iU)
   ·exact eJ iU (ow elts k pos _ _ fun s' ⟨a,b,c,d,e⟩ tk'=>h s' a b (xo.trans c) d (km.trans e) tk')
  refine go fun b5 vr jO xo gq km iU=>?_
  have iR:=gB.ext xo ap
  refine eJ iU (tg.2 b5 σ₁ α₁ ρ₁ ρ1 xs[i] v hbi iR gq vr _ _ fun l9 yu qJ x4 abS qO=>?_)
  have tG:=I.frame _ _ _ _ _ _ jO x4 apF
  have al3:∀ b ∈ own++d9 env,∃ o,b5.heap.get? b=some o:=fun b hb=>by
   rcases List.mem_append.mp hb with q | q
   ·exact I.live _ _ _ jO b q
   ·exact bH iR F.cl b q
  have al4:∀ b ∈ own++d9 env,∃ o,l9.heap.get? b=some o:=fun b hb=>by
   rcases List.mem_append.mp hb with q | q
   ·exact I.live _ _ _ tG b q
   ·exact bH qJ F.cl b q
  have abd:aD (own++d9 env) aM aw.heap α₁ l9.heap:=(l6.trans (xo.mono (fun b hb=>List.mem_append_left _ hb) al1)).trans (x4.mono (fun b hb=>List.mem_append_right _ hb) al3)
  refine wpAny_mono (cb (hb qJ yu hf1 qO)) (fun fl p0 hp=>?_) fun e p0 hx=>?_
  ·obtain ⟨⟨akK,σ₅,lc,x5,vg,wc,ae9,fo⟩,abu⟩:=hp
   have xF:=Kt.Tk.up qO abu
   have xG:=I.frame _ _ _ _ _ _ tG x5 apF
   have xW:=abd.trans (x5.mono (fun b hb=>List.mem_append_right _ hb) al4)
   have mm:=((iE.trans km).trans abS).trans ae9
   have out:aD (d9 env) α s.heap lc p0.heap:=aD.drop cT (fun b hb=>(ho b hb).1) (bH E F.cl) xW
   cases hq:ex C n b ρ1 σ₁ with
   | next ρ' σ' =>
    rw [hq] at fo bG
    obtain ⟨rfl,rfl,rfl⟩:=fo
    exact ⟨xs.length - (i + 1),Nat.sub_succ_lt_self _ _ hlt,i + 1,_,_,_,rfl,hlt,xW,vg,xG,wc,mm,bG,xF⟩
   | cont ρ' σ' =>
    rw [hq] at fo bG
    obtain ⟨rfl,rfl,rfl⟩:=fo
    exact ⟨xs.length - (i + 1),Nat.sub_succ_lt_self _ _ hlt,i + 1,_,_,_,rfl,hlt,xW,vg,xG,wc,mm,bG,xF⟩
   | brk ρ' σ' =>
    rw [hq] at fo bG
    obtain ⟨rfl,rfl,rfl⟩:=fo
    subst bG
    exact ⟨_,_,_,out,vg,wc,mm,rfl,rfl,rfl⟩
   | ret v ρ' σ' =>
    rw [hq] at fo bG
    obtain ⟨⟨u,rfl,vu⟩,rfl,rfl⟩:=fo
    subst bG
    exact ⟨_,_,_,out,vg,wc,mm,⟨u,rfl,vu⟩,rfl,rfl⟩
   | exc i ρ' σ'=>rw [hq] at bG; exact absurd bG.symm hc
   | stuck=>exact absurd hq hf1
  ·obtain ⟨⟨j,ρ',σ',_,_,_,e5,_⟩,_⟩:=hx
   rw [e5] at bG; exact absurd bG.symm hc
 ·have hie:i=xs.length:=Nat.le_antisymm hi (Nat.not_lt.mp hlt)
  subst hie
  rw [List.drop_length] at bG
  obtain ⟨hw,hgo'⟩:=adD bG hc
  refine I.done s₁ σ₁ α₁ abB jz hw _ _ fun b5 xo gq km=>wpAny_execs_nil ?_
  show d6 K env c s α .next b5
  rw [<- hgo']
  exact ⟨_,_,_,aD.drop cT (fun b hb=>(ho b hb).1) (bH E F.cl) (l6.trans (xo.mono (fun b hb=>List.mem_append_left _ hb) al1)),gq,gB.ext xo ap,iE.trans km,rfl,rfl,rfl⟩
end
end Mine
namespace Mine
open PySem PyProof.Rows
section
variable {K:Kt} {A:Around} {T:aN} {C:aV} {N:List (Str × NameKind)} {env:Env} {ρ:aq} {σ:ac} {s:Shared} {α:AL}
set_option tactic.hygienic true in
theorem zS {test:Expr} {body:List Stmt} {pos:Pos} {tx:X} {b:S} {n:Nat} (F:bM K.hb env)
  (ht:∀ {ρ σ s α},ai env ρ s.heap α->R K.hb s.heap σ α->Runs K dI A (isTrue test env (eval test env)) (tst C tx ρ σ) s α) (hb:∀ {ρ σ s α},ai env ρ s.heap α->R K.hb s.heap σ α->cB K env A (execs body env) (ex C n b ρ σ) s α)
  (E:ai env ρ s.heap α) (r:R K.hb s.heap σ α) :
  cB K env A (exec (.While test body [] pos) env) (bc (fun ρ σ=>tst C tx ρ σ) (fun ρ σ=>ex C n b ρ σ) n ρ σ) s α:=by
 intro hc tk
 generalize hcq:bc (fun ρ σ=>tst C tx ρ σ) (fun ρ σ=>ex C n b ρ σ) n ρ σ=c at hc ⊢
 refine wpAny_While (codeAny_whileLoop (fun k s₁=>∃ σ₁ α₁ ρ₁,aD (d9 env) α s.heap α₁ s₁.heap/\R K.hb s₁.heap σ₁ α₁/\ai env ρ₁ s₁.heap α₁/\Sm s s₁/\bc (fun ρ σ=>tst C tx ρ σ) (fun ρ σ=>ex C n b ρ σ) k ρ₁ σ₁=c/\K.Tk s₁)
  (fun k s₁ inv=>?_) n ⟨σ,α,ρ,.refl,r,E,.refl s,hcq,tk⟩)
 obtain ⟨σ₁,α₁,ρ₁,l6,jz,gB,iE,hgo,gR⟩:=inv
 cases k with
 | zero=>exact absurd (by rw [<- hgo]; rfl) hc
 | succ k =>
  simp only [bc] at hgo
  have h1:tst C tx ρ₁ σ₁ ≠ .stuck:=by intro q; rw [q] at hgo; exact hc hgo.symm
  refine wpAny_mono (cb (ht gB jz h1 gR)) (fun y aw hp=>?_) fun e aw hx=>?_
  ·obtain ⟨⟨t,σ₂,aM,e2,x2,bF,v2,gr⟩,ajy⟩:=hp
   have lh:=Kt.Tk.up gR ajy
   have:y=t:=v2
   subst this
   rw [e2] at hgo
   have iS:=gB.ext x2 .nil
   have cT:=l6.trans (dm F gB x2)
   cases y with
   | false =>
    simp only [Bool.false_eq_true,if_false]
    refine wpAny_execs_nil ?_
    show d6 K env c s α .next aw
    rw [<- hgo]
    exact ⟨_,_,_,cT,bF,iS,iE.trans gr,rfl,rfl,rfl⟩
   | true =>
    simp only [if_true]
    dsimp only at hgo
    have h2:ex C n b ρ₁ σ₂ ≠ .stuck:=by intro q; rw [q] at hgo; exact hc hgo.symm
    refine wpAny_mono (cb (hb iS bF h2 lh)) (fun fl b5 hp=>?_) fun e b5 hx=>?_
    ·obtain ⟨⟨akL,σ₃,n7,x3,gq,iR,km,fo⟩,ajx⟩:=hp
     have iU:=Kt.Tk.up lh ajx
     have u0:=cT.trans x3
     have mm:=(iE.trans gr).trans km
     cases hq:ex C n b ρ₁ σ₂ with
     | next ρ' σ' =>
      rw [hq] at fo hgo
      obtain ⟨rfl,rfl,rfl⟩:=fo
      exact ⟨k,by omega,_,_,_,u0,gq,iR,mm,hgo,iU⟩
     | cont ρ' σ' =>
      rw [hq] at fo hgo
      obtain ⟨rfl,rfl,rfl⟩:=fo
      exact ⟨k,by omega,_,_,_,u0,gq,iR,mm,hgo,iU⟩
     | brk ρ' σ' =>
      rw [hq] at fo hgo
      obtain ⟨rfl,rfl,rfl⟩:=fo
      show d6 K env c s α .next b5
      rw [<- hgo]
      exact ⟨_,_,_,u0,gq,iR,mm,rfl,rfl,rfl⟩
     | ret v ρ' σ' =>
      rw [hq] at fo hgo
      obtain ⟨⟨u,rfl,vu⟩,rfl,rfl⟩:=fo
      show d6 K env c s α (.ret u) b5
      rw [<- hgo]
      exact ⟨_,_,_,u0,gq,iR,mm,⟨u,rfl,vu⟩,rfl,rfl⟩
     | exc i ρ' σ'=>rw [hq] at hgo; exact absurd hgo.symm hc
     | stuck=>exact absurd hq h2
    ·obtain ⟨⟨j,ρ',σ',_,_,_,e5,_⟩,_⟩:=hx
     rw [e5] at hgo; exact absurd hgo.symm hc
  ·obtain ⟨⟨j,σ',e5,_⟩,_⟩:=hx
   rw [e5] at hgo; exact absurd hgo.symm hc
end
end Mine
namespace Mine
open PySem PyProof.Rows
noncomputable def Kt.wx (K:Kt) (h:Heap):Kt:={ K with hb:={ K.hb with h:=h },ph:=true }
noncomputable def wa (K:Kt) (h:Heap) (a:Addr) (C:aV):Prop:=
 (∀ b o,K.hb.h.get? b=some o->h.get? b=some o)/\(C.hd=false->∃ (o:Obj) (vs:Array Value),h.get? a=some o/\o.data=.fields vs/\vs[2]?=some .none)
theorem agJ {h hb:Heap} {a:Addr} {o:Obj} (base:∀ b o,hb.get? b=some o->h.get? b=some o) (e:h.get? a=some o) :
  ∃ h':Heap,(∀ b o,hb.get? b=some o->h'.get? b=some o)/\h'.get? a=some o/\∀ b o',h'.get? b=some o'->b=a\/hb.get? b=some o':=by
 refine ⟨PySem.W.hideAll h ((List.range h.objs.size).filter fun b=>b != a && (hb.get? b).isNone),fun b o' q=>PySem.W.hideAll_get _ (base b o' q) fun z=>?_,PySem.W.hideAll_get _ e fun z=>?_,fun b o' q=>?_⟩
 ·have:=(List.mem_filter.mp z).2
  rw [q] at this
  simp at this
 ·have:=(List.mem_filter.mp z).2
  simp at this
 ·have q':=PySem.W.of_hideAll _ q
  by_cases hba:b=a
  ·exact .inl hba
  ·right
   cases hq:hb.get? b with
   | some o2=>rw [base b o2 hq] at q'; exact q'
   | none =>
    have:b ∈ (List.range h.objs.size).filter fun b=>b != a && (hb.get? b).isNone:=List.mem_filter.mpr ⟨List.mem_range.mpr (Heap.lt_size q'),by simp [hba,hq]⟩
    rw [PySem.W.hideAll_none _ this] at q; contradiction
section
variable {K:Kt} {A:Around} {T:aN} {C:aV} {N:List (Str × NameKind)} {env:Env} {ρ:aq} {σ:ac} {s:Shared} {α:AL}
theorem OR.wx {h h':Heap} {m:MO} {a:Addr} (o:OR K.hb h α m a):OR (K.wx h').hb h α m a:=by cases m <;> exact o
theorem OR.unwx {h h':Heap} {m:MO} {a:Addr} (o:OR (K.wx h').hb h α m a):OR K.hb h α m a:=by cases m <;> exact o
theorem R.wx {h h':Heap} {a:Addr} {o:Obj} {vs:Array Value} (r:R K.hb h σ α) (e:h.get? a=some o) (hd:o.data=.fields vs) (ha:a ∉ α.all) (e':h'.get? a=some o) (only:∀ b o',h'.get? b=some o'->b=a\/K.hb.h.get? b=some o'):R (K.wx h').hb h σ α:=by
 have no:∀ {b:Addr},b ≠ a->K.hb.get? b=none->(K.wx h').hb.get? b=none:=fun {b} hb hn=>by
  cases q:(K.wx h').hb.get? b with
  | none=>rfl
  | some o' =>
   rcases only b o' q with z | z
   ·exact absurd z hb
   ·rw [show K.hb.get? b=some o' from z] at hn; contradiction
 refine ⟨fun b o' q=>?_,fun b hb=>no (fun z=>ha (z ▸ List.mem_append_left _ hb)) (r.fresh b hb),r.nodup,r.len,r.hidden,fun i m b e1 e2=>(r.obj i m b e1 e2).wx,fun b hb=>no (fun z=>ha (z ▸ List.mem_append_right _ hb)) (r.hfr b hb),r.fe,fun b hb=>?_,r.frNot⟩
 ·rcases only b o' q with z | z
  ·subst z
   rw [show (K.wx h').hb.get? b=some o from e'] at q
   obtain rfl:=oi q; exact e
  ·exact r.base b o' z
 ·obtain ⟨q1,o',q2,q3⟩:=r.frs b hb
  refine ⟨no (fun z=>?_) q1,o',q2,q3⟩
  rw [z,e] at q2
  obtain rfl:=oi q2
  obtain ⟨es,n,d⟩:=q3
  rw [hd] at d; contradiction
theorem R.unwx {h h':Heap} (k:∀ b o,K.hb.h.get? b=some o->h'.get? b=some o) (r:R (K.wx h').hb h σ α):R K.hb h σ α:=by
 have no:∀ {b:Addr},(K.wx h').hb.get? b=none->K.hb.get? b=none:=fun {b} hn=>by
  cases q:K.hb.get? b with
  | none=>rfl
  | some o'=>rw [show (K.wx h').hb.get? b=some o' from k b o' q] at hn; contradiction
 exact ⟨fun b o q=>r.base b o (k b o q),fun b hb=>no (r.fresh b hb),r.nodup,r.len,r.hidden,fun i m b e1 e2=>(r.obj i m b e1 e2).unwx,fun b hb=>no (r.hfr b hb),r.fe,fun b hb=>let ⟨q1,q2⟩:=r.frs b hb; ⟨no q1,q2⟩,r.frNot⟩
theorem bM.wx {h':Heap} {a:Addr} {o:Obj} {vs:Array Value} (F:bM K.hb env) (E:ai env ρ s.heap α) (e:s.heap.get? a=some o) (hd:o.data=.fields vs) (only:∀ b o',h'.get? b=some o'->b=a\/K.hb.h.get? b=some o'):bM (K.wx h').hb env:=by
 have no:∀ {b:Addr},b ≠ a->K.hb.get? b=none->(K.wx h').hb.get? b=none:=fun {b} hb hn=>by
  cases q:(K.wx h').hb.get? b with
  | none=>rfl
  | some o' =>
   rcases only b o' q with z | z
   ·exact absurd z hb
   ·rw [show K.hb.get? b=some o' from z] at hn; contradiction
 refine ⟨F.sc,⟨no (fun z=>?_) F.new.l,fun x c hc=>no (fun z=>?_) (F.new.c x c hc),F.new.f⟩,F.cl,F.inter⟩
 ·obtain ⟨m,⟨o',es,ep,e',d,_⟩,_⟩:=E.ns
  rw [z,e] at e'
  obtain rfl:=oi e'
  rw [hd] at d; contradiction
 ·obtain ⟨_,_,v,o',e',d⟩:=E.ca x c hc
  rw [z,e] at e'
  obtain rfl:=oi e'
  rw [hd] at d; contradiction
theorem xq:entryFor table "proto.unchain" = some Builtin.«proto.unchain»:=entryFor_of_fast (by kernel_rfl)
theorem aac {prog:Program} {w:World} {β:Type} {e h:Addr} {oe oh:Obj} {ve vh:Array Value} {Q:β->Shared->Prop} {E:Value->Shared->Prop} (hh:A.handled=some (.ref h)) (hne:h ≠ e) (h1:s.heap.get? h=some oh) (h2:oh.data=.fields vh) (h3:vh[2]?=some .none)
  (e1:s.heap.get? e=some oe) (e2:oe.data=.fields ve) (e3:2 < ve.size) (hE:E (.ref e) { s with heap:=s.heap.update e (Obj.mapFields (·.setIfInBounds 2 (.ref h))) }):wpAny (model prog w) A (raiseNew (.ref e):Sem β) Q E s:=by
 unfold raiseNew
 refine wpAny_bind (wpAny_handled ?_)
 rw [hh]
 dsimp only
 rw [if_pos (show (Value.ref h != Value.ref e)=true by simpa using hne)]
 refine wpAny_bind (wpAny_holding (wpAny_runValue (codeAny_builtin xq ?_)))
 show wpAny _ _ (field (.ref h) 2 >>= _) _ _ s
 refine wpAny_bind (wpAny_field h1 h2 h3 ?_)
 rw [if_pos (by decide)]
 refine wpAny_bind (wpAny_pure (wpAny_pure ?_))
 show wpAny _ A (setField (.ref e) 2 (.ref h) >>= fun zz=>throw (.ref e)) Q E s
 exact wpAny_bind (wpAny_setField e1 e2 e3 (wpAny_throw hE))
end
section
variable {prog:Program} {w:World} {A:Around} {E:Value->Shared->Prop} {s:Shared} {env:Env}
variable {nm q:Str} {C N:Addr} {bs bm bmB:List Value} {hdct:Bool} {sn:List Str} {sub:List Value} {ab:Bool} {col:Option Bool} {dd:Option Addr} {k0 k1 k2 k3 k5:Option Value} {B newId initId:String}
theorem abK {x:Sem Value} {Q:Flow->Shared->Prop} (hbase:bm.contains (.type "BaseException")=true)
  (h:wpAny (model prog w) A x (fun v s₁=>∃ e t,v=.ref e/\s₁.heap.get? C=some (excClassObj nm q C N bs bm hdct sn sub ab col dd k0 k1 k2 k3 k5 newId) ∧
   s₁.heap.get? e=some { cls:=.ref C,data:=.fields #[.ref t,.none,.none,.none,.bool false,.none] }/\wpAny (model prog w) A (raiseNew (.ref e):Sem Flow) Q E s₁) E s):wpAny (model prog w) A (raiseStmt env (some x) none) Q E s:=by
 have hcB:(Value.ref C::bm).contains (.type "BaseException")=true:=by rw [List.contains_cons,hbase,Bool.or_true]
 unfold raiseStmt
 refine wpAny_bind (wpAny_mono h (fun v s₁ a7=>?_) fun zz zz x=>x)
 obtain ⟨e,t,rfl,hC,he,hE⟩:=a7
 obtain ⟨hp,g,d,tk,os⟩:=s₁
 repeat (first | with_reducible refine wpAny_loadPart_at he ?_ | with_reducible refine wpAny_loadPart_at hC ?_ | (with_reducible refine wpAny_isSubtype_exc hC ?_; rw [hcB]) | wp_step)
 exact hE
theorem abL (F:ExcBaseFacts B newId initId bmB) {mN:Str->Option Value} {x:Str} {np cpos pos:Pos} {args:List Expr} {Q:Flow->Shared->Prop}
  (hbase:bm.contains (.type "BaseException")=true) (hplain:(backTo cpos (starEach args env)).any (·.1)=false) (hni:mN "__init__" = none)
  (h:wpAny (model prog w) A (eval (.Name x np) env) (fun f s₁=>f=.ref C/\wpAny (model prog w) A (evalArgs (.ref C) true (backTo cpos (starEach args env)) [])
   (fun a aw=>a.kw=[]/\a.pos.length <= sizeLine/\aw.heap.get? C=some (excClassObj nm q C N bs bm hdct sn sub ab col dd k0 k1 k2 k3 k5 newId)/\aw.heap.Ns N mN/\OwnTail aw.heap bmB bm ∧
    ∀ h' e,Heap.MadeExcOf aw.heap h' e (.ref C) a.pos->wpAny (model prog w) A (raiseNew (.ref e):Sem Flow) Q E { aw with heap:=h' }) E s₁) E s) :
  wpAny (model prog w) A (exec (.Raise (some (.Call (.Name x np) args [] cpos)) none pos) env) Q E s:=by
 rw [arm_exec_Raise]
 refine wpAny_bind (wpAny_standAt (abK (C:=C) (nm:=nm) (q:=q) (N:=N) (bs:=bs) (bm:=bm) (hdct:=hdct) (sn:=sn) (sub:=sub) (ab:=ab) (col:=col) (dd:=dd) (k0:=k0) (k1:=k1) (k2:=k2) (k3:=k3) (k5:=k5) (newId:=newId) hbase (wpAny_bind (wpAny_mono (wpAny_Call_ofName (wpAny_mono h (fun f s₁ a7=>?_) fun zz zz x=>x)) (fun v b5 kr=>wpAny_bind (wpAny_standAt (wpAny_pure kr))) fun zz zz x=>x))))
 obtain ⟨rfl,a7⟩:=a7
 unfold callWith
 refine wpAny_bind (wpAny_holding (wpAny_mono a7 (fun a aw de=>wpAny_bind (wpAny_standAt ?_)) fun zz zz x=>x))
 obtain ⟨apos,akw⟩:=a
 obtain ⟨hkw,hlen,hC,hn,T,de⟩:=de
 obtain rfl:akw=[]:=hkw
 obtain ⟨hp,g,d,tk,os⟩:=aw
 simp only [hplain]
 refine wpAny_bind (wpAny_keeperOf_exc hC ?_)
 refine wpAny_bind (wpAny_call_exc_subT (hrest:=hlen) F T hC hn hni fun h' e hm=>wpAny_bind (wpAny_holding (wpAny_point (wpAny_pure ?_))))
 obtain ⟨t,ht,_,_⟩:=hm.there
 exact ⟨e,t,rfl,hm.keeps _ _ hC,ht,de h' e hm⟩
end
end Mine
namespace Mine
open PySem PyProof.Rows
theorem ai.wipe {env:Env} {ρ:aq} {h h':Heap} {α:AL} {m:Str->Option Value} (E:ai env ρ h α) (n:h'.Ns env.locals m) (sb:∀ b,b ≠ env.locals->h'.get? b=h.get? b):ai env (ρ.map fun zz=>none) h' α:=by
 have no:∀ (i:Nat) (v:PV),(ρ.map fun zz=>(none:Option PV))[i]? ≠ some (some v):=fun i v e=>by
  rw [List.getElem?_map] at e
  cases hq:ρ[i]? <;> rw [hq] at e <;> (first | contradiction | (obtain rfl:=oi e) | cases e)
 refine ⟨E.ok,E.la,⟨m,n,fun i x v zz e=>absurd e (no i v)⟩,fun x c hc=>?_,E.cd,fun i x e1=>?_,fun i v e=>absurd e (no i v)⟩
 ·obtain ⟨h1,h2,v,o,e,d⟩:=E.ca x c hc
  exact ⟨h1,h2,v,o,(sb c h2).trans e,d⟩
 ·obtain ⟨c,hc,_⟩:=E.cv i x e1
  exact ⟨c,hc,fun v e=>absurd e (no i v)⟩
section
variable {K:Kt} {A:Around} {T:aN} {C:aV} {N:List (Str × NameKind)} {env:Env} {ρ:aq} {σ:ac} {s:Shared} {α:AL} {n:Nat}
theorem FX.made {c:Nat} {a:Addr} {h':Heap} {args:List Value} (r:R K.hb s.heap σ α) (m:Heap.MadeExcOf s.heap h' a (.ref c) args):FX K s α c σ false (.ref a) { s with heap:=h' }:=by
 obtain ⟨t,e1,e2,e3⟩:=m.there
 exact ⟨a,s.heap,α,rfl,.refl,r,.keeps m.keeps,⟨m.new,_,_,.none,e1,rfl,rfl,rfl,.inl rfl rfl,.none,rfl,fun zz=>rfl⟩,⟨rfl,rfl⟩⟩
theorem FX.made2 {c:Nat} {a x:Addr} {h':Heap} {args:List Value} (hp:K.ph=true) (r:R K.hb s.heap σ α) (m:Heap.MadeExcOf s.heap h' a (.ref c) args):FX K s α c σ false (.ref a) { s with heap:=h'.update a (Obj.mapFields (·.setIfInBounds 2 (.ref x))) }:=by
 obtain ⟨t,e1,e2,e3⟩:=m.there
 refine ⟨a,s.heap,α,rfl,.refl,r,.keeps fun b o e=>?_,⟨m.new,_,_,.none,Heap.get?_update_self _ e1 rfl,rfl,rfl,rfl,.inl rfl rfl,.ref x,rfl,fun z=>?_⟩,⟨rfl,rfl⟩⟩
 ·have hba:a ≠ b:=fun z=>by rw [<- z,m.new] at e; contradiction
  exact (Heap.get?_update_other _ _ hba).trans (m.keeps b o e)
 ·rw [hp] at z; contradiction
theorem aab {x:Str} {np cp pos:Pos} {z:Str} {k:Nat} {zp:Pos} {c:Nat} (ct:Ctx K A T C) (hx:oY T N x=some c) (hz:PyData.strOk z=true) (hN:env.scope.names=N) (E:ai env ρ s.heap α) (r:R K.hb s.heap σ α) :
  cB K env A (exec (.Raise (some (.Call (.Name x np) [.Constant (.str z) k zp] [] cp)) none pos) env) (ex C n (.raise c) ρ σ) s α:=by
 have e0:ex C n (.raise c) ρ σ=bif C.rz then .exc c ρ σ else .stuck:=rfl
 rw [e0]
 cases hrz:C.rz with
 | false=>exact fun hc=>absurd rfl hc
 | true =>
 intro _ tk
 obtain ⟨hg,q,hq,rfl,rfl⟩:=sR hx
 obtain ⟨j,hj⟩:=j7 hg
 obtain ⟨Fg,X,H⟩:=ct.exc
 obtain ⟨⟨hmg,hob,htl⟩,_⟩:=H q hq
 obtain ⟨nm,qn,Nn,bs,hdct,sn,sub,ab,col,dd,k0,k1,k2,k3,k5,hC,mN,hNs,hni⟩:=hob
 refine abL (mN:=mN) (C:=q.2.1) (nm:=nm) (q:=qn) (N:=Nn) (bs:=bs) (hdct:=hdct) (sn:=sn) (sub:=sub) (ab:=ab) (col:=col) (dd:=dd) (k0:=k0) (k1:=k1) (k2:=k2) (k3:=k3) (k5:=k5) F.excBase_ValueError (htl.hasType rfl) rfl hni ?_
 refine gI ct.hK r E.ok (by rw [hN]; exact hj) hmg ⟨rfl,?_⟩
 refine Calls.evalArgs_plain (Calls.spliced_cons (wpAny_mono (rN (c:=.str z) (v:=.str z) (k:=k) (p:=zp) (env:=env) (by simp [u7,ay,hz]) r (by simp) tk) (fun v s₁ hp=>Calls.spliced_nil ?_) fun e s₁ hx=>?_))
 ·obtain ⟨b,σ₁,α₁,e1,x1,r1,_,m1⟩:=hp
  (first | contradiction | (obtain rfl:=oi e1) | cases e1)
  refine ⟨rfl,by show 1 <= sizeLine; decide,r1.base _ _ hC,hNs.keeps r1.base,htl.keeps r1.base,fun h' e hm=>?_⟩
  cases hhd:C.hd with
  | false=>exact wpAny_raiseNew_none (ct.hd hhd) ⟨_,_,_,s,α,_,rfl,.refl,E,.refl s,FX.lift x1 m1 (FX.made r1 hm)⟩
  | true =>
   obtain ⟨ha,oa,va,hq1,hq2,hq3,hq4⟩:=ct.rz hrz hhd
   obtain ⟨t,e1,e2,e3⟩:=hm.there
   have hb:=r1.base _ _ hq2
   refine aac (s:={ s₁ with heap:=h' }) hq1 (fun z=>?_) (hm.keeps _ _ hb) hq3 hq4 e1 rfl (show 2 < 6 by decide) ⟨_,_,_,s,α,_,rfl,.refl,E,.refl s,FX.lift x1 m1 (FX.made2 (ct.ph.trans hhd) r1 hm)⟩
   rw [z,hm.new] at hb; contradiction
 ·obtain ⟨i,σ₁,e1,_⟩:=hx
  (first | contradiction | (obtain rfl:=oi e1) | cases e1)
theorem aeE {c d:Nat} (h:(gS T d).contains c=true):∃ p ∈ T.excs,p.2.1=c/\(c=d\/d ∈ p.2.2):=by
 obtain ⟨p,hp,rfl⟩:=List.mem_map.mp (List.contains_iff_mem.mp h)
 obtain ⟨h1,h2⟩:=List.mem_filter.mp hp
 refine ⟨p,h1,rfl,?_⟩
 simp only [Bool.or_eq_true,beq_iff_eq,List.contains_iff_mem] at h2
 exact h2
theorem aam {a:Addr} {o:Obj} {c d:Nat} {Q:Bool->Shared->Prop} {X:Value->Shared->Prop} (ct:Ctx K A T C) (r:R K.hb s.heap σ α) (he:s.heap.get? a=some o) (hcl:o.cls=.ref c) (hd:∃ q ∈ T.excs,q.2.1=d)
  (hs:(gS T d).contains c=true) (hQ:Q true s) {A':Around}:wpAny (model K.prog K.w) A' (excMatches (.ref a) (.ref d)) Q X s:=by
 obtain ⟨Fg,XF,H⟩:=ct.exc
 obtain ⟨p,hp,rfl,hpd⟩:=aeE hs
 obtain ⟨q,hq,rfl⟩:=hd
 obtain ⟨⟨_,⟨nm,qn,Nn,bs,hdct,sn,sub,ab,col,dd,k0,k1,k2,k3,k5,hC,_⟩,t1⟩,_⟩:=H p hp
 obtain ⟨⟨_,⟨nm',qn',Nn',bs',hdct',sn',sub',ab',col',dd',k0',k1',k2',k3',k5',hD,_⟩,t2⟩,_⟩:=H q hq
 have hC':=r.base _ _ hC
 have hD':=r.base _ _ hD
 have hcB:(Value.ref q.2.1::(q.2.2.map Value.ref++[.type "ValueError",.type "Exception",.type "BaseException",.type "object"])).contains (.type "BaseException")=true:=by
  rw [List.contains_cons,t2.hasType (X := "BaseException") (b:=true) (by decide),Bool.or_true]
 have hcC:(Value.ref p.2.1::(p.2.2.map Value.ref++[.type "ValueError",.type "Exception",.type "BaseException",.type "object"])).contains (.ref q.2.1)=true:=by
  rw [List.contains_iff_mem]
  rcases hpd with e | e
  ·rw [e]; exact List.mem_cons_self
  ·exact bJ _ (List.mem_append_left _ (List.mem_map.mpr ⟨_,e,rfl⟩))
 have f:=tc_notTuple
 obtain ⟨h,g,dr,t,os⟩:=s
 unfold excMatches
 repeat (first | (with_reducible refine wpAny_loadPart_at he ?_; rw [hcl]) | with_reducible refine wpAny_loadPart_at hD' ?_ | (with_reducible refine wpAny_isSubtype_exc hD' ?_; rw [hcB]) | (with_reducible refine wpAny_isSubtype_exc hC' ?_; rw [hcC]) | wp_step)
 exact hQ
set_option tactic.hygienic true in
theorem acG {x y:Str} {xp pos hpos:Pos} {b hb:List Stmt} {c i:Nat} {b' h':S} (ct:Ctx K A T C) (F:bM K.hb env) (hx:oY T N x=some c) (hN:env.scope.names=N) (hi:N[i]?=some (y,.local)) (hne:hb ≠ [])
  (H:cB K env A (execs b env) (ex C n b' ρ σ) s α)
  (Hh:C.rz=true->∀ (hx:Heap) (a:Addr),wa K hx a C->bM (K.wx hx).hb env->∀ {ρ σ s α},ai env ρ s.heap α->R (K.wx hx).hb s.heap σ α->cB (K.wx hx) env (A.mark (some (.ref a))) (execs hb env) (ex C.inH n h' ρ σ) s α) :
  cB K env A (exec (.Try b [.ExceptHandler (some (.Name x xp)) (some y) hb hpos] [] [] pos) env) (ex C n (.tryE b' (gS T c) i h') ρ σ) s α:=by
 have e0:ex C n (.tryE b' (gS T c) i h') ρ σ=(match ex C n b' ρ σ with
  | .exc c' ρ σ=>bif C.rz then (if (gS T c).contains c'/\i < ρ.length then nY (ex C.inH n h' (ρ.set i (some (.exc c'))) σ) else .stuck) else .stuck
  | o=>o):=rfl
 rw [e0]
 intro hc tk
 have h1:ex C n b' ρ σ ≠ .stuck:=by intro q; rw [q] at hc; exact hc rfl
 refine wpAny_Try_except (wpAny_mono (cb (H h1 tk)) (fun fl s₁ hp=>?_) fun e s₁ hxx=>?_)
 ·obtain ⟨⟨ρ₁,σ₁,α₁,x1,r1,E1,m1,fo⟩,_⟩:=hp
  cases hb:ex C n b' ρ σ with
  | next ρ' σ'=>rw [hb] at fo; obtain ⟨rfl,rfl,rfl⟩:=fo; exact wpAny_execs_nil ⟨_,_,α₁,x1,r1,E1,m1,rfl,rfl,rfl⟩
  | cont ρ' σ'=>rw [hb] at fo; have fo':=fo; obtain ⟨rfl,_⟩:=fo'; exact ⟨ρ₁,σ₁,α₁,x1,r1,E1,m1,fo⟩
  | brk ρ' σ'=>rw [hb] at fo; have fo':=fo; obtain ⟨rfl,_⟩:=fo'; exact ⟨ρ₁,σ₁,α₁,x1,r1,E1,m1,fo⟩
  | ret v ρ' σ'=>rw [hb] at fo; have fo':=fo; obtain ⟨⟨u,rfl,_⟩,_⟩:=fo'; exact ⟨ρ₁,σ₁,α₁,x1,r1,E1,m1,fo⟩
  | exc i ρ' σ'=>rw [hb] at fo; exact fo.elim
  | stuck=>exact absurd hb h1
 ·obtain ⟨⟨c',ρ₁,σ₁,dJ,α₁,nt,e1,x1,E1,m1,fx⟩,tl1⟩:=hxx
  have tk1:=Kt.Tk.up tk tl1
  rw [e1] at hc ⊢
  dsimp only at hc ⊢
  cases hrz:C.rz with
  | false=>rw [hrz] at hc; exact absurd rfl hc
  | true =>
  rw [hrz] at hc
  rw [cond_true] at hc ⊢
  split at hc
  ·rename_i hcond
   rw [if_pos hcond]
   obtain ⟨hsup,hlen⟩:=hcond
   obtain ⟨a,aP,α',rfl,x',r',u,ea,m'⟩:=fx
   obtain ⟨hg,q,hq,rfl,rfl⟩:=sR hx
   obtain ⟨j,hj⟩:=j7 hg
   obtain ⟨Fg,XF,HX⟩:=ct.exc
   have hmg:=(HX q hq).1.mg
   have hin:env.scope.names[i]?=some (y,.local):=by rw [hN]; exact hi
   refine yE ct.fr F.new r' u ea fun de akk aj6=>?_
   refine oN (s:={ s₁ with heap:=de }) r' akk aj6 fun kr aet agA=>?_
   have E0:=E1.ext x' .nil
   have x3:=r'.upExt aet
   have r3:=r'.up aet
   obtain ⟨_,oe,vs,xv,he,hcl,hd,_,_,_⟩:=id agA
   refine wpAny_handleBy_cons (codeAny_handlers_test (gI (s:={ s₁ with heap:=kr }) ct.hK r3 E0.ok (by rw [hN]; exact hj) hmg (aam (s:={ s₁ with heap:=kr }) ct r3 he hcl ⟨q,hq,rfl⟩ hsup ?_))) (by intro z; (first | contradiction | (obtain rfl:=oi z) | cases z))
   cases hb with
   | nil=>exact absurd rfl hne
   | cons b0 bs =>
   refine codeAny_handlers_suite_as ?_
   refine oN (s:={ s₁ with heap:=kr }) r' aet agA fun ab1 ah6 agz=>?_
   have x4:=r'.upExt ah6
   have r4:=r'.up ah6
   have E4:=E0.ext x4 .nil
   obtain ⟨_,oe4,vs4,xv4,he4,hcl4,hd4,_,_,cx4⟩:=id agz
   have ha:a ∉ α'.all:=fun z=>by
    obtain ⟨o,e⟩:=r'.liveAll z
    rw [agz.new] at e; (first | contradiction | (obtain rfl:=oi e) | cases e)
   refine eJ (s:={ s₁ with heap:=ab1 }) tk1 <| gD (s:={ s₁ with heap:=ab1 }) F r4 E4 hin (.inl rfl) (.exc he4 hcl4 hd4 ha) fun p0 r5 E5 x5 m5 tk5=>?_
   have hne5:ex C.inH n h' (ρ₁.set i (some (.exc c'))) σ₁ ≠ .stuck:=by intro z; rw [z] at hc; exact hc rfl
   have he5:p0.heap.get? a=some oe4:=x5.seqs a oe4 (AL.not_ix ha) he4 (.inr (.inl ⟨_,_,hcl4,hd4⟩))
   obtain ⟨hx,hxk,hxa,hxo⟩:=agJ (hb:=K.hb.h) (fun b o e=>r5.base b o e) he5
   have ov:wa K hx a C:=⟨hxk,fun hhd=>by
    obtain ⟨y,y1,y2⟩:=cx4
    rw [y2 (ct.ph.trans hhd)] at y1
    exact ⟨oe4,vs4,hxa,hd4,y1⟩⟩
   refine wpAny_mono (Hh hrz hx a ov (F.wx E5 he5 hd4 hxo) E5 (r5.wx he5 hd4 ha hxa hxo) hne5 tk5) (fun fl abv hp=>?_) fun e abv hxx=>?_
   ·obtain ⟨ajq,ajp,aa9,x6,r6,E6,m6,fo⟩:=hp
    have r6:R K.hb abv.heap ajp aa9:=r6.unwx hxk
    obtain ⟨m,ns,_⟩:=id E6.ns
    refine wpAny_nameGoes (E6.ok.ws i y _ hin) ns (by rw [E6.ok.kind]; rfl) fun yY mm ns7 sb7=>?_
    obtain ⟨r7,x7⟩:=r6.but E6.la F.new.l (fun b o hb e=>(sb7.2 b hb).trans e) (fun o e=>by
     obtain ⟨o',es,ep,e',d,_⟩:=id ns
     rw [e] at e'; (first | contradiction | (obtain rfl:=oi e') | cases e')
     exact dl.notSolid ⟨_,_,d⟩) fun zz o e zz=>by
     obtain ⟨o',es,ep,e',d,_⟩:=id ns7
     exact ⟨o',e',es,ep,d⟩
    have E7:ai env (ajq.map fun zz=>none) yY aa9:=E6.wipe ns7 fun b hb=>sb7.2 b hb
    have xx:aD (d9 env) α s.heap aa9 yY:=(((x1.trans (x'.mono (by simp) (bH E1 F.cl))).trans (x4.mono (by simp) (bH E0 F.cl))).trans (x5.trans x6)).trans (x7.mono (by simp [d9]) (bH E6 F.cl))
    have sm:Sm s { abv with heap:=yY,toks:=abv.toks + 1 }:=((m1.trans m').trans ⟨(m5.trans m6).gens,(m5.trans m6).os⟩).trans ⟨rfl,rfl⟩
    cases hq6:ex C.inH n h' (ρ₁.set i (some (.exc c'))) σ₁ with
    | next ρ' σ' =>
     rw [hq6] at fo
     obtain ⟨rfl,rfl,rfl⟩:=fo
     exact ⟨_,_,_,xx,r7,E7,sm,rfl,rfl,rfl⟩
    | ret v ρ' σ' =>
     rw [hq6] at fo
     obtain ⟨⟨uv,rfl,vu⟩,rfl,rfl⟩:=fo
     exact ⟨_,_,_,xx,r7,E7,sm,⟨uv,rfl,vu.ext x7⟩,rfl,rfl⟩
    | cont ρ' σ'=>rw [hq6] at hc; exact absurd rfl hc
    | brk ρ' σ'=>rw [hq6] at hc; exact absurd rfl hc
    | exc i ρ' σ'=>rw [hq6] at hc; exact absurd rfl hc
    | stuck=>exact absurd hq6 hne5
   ·obtain ⟨c6,ρ6,σ6,_,_,_,e6,_⟩:=hxx
    rw [e6] at hc; exact absurd rfl hc
  ·exact absurd rfl hc
end
end Mine
namespace Mine
open PySem PyProof.Rows
theorem acU {N:List (Str × NameKind)} {x:Str} {i:Nat} (h:gU N x=some i):∃ k,N[i]?=some (x,k)/\(k=NameKind.local\/k=.cell):=by
 unfold gU at h
 refine aF h fun j hj h1=>aF h1 fun q hq h2=>aB h2 fun hk h3=>?_
 clear h h1 h2
 have hx:=yT hj hq
 obtain ⟨z,k⟩:=q
 dsimp only at hx
 subst hx
 obtain rfl:=oi h3
 refine ⟨k,hq,?_⟩
 cases k with
 | «local»=>exact .inl rfl
 | cell=>exact .inr rfl
 | _=>contradiction
theorem qS {N:List (Str × NameKind)} {env:Env} {x:Str} {i:Nat} (hN:env.scope.names=N) (h:gU N x=some i):∃ k,env.scope.names[i]?=some (x,k)/\(k=NameKind.local\/k=.cell):=by
 subst hN; exact acU h
section
variable {K:Kt} {A:Around} {T:aN} {C:aV} {f:List (Str × NameKind)->Expr->Option X} {N:List (Str × NameKind)} {env:Env} {ρ:aq} {σ:ac} {s:Shared} {α:AL}
open PySem.W
theorem wY {F:Frag} {b n:Str} {c i:Nat} {x u:Value} {v:PV} {fs:List (Str × PV)} {Q:Unit->Shared->Prop} {E:Value->Shared->Prop} (B:fw K F b c) (hn:n ∈ cO) (r:R K.hb s.heap σ α) (vx:VR s.heap α (.inst c i) x) (vv:VR s.heap α v u)
  (hs:σ[i]?=some (.ns fs)) (hl:fs.length < 100) (hQ:∀ s',R K.hb s'.heap (σ.set i (.ns (bQ n v fs))) α->aD [] α s.heap α s'.heap->Sm s s'->Q () s'):wpAny (model K.prog K.w) A (setAttr x n u) Q E s:=by
 obtain ⟨a,D,rfl,ea,ha,hi⟩:=aaT vx
 obtain ⟨m,ns1,o1,o2⟩:=r.obj i _ D hs hi
 obtain ⟨oD,esD,epD,eD,dD,_⟩:=id ns1
 have X:F.In s.heap:=r.frag B.inn
 have I:InstAt s.heap a (instObj c D) c (some oD):=⟨ea,rfl,rfl,eD⟩
 obtain ⟨cd,hc,hd'⟩:=any_some B.hasd
 refine set_plain X I B.seta (osa_open (s:={ s with toks:=s.toks + 1 }) X I B.plain (B.free n hn) fun bb=>?_)
 refine wpAny_bind (wpAny_pure (wpAny_bind (wpAny_bind (wpAny_loadPart ea (wpAny_bind (Looks.here (s:={ s with toks:=s.toks + 1 }) (looks_clsIn X hc) ?_))))))
 rw [hd']
 refine wpAny_pure (a:=some D) (wpAny_bind (wpAny_pure (wpAny_bind (wpAny_nsSet1 (s:={ s with toks:=s.toks + 1 }) ns1 fun h' hn' hsb=>?_))))
 have hw:Within m (fs.map (·.1)):=fun y hy=>by
  cases hg:ah y fs with
  | none=>exact absurd (o2 y hg) hy
  | some w =>
   obtain ⟨e,he,_⟩:=Option.map_eq_some_iff.mp hg
   exact List.mem_map.mpr ⟨e,List.mem_of_find?_eq_some he,by simpa using List.find?_some he⟩
 obtain ⟨oD',esD',epD',hoD,hdD,hcD⟩:=hn'.count (Within.cons n u hw)
 refine wpAny_bind (wpAny_lookBehind hoD (by rw [hdD]; exact pastItsLine_dict (aC hcD (by rw [List.length_cons,List.length_map,sizeLine_eq]; (exact aC (by assumption) (by decide))))) ?_)
 refine wpAny_pure ?_
 have key:∀ x':aD [] α s.heap α h',OR K.hb h' α (.ns (bQ n v fs)) D:=fun x'=>by
  refine ⟨_,hn',fun n' v' e=>?_,fun n' e=>?_⟩
  ·rw [tc] at e
   by_cases q:n'=n
   ·rw [if_pos q] at e ⊢; obtain rfl:=oi e; exact ⟨u,rfl,vv.ext x'⟩
   ·rw [if_neg q] at e ⊢
    obtain ⟨w,w1,w2⟩:=o1 n' v' e
    exact ⟨w,w1,w2.ext x'⟩
  ·rw [tc] at e
   by_cases q:n'=n
   ·rw [if_pos q] at e; contradiction
   ·rw [if_neg q] at e ⊢; exact o2 n' e
 obtain ⟨r',x'⟩:=r.set (m:=.ns (bQ n v fs)) hi (fun b o hb e=>(hsb.2 b hb).trans e) hoD key
 exact hQ _ r' x' ⟨rfl,rfl⟩
theorem xw {o v:Expr} {n b:Str} {p pos:Pos} {x z:X} {c k:Nat} {Fg:Frag} (B:fw K Fg b c) (hn:n ∈ cO) (F:bM K.hb env) (hcp:gW v=false)
  (H1:∀ {σ s α},ai env ρ s.heap α->R K.hb s.heap σ α->Runs K VR A (eval v env) (ev C z ρ σ) s α)
  (H2:∀ {σ s α},ai env ρ s.heap α->R K.hb s.heap σ α->Runs K VR A (eval o env) (ev C x ρ σ) s α) (E:ai env ρ s.heap α) (r:R K.hb s.heap σ α) :
  cB K env A (exec (.Assign [.Attribute o n p] v pos) env) (ex C k (.asgAttr c x n z) ρ σ) s α:=by
 change cB K env A _ ((ev C z ρ σ).toS ρ fun v σ=>(ev C x ρ σ).toS ρ fun o σ=>eP c o n v ρ σ) s α
 intro hc tk
 refine plainObj_wpAny_Assign_Attribute (Runs.useS E (H1 E r) hc tk fun vv σ₁ α₁ u s₁ e1 hc1 x1 r1 v1 m1 tk1=>?_) (iV hcp)
 rw [e1] at hc ⊢
 have E1:=E.ext x1 .nil
 refine wpAny_mono (Runs.useS (env:=env) (s:=s₁) (α:=α₁) E1 (H2 E1 r1) hc1 tk1 fun vo σ₂ aM uo aw e2 hc2 x2 r2 v2 m2 tk2=>?_) (fun zz zz q=>q) (fun zz zz q=>fq.lift (dm F E x1) m1 q)
 have E2:=E1.ext x2 .nil
 show wpAny (model K.prog K.w) A (setAttr uo n u) _ _ aw
 simp only [af.toS,e2] at hc ⊢
 cases vo with
 | inst c' i =>
  unfold eP at hc2 ⊢
  dsimp only at hc2 ⊢
  by_cases hcc:c'=c
  ·subst hcc
   rw [if_pos rfl] at hc2 ⊢
   cases hs:σ₂[i]? with
   | none=>rw [hs] at hc2; exact absurd rfl hc2
   | some mo =>
    rw [hs] at hc2
    cases mo with
    | ns fs =>
     dsimp only at hc2 ⊢
     by_cases hl:fs.length < 100
     ·rw [if_pos hl]
      exact wY B hn r2 v2 (v1.ext x2) hs hl fun s' r' x' m'=>⟨ρ,_,aM,dm F E ((x1.trans x2).trans x'),r',E2.ext x' .nil,(m1.trans m2).trans m',rfl,rfl,rfl⟩
     ·rw [if_neg hl] at hc2; exact absurd rfl hc2
    | _=>exact absurd rfl hc2
  ·rw [if_neg hcc] at hc2; exact absurd rfl hc2
 | _=>exact absurd rfl hc2
end
section
variable {K:Kt} {A:Around} {T:aN} {C:aV} {f:List (Str × NameKind)->Expr->Option X} {N:List (Str × NameKind)} {env:Env} {σ:ac} {α:AL}
theorem zG (F:bM K.hb env) (hN:env.scope.names=N) {ts:List Expr}:∀ {is:List Nat} {xs:List PV} {us:List Value} {ρ ρ':aq} {s:Shared} {Q:Unit->Shared->Prop} {X:Value->Shared->Prop},gF N ts=some is->mS is xs ρ=some ρ'->aO s.heap α xs us->ai env ρ s.heap α->R K.hb s.heap σ α ->
  (∀ s',R K.hb s'.heap σ α->ai env ρ' s'.heap α->aD (d9 env) α s.heap α s'.heap->Sm s s'->Q () s')->wpAny (model K.prog K.w) A (assignInOrder ((assignEach ts env).map (·.2)) us) Q X s:=by
 induction ts with
 | nil =>
  intro is xs us ρ ρ' s Q X h1 h2 v E r hQ
  obtain rfl:=oi h1
  cases xs with
  | nil=>obtain rfl:=oi h2; exact assignInOrder_nil (hQ s r E .refl (.refl s))
  | cons _ _=>contradiction
 | cons t ts ih =>
  intro is xs us ρ ρ' s Q X h1 h2 v E r hQ
  change o2 _ _ _=_ at h1
  refine dX (M:=fun is=>mS is xs ρ=some ρ'->wpAny (model K.prog K.w) A (assignInOrder ((assignEach (t::ts) env).map (·.2)) us) Q X s) h1 (fun i l hi hl h2=>?_) h2
  refine aF hi fun q hq hi=>?_
  obtain rfl:=dQ hq
  cases xs with
  | nil=>contradiction
  | cons p ps =>
   obtain ⟨u,us',rfl,v1,v2⟩:=v.inv_cons
   obtain ⟨k,hk1,hk2⟩:=qS hN hi
   refine assignInOrder_cons (wpAny_assign_Name (gD F r E hk1 hk2 v1 fun s₁ r1 E1 x1 m1=>?_))
   exact ih hl h2 (v2.ext x1) E1 r1 fun s' r' E' x' m'=>hQ s' r' E' (x1.trans x') (m1.trans m')
theorem aae {ts:List Expr}:∀ {is:List Nat},gF N ts=some is->(assignEach ts env).length=is.length/\(assignEach ts env).findIdx? (·.1)=none:=by
 induction ts with
 | nil=>intro is h; obtain rfl:=oi h; exact ⟨rfl,rfl⟩
 | cons t ts ih =>
  intro is h
  change o2 _ _ _=_ at h
  refine dX (M:=fun is=>(assignEach (t::ts) env).length=List.length is/\(assignEach (t::ts) env).findIdx? (·.1)=none) h fun i l hi hl=>?_
  refine aF hi fun q hq hi=>?_
  obtain rfl:=dQ hq
  obtain ⟨h1,h2⟩:=ih hl
  refine ⟨congrArg Nat.succ h1,?_⟩
  show ((false,assign (.Name q.1 q.2) env)::assignEach ts env).findIdx? (·.1)=none
  rw [List.findIdx?_cons,h2]; rfl
theorem tL:∀ {is:List Nat} {xs:List PV} {ρ ρ':aq},mS is xs ρ=some ρ'->is.length=xs.length
 | [],[],_,_,_=>rfl
 | i::is,x::xs,_,_,h=>congrArg Nat.succ (tL (is:=is) (xs:=xs) h)
 | [],_::_,_,_,h=>nomatch h
 | _::_,[],_,_,h=>nomatch h
theorem wj {ts:List Expr} {kk:Nat} {pp:Pos} {is:List Nat} {en:Bool} (hh:A.handled=none) (F:bM K.hb env) (hN:env.scope.names=N) (h1:gF N ts=some is):acu K A en env (.Tuple ts kk pp) (fJ is):=
 ⟨.inr ⟨_,_,_,rfl⟩,fun s σ α ρ ρ' pv u hb E r v Q X hQ=>by
  cases pv with
  | tup xs =>
   obtain ⟨t,us,k,rfl,ht,hnt,vs⟩:=v.tupE
   have eb:fJ is (.tup xs) ρ=if xs.length <= 100 then mS is xs ρ else none:=rfl
   rw [eb] at hb
   by_cases hl:xs.length <= 100
   ·rw [if_pos hl] at hb
    obtain ⟨g1,g2⟩:=aae (env:=env) h1
    refine wpAny_assign_Tuple hh ⟨_,ht,rfl,k,rfl⟩ (by rw [g1,tL hb,vs.1]; rfl) g2 fun h' hx=>?_
    have kp:∀ b o,s.heap.get? b=some o->h'.get? b=some o:=fun b o e=>hx b o (Nat.ne_of_lt (Heap.lt_size e)) e
    have x2:aD [] α s.heap α h':=.keeps kp
    exact zG (s:={ s with heap:=h' }) F hN h1 hb (vs.ext x2) (E.ext x2 .nil) (r.keeps kp) fun s' r' E' x' m'=>hQ s' r' E' ((dm F E x2).trans x') ⟨m'.gens,m'.os⟩
   ·rw [if_neg hl] at hb; contradiction
  | _=>contradiction⟩
set_option tactic.hygienic true in
theorem acp {ts:List Expr} {v0:Expr} {kk:Nat} {pp pos:Pos} {is:List Nat} {x:X} {n:Nat} {ρ:aq} {s:Shared} (c:Ctx K A T C) (F:bM K.hb env) (hN:env.scope.names=N) (h1:gF N ts=some is) (hv:yA v0=true)
  (H:Runs K VR A (eval v0 env) (ev C x ρ σ) s α) (E:ai env ρ s.heap α) :
  cB K env A (exec (.Assign [.Tuple ts kk pp] v0 pos) env) (ex C n (.asgT is x) ρ σ) s α:=by
 have e0:ex C n (.asgT is x) ρ σ=bif C.hd then .stuck else (ev C x ρ σ).toS ρ fun v σ=>match fJ is v ρ with
  | some ρ=>.next ρ σ
  | none=>.stuck:=rfl
 rw [e0]
 cases hhd:C.hd with
 | true=>exact fun hc=>absurd rfl hc
 | false =>
 rw [cond_false]
 intro hc tk
 refine Assign_Tuple (Runs.useS E H hc tk fun v σ₁ α₁ u s₁ e1 hc1 x1 r1 v1 m1 tk1=>?_) (by cases v0 <;> first | rfl | contradiction) (by cases v0 <;> first | rfl | contradiction)
 rw [e1]
 cases hb:fJ is v ρ with
 | none=>rw [hb] at hc1; exact absurd rfl hc1
 | some ρ' =>
  refine (wj (en:=true) (c.hd hhd) F hN h1).2 s₁ σ₁ α₁ ρ ρ' v u hb (E.ext x1 .nil) r1 v1 _ _ fun s' r' E' x' m'=>?_
  show d6 K env (match fJ is v ρ with | some ρ=>.next ρ σ₁ | none=>.stuck) s α .next s'
  rw [hb]
  exact ⟨ρ',σ₁,α₁,(dm F E x1).trans x',r',E',m1.trans m',rfl,rfl,rfl⟩
end
end Mine
namespace Mine
open PySem PyProof.Rows
section
variable {K:Kt} {A:Around} {T:aN} {C:aV} {f:List (Str × NameKind)->Expr->Option X} {N:List (Str × NameKind)} {env:Env} {ρ:aq} {σ:ac} {s:Shared} {α:AL}
set_option tactic.hygienic true in
theorem xu {elt iter:Expr} {x z:Str} {px pz pos spos:Pos} {ifs:List Expr} {scope:Scope} {fz:Bool} {t:Nat} {elt' cond it:X} {i n:Nat} {k:NameKind} (c:Ctx K A T C) (S:SE K A C f) (F:bM K.hb env) (h:qK T N f elt x iter ifs scope fz t elt' cond it)
  (hn:env.scope.names[i]?=some (z,k)) (hk:k=.local\/k=.cell)
  (hN:env.scope.names=N) (E:ai env ρ s.heap α) (r:R K.hb s.heap σ α) (hsw:swapsWith (.ListComp elt [⟨.Name x px,iter,ifs,0⟩] scope pos) (some (.Name z pz)) spos.line env=pure true) :
  cB K env A (exec (.Assign [.Name z pz] (.ListComp elt [⟨.Name x px,iter,ifs,0⟩] scope pos) spos) env) (ex C n (.asg i (.comp fz t (dH N (a8 N scope.names)) elt' cond it)) ρ σ) s α:=by
 have e0:ex C n (.asg i (.comp fz t (dH N (a8 N scope.names)) elt' cond it)) ρ σ=(ev C (.comp fz t (dH N (a8 N scope.names)) elt' cond it) ρ σ).toS ρ fun v σ=>.next (ρ.set i (some v)) σ:=rfl
 rw [e0]
 intro hc tk
 cases hhd:C.hd with
 | true=>rw [nV,hhd] at hc; exact absurd rfl hc
 | false =>
 rw [uO hhd] at hc ⊢
 have co:=h.ok hN
 obtain ⟨hit',hpl⟩:=jN (en:=false) c hhd S h.it hN F.new E r
 rw [exec_Assign_Name_used _ _ _ _ hsw]
 refine wpAny_bind (wpAny_standAt (wpAny_bind ?_))
 show wpAny _ A (do let _ <- comprehension (.ListComp elt [⟨.Name x px,iter,ifs,0⟩] scope pos) scope env _ (newList []) false (eval iter env) (some (assign (.Name z pz) env))) _ _ s
 generalize hcq:gO fz (fun v σ=>tst C cond ((bI (dH N (a8 N scope.names)) ρ).set t (some v)) σ) (fun v σ=>ev C elt' ((bI (dH N (a8 N scope.names)) ρ).set t (some v)) σ) (evIt C it ρ σ)=cc at hc ⊢
 have hcc:cc ≠ .stuck:=by intro q; rw [q] at hc; exact hc rfl
 refine wpAny_bind (wpAny_mono (wpAny_comprehension_free (use:=some (assign (.Name z pz) env)) (Q:=fun zz s'=>d6 K env (cc.toS ρ fun v σ=>.next (ρ.set i (some v)) σ) s α .next s')
  rfl (ki hpl) (pK (lV co E)) co.kind co.names
  (uN (fz:=fz) (t:=t) (ρ:=ρ) (tC:=fun v σ=>tst C cond ((bI (dH N (a8 N scope.names)) ρ).set t (some v)) σ) (eC:=fun v σ=>ev C elt' ((bI (dH N (a8 N scope.names)) ρ).set t (some v)) σ) (RR:=fun acc C'=>compPost (model K.prog K.w) A _ (some (assign (.Name z pz) env)) _ acc C')
   co E hit' (by rw [hcq]; exact hcc) tk (fun C' v s' σ' α' n' E' r'=>?_) (fun C' v s' σ' α' n' E' r'=>?_) c.fr F.new ⟨_,r⟩ (fun e s' hx=>?_) ?_)) (fun zz s' hq=>wpAny_pure (wpAny_pure hq)) fun zz zz e=>e)
 ·rw [o8 hN] at E'
  exact uM S h.cond (jY hN E) n' E' r'
 ·rw [o8 hN] at E'
  exact ((S _ elt elt' h.elt).2 _ _ σ' s' α' (jY hN E) n' E' r').1
 ·obtain ⟨i',σ',e1,nt,fx⟩:=hx
  refine ⟨i',ρ,σ',s,α,nt,?_,.refl,E,.refl s,fx⟩
  rw [<- hcq]
  show (gO _ _ _ _).toS ρ _=_
  rw [e1]; rfl
 ·rw [hcq]
  rintro acc C' rr s' ⟨rfl,v,σ',α',m,e,x',r',vr,sm,ns,ha,hC,hbC,hCfr⟩
  subst e
  have E':=E.ext x' .nil
  show wpAny _ A (assign (.Name z pz) env acc) _ _ _
  refine wpAny_assign_Name (gD F r' E' hn hk vr fun aw bF iS cT gr=>?_)
  have hCf:C' ∉ d9 env:=fun q=>by
   obtain ⟨o,eo⟩:=bH E F.cl C' q
   rw [hC] at eo; contradiction
  have af9:aw.heap.Ns C' m:=yD cT (AL.not_ix ha) hCf ns
  refine ⟨m,af9,fun h' hs'=>?_⟩
  obtain ⟨r'',x''⟩:=bF.but ha hbC (fun b o hb e=>(hs'.2 b hb).trans e) (fun o e=>by
   obtain ⟨o',es,ep,e',d,_⟩:=id af9
   rw [e] at e'; obtain rfl:=oi e'
   exact dl.notSolid ⟨_,_,d⟩) fun q=>absurd q hCfr
  have ap:pd env [C']:=⟨fun q=>by simp at q; exact hCf (q ▸ List.mem_cons_self),fun y c' hc' q=>by
   simp at q; subst q
   exact hCf (bJ _ (List.mem_map.mpr ⟨_,mem_of_lookup hc',rfl⟩))⟩
  exact ⟨_,_,_,((dm F E x').trans cT).sameBut hC (fun b hb=>hs'.2 b hb),r'',iS.ext x'' ap,(sm.trans gr).trans ⟨rfl,rfl⟩,rfl,rfl,rfl⟩
end
theorem aeg {e:Expr} {q:Expr × List Comprehension × Scope × Pos} (h:aeh e=some q):e=.ListComp q.1 q.2.1 q.2.2.1 q.2.2.2:=by
 cases e with
 | ListComp=>obtain rfl:=oi h; rfl
 | _=>contradiction
section
variable {K:Kt} {A:Around} {T:aN} {C:aV} {N:List (Str × NameKind)} {env:Env} {n:Nat}
noncomputable def BS (K:Kt) (A:Around) (C:aV) (n:Nat) (env:Env) (t:Sem Flow) (b:S):Prop:=
 ∀ ρ σ s α,ai env ρ s.heap α->R K.hb s.heap σ α->cB K env A t (ex C n b ρ σ) s α
noncomputable def SS (K:Kt) (A:Around) (C:aV) (n:Nat) (env:Env) (g:Stmt->Option S):Prop:=
 ∀ st b,g st=some b->BS K A C n env (exec st env) b
theorem dk {g:Stmt->Option S} (H:SS K A C n env g) {sts:List Stmt}:∀ {b:S},jy g sts=some b->BS K A C n env (execs sts env) b:=by
 induction sts with
 | nil =>
  intro b h ρ σ s α E r
  obtain rfl:=oi h
  exact fun zz zz=>wpAny_execs_nil ⟨ρ,σ,α,.refl,r,E,.refl s,rfl,rfl,rfl⟩
 | cons st sts ih =>
  intro b h
  change o2 _ _ _=_ at h
  refine dX h fun a b' ha hb ρ σ s α E r hc tk=>?_
  have e0:ex C n (.cons a b') ρ σ=(match ex C n a ρ σ with
   | .next ρ σ=>ex C n b' ρ σ
   | o=>o):=rfl
  rw [e0] at hc ⊢
  refine wpAny_execs_cons ?_
  have h1:ex C n a ρ σ ≠ .stuck:=by intro q; rw [q] at hc; exact hc rfl
  refine wpAny_mono (cb (H st a ha _ _ _ _ E r h1 tk)) (fun fl s₁ hp=>?_) fun e s₁ hx=>?_
  ·obtain ⟨⟨ρ₁,σ₁,α₁,x1,r1,E1,m1,fo⟩,tl1⟩:=hp
   cases hq:ex C n a ρ σ with
   | next ρ' σ' =>
    rw [hq] at fo hc
    obtain ⟨rfl,rfl,rfl⟩:=fo
    exact wpAny_mono (ih hb _ _ _ _ E1 r1 hc (Kt.Tk.up tk tl1)) (fun zz zz q=>q.lift x1 m1) fun zz zz q=>q.lift x1 m1
   | cont ρ' σ'=>rw [hq] at fo; have fo':=fo; obtain ⟨rfl,_⟩:=fo'; exact ⟨ρ₁,σ₁,α₁,x1,r1,E1,m1,fo⟩
   | brk ρ' σ'=>rw [hq] at fo; have fo':=fo; obtain ⟨rfl,_⟩:=fo'; exact ⟨ρ₁,σ₁,α₁,x1,r1,E1,m1,fo⟩
   | ret v ρ' σ'=>rw [hq] at fo; have fo':=fo; obtain ⟨⟨u,rfl,_⟩,_⟩:=fo'; exact ⟨ρ₁,σ₁,α₁,x1,r1,E1,m1,fo⟩
   | exc i ρ' σ'=>rw [hq] at fo; exact fo.elim
   | stuck=>exact absurd hq h1
  ·obtain ⟨⟨i,ρ',σ',aw,aM,nt,e1,q1,q2,q3,q4⟩,_⟩:=hx
   exact ⟨i,ρ',σ',aw,aM,nt,by rw [e1],q1,q2,q3,q4⟩
section
variable {f:List (Str × NameKind)->Expr->Option X} {g:Stmt->Option S}
theorem SE.val (Sf:SE K A C f) (F:bM K.hb env) (hN:env.scope.names=N) {e:Expr} {x:X} (h:f N e=some x) {ρ σ s α} (E:ai env ρ s.heap α) (r:R K.hb s.heap σ α):Runs K VR A (eval e env) (ev C x ρ σ) s α:=
 ((Sf N _ _ h).2 env ρ σ s α hN F.new E r).1
theorem SE.tst (Sf:SE K A C f) (F:bM K.hb env) (hN:env.scope.names=N) {e:Expr} {x:X} (h:f N e=some x) {ρ σ s α} (E:ai env ρ s.heap α) (r:R K.hb s.heap σ α):Runs K dI A (isTrue e env (eval e env)) (tst C x ρ σ) s α:=
 ((Sf N _ _ h).2 env ρ σ s α hN F.new E r).2
theorem xt {z:Str} {pz spos:Pos} {v:Expr} {b:S} (c:Ctx K A T C) (Sf:SE K A C f) (F:bM K.hb env) (hN:env.scope.names=N) (h:af1 T N f (f N) (.Name z pz) v=some b):BS K A C n env (exec (.Assign [.Name z pz] v spos) env) b:=by
 change iB _ _ _=_ at h
 refine eU h (fun q hac h=>?_) fun zz h=>aB h fun hcp h=>dX h fun i y hi hy=>?_
 ·rw [aeg hac]
  refine dX h fun i y hi hy=>?_
  obtain ⟨x,px,iter,ifs,hg,hy⟩:=tA hy
  rw [hg]
  obtain ⟨k,hk1,hk2⟩:=qS hN hi
  refine wg (P:=fun y=>BS K A C n env _ (.asg i y)) hy fun t e cc it qq ρ σ s α E r=>?_
  cases hq:(env.blockKind == .function && env.kindOf z == some .local && pz.line == q.2.2.2.line && !(q.2.2.1.names.any fun (n,k)=>n == z && (k == .local || k == .cell))) with
  | true=>exact xu c Sf F qq hk1 hk2 hN E r (congrArg pure hq)
  | false =>
   intro hc tk
   refine wpAny_Assign_Name (Runs.useS E (rO c Sf qq hN F.new E r) hc tk fun v σ₁ α₁ u s₁ e1 hc1 x1 r1 v1 m1 tk1=>?_) (congrArg pure hq)
   refine gD F r1 (E.ext x1 .nil) hk1 hk2 v1 fun aw r2 E2 x2 m2=>?_
   show d6 K env (af.toS _ _ _) _ _ _ _
   rw [e1]
   exact ⟨_,_,_,(dm F E x1).trans x2,r2,E2,m1.trans m2,rfl,rfl,rfl⟩
 ·obtain ⟨k,hk1,hk2⟩:=qS hN hi
  exact fun zz zz zz zz E r=>aef F (by simpa using hcp) hk1 hk2 (Sf.val F hN hy E r) E
theorem abr {t:Expr} {b0 o0:List Stmt} {pos:Pos} {t':X} {b' o':S} (Sf:SE K A C f) (F:bM K.hb env) (hN:env.scope.names=N) (h1:f N t=some t') (h2:BS K A C n env (execs b0 env) b') (h3:BS K A C n env (execs o0 env) o') :
  BS K A C n env (exec (.If t b0 o0 pos) env) (.ife t' b' o'):=fun ρ σ s α E r hc tk=>by
 have e0:ex C n (.ife t' b' o') ρ σ=(tst C t' ρ σ).toS ρ fun t σ=>if t then ex C n b' ρ σ else ex C n o' ρ σ:=rfl
 rw [e0] at hc ⊢
 refine wpAny_If (Runs.useS E (Sf.tst F hN h1 E r) hc tk fun t σ₁ α₁ y s₁ e1 hc1 x1 r1 v1 m1 tk1=>?_)
 have:y=t:=v1
 subst this
 rw [e1]
 have E1:=E.ext x1 .nil
 cases y with
 | true=>exact wpAny_mono (h2 _ _ _ _ E1 r1 hc1 tk1) (fun zz zz q=>q.lift (dm F E x1) m1) fun zz zz q=>q.lift (dm F E x1) m1
 | false=>exact wpAny_mono (h3 _ _ _ _ E1 r1 hc1 tk1) (fun zz zz q=>q.lift (dm F E x1) m1) fun zz zz q=>q.lift (dm F E x1) m1
theorem zZ {x:Str} {px pos:Pos} {it:Expr} {b0:List Stmt} {i':Nat} {it':X} {b':S} (c:Ctx K A T C) (Sf:SE K A C f) (F:bM K.hb env) (hN:env.scope.names=N) (h1:gU N x=some i') (h2:rY T N (f N) it=some it') (h3:BS K A C n env (execs b0 env) b') :
  BS K A C n env (exec (.For (.Name x px) it b0 [] pos) env) (.for1 i' it' b'):=fun ρ σ s α E r=>by
 obtain ⟨k,hk1,hk2⟩:=qS hN h1
 have e0:ex C n (.for1 i' it' b') ρ σ=bif C.hd then .stuck else (evIt C it' ρ σ).toS ρ fun p σ=>aX p.2 (bE i') (fun ρ σ=>ex C n b' ρ σ) p.1 ρ σ:=rfl
 rw [e0]
 cases hhd:C.hd with
 | true=>exact fun hc=>absurd rfl hc
 | false =>
 obtain ⟨q1,q2⟩:=jN c hhd Sf h2 hN F.new E r
 exact wE F (aeA F hk1 hk2) q2 q1 (h3 _ _ _ _) E rfl
theorem yh {ts:List Expr} {kk:Nat} {pp pos:Pos} {it:Expr} {b0:List Stmt} {is:List Nat} {it':X} {b':S} (c:Ctx K A T C) (Sf:SE K A C f) (F:bM K.hb env) (hN:env.scope.names=N) (h1:gF N ts=some is) (h2:xE T N (f N) it=some it') (h3:BS K A C n env (execs b0 env) b') :
  BS K A C n env (exec (.For (.Tuple ts kk pp) it b0 [] pos) env) (.forT is it' b'):=fun ρ σ s α E r=>by
 have e0:ex C n (.forT is it' b') ρ σ=bif C.hd then .stuck else (evIt C it' ρ σ).toS ρ fun p σ=>aX p.2 (fJ is) (fun ρ σ=>ex C n b' ρ σ) p.1 ρ σ:=rfl
 rw [e0]
 cases hhd:C.hd with
 | true=>exact fun hc=>absurd rfl hc
 | false =>
 obtain ⟨en,q1,q2⟩:=zY c hhd Sf h2 hN F.new E r
 exact wE F (wj (c.hd hhd) F hN h1) q2 q1 (h3 _ _ _ _) E rfl
theorem wU {e:Option Expr} {pos:Pos} {b:S} (c:Ctx K A T C) (hN:env.scope.names=N) (h:u6 T N e=some b):BS K A C n env (exec (.Raise e none pos) env) b:=by
 unfold u6 at h
 refine aF h fun q hq h=>aF h fun z hz h=>b6 h fun c' hc=>?_
 refine aF hq fun e1 he hq=>?_
 subst he
 rw [sY hq]
 obtain ⟨k,p,hz,hok⟩:=ahi hz
 rw [hz]
 exact fun zz zz zz zz E r=>aab c hc hok hN E r
theorem zV {b0:List Stmt} {hs:List ExceptHandler} {pos:Pos} {b:S} (c:Ctx K A T C) (F:bM K.hb env) (hN:env.scope.names=N) (H:SS K A C n env g) (Hh:C.rz=true->∀ (hx:Heap) (a:Addr),wa K hx a C->bM (K.wx hx).hb env->SS (K.wx hx) (A.mark (some (.ref a))) C.inH n env g) (h:abm T N g b0 hs=some b) :
  BS K A C n env (exec (.Try b0 hs [] [] pos) env) b:=by
 unfold abm at h
 refine aF h fun hd h0 h=>?_
 rw [tR h0]
 obtain ⟨t,y,hb,hpos⟩:=hd
 change Option.bind _ _=_ at h
 refine aF h fun q hq h=>aF h fun y' hy h=>aF h fun c' hc h=>aF h fun i hi h=>aB h fun hcond h=>dX h fun b1 h1 hb1 hh1=>?_
 refine aF hq fun t' ht hq=>?_
 subst ht hy
 rw [dQ hq]
 simp only [Bool.and_eq_true,beq_iff_eq,Bool.not_eq_true',List.isEmpty_eq_false_iff] at hcond
 exact fun zz zz zz zz E r=>acG c F hc hN hcond.1 hcond.2 (dk H hb1 _ _ _ _ E r) fun hrz hx a ov F' {_ _ _ _} E' r'=>dk (Hh hrz hx a ov F') hh1 _ _ _ _ E' r'
end
theorem wT {f:List (Str × NameKind)->Expr->Option X} {g:Stmt->Option S} (c:Ctx K A T C) (Sf:SE K A C f) (F:bM K.hb env) (hN:env.scope.names=N) (H:SS K A C n env g)
  (Hh:C.rz=true->∀ (hx:Heap) (a:Addr),wa K hx a C->bM (K.wx hx).hb env->SS (K.wx hx) (A.mark (some (.ref a))) C.inH n env g)
  : SS K A C n env (aaD T N f (f N) g):=by
 intro st b h
 cases st with
 | Assign ts v spos =>
  change Option.bind _ _=_ at h
  refine aF h fun t h0 h=>?_
  rw [tR h0]
  cases t with
  | Name z pz=>exact xt c Sf F hN h
  | Subscript o i pp =>
   change ay _ _=_ at h
   exact aB h fun hcp h=>mf h fun o' i' v' h1 h2 h3 zz zz zz zz E r=>zH c.hA F (by simpa using hcp) (Sf.val F hN h3) (Sf.val F hN h1) (Sf.val F hN h2) E r
  | Attribute o nm pp =>
   change Option.bind _ _=_ at h
   refine aF h fun q hb h=>aB h fun hc h=>dX h fun o' v' h1 h3=>?_
   obtain ⟨b,cl⟩:=q
   obtain ⟨hc1,hc2⟩:=bY hc
   obtain ⟨Fg,B,_⟩:=c.brd b cl hb
   exact fun zz zz zz zz E r=>xw B (List.contains_iff_mem.mp hc2) F (by simpa using hc1) (Sf.val F hN h3) (Sf.val F hN h1) E r
  | Tuple ts kk pp =>
   change ay _ _=_ at h
   refine aB h fun hc h=>dX h fun is v' h1 h3=>?_
   exact fun zz zz zz zz E r=>acp c F hN h1 hc (Sf.val F hN h3 E r) E
  | _=>contradiction
 | Expr e pos =>
  change ay _ _=_ at h
  exact aB h fun hcp h=>b6 h fun y hq zz zz zz zz E r=>acd F (by simpa using hcp) (Sf.val F hN hq E r) E
 | Return v pos =>
  cases v with
  | some e=>exact b6 h fun y hq zz zz zz zz E r=>ac4 F (Sf.val F hN hq E r) E
  | none=>obtain rfl:=oi h; exact fun ρ σ s α E r zz zz=>wpAny_Return_none ⟨ρ,σ,α,.refl,r,E,.refl s,⟨.none,rfl,.none⟩,rfl,rfl⟩
 | If t b0 o0 pos=>exact mf h fun t' b' o' h1 h2 h3=>abr Sf F hN h1 (dk H h2) (dk H h3)
 | For t it b0 o pos =>
  change ay _ _=_ at h
  refine aB h fun ho h=>eU h (fun q hq h=>mf h fun i' it' b' h1 h2 h3=>?_) fun zz h=>aF h fun ts ht h=>mf h fun is it' b' h1 h2 h3=>?_
  ·rw [List.isEmpty_iff.mp ho,dQ hq]
   exact zZ c Sf F hN h1 h2 (dk H h3)
  ·rw [List.isEmpty_iff.mp ho]
   cases t with
   | Tuple ts' kk pp =>
    obtain rfl:=oi ht
    exact yh c Sf F hN h1 h2 (dk H h3)
   | _=>contradiction
 | While t b0 o pos =>
  change ay _ _=_ at h
  refine aB h fun ho h=>dX h fun t' b' h1 h3=>?_
  rw [List.isEmpty_iff.mp ho]
  intro ρ σ s α E r
  have e0:ex C n (.whl t' b') ρ σ=bif C.hd then .stuck else bc (fun ρ σ=>tst C t' ρ σ) (fun ρ σ=>ex C n b' ρ σ) n ρ σ:=rfl
  rw [e0]
  cases hhd:C.hd with
  | true=>exact fun hc=>absurd rfl hc
  | false=>exact zS F (fun E' r'=>Sf.tst F hN h1 E' r') (dk H h3 _ _ _ _) E r
 | Break pos=>obtain rfl:=oi h; exact fun ρ σ s α E r zz zz=>wpAny_Break ⟨ρ,σ,α,.refl,r,E,.refl s,rfl,rfl,rfl⟩
 | Raise e1 e2 pos =>
  change ay _ _=_ at h
  refine aB h fun he h=>?_
  rw [Option.isNone_iff_eq_none.mp he]
  exact wU c hN h
 | Try bd hs o fi pos =>
  change ay _ _=_ at h
  refine aB h fun hcond h=>?_
  obtain ⟨h1,h2⟩:=bY hcond
  rw [List.isEmpty_iff.mp h1,List.isEmpty_iff.mp h2]
  exact zV c F hN H Hh h
 | _=>contradiction
theorem pZ {f:List (Str × NameKind)->Expr->Option X} {Good:Kt->Around->aV->Prop} (hN:env.scope.names=N)
  (G:∀ K A C,Good K A C->Ctx K A T C/\SE K A C f/\(C.rz=true->∀ (hx:Heap) (a:Addr),wa K hx a C->Good (K.wx hx) (A.mark (some (.ref a))) C.inH)):∀ m {K:Kt} {A:Around} {C:aV},bM K.hb env->Good K A C->SS K A C n env (trS T N f m)
 | 0,_,_,_,_,_=>fun st b h=>by contradiction
 | m + 1,K,A,C,F,g=>wT (G K A C g).1 (G K A C g).2.1 F hN (pZ hN G m F g) fun hrz hx a ov F'=>pZ hN G m F' ((G K A C g).2.2 hrz hx a ov)
end
end Mine
namespace Mine
open PySem PyProof.Rows
structure dB (d:Nat) (A:Around):Prop where
 depth:A.depth + 2 * d + 200 < recursionLimit
 units:A.units + 20 * d + 200 < cLine
theorem dB.ok {d:Nat} {A:Around} (h:dB d A):dv A:=⟨by have:=h.depth; (grind),by have:=h.units; (grind)⟩
theorem dB.deeper {d:Nat} {A:Around} {env:Env} (h:dB (d + 1) A):dB d (A.deeper env):=by
 refine ⟨?_,?_⟩
 ·have:=h.depth
  show A.depth + 1 + 2 * d + 200 < recursionLimit
  (grind)
 ·have:=h.units
  show A.units + 3 + 20 * d + 200 < cLine
  (grind)
theorem dB.mark {d:Nat} {A:Around} {e:Option Value} (h:dB d A):dB d (A.mark e):=⟨h.depth,h.units⟩
theorem VR.refr {h:Heap} {α:AL} {p:PV} {v:Value} {fr:List Addr} (r:VR h α p v):VR h ⟨α.ix,α.hid,fr⟩ p v:=VR.re (α:=α) (α':=⟨α.ix,α.hid,fr⟩) (fun zz zz e=>e) (fun zz h=>h) r
noncomputable def Kt.wf (K:Kt) (fr:List Addr):Kt:={ K with hb:=⟨K.hb.h,fr,K.hb.prog,K.hb.w⟩ }
theorem eI.push {K:Kt} {A:Around} {fr:List Addr} {env:Env} {L:Addr} (h:eI (K.wf fr) A) (hf:env.frame=some L) (hk:env.scope.kind=.function):eI (K.wf (L::fr)) (A.deeper env):=by
 obtain ⟨l,h1,h2,h3⟩:=h.ex
 refine ⟨env::l,?_,?_,fun e he=>?_⟩
 ·show A.frames.map (env::·)=_
  rw [h1]; rfl
 ·show (env::l).map (·.frame)=(L::fr).map some
  rw [List.map_cons,List.map_cons,hf,h2]; rfl
 ·rcases List.mem_cons.mp he with q | q
  ·rw [q,hk]; decide
  ·exact h3 e q
theorem eI.mark {K:Kt} {A:Around} {e:Option Value} (h:eI K A):eI K (A.mark e):=⟨h.ex⟩
theorem OR.wf {K:Kt} {fr fr':List Addr} {h:Heap} {α:AL} {m:MO} {a:Addr} (o:OR (K.wf fr).hb h α m a):OR (K.wf fr').hb h α m a:=by
 cases m <;> exact o
theorem R.pushFr {K:Kt} {fr:List Addr} {h:Heap} {σ:ac} {α:AL} {L:Addr} {o:Obj} (r:R (K.wf fr).hb h σ α) (hL:K.hb.get? L=none) (e:h.get? L=some o) (d:dl o) (hLi:L ∉ α.ix):R (K.wf (L::fr)).hb h σ ⟨α.ix,α.hid,L::fr⟩:=
 ⟨r.base,r.fresh,r.nodup,r.len,r.hidden,fun j m a e1 e2=>((r.obj j m a e1 e2).wf (fr':=L::fr)).re (α:=α) (α':=⟨α.ix,α.hid,L::fr⟩) (fun zz zz e=>e) (fun zz h=>h),r.hfr,rfl,fun a ha=>by
  rcases List.mem_cons.mp ha with q | q
  ·subst q; exact ⟨hL,o,e,d⟩
  ·exact r.frs a q,fun a ha=>by
  rcases List.mem_cons.mp ha with q | q
  ·subst q; exact hLi
  ·exact r.frNot a q⟩
theorem R.popFr {K:Kt} {fr:List Addr} {h:Heap} {σ:ac} {α:AL} {L:Addr} (r:R (K.wf (L::fr)).hb h σ α):R (K.wf fr).hb h σ ⟨α.ix,α.hid,fr⟩:=
 ⟨r.base,r.fresh,r.nodup,r.len,r.hidden,fun j m a e1 e2=>((r.obj j m a e1 e2).wf (fr':=fr)).re (α:=α) (α':=⟨α.ix,α.hid,fr⟩) (fun zz zz e=>e) (fun zz h=>h),r.hfr,rfl,fun a ha=>r.frs a (bJ _ ha),fun a ha=>r.frNot a (bJ _ ha)⟩
theorem aD.ofCall {own:List Addr} {α aM:AL} {h a7 de:Heap} {L:Addr} {fr:List Addr} (hfr:α.fr=fr) (k:∀ b o,h.get? b=some o->a7.get? b=some o) (hown:∀ b ∈ own,h.get? b=none) (hL:h.get? L=none)
  (y:aD own ⟨α.ix,α.hid,L::fr⟩ a7 aM de):aD [] α h ⟨aM.ix,aM.hid,fr⟩ de:=by
 have no:∀ b o,h.get? b=some o->b ∉ own:=fun b o e q=>by rw [hown b q] at e; contradiction
 obtain ⟨β,q1,q2⟩:=y.pre
 refine ⟨y.hid,⟨β,q1,fun x hx=>⟨?_,by simp⟩⟩,fun b o hb e hs=>y.seqs b o hb (k b o e) hs,fun b o hb zz e=>?_,fun b o zz e=>y.alive b o (no b o e) (k b o e),hfr.symm⟩
 ·cases e:h.get? x with
  | none=>rfl
  | some o=>have:=k x o e; rw [(q2 x hx).1] at this; contradiction
 ·rcases y.rest b o hb (no b o e) (k b o e) with q | ⟨f,d,sl,q⟩
  ·exact .inl q
  ·refine .inr ⟨?_,d,sl,q⟩
   rcases List.mem_cons.mp f with z | z
   ·rw [z,hL] at e; contradiction
   ·rw [hfr]; exact z
theorem FX.leave {K:Kt} {fr:List Addr} {s dJ s₁ aw:Shared} {α eF:AL} {i:Nat} {σ:ac} {nt:Bool} {e:Value} {env:Env} {A:Around} {L:Addr} {ρ:aq} {Q:Unit->Shared->Prop} {E:Value->Shared->Prop} (hA:eI (K.wf (L::fr)) A) (hF:bM (K.wf (L::fr)).hb env)
  (hfr:α.fr=fr) (k:∀ b o,s.heap.get? b=some o->s₁.heap.get? b=some o) (hown:∀ b ∈ d9 env,s.heap.get? b=none) (hl:env.locals=L) (ou:∃ σ,R (K.wf fr).hb s.heap σ α) (m:Sm s dJ)
  (y:aD (d9 env) ⟨α.ix,α.hid,L::fr⟩ s₁.heap eF dJ.heap) (En:ai env ρ dJ.heap eF) (f:FX (K.wf (L::fr)) dJ eF i σ nt e aw)
  (hQ:∀ s',FX (K.wf fr) s α i σ true e s'->Q () s'):wpAny (model K.prog K.w) A (leaving env e) Q E aw:=by
 obtain ⟨a,aP,α',rfl,x',r',u,ea,m'⟩:=f
 subst hl
 have hL:s.heap.get? env.locals=none:=hown _ List.mem_cons_self
 have hLf:env.locals ∉ fr:=fun q=>by
  obtain ⟨σ',r0⟩:=ou
  obtain ⟨_,o,e,_⟩:=r0.frs _ q
  rw [hL] at e; contradiction
 have hla:=(En.ext x' .nil).la
 have keep:∀ b,b ≠ env.locals->(PySem.W.hideAll aP [env.locals]).get? b=aP.get? b:=fun b hb=>ahD hb
 have none0:∀ b,aP.get? b=none->(PySem.W.hideAll aP [env.locals]).get? b=none:=fun b hb=>by
  cases q:(PySem.W.hideAll aP [env.locals]).get? b with
  | none=>rfl
  | some o=>rw [PySem.W.of_hideAll _ q] at hb; contradiction
 have r1:=r'.popFr
 obtain ⟨r2,_⟩:=r1.but (h':=PySem.W.hideAll aP [env.locals]) (I:=env.locals) hla hF.new.l (fun b o hb e=>(keep b hb).trans e) (fun o e=>by
  obtain ⟨_,o',e',d⟩:=r'.frs env.locals List.mem_cons_self
  rw [e] at e'; obtain rfl:=oi e'; exact d.notSolid) fun q=>absurd q hLf
 have x1:aD [] α s.heap ⟨α'.ix,α'.hid,fr⟩ aP:=aD.ofCall hfr k hown hL (y.trans (x'.mono (by simp) (bH En hF.cl)))
 have x2:=x1.sameBut hL keep
 refine adC (K:=K.wf (env.locals::fr)) hA hF.new r' u ea fun h'' u'' ea''=>hQ _ ⟨a,_,_,rfl,x2,r2,fun b o hb=>?_,?_,⟨(m.trans m').gens,(m.trans m').os⟩⟩
 ·have hbL:b ≠ env.locals:=fun q=>by rw [q,PySem.W.hideAll_none _ (by simp)] at hb; contradiction
  rcases u'' b o (PySem.W.of_hideAll _ hb) with q | ⟨f,sl,q⟩
  ·exact .inl q
  ·rcases List.mem_cons.mp f with z | z
   ·exact absurd z hbL
   ·exact .inr ⟨z,sl,q⟩
 ·obtain ⟨new,oe,vs,xv,he,hc,hd,h1,ht,cx⟩:=ea''
  refine ⟨none0 a new,oe,vs,xv,he,hc,hd,h1,?_,cx⟩
  rcases ht with ⟨q,q'⟩ | ⟨T,oT,ts,q,hT0,z1,z2,z3,z4,z5⟩
  ·exact .inl q q'
  ·exact .inr T oT ts q (none0 T hT0) z1 z2 z3 z4 z5
theorem gp:∀ {names:List (Str × NameKind)} {n:Nat} {acc:List (Str × Addr)} {x:Str},(x,NameKind.cell) ∈ names->∃ c,(x,c) ∈ cellsFrom n names acc
 | (y,k)::r,n,acc,x,h=>by
  have keep:∀ {r:List (Str × NameKind)} {n:Nat} {acc:List (Str × Addr)} {p:Str × Addr},p ∈ acc->p ∈ cellsFrom n r acc:=by
   intro r
   induction r with
   | nil=>intro n acc p hp; exact hp
   | cons q r ih =>
    intro n acc p hp
    obtain ⟨y,k⟩:=q
    unfold cellsFrom
    split
    ·exact ih (bJ _ hp)
    ·exact ih hp
  unfold cellsFrom
  rcases List.mem_cons.mp h with e | h
  ·cases e
   rw [if_pos (by rfl)]
   exact ⟨n,keep List.mem_cons_self⟩
  ·split
   ·exact gp h
   ·exact gp h
theorem ii:∀ {names:List (Str × NameKind)} {n:Nat} {acc:List (Str × Addr)},td names->(acc.map (·.1)).Nodup->(∀ p ∈ acc,∀ k,(p.1,k) ∉ names)->((cellsFrom n names acc).map (·.1)).Nodup
 | [],_,_,_,h,_=>h
 | (y,k)::r,n,acc,hU,h,hd=>by
  have hU':td r:=fun i j x k k' h1 h2=>by have:=hU (i + 1) (j + 1) x k k' (by simpa using h1) (by simpa using h2); (grind)
  have hy:∀ k',(y,k') ∉ r:=fun k' hm=>by
   obtain ⟨i,hi⟩:=List.mem_iff_getElem?.mp hm
   have:=hU 0 (i + 1) y k k' (by simp) (by simpa using hi)
   (grind)
  unfold cellsFrom
  split
  ·refine ii hU' ?_ fun p hp k' hm=>?_
   ·simp only [List.map_cons,List.nodup_cons]
    refine ⟨fun q=>?_,h⟩
    obtain ⟨p,hp,rfl⟩:=List.mem_map.mp q
    exact hd p hp k List.mem_cons_self
   ·rcases List.mem_cons.mp hp with e | hp
    ·subst e; exact hy k' hm
    ·exact hd p hp k' (bJ _ hm)
  ·exact ii hU' h fun p hp k' hm=>hd p hp k' (bJ _ hm)
theorem qb:∀ {l:List (Str × Addr)},(l.map (·.1)).Nodup->∀ p ∈ l,l.lookup p.1=some p.2
 | [],_,p,hp=>by simp at hp
 | (k,v)::r,h,p,hp=>by
  simp only [List.map_cons,List.nodup_cons] at h
  rw [List.lookup_cons]
  rcases List.mem_cons.mp hp with e | hp
  ·subst e; simp
  ·have:(p.1 == k)=false:=by
    cases hb:p.1 == k with
    | false=>rfl
    | true =>
     have:p.1=k:=by simpa using hb
     exact absurd (List.mem_map.mpr ⟨p,hp,this⟩) h.1
   rw [this]
   exact qb h.2 p hp
theorem rP {kd:Str->Option NameKind}:∀ {ps:List Str} {vals:List Value} {m:Str->Option Value} {y:Str},y ∉ ps->bindL kd (ps.zip vals) m y=m y
 | [],vals,m,y,h=>by simp [bindL]
 | p::ps,[],m,y,h=>by simp [bindL]
 | p::ps,v::vals,m,y,h=>by
  simp only [List.mem_cons,not_or] at h
  simp only [List.zip_cons_cons,bindL]
  rw [rP h.2]
  split
  ·simp [h.1]
  ·rfl
theorem rQ {kd:Str->Option NameKind}:∀ {ps:List Str} {vals:List Value} {m:Str->Option Value} {y:Str},y ∉ ps->bindC kd (ps.zip vals) m y=m y
 | [],vals,m,y,h=>by simp [bindC]
 | p::ps,[],m,y,h=>by simp [bindC]
 | p::ps,v::vals,m,y,h=>by
  simp only [List.mem_cons,not_or] at h
  simp only [List.zip_cons_cons,bindC]
  rw [rQ h.2]
  split
  ·rfl
  ·simp [h.1]
theorem wP {kd:Str->Option NameKind}:∀ {ps:List Str} {vals:List Value} {m:Str->Option Value} {i:Nat} {y:Str} {v:Value},ps.Nodup->ps[i]?=some y->vals[i]?=some v->kd y=some .local->bindL kd (ps.zip vals) m y=some v
 | [],vals,m,i,y,v,_,h,_,_=>by simp at h
 | p::ps,[],m,i,y,v,_,_,h,_=>by simp at h
 | p::ps,w::vals,m,i,y,v,hn,h1,h2,hk=>by
  rw [List.nodup_cons] at hn
  simp only [List.zip_cons_cons,bindL]
  cases i with
  | zero =>
   simp at h1 h2
   subst h1 h2
   rw [rP hn.1,if_pos hk]; simp
  | succ i=>exact wP hn.2 (by simpa using h1) (by simpa using h2) hk
theorem wQ {kd:Str->Option NameKind}:∀ {ps:List Str} {vals:List Value} {m:Str->Option Value} {i:Nat} {y:Str} {v:Value},ps.Nodup->ps[i]?=some y->vals[i]?=some v->kd y=some .cell->bindC kd (ps.zip vals) m y=some v
 | [],vals,m,i,y,v,_,h,_,_=>by simp at h
 | p::ps,[],m,i,y,v,_,_,h,_=>by simp at h
 | p::ps,w::vals,m,i,y,v,hn,h1,h2,hk=>by
  rw [List.nodup_cons] at hn
  simp only [List.zip_cons_cons,bindC]
  cases i with
  | zero =>
   simp at h1 h2
   subst h1 h2
   rw [rQ hn.1,if_neg (by rw [hk]; decide)]; simp
  | succ i=>exact wQ hn.2 (by simpa using h1) (by simpa using h2) hk
structure dP (K:Kt) (T:aN) (fn:Fn) (a:Addr) (o:Obj) (fd:FuncData) (body:List Stmt) (ps:List Str) (n1 n2:Nat):Prop where
 ho:K.hb.get? a=some o
 hd:o.data=.func fd
 code:K.hb.h.CodeRec fd.code fd.qualname
 hbody:fd.body=.stmts body
 glob:fd.globals=mainGlobals
 bins:fd.builtins=builtinsNs
 clo:fd.closure=[]
 kind:fd.scope.kind=.function
 co:fd.scope.isCoroutine=false
 gen:fd.scope.isGenerator=false
 sc:oq fd.scope.names=true
 tr:jy (trS T fd.scope.names (trE T n1) n2) body=some fn.body
 params:fn.params=ps.length
 slots:fn.slots=fd.scope.names.length
 pk:∀ (i:Nat) (p:Str),ps[i]?=some p->∃ k,fd.scope.names[i]?=some (p,k)/\(k=NameKind.local\/k=.cell)
 bind:∀ vals:List Value,vals.length=ps.length->bindArgs fd ⟨vals,[]⟩=pure (ps.zip vals)
theorem dP.nodup {K T fn a o fd body ps n1 n2} (f:dP K T fn a o fd body ps n1 n2):ps.Nodup:=by
 rw [List.Nodup,List.pairwise_iff_getElem]
 intro i j hi hj hij e
 obtain ⟨k,h1,_⟩:=f.pk i ps[i] (by simp [hi])
 obtain ⟨k',h2,_⟩:=f.pk j ps[j] (by simp [hj])
 rw [e] at h1
 have:=(j3 f.sc).uniq i j _ _ _ h1 h2
 (grind)
section
variable {K:Kt} {A:Around} {T:aN} {C:aV} {s:Shared} {α:AL} {σ:ac}
theorem afH {fr:List Addr} {fn:Fn} {a:Addr} {o:Obj} {fd:FuncData} {body:List Stmt} {ps:List Str} {n1 n2:Nat} (f:dP K T fn a o fd body ps n1 n2) {vs:List PV} {us:List Value} {s₁:Shared}
  (hl:vs.length=ps.length) (r:R (K.wf fr).hb s.heap σ α) (v:aO s.heap α vs us)
  (I:InCallC s (callEnvC fd s.heap.objs.size a).locals (bindL (callEnvC fd s.heap.objs.size a).kindOf (ps.zip us) fun zz=>none) (callEnvC fd s.heap.objs.size a).cells (bindC (callEnvC fd s.heap.objs.size a).kindOf (ps.zip us) fun zz=>none) s₁) :
  ai (callEnvC fd s.heap.objs.size a) (vs.map some++List.replicate (fn.slots - fn.params) none) s₁.heap ⟨α.ix,α.hid,s.heap.objs.size::fr⟩/\bM (K.wf (s.heap.objs.size::fr)).hb (callEnvC fd s.heap.objs.size a)/\R (K.wf (s.heap.objs.size::fr)).hb s₁.heap σ ⟨α.ix,α.hid,s.heap.objs.size::fr⟩/\Sm s s₁/\(∀ b o,s.heap.get? b=some o->s₁.heap.get? b=some o)/\∀ b ∈ d9 (callEnvC fd s.heap.objs.size a),s.heap.get? b=none:=by
 have sc:=j3 f.sc
 have keep:=I.toInCall.keep
 have hnm:(callEnvC fd s.heap.objs.size a).scope=fd.scope:=rfl
 have hcells:(callEnvC fd s.heap.objs.size a).cells=cellsFrom (s.heap.objs.size + 1) fd.scope.names []:=rfl
 have hloc:(callEnvC fd s.heap.objs.size a).locals=s.heap.objs.size:=rfl
 have fresh:∀ b,s.heap.objs.size <= b->s.heap.get? b=none:=fun b hb=>by
  cases e:s.heap.get? b with
  | none=>rfl
  | some o'=>exact absurd (Heap.lt_size e) (Nat.not_lt.mpr hb)
 have notAll:∀ b,s.heap.get? b=none->b ∉ α.all:=fun b hb q=>by obtain ⟨o,e⟩:=r.liveAll q; rw [hb] at e; contradiction
 have base:∀ b,s.heap.get? b=none->K.hb.get? b=none:=fun b hb=>by
  cases e:K.hb.get? b with
  | none=>rfl
  | some o=>rw [r.base b o e] at hb; contradiction
 have cfresh:∀ n c,(n,c) ∈ (callEnvC fd s.heap.objs.size a).cells->s.heap.get? c=none:=fun n c h=>fresh c (Nat.le_of_lt (I.above n c h))
 have kd:∀ (i:Nat) (y:Str) (k:NameKind),fd.scope.names[i]?=some (y,k)->(callEnvC fd s.heap.objs.size a).kindOf y=some k:=fun i y k h=>cQ sc.uniq h
 have hnd:=ii (n:=s.heap.objs.size + 1) (acc:=[]) sc.uniq (by simp) (by simp)
 have cl:∀ p ∈ (callEnvC fd s.heap.objs.size a).cells,(callEnvC fd s.heap.objs.size a).cells.lookup p.1=some p.2:=qb hnd
 have xk:aD [] α s.heap α s₁.heap:=.keeps keep
 have hrho:∀ (i:Nat) (w:PV),(vs.map some++List.replicate (fn.slots - fn.params) (none:Option PV))[i]?=some (some w)->vs[i]?=some w:=fun i w e=>by
  by_cases hi:i < vs.length
  ·rw [List.getElem?_append_left (by simpa using hi)] at e
   simpa using e
  ·rw [List.getElem?_append_right (by simpa using hi)] at e
   rw [List.getElem?_replicate] at e
   split at e <;> cases e
 have arg:∀ (i:Nat) (w:PV),vs[i]?=some w->∃ p k u,ps[i]?=some p/\fd.scope.names[i]?=some (p,k)/\(k=.local\/k=.cell)/\us[i]?=some u/\VR s.heap α w u:=fun i w e=>by
  have hi:i < vs.length:=(eY e).1
  have hp:i < ps.length:=by grind
  obtain ⟨k,h1,h2⟩:=f.pk i ps[i] (by simp [hp])
  have hu:i < us.length:=by rw [<- v.1]; exact hi
  exact ⟨ps[i],k,us[i],by simp [hp],h1,h2,by simp [hu],v.2 i w us[i] e (by simp [hu])⟩
 refine ⟨⟨⟨f.kind,f.glob,f.bins,kd,sc.nodbg⟩,notAll _ (fresh _ (Nat.le_refl _)),⟨_,I.toInCall.ns,fun i y w e1 e2=>?_⟩,fun y c hc=>?_,fun y z c h1 h2=>?_,fun i y e1=>?_,fun i w e=>?_⟩,
  ⟨sc,⟨base _ (fresh _ (Nat.le_refl _)),fun y c hc=>base _ (cfresh y c (mem_of_lookup hc)),⟨_,_,rfl,rfl⟩⟩,cl,?_⟩,?_,?_,keep,fun b hb=>?_⟩
 ·obtain ⟨p,k,u,q1,q2,q3,q4,q5⟩:=arg i w (hrho i w e2)
  rw [hnm] at e1
  rw [q2] at e1
  cases e1
  exact ⟨u,wP f.nodup q1 q4 (kd i _ _ q2),(q5.ext xk).refr⟩
 ·have hm:=mem_of_lookup hc
  exact ⟨notAll _ (cfresh y c hm),Nat.ne_of_gt (I.above y c hm),_,I.cell y c hc⟩
 ·exact name_of_addr I.apart (mem_of_lookup h1) (mem_of_lookup h2)
 ·rw [hnm] at e1
  obtain ⟨c,hc⟩:=gp (n:=s.heap.objs.size + 1) (acc:=[]) (List.mem_of_getElem? e1)
  have hc':=cl (y,c) hc
  refine ⟨c,hc',fun w e2=>?_⟩
  obtain ⟨p,k,u,q1,q2,q3,q4,q5⟩:=arg i w (hrho i w e2)
  rw [q2] at e1
  cases e1
  refine ⟨u,?_,(q5.ext xk).refr⟩
  have:=I.cell _ c hc'
  rw [wQ f.nodup q1 q4 (kd i _ _ q2)] at this
  exact this
 ·obtain ⟨p,k,u,q1,q2,q3,q4,q5⟩:=arg i w (hrho i w e)
  exact ⟨p,k,q2,q3⟩
 ·show (fd.scope.kind == .module && _)=false
  rw [f.kind]; rfl
 ·obtain ⟨o',es,ep,e',d,_⟩:=I.toInCall.ns
  exact (r.keeps keep).pushFr (base _ (fresh _ (Nat.le_refl _))) e' ⟨es,ep,d⟩ (AL.not_ix (notAll _ (fresh _ (Nat.le_refl _))))
 ·obtain ⟨h',tk,rfl⟩:=I.toInCall.same
  exact ⟨rfl,rfl⟩
 ·rcases List.mem_cons.mp hb with q | q
  ·rw [q]; exact fresh _ (Nat.le_refl _)
  ·obtain ⟨p,hp,rfl⟩:=List.mem_map.mp q
   exact cfresh p.1 p.2 hp
noncomputable def zP (K:Kt):Prop:=∃ a o fd n r,K.mg "law" = some (.ref a)/\K.hb.get? a=some o/\o.data=.func fd/\fd.scope.names=(n,NameKind.local)::r
inductive wb (K:Kt) (T:aN) (P:iv) (f:Nat) (L:Addr->Prop):Prop
 | mk (fn:Fn) (a:Addr) (o:Obj) (fd:FuncData) (body:List Stmt) (ps:List Str) (n1 n2:Nat) (hf:P.fns[f]?=some fn) (hl:L a) (F:dP K T fn a o fd body ps n1 n2):wb K T P f L
structure PrgOk (K:Kt) (T:aN) (P:iv):Prop where
 hK:K.Ok
 rp:T.repl=true->K.pos=true
 l0:T.repl=true->zP K
 cst:∀ x v,T.cst.lookup x=some v->∃ u,K.mg x=some u/\∀ fr h σ α,R (K.wf fr).hb h σ α->VR h α v u
 bin:∀ x,x ∈ T.bins->K.mg x=none/\∃ v,i6 x=some v/\K.mb x=some v
 exc:∃ F:PySem.W.Frag,F.In K.hb.h/\∀ p ∈ T.excs,nZ K p.1 p.2.1 p.2.2/\o5 F T p.2.1=true
 fns:∀ (f:Nat) (x:Str),T.fns[f]?=some x->wb K T P f fun a=>K.mg x=some (.ref a)
 brd:∀ b c,T.brd=some (b,c)->∃ F:PySem.W.Frag,fw K F b c/\∀ (j:Nat) (n:Str),T.meths[j]?=some n->wb K T P (T.fns.length + j) fun a=>PySem.W.findIn F (.ref c) n=some (some (.ref a))/\PySem.W.typeIn F (.ref a)=some (.type "function")
theorem wb.wx {P:iv} {h':Heap} {f:Nat} {L:Addr->Prop} (k:∀ b o,K.hb.h.get? b=some o->h'.get? b=some o) (q:wb K T P f L):wb (K.wx h') T P f L:=by
 obtain ⟨fn,a,o,fd,body,ps,n1,n2,hf,hl,F⟩:=q
 exact ⟨fn,a,o,fd,body,ps,n1,n2,hf,hl,⟨k _ _ F.ho,F.hd,F.code.keeps k,F.hbody,F.glob,F.bins,F.clo,F.kind,F.co,F.gen,F.sc,F.tr,F.params,F.slots,F.pk,F.bind⟩⟩
theorem PrgOk.wx {P:iv} {h':Heap} (k:∀ b o,K.hb.h.get? b=some o->h'.get? b=some o) (p:PrgOk K T P):PrgOk (K.wx h') T P:=by
 refine ⟨⟨p.hK.g.keeps k,p.hK.b.keeps k,p.hK.nolimit.keeps k,let ⟨o,e⟩:=p.hK.mods; ⟨o,k _ _ e⟩⟩,p.rp,fun q=>let ⟨a,o,fd,n,r,h1,h2,h3⟩:=p.l0 q; ⟨a,o,fd,n,r,h1,k _ _ h2,h3⟩,
  fun x v h=>let ⟨u,h1,h2⟩:=p.cst x v h; ⟨u,h1,fun fr h σ α r=>h2 fr h σ α (R.unwx (K:=K.wf fr) k r)⟩,p.bin,?_,fun f x hx=>(p.fns f x hx).wx k
  ,fun b c hb=>?_
  ⟩
 ·obtain ⟨Fg,X,H⟩:=p.exc
  refine ⟨Fg,fun a o e=>k a o (X a o e),fun q hq=>⟨⟨(H q hq).1.mg,?_,(H q hq).1.tail.keeps k⟩,(H q hq).2⟩⟩
  obtain ⟨nm,qn,Nn,bs,hdct,sn,sub,ab,col,dd,k0,k1,k2,k3,k5,hC,mN,hNs,hni⟩:=(H q hq).1.ob
  exact ⟨nm,qn,Nn,bs,hdct,sn,sub,ab,col,dd,k0,k1,k2,k3,k5,k _ _ hC,mN,hNs.keeps k,hni⟩
 ·obtain ⟨Fg,B,H⟩:=p.brd b c hb
  exact ⟨Fg,⟨B.mg,fun a o e=>k a o (B.inn a o e),B.keep,B.makes,B.plain,B.hasd,B.seta,B.free
   ,B.geta,B.getr,B.none
   ⟩,fun j n hj=>(H j n hj).wx k⟩
structure gA (K:Kt) (A:Around) (m:Nat):Prop where
 hd:m=0->A.handled=none
 ph:K.ph=(m != 0)
 rz:m=1->acx K A
theorem gA.ctx {K:Kt} {A:Around} {m d N:Nat} {P:iv} (h:gA K A m):((fP P N m d).hd=false->A.handled=none)/\K.ph=(fP P N m d).hd/\((fP P N m d).rz=true->(fP P N m d).hd=true->acx K A):=
 ⟨fun q=>h.hd (by simpa [aV.hd,fP] using q),h.ph,fun q1 q2=>h.rz (by
  have z1:m <= 1:=Nat.le_of_ble_eq_true q1
  have z2:m ≠ 0:=by simpa [aV.hd,fP] using q2
  omega)⟩
theorem gA.mark {K:Kt} {A:Around} {m d N:Nat} {P:iv} {hx:Heap} {a:Addr} (ov:wa K hx a (fP P N m d)):gA (K.wx hx) (A.mark (some (.ref a))) (m + 1):=
 ⟨fun q=>by contradiction,by show true=_; simp,fun q=>by
  obtain ⟨o,vs,h1,h2,h3⟩:=ov.2 (by show (m != 0)=false; rw [Nat.succ.inj q]; rfl)
  exact ⟨a,o,vs,rfl,h1,h2,h3⟩⟩
theorem nZ.wf {x:Str} {c:Nat} {up fr:List Nat} (e:nZ K x c up):nZ (K.wf fr) x c up:=⟨e.mg,e.ob,e.tail⟩
theorem z7 {M:Model} {Γ:PySem.Ctx} {γ:Type} {x:Str} {f:Value->Sem γ} {Q:γ->Pos->Shared->Prop} {E:Value->Pos->Shared->Prop} {p:Pos} {s:Shared} (h:Sem.wp M Γ (mkText x >>= f) Q E p s):Sem.wp M Γ (mkText x >>= f) (fun a p s=>Q a p s/\1 <= s.toks) E p s:=by
 have h2:Sem.wp M Γ (f (.str x s.toks)) Q E p { s with toks:=s.toks + 1 }:=h
 have h3:Sem.wp M Γ (f (.str x s.toks)) (fun a p s=>Q a p s/\1 <= s.toks) E p { s with toks:=s.toks + 1 }:=
  Sem.wp_mono M Γ _ (fun zz zz zz h=>h) (fun zz zz zz h=>h.1) _ _ (qM (n:=1) (f (.str x s.toks)) (Nat.le_add_left 1 s.toks) h2)
 exact h3
theorem yl {M:Model} {Γ:PySem.Ctx} {env:Env} {x:Str} {v:Value} {Q:Unit->Pos->Shared->Prop} {E:Value->Pos->Shared->Prop} {p:Pos} {s:Shared} (hk:env.scope.kind=.function) (hl:env.kindOf x=some .local)
  (h:Sem.wp M Γ (storeName env x v) Q E p s):Sem.wp M Γ (storeName env x v) (fun a p s=>Q a p s/\1 <= s.toks) (fun e p s=>E e p s) p s:=by
 have e:storeName env x v=nsSet env.locals x v:=by
  unfold storeName
  rw [hl,hk]; rfl
 rw [e] at h ⊢
 unfold nsSet at h ⊢
 rw [Sem.wp_bind'] at h ⊢
 refine Sem.wp_mono M Γ _ (fun a p s h=>?_) (fun zz zz zz h=>h) _ _ h
 exact z7 h
theorem abP {scope:Scope} {g:Addr} {clo:List (Str × Addr)} {x:Str} {v:Value} {rest:List (Str × Value)} {qual:Str} {func:Option Addr} {code:Value} {b:Addr} {Q:Env->Shared->Prop} {E:Value->Shared->Prop} (hk:scope.kind=.function) (hl:scope.names.lookup x=some .local)
  (h:wpAny (model K.prog K.w) A (newFunctionEnv scope g clo ((x,v)::rest) qual func code none b) (fun e s'=>0 < s'.toks->Q e s') E s):wpAny (model K.prog K.w) A (newFunctionEnv scope g clo ((x,v)::rest) qual func code none b) Q E s:=by
 intro Γ p hΓ
 have h':=h Γ p hΓ
 unfold newFunctionEnv at h' ⊢
 rw [Sem.wp_bind'] at h' ⊢
 refine Sem.wp_mono _ _ _ (fun a p s h=>?_) (fun zz zz zz h=>h) _ _ h'
 rw [Sem.wp_bind'] at h ⊢
 refine Sem.wp_mono _ _ _ (fun a p s h=>?_) (fun zz zz zz h=>h) _ _ h
 dsimp only at h ⊢
 rw [List.forIn_cons] at h ⊢
 rw [Sem.wp_bind',Sem.wp_bind'] at h ⊢
 rw [Sem.wp_bind'] at h ⊢
 refine Sem.wp_mono _ _ _ (fun a p s h=>?_) (fun zz zz zz h=>h) _ _ (yl hk hl h)
 obtain ⟨h,ht⟩:=h
 refine Sem.wp_mono _ _ _ (fun a p s h=>?_) (fun zz zz zz h=>h.1) _ _ (qM (n:=1) _ ht h)
 obtain ⟨h,ht⟩:=h
 exact Sem.wp_mono _ _ _ (fun a p s h=>h.1 h.2) (fun zz zz zz h=>h.1) _ _ (qM (n:=1) _ ht h)
theorem v6 {R:Result->Shared->Prop} {a:Addr} {o:Obj} {fd:FuncData} {body:List Stmt} {vals:List Value} {binds:List (Str × Value)} (tk:K.Tk s\/∃ x v rest,binds=(x,v)::rest/\fd.scope.names.lookup x=some .local)
  (hroom:A.depth < recursionLimit) (ho:s.heap.get? a=some o) (hdata:o.data=.func fd) (hlim:s.heap.NoLimit) (hcd:s.heap.CodeRec fd.code fd.qualname)
  (hbody:fd.body=.stmts body) (hbind:bindArgs fd ⟨vals,[]⟩=pure binds) (hclo:fd.closure=[])
  (hkind:∀ x ∈ binds,fd.scope.names.lookup x.1=some .local\/(fd.scope.names.lookup x.1=some .cell/\((cellsFrom (s.heap.objs.size + 1) fd.scope.names []).lookup x.1).isSome=true))
  (h:∀ s₁,InCallC s (callEnvC fd s.heap.objs.size a).locals (bindL (callEnvC fd s.heap.objs.size a).kindOf binds fun zz=>none) (callEnvC fd s.heap.objs.size a).cells (bindC (callEnvC fd s.heap.objs.size a).kindOf binds fun zz=>none) s₁->K.Tk s₁ ->
   wpAny (model K.prog K.w) (A.deeper (callEnvC fd s.heap.objs.size a)) (execs body (callEnvC fd s.heap.objs.size a)) (fun f s'=>R (.ok (.ret (match f with | .ret v=>v | _=>.none))) s')
    (fun e s'=>wpAny (model K.prog K.w) (A.deeper (callEnvC fd s.heap.objs.size a)) (leaving (callEnvC fd s.heap.objs.size a) e) (fun zz s''=>R (.error e) s'') (fun e' s''=>R (.error e') s'') s') s₁)
  (hco:fd.scope.isCoroutine=false) (hgen:fd.scope.isGenerator=false) (hk:fd.scope.kind=.function):codeAny (model K.prog K.w) A (.call (.ref a) ⟨vals,[]⟩) R s:=by
 refine codeAny_call_function hroom ho hdata hco hgen hbody hcd ?_
 rw [hbind,hclo]
 refine wpAny_pure ?_
 rcases tk with tk | ⟨y,v,rest,rfl,hl⟩
 ·refine eJ tk (wpAny_newFunctionEnv_cells hk hkind fun env he s' x tk'=>?_)
  subst he
  exact ⟨hlim.keeps x.toInCall.keep,codeAny_func (h s' x tk')⟩
 ·refine abP hk hl (wpAny_newFunctionEnv_cells hk hkind fun env he s' x tk'=>?_)
  subst he
  exact ⟨hlim.keeps x.toInCall.keep,codeAny_func (h s' x fun zz=>tk')⟩
set_option tactic.hygienic true in
theorem wO {P:iv} (p:PrgOk K T P) {N d:Nat} {hd:Nat} {fr:List Addr} (hroom:A.depth < recursionLimit) (hA:∀ env,dB d (A.deeper env)) (hh:gA K A hd) (hF:eI (K.wf fr) A)
  (fk:∀ {K:Kt} (p:PrgOk K T P) (m:Nat) (A:Around) (fr:List Addr),dB d A->gA K A m->eI (K.wf fr) A->Ctx (K.wf fr) A T (fP P N m d))
  {f:Nat} {fn:Fn} {a:Addr} {o:Obj} {fd:FuncData} {body:List Stmt} {ps:List Str} {n1 n2:Nat} (hf:P.fns[f]?=some fn) (F:dP K T fn a o fd body ps n1 n2)
  {vs:List PV} {us:List Value} {s:Shared} {σ:ac} {α:AL} (r:R (K.wf fr).hb s.heap σ α) (v:aO s.heap α vs us) (hc:cM P N hd (d + 1) f vs σ ≠ .stuck)
  (tk:K.Tk s\/∃ x q,ps=x::q/\us ≠ []/\fd.scope.names.lookup x=some .local) {Rr:Result->Shared->Prop} (hok:∀ v s',a6 (K.wf fr) VR (cM P N hd (d + 1) f vs σ) s α v s'->Rr (.ok (.ret v)) s') (herr:∀ e s',aY (K.wf fr) A (cM P N hd (d + 1) f vs σ) s α e s'->Rr (.error e) s') :
  codeAny (model K.prog K.w) A (.call (.ref a) ⟨us,[]⟩) Rr s:=by
 simp only [cM,hf] at hc hok herr
 split at hc
 ·rename_i hl
  rw [if_pos hl] at hok herr
  rw [F.params] at hl
  have sc:=j3 F.sc
  refine v6 (tk.imp id fun ⟨x,q,e1,e2,e3⟩=>by
   cases us with
   | nil=>exact absurd rfl e2
   | cons u us=>exact ⟨x,u,q.zip us,by rw [e1]; rfl,e3⟩) hroom (r.base _ _ F.ho) F.hd (p.hK.nolimit.keeps r.base) (F.code.keeps r.base) F.hbody (F.bind us (by rw [<- v.1]; exact hl)) F.clo (fun q hq=>?_) (fun s₁ I gR=>?_) F.co F.gen F.kind
  ·obtain ⟨i,hi⟩:=List.mem_iff_getElem?.mp hq
   obtain ⟨h1,h2⟩:=List.getElem?_zip_eq_some.mp hi
   obtain ⟨k,h3,h4⟩:=F.pk i q.1 h1
   rcases h4 with rfl | rfl
   ·exact .inl (cQ sc.uniq h3)
   ·refine .inr ⟨cQ sc.uniq h3,?_⟩
    obtain ⟨c,hc'⟩:=gp (n:=s.heap.objs.size + 1) (acc:=[]) (List.mem_of_getElem? h3)
    obtain ⟨c',hc''⟩:=pf hc'
    rw [hc'']; rfl
  ·obtain ⟨E,Fr,r1,m1,kp,own⟩:=afH F hl r v I
   have hA':dB d (A.deeper (callEnvC fd s.heap.objs.size a)):=hA _
   have hF':eI (K.wf (s.heap.objs.size::fr)) (A.deeper (callEnvC fd s.heap.objs.size a)):=hF.push rfl F.kind
   have body_ok:=dk (n:=N) (pZ (T:=T) (f:=trE T n1) (Good:=fun ajm zQ ajo=>∃ K' fr' m,ajm=Kt.wf K' fr'/\ajo=fP P N m d/\PrgOk K' T P/\dB d zQ/\gA K' zQ m/\eI (Kt.wf K' fr') zQ) rfl (fun ajm zQ ajo g=>by
    obtain ⟨K',fr',m,rfl,rfl,p',a',h',f'⟩:=g
    have ctx:=fk p' m zQ fr' a' h' f'
    exact ⟨ctx,we ctx n1,fun zz hx a ov=>⟨K'.wx hx,fr',m + 1,rfl,rfl,p'.wx ov.1,a'.mark,gA.mark (K:=K') ov,⟨f'.ex⟩⟩⟩) n2 Fr ⟨K,_,hd,rfl,rfl,p,hA',⟨hh.hd,hh.ph,hh.rz⟩,hF'⟩) F.tr _ _ _ _ E r1
   have e0:(⟨fun m=>cM P N m d,hd⟩:aV)=fP P N hd d:=rfl
   rw [e0] at hc hok herr
   generalize hcq:ex (fP P N hd d) N fn.body (vs.map some++List.replicate (fn.slots - fn.params) none) σ=cc at hc body_ok hok herr
   have hcc:cc ≠ .stuck:=by rintro rfl; exact hc rfl
   have hfr:α.fr=fr:=r.fe
   have hLn:s.heap.get? s.heap.objs.size=none:=own _ List.mem_cons_self
   refine wpAny_mono (body_ok hcc gR) (fun fl aw hp=>?_) fun e aw hx=>?_
   ·obtain ⟨ρ₂,σ₂,aM,x2,r2,E2,m2,fo⟩:=hp
    have xx:aD [] α s.heap ⟨aM.ix,aM.hid,fr⟩ aw.heap:=aD.ofCall hfr kp own hLn x2
    cases cc with
    | next ρ' σ' =>
     obtain ⟨rfl,rfl,rfl⟩:=fo
     exact hok _ _ ⟨.none,_,_,rfl,xx,r2.popFr,.none,m1.trans m2⟩
    | ret w ρ' σ' =>
     obtain ⟨⟨u,rfl,vu⟩,rfl,rfl⟩:=fo
     exact hok _ _ ⟨w,_,_,rfl,xx,r2.popFr,vu.refr,m1.trans m2⟩
    | brk ρ' σ'=>exact absurd rfl hc
    | cont ρ' σ'=>exact absurd rfl hc
    | exc i ρ' σ'=>exact fo.elim
    | stuck=>exact absurd rfl hcc
   ·obtain ⟨i,ρ',σ',dJ,eF,nt,e1,y,En,m0,fx⟩:=hx
    subst e1
    exact FX.leave hF' Fr hfr kp own rfl ⟨_,r⟩ (m1.trans m0) y En fx fun s' f=>herr _ _ ⟨i,σ',rfl,_,f⟩
 ·exact absurd rfl hc
theorem aeb {P:iv} (p:PrgOk K T P) {N d:Nat} {hd:Nat} {fr:List Addr} (hA:dB (d + 1) A) (hh:gA K A hd) (hF:eI (K.wf fr) A)
  (fk:∀ {K:Kt} (p:PrgOk K T P) (m:Nat) (A:Around) (fr:List Addr),dB d A->gA K A m->eI (K.wf fr) A->Ctx (K.wf fr) A T (fP P N m d))
  {f:Nat} {fn:Fn} {a:Addr} {o:Obj} {fd:FuncData} {body:List Stmt} {ps:List Str} {n1 n2:Nat} (hf:P.fns[f]?=some fn) (F:dP K T fn a o fd body ps n1 n2)
  {vs:List PV} {us:List Value} {s:Shared} {σ:ac} {α:AL} (r:R (K.wf fr).hb s.heap σ α) (v:aO s.heap α vs us) (hc:cM P N hd (d + 1) f vs σ ≠ .stuck)
  (tk:K.Tk s\/∃ x q,ps=x::q/\us ≠ []/\fd.scope.names.lookup x=some .local) :
  wpAny (model K.prog K.w) A (call (.ref a) us) (a6 (K.wf fr) VR (cM P N hd (d + 1) f vs σ) s α) (aY (K.wf fr) A (cM P N hd (d + 1) f vs σ) s α) s:=
 wpAny_call (wO p (by have:=hA.depth; (grind)) (fun zz=>hA.deeper) hh hF fk hf F r v hc tk (fun zz zz h=>h) fun zz zz h=>h)
open PySem.W in
theorem aeB {c:Addr} {us:List Value} {d:Nat} (h:dB (d + 1) A):(A.under (.builtin "type.__call__" ⟨.ref c::us,[]⟩)).depth < recursionLimit/\∀ env,dB d ((A.under (.builtin "type.__call__" ⟨.ref c::us,[]⟩)).deeper env):=by
 have w:(Code.builtin "type.__call__" ⟨.ref c::us,[]⟩).weight <= 1:=Nat.le_of_ble_eq_true (by kernel_rfl)
 have u:(Code.builtin "type.__call__" ⟨.ref c::us,[]⟩).cUnits <= 4:=Nat.le_of_ble_eq_true rfl
 have h1:=h.depth
 have h2:=h.units
 refine ⟨?_,fun env=>⟨?_,?_⟩⟩
 ·show A.depth + (Code.builtin "type.__call__" ⟨.ref c::us,[]⟩).weight < recursionLimit; (grind)
 ·show A.depth + (Code.builtin "type.__call__" ⟨.ref c::us,[]⟩).weight + 1 + 2 * d + 200 < recursionLimit; (grind)
 ·show A.units + (Code.builtin "type.__call__" ⟨.ref c::us,[]⟩).cUnits + 3 + 20 * d + 200 < cLine; (grind)
theorem fw.wf {F:PySem.W.Frag} {b:Str} {c:Addr} {fr:List Addr} (B:fw K F b c):fw (K.wf fr) F b c:=⟨B.mg,B.inn,B.keep,B.makes,B.plain,B.hasd,B.seta,B.free
  ,B.geta,B.getr,B.none
  ⟩
open PySem.W in
theorem ae5 {P:iv} (p:PrgOk K T P) {N d:Nat} {hd:Nat} {fr:List Addr} (hA:dB (d + 1) A) (hh:gA K A hd) (hF:eI (K.wf fr) A)
  (fk:∀ {K:Kt} (p:PrgOk K T P) (m:Nat) (A:Around) (fr:List Addr),dB d A->gA K A m->eI (K.wf fr) A->Ctx (K.wf fr) A T (fP P N m d))
  {f:Nat} {fn:Fn} {a:Addr} {o:Obj} {fd:FuncData} {body:List Stmt} {ps:List Str} {n1 n2:Nat} (hf:P.fns[f]?=some fn) (F:dP K T fn a o fd body ps n1 n2)
  {Fg:Frag} {b:Str} {c:Addr} (B:fw K Fg b c) (hi:findIn Fg (.ref c) "__init__" = some (some (.ref a))) (hty:typeIn Fg (.ref a)=some (.type "function"))
  {vs:List PV} {us:List Value} {s:Shared} {σ:ac} {α:AL} (r:R (K.wf fr).hb s.heap σ α) (v:aO s.heap α vs us) :
  Runs (K.wf fr) VR A (call (.ref c) us) (oB (fP P N hd (d + 1)) c f vs σ) s α:=by
 intro hc tk
 have X:Fg.In s.heap:=fun x o e=>r.base x o (B.inn x o e)
 obtain ⟨h,g,dr,t,os⟩:=s
 refine wpAny_call (make_core (makes_of X B.makes) (looks_findIn X hi) (fun self=>bind_fn X self hty) (.inl rfl) ?_)
 have k:∀ b o,h.get? b=some o->((h.push emptyDict).push (instObj c h.objs.size)).get? b=some o:=fun b o e=>Heap.get?_push_of_some _ (Heap.get?_push_of_some _ e)
 have hn:∀ b,h.objs.size <= b->h.get? b=none:=fun b hb=>by
  cases e:h.get? b with
  | none=>rfl
  | some o=>exact absurd (Heap.lt_size e) (Nat.not_lt.mpr hb)
 have hD:((h.push emptyDict).push (instObj c h.objs.size)).get? h.objs.size=some emptyDict:=Heap.get?_push_of_some _ (Heap.get?_push_size _ rfl)
 have hx:((h.push emptyDict).push (instObj c h.objs.size)).get? (h.objs.size + 1)=some (instObj c h.objs.size):=by
  have:=Heap.get?_push_size (h.push emptyDict) (o:=instObj c h.objs.size) rfl
  rwa [Heap.size_push] at this
 have nsD:((h.push emptyDict).push (instObj c h.objs.size)).Ns1 h.objs.size fun zz=>none:=
  Heap.Ns1.of_empty ⟨_,#[],_,hD,rfl,fun e he=>absurd he (by simp),fun zz=>rfl⟩
 obtain ⟨r',x'⟩:=r.add (D:=h.objs.size) (m:=.ns []) k (hn _ (Nat.le_refl _)) ⟨_,nsD,fun n v e=>(nomatch e),fun zz zz=>rfl⟩
 have hix:(α.add h.objs.size).ix[σ.length]?=some h.objs.size:=by rw [r.len]; simp [AL.add]
 have hxn:h.objs.size + 1 ∉ (α.add h.objs.size).all:=fun q=>by
  obtain ⟨o,e⟩:=r'.liveAll q
  rcases List.mem_append.mp q with q | q
  ·rcases List.mem_append.mp q with q | q
   ·obtain ⟨o,e⟩:=r.liveAll (List.mem_append_left _ q)
    rw [hn _ (Nat.le_succ _)] at e; contradiction
   ·exact absurd (List.mem_singleton.mp q) (Nat.succ_ne_self _)
  ·obtain ⟨o,e⟩:=r.liveAll (List.mem_append_right _ q)
   rw [hn _ (Nat.le_succ _)] at e; contradiction
 have vx:VR ((h.push emptyDict).push (instObj c h.objs.size)) (α.add h.objs.size) (.inst c σ.length) (.ref (h.objs.size + 1)):=.inst hx hxn hix
 obtain ⟨g1,g2⟩:=aeB (c:=c) (us:=us) hA
 unfold oB at hc ⊢
 have hcc:cM P N hd (d + 1) f (.inst c σ.length::vs) (σ++[.ns []]) ≠ .stuck:=fun q=>hc (by
  show (cM P N hd (d + 1) f (.inst c σ.length::vs) (σ++[.ns []])).bind _=_
  rw [q]; rfl)
 refine wO p (s:=⟨(h.push emptyDict).push (instObj c h.objs.size),g,dr,t,os⟩) g1 g2 ⟨hh.hd,hh.ph,hh.rz⟩ ⟨hF.ex⟩ fk hf F (vs:=.inst c σ.length::vs) r' (.cons vx (v.ext x')) hcc (.inl tk) (fun w s' hp=>?_) fun e s' hp=>?_
 ·obtain ⟨bb,σ',α',e,x2,r2,v2,m2⟩:=hp
  change (cM P N hd (d + 1) f (.inst c σ.length::vs) (σ++[.ns []])).bind _ ≠ _ at hc
  rw [e] at hc
  cases bb with
  | none =>
   obtain rfl:=v2.noneE
   refine ⟨rfl,?_⟩
   show a6 (K.wf fr) VR ((cM P N hd (d + 1) f (.inst c σ.length::vs) (σ++[.ns []])).bind _) _ _ _ _
   rw [e]
   exact ⟨_,σ',α',rfl,x'.trans x2,r2,vx.ext x2,⟨m2.gens,m2.os⟩⟩
  | _=>exact absurd rfl hc
 ·have hp2:aY (K.wf fr) (A.under (.builtin "type.__call__" ⟨.ref c::us,[]⟩)) (cM P N hd (d + 1) f (.inst c σ.length::vs) (σ++[.ns []])) ⟨h,g,dr,t,os⟩ α e s':=hp.lift (s₁:=⟨(h.push emptyDict).push (instObj c h.objs.size),g,dr,t,os⟩) x' ⟨rfl,rfl⟩
  obtain ⟨i,σ',e1,fx⟩:=hp2
  show aY (K.wf fr) A ((cM P N hd (d + 1) f (.inst c σ.length::vs) (σ++[.ns []])).bind _) _ _ _ _
  rw [e1]
  exact ⟨i,σ',rfl,fx⟩
theorem adk {P:iv} {N d m:Nat} {fr:List Addr} (p:PrgOk K T P) (hA:dB d A) (hh:gA K A m) (hF:eI (K.wf fr) A)
  (hcall:∀ {f fn a o fd body ps n1 n2},P.fns[f]?=some fn->dP K T fn a o fd body ps n1 n2->∀ vs us s σ α,R (K.wf fr).hb s.heap σ α->aO s.heap α vs us->Runs (K.wf fr) VR A (call (.ref a) us) (cM P N m d f vs σ) s α)
  (hnew:∀ {f fn a o fd body ps n1 n2},P.fns[f]?=some fn->dP K T fn a o fd body ps n1 n2->∀ {Fg b c},fw K Fg b c->PySem.W.findIn Fg (.ref c) "__init__" = some (some (.ref a))->PySem.W.typeIn Fg (.ref a)=some (.type "function") ->
   ∀ vs us s σ α,R (K.wf fr).hb s.heap σ α->aO s.heap α vs us->Runs (K.wf fr) VR A (call (.ref c) us) (oB (fP P N m d) c f vs σ) s α)
  : Ctx (K.wf fr) A T (fP P N m d):=by
 refine ⟨⟨p.hK.g,p.hK.b,p.hK.nolimit,p.hK.mods⟩,hA.ok,
  hh.ctx.1,hh.ctx.2.1,hh.ctx.2.2,p.rp,hF,?_,
  fun x v h=>?_,fun f x hx=>?_,p.bin
  ,fun b c hb=>?_
  ⟩
 ·obtain ⟨Fg,X,H⟩:=p.exc
  exact ⟨Fg,X,fun q hq=>⟨(H q hq).1.wf,(H q hq).2⟩⟩
 ·obtain ⟨u,h1,h2⟩:=p.cst x v h
  exact ⟨u,h1,fun h σ α r=>h2 fr h σ α r⟩
 ·obtain ⟨fn,a,o,fd,body,ps,n1,n2,hf,hmg,F⟩:=p.fns f x hx
  exact ⟨a,o,fd,hmg,F.ho,F.hd,hcall hf F⟩
 ·obtain ⟨Fg,B,H⟩:=p.brd b c hb
  refine ⟨Fg,B.wf,fun j hj=>?_
   ,fun j n hj=>?_
   ⟩
  ·obtain ⟨fn,a,o,fd,body,ps,n1,n2,hf,⟨q1,q2⟩,F⟩:=H j _ hj
   exact hnew hf F B q1 q2
  ·obtain ⟨fn,a,o,fd,body,ps,n1,n2,hf,⟨q1,q2⟩,F⟩:=H j n hj
   exact ⟨a,o,fd,q1,q2,F.ho,F.hd,hcall hf F⟩
theorem fk {P:iv} {N:Nat} (d:Nat):∀ {K:Kt} (p:PrgOk K T P) (m:Nat) (A:Around) (fr:List Addr),dB d A->gA K A m->eI (K.wf fr) A->Ctx (K.wf fr) A T (fP P N m d):=by
 induction d with
 | zero =>
  exact fun p m A fr hA hh hF=>adk p hA hh hF (fun zz zz zz zz zz zz zz zz zz hc=>absurd rfl hc)
   (fun zz zz zz zz zz zz zz zz zz zz zz zz zz zz zz hc=>absurd rfl hc)
 | succ d ih =>
  exact fun p m A fr hA hh hF=>adk p hA hh hF (fun hf F vs us s σ α r v hc tk=>aeb p hA hh hF ih hf F r v hc (.inl tk))
   (fun hf F zz zz zz B q1 q2 vs us s σ α r v=>ae5 p hA hh hF ih hf F B q1 q2 r v)
end
end Mine
namespace Mine
open PySem PySem.W PyProof.Rows
theorem oF:∀ {ps:List Str} {vals:List Value} {i:Nat} {p:Str} {v:Value},ps.Nodup->ps[i]?=some p->vals[i]?=some v->(ps.zip vals).lookup p=some v
 | [],_,_,_,_,_,h,_=>by simp at h
 | _::_,[],_,_,_,_,_,h=>by simp at h
 | q::ps,w::vals,i,p,v,hn,h1,h2=>by
  rw [List.nodup_cons] at hn
  rw [List.zip_cons_cons,List.lookup_cons]
  cases i with
  | zero=>simp at h1 h2; subst h1 h2; simp
  | succ i =>
   have h1':ps[i]?=some p:=by simpa using h1
   have:(p == q)=false:=by
    cases hb:p == q with
    | false=>rfl
    | true =>
     have:p=q:=by simpa using hb
     subst this; exact absurd (List.mem_of_getElem? h1') hn.1
   rw [this]
   exact oF hn.2 h1' (by simpa using h2)
theorem w7 {ps:List Str} {vals:List Value} (hn:ps.Nodup) (hl:vals.length=ps.length):(ps.filterMap fun n=>((ps.zip vals).lookup n).map (n,·))=ps.zip vals:=by
 have key:∀ (qs:List Str) (ws:List Value),qs.length=ws.length->(∀ (i:Nat) q w,qs[i]?=some q->ws[i]?=some w->(ps.zip vals).lookup q=some w)->(qs.filterMap fun n=>((ps.zip vals).lookup n).map (n,·))=qs.zip ws:=by
  intro qs
  induction qs with
  | nil=>intro ws _ _; simp
  | cons q qs ih =>
   intro ws hl h
   cases ws with
   | nil=>contradiction
   | cons w ws =>
    have h0:=h 0 q w (by simp) (by simp)
    simp only [List.filterMap_cons,h0,Option.map_some,List.zip_cons_cons]
    rw [ih ws (by simpa using hl) fun i q w h1 h2=>h (i + 1) q w (by simpa using h1) (by simpa using h2)]
 exact key ps vals hl.symm fun i q w h1 h2=>oF hn h1 h2
theorem afL {fd:FuncData} {ps:List Str} (hp:fd.params.posonlyargs=[]) (ha:fd.params.args.map (·.arg)=ps) (hk:fd.params.kwonlyargs=[]) (hv:fd.params.vararg=none) (hw:fd.params.kwarg=none) (hdf:fd.defaults=.none)
  (hn:ps.Nodup) {vals:List Value} (hl:vals.length=ps.length):bindArgs fd ⟨vals,[]⟩=pure (ps.zip vals):=by
 obtain ⟨nm,q,⟨po,ar,va,ko,kd,kw,df⟩,body,sc,g,cl,dfs,kwd,doc,pm,an,code,ct,bl⟩:=fd
 dsimp only at hp ha hk hv hw hdf
 subst hp hk hv hw hdf
 refine (if_neg ?_).trans ((if_neg ?_).trans ?_)
 ·show ¬ (decide (vals.length > (ar.map (·.arg)).length) && true)=true
  rw [ha,hl,decide_eq_false (Nat.lt_irrefl _)]; exact nofun
 ·show ¬ (!(((ar.map (·.arg)).take ((ar.map (·.arg)).length - (List.drop (0 - (ar.map (·.arg)).length) ([]:List Value)).length)).filter fun n=>(((ar.map (·.arg)).zip vals).lookup n).isNone).isEmpty)=true
  rw [ha,List.drop_nil,List.length_nil,Nat.sub_zero,List.take_length,List.filter_eq_nil_iff.mpr]
  ·exact nofun
  intro a ha'
  obtain ⟨i,hi,rfl⟩:=List.mem_iff_getElem.mp ha'
  rw [oF hn (i:=i) (v:=vals[i]) (List.getElem?_eq_getElem hi) (List.getElem?_eq_getElem _)]
  exact nofun
 ·have hz:∀ (l:List Str),l.zip ([]:List Value)=[]:=fun l=>List.zip_nil_right
  dsimp only
  rw [show (none.getD #[]:Array Value).toList=[] from rfl,List.drop_nil,hz]
  show (pure:_->Sem _) ((List.map (fun x:Arg=>x.arg) ar++[]).filterMap fun n=>(((List.map (fun x:Arg=>x.arg) ar).zip vals).lookup n).map (n,·))=_
  rw [ha,List.append_nil,w7 hn hl]
noncomputable def abJ:Value->Option Addr
 | .ref a=>some a
 | _=>none
noncomputable def agg:Value->Option Int
 | .int i _=>some i
 | _=>none
noncomputable def af3:Value->Option Str
 | .str s _=>some s
 | _=>none
noncomputable def adV:Data->Option FuncData
 | .func fd=>some fd
 | _=>none
noncomputable def af5:Data->Option (Array Value × Nat)
 | .seq xs n=>some (xs,n)
 | _=>none
noncomputable def aaJ:FuncBody->Option (List Stmt)
 | .stmts b=>some b
 | _=>none
theorem yw {v:Value} {a:Addr} (h:abJ v=some a):v=.ref a:=by
 cases v with
 | ref b=>rw [oi h]
 | _=>contradiction
theorem afm {v:Value} {i:Int} (h:agg v=some i):∃ t,v=.int i t:=by
 cases v with
 | int j t=>exact ⟨t,by rw [oi h]⟩
 | _=>contradiction
theorem aeF {v:Value} {s:Str} (h:af3 v=some s):∃ t,v=.str s t:=by
 cases v with
 | str j t=>exact ⟨t,by rw [oi h]⟩
 | _=>contradiction
theorem adU {d:Data} {fd:FuncData} (h:adV d=some fd):d=.func fd:=by
 cases d with
 | func f=>rw [oi h]
 | _=>contradiction
theorem aeL {d:Data} {q:Array Value × Nat} (h:af5 d=some q):d=.seq q.1 q.2:=by
 cases d with
 | seq f n=>rw [<- oi h]
 | _=>contradiction
theorem abF {d:FuncBody} {b:List Stmt} (h:aaJ d=some b):d=.stmts b:=by
 cases d with
 | stmts f=>rw [oi h]
 | _=>contradiction
noncomputable def aio (q:Str × Str × NameKind):Bool:=q.1 == q.2.1 && abH q.2.2
noncomputable def af8 (ps:List Str) (names:List (Str × NameKind)):Bool:=decide (ps.length <= names.length) && (ps.zip names).all aio
noncomputable def isNone:Value->Bool
 | .none=>true
 | _=>false
noncomputable def afv (K:Frag) (fd:FuncData):Bool:=
 codeIn K fd.code fd.qualname && fd.globals == mainGlobals && fd.builtins == builtinsNs && fd.closure.isEmpty && fd.scope.kind == .function && !fd.scope.isCoroutine && !fd.scope.isGenerator && oq fd.scope.names &&
  fd.params.posonlyargs.isEmpty && fd.params.kwonlyargs.isEmpty && fd.params.vararg.isNone && fd.params.kwarg.isNone && isNone fd.defaults && af8 (fd.params.args.map (·.arg)) fd.scope.names
noncomputable def vn (T:aN) (n1 n2:Nat) (K:Frag) (q:Option (Option Value)):Option Fn:=
 q.bind fun q=>q.bind fun v=>(abJ v).bind fun a=>(K.lookup a).bind fun o=>(adV o.data).bind fun fd=>(aaJ fd.body).bind fun body =>
  ay (afv K fd) ((jy (trS T fd.scope.names (trE T n1) n2) body).map fun b=>⟨fd.params.args.length,fd.scope.names.length,b⟩)
theorem ah4 {α β:Type} {xs:List α} {ys:List β} {i:Nat} {x:α} (hl:xs.length <= ys.length) (h:xs[i]?=some x):∃ y,ys[i]?=some y/\(x,y) ∈ xs.zip ys:=by
 have hi:=(eY h).1
 have hj:i < ys.length:=Nat.lt_of_lt_of_le hi hl
 exact ⟨ys[i],List.getElem?_eq_getElem hj,List.mem_of_getElem? (List.getElem?_zip_eq_some.mpr ⟨h,List.getElem?_eq_getElem hj⟩)⟩
theorem aeI {k:NameKind} (h:abH k=true):k=.local\/k=.cell:=by
 cases k with
 | «local»=>exact .inl rfl
 | cell=>exact .inr rfl
 | _=>contradiction
theorem sh {ps:List Str} {names:List (Str × NameKind)} (h:af8 ps names=true) (i:Nat) (p:Str) (h2:ps[i]?=some p):∃ k,names[i]?=some (p,k)/\(k=NameKind.local\/k=.cell):=by
 obtain ⟨h0,h1⟩:=bY h
 obtain ⟨y,h3,h4⟩:=ah4 (of_decide_eq_true h0) h2
 obtain ⟨h5,h6⟩:=bY (List.all_eq_true.mp h1 _ h4)
 obtain rfl:p=y.1:=eq_of_beq h5
 exact ⟨y.2,h3,aeI h6⟩
inductive aer (K:Kt) (T:aN) (n1 n2:Nat) (q:Option (Option Value)) (fn:Fn):Prop
 | mk (a:Addr) (o:Obj) (fd:FuncData) (body:List Stmt) (ps:List Str) (h:q=some (some (.ref a))) (F:dP K T fn a o fd body ps n1 n2):aer K T n1 n2 q fn
theorem afu {K:Kt} {K':Frag} {T:aN} {n1 n2:Nat} {a:Addr} {o:Obj} {fd:FuncData} {body:List Stmt} {b:S} (X:K'.In K.hb.h) (h2:K'.lookup a=some o) (h3:o.data=.func fd) (hb:fd.body=.stmts body) (hok:afv K' fd=true)
  (ht:jy (trS T fd.scope.names (trE T n1) n2) body=some b):dP K T ⟨fd.params.args.length,fd.scope.names.length,b⟩ a o fd body (fd.params.args.map (·.arg)) n1 n2:=by
 unfold afv at hok
 obtain ⟨hok,q14⟩:=bY hok
 obtain ⟨hok,q13⟩:=bY hok
 obtain ⟨hok,q12⟩:=bY hok
 obtain ⟨hok,q11⟩:=bY hok
 obtain ⟨hok,q10⟩:=bY hok
 obtain ⟨hok,q9⟩:=bY hok
 obtain ⟨hok,q8⟩:=bY hok
 obtain ⟨hok,q7⟩:=bY hok
 obtain ⟨hok,q6⟩:=bY hok
 obtain ⟨hok,q5⟩:=bY hok
 obtain ⟨hok,q4⟩:=bY hok
 obtain ⟨hok,q3⟩:=bY hok
 obtain ⟨q1,q2⟩:=bY hok
 have hdf:fd.defaults=.none:=by
  cases hd:fd.defaults with
  | none=>rfl
  | _=>rw [hd] at q13; contradiction
 refine ⟨X _ _ h2,h3,codeRec_of X q1,hb,eq_of_beq q2,eq_of_beq q3,List.isEmpty_iff.mp q4,eq_of_beq q5,by simpa using q6,by simpa using q7,q8,ht,(List.length_map _).symm,rfl,sh q14,fun vals hl=>?_⟩
 refine afL (List.isEmpty_iff.mp q9) rfl (List.isEmpty_iff.mp q10) (Option.isNone_iff_eq_none.mp q11) (Option.isNone_iff_eq_none.mp q12) hdf ?_ hl
 rw [List.Nodup,List.pairwise_iff_getElem]
 intro i j hi hj hij e
 obtain ⟨k,h1,_⟩:=sh q14 i (fd.params.args.map (·.arg))[i] (List.getElem?_eq_getElem hi)
 obtain ⟨k',h2,_⟩:=sh q14 j (fd.params.args.map (·.arg))[j] (List.getElem?_eq_getElem hj)
 rw [e] at h1
 exact absurd ((j3 q8).uniq i j _ _ _ h1 h2) (Nat.ne_of_lt hij)
theorem tZ {K:Kt} {K':Frag} {T:aN} {n1 n2:Nat} {q:Option (Option Value)} {fn:Fn} (X:K'.In K.hb.h) (h:vn T n1 n2 K' q=some fn):aer K T n1 n2 q fn:=by
 unfold vn at h
 refine aF h fun q1 h0 h=>aF h fun v h1 h=>aF h fun a h2 h=>aF h fun o h3 h=>aF h fun fd h4 h=>aF h fun body h5 h=>aB h fun hok h=>b6 h fun b ht=>?_
 refine ⟨a,o,fd,body,_,?_,afu X h3 (adU h4) (abF h5) hok ht⟩
 rw [h0,h1,yw h2]
noncomputable def gh (T:aN) (n1 n2:Nat) (K:Frag):List (Option (Option Value))->Option (List Fn)
 | []=>some []
 | x::r=>o2 (vn T n1 n2 K x) (gh T n1 n2 K r) List.cons
theorem yM {T:aN} {n1 n2:Nat} {K:Frag} {xs:List (Option (Option Value))}:∀ {fs:List Fn},gh T n1 n2 K xs=some fs->∀ (i:Nat) (x:Option (Option Value)),xs[i]?=some x->∃ fn,fs[i]?=some fn/\vn T n1 n2 K x=some fn:=by
 induction xs with
 | nil=>intro fs _ i x h; exact nomatch h
 | cons y r ih =>
  intro fs h i x h2
  change o2 _ _ _=_ at h
  refine dX (M:=fun fs=>∃ fn,fs[i]?=some fn/\vn T n1 n2 K x=some fn) h fun f fs' h3 h4=>?_
  cases i with
  | zero=>exact ⟨f,rfl,oi h2 ▸ h3⟩
  | succ i=>exact ih h4 i x h2
noncomputable def okS (q:Value × PV):Bool:=match q.2 with
 | .str s=>af3 q.1 == some s && PyData.strOk s
 | _=>false
theorem adg {h:Heap} {α:AL} {v:Value} {x:PV} (e:okS (v,x)=true):VR h α x v:=by
 cases x with
 | str s =>
  obtain ⟨h1,h2⟩:=bY e
  obtain ⟨t,rfl⟩:=aeF (eq_of_beq h1)
  exact .str _ _ h2
 | _=>contradiction
noncomputable def afZ (o:Obj) (xs:List PV):Bool:=o.cls == .type "tuple" && o.dict.isNone && o.slots.isEmpty && (af5 o.data).any fun q=>q.1.toList.length == xs.length && (q.1.toList.zip xs).all okS
theorem aev {hb:Bs} {h:Heap} {σ:ac} {α:AL} {a:Addr} {o:Obj} {xs:List PV} (e:afZ o xs=true) (ho:hb.get? a=some o) (r:R hb h σ α):VR h α (.tup xs) (.ref a):=by
 obtain ⟨e,e4⟩:=bY e
 obtain ⟨e,e3⟩:=bY e
 obtain ⟨e1,e2⟩:=bY e
 obtain ⟨q,e5,e6⟩:=(Option.any_eq_true _ _).mp e4
 obtain ⟨e7,e8⟩:=bY e6
 obtain ⟨c,d,dt,sl⟩:=o
 obtain rfl:=eq_of_beq e1
 obtain rfl:=Option.isNone_iff_eq_none.mp e2
 obtain rfl:=Array.isEmpty_iff.mp e3
 obtain rfl:=aeL e5
 have hl:=eq_of_beq e7
 refine VR.tupI (am:=q.1.toList) (n:=q.2) (r.base _ _ ho) (fun q=>?_) ⟨hl.symm,fun i x v h1 h2=>?_⟩
 ·rcases List.mem_append.mp q with q | q
  ·rw [r.fresh a q] at ho; contradiction
  ·rw [r.hfr a q] at ho; contradiction
 ·exact adg (List.all_eq_true.mp e8 _ (List.mem_of_getElem? (List.getElem?_zip_eq_some.mpr ⟨h2,h1⟩)))
noncomputable def cOk (K:Frag) (v:PV) (u:Value):Bool:=match v with
 | .int i=>agg u == some i
 | .str s=>okS (u,.str s)
 | .tup xs=>((abJ u).bind fun a=>K.lookup a).any fun o=>afZ o xs
 | _=>false
theorem ajf {K:Frag} {hb:Bs} (X:K.In hb.h) {v:PV} {u:Value} (e:cOk K v u=true) {fr:List Addr} {h:Heap} {σ:ac} {α:AL} (r:R ⟨hb.h,fr,hb.prog,hb.w⟩ h σ α):VR h α v u:=by
 cases v with
 | int i=>obtain ⟨t,rfl⟩:=afm (eq_of_beq e); exact .int _ _
 | str s=>exact adg e
 | tup xs =>
  obtain ⟨o,h1,h2⟩:=(Option.any_eq_true _ _).mp e
  refine aF h1 fun a h3 h4=>?_
  rw [yw h3]
  exact aev (hb:=⟨_,fr,_,_⟩) h2 (X _ _ h4) r
 | _=>contradiction
noncomputable def uL (K:Frag) (l:List (Str × PV)):Bool:=l.all fun p=>((nsIn K mainGlobals p.1).bind id).any (cOk K p.2)
theorem afB {K:Frag} {hb:Bs} (X:K.In hb.h) {l:List (Str × PV)} (h:uL K l=true) (x:Str) (v:PV) (hx:l.lookup x=some v):∃ u,nsIn K mainGlobals x=some (some u)/\∀ fr h σ α,R ⟨hb.h,fr,hb.prog,hb.w⟩ h σ α->VR h α v u:=by
 obtain ⟨u,h1,h2⟩:=(Option.any_eq_true _ _).mp (List.all_eq_true.mp h _ (eW hx))
 exact aF h1 fun q h3 h4=>⟨u,h3.trans (congrArg some h4),fun zz zz zz zz r=>ajf X h2 r⟩
noncomputable def aiA (K:Frag) (x:Str):Bool:=(nsIn K mainGlobals x).any Option.isNone
noncomputable def qG (K:Frag) (l:List Str):Bool:=(K.lookup sysModules).isSome && l.all fun x=>aiA K x && (i6 x).isSome && !(x == ("__name__" : Str))
theorem ahY {x:Str} {v:Value} (h:i6 x=some v):bootBuiltins x=some v:=
 (show ∀ p ∈ agE,bootBuiltins p.1=some p.2 from (by repeat (first | refine List.forall_mem_cons.mpr ⟨(by dsimp only; boot_by_name),?_⟩ | exact fun zz h=>nomatch h))) _ (eW h)
noncomputable def rh (T:aN) (up:List Nat):List Str:=up.map fun d=>((T.excs.find? fun q=>q.2.1 == d).map (·.1)).getD ""
noncomputable def ace (h:Heap) (F:Frag) (T:aN) (p:Str × Nat × List Nat):Bool:=
 h.ownExcOk p.1 (rh T p.2.2) [.type "ValueError",.type "Exception",.type "BaseException",.type "object"] "ValueError.__new__" && nsIn F mainGlobals p.1 == some (some (.ref p.2.1)) && h.nsMap mainGlobals p.1 == some (.ref p.2.1) &&
  (rh T p.2.2).map (fun n=>(h.nsMap mainGlobals n).getD .none) == p.2.2.map Value.ref && (rh T p.2.2).all fun n=>T.excs.any fun q=>q.1 == n
noncomputable def qB (h:Heap) (F:Frag) (T:aN):Bool:=
 !T.repl &&
 (T.excs.all fun p=>ace h F T p && o5 F T p.2.1)
theorem ahN {K:Kt} {F:Frag} {T:aN} {aP:Heap} (k:∀ b o,aP.get? b=some o->K.hb.h.get? b=some o) (X:F.In K.hb.h) (hg:K.hb.h.Ns mainGlobals K.mg) (e:qB aP F T=true) :
  ∃ F:Frag,F.In K.hb.h/\∀ p ∈ T.excs,nZ K p.1 p.2.1 p.2.2/\o5 F T p.2.1=true:=by
 unfold qB at e
 have H:=List.all_eq_true.mp (bY e).2
 refine ⟨F,X,fun p hp=>?_⟩
 have h1:=H p hp
 simp only [Bool.and_eq_true] at h1
 obtain ⟨h1,h2⟩:=h1
 unfold ace at h1
 simp only [Bool.and_eq_true,beq_iff_eq] at h1
 obtain ⟨⟨⟨⟨q1,q2⟩,q3⟩,q4⟩,q5⟩:=h1
 obtain ⟨C,N,nm,q,bs,hdct,sn,sub,ab,col,dd,k0,k1,k2,k3,k5,z1,z2,z3,z4⟩:=Heap.ownExc_of_ok q1
 rw [q3] at z1; cases z1
 rw [q4] at z2
 refine ⟨⟨mg_of X hg q2,⟨nm,q,N,bs,hdct,sn,sub,ab,col,dd,k0,k1,k2,k3,k5,k _ _ z2,_,z3.keeps k,z4⟩,?_⟩,h2⟩
 have:=OwnTail.of_chain (h:=aP) (bmB:=[.type "ValueError",.type "Exception",.type "BaseException",.type "object"]) (rh T p.2.2) fun n hn=>by
  have hq:=List.all_eq_true.mp q5 n hn
  obtain ⟨r,hr,hrn⟩:=List.any_eq_true.mp hq
  have hrn:r.1=n:=by simpa using hrn
  have h3:=H r hr
  simp only [Bool.and_eq_true] at h3
  have h3:=h3.1
  unfold ace at h3
  simp only [Bool.and_eq_true] at h3
  rw [hrn] at h3
  exact ⟨_,_,_,h3.1.1.1.1⟩
 rw [q4] at this
 exact this.keeps k
noncomputable def acm (K:Frag) (T:aN):Bool:=
 match T.brd with
 | none=>true
 | some (b,c)=>nsIn K mainGlobals b == some (some (.ref c)) && keepIn K (.ref c) && makesIn K c && plainOver K c && (clsIn K c).any (·.hasDict) && findIn K (.ref c) "__setattr__" == some (some (.builtin "object.__setattr__")) &&
   cO.all (fun n=>takerIn K c n == some none) &&
   findIn K (.ref c) "__getattribute__" == some (some (.builtin "object.__getattribute__")) && findIn K (.ref c) "__getattr__" == some none && cO.all (fun n=>findIn K (.ref c) n == some none) &&
   T.meths.all fun n=>(findIn K (.ref c) n).join.bind (typeIn K) == some (.type "function")
noncomputable def gZ (T:aN) (K:Frag):List (Option (Option Value)):=T.fns.map (nsIn K mainGlobals ·)++T.meths.map (fun n=>T.brd.bind fun q=>findIn K (.ref q.2) n)
noncomputable def tD (h:Heap) (F:Frag) (T:aN):Bool:=qB h F T && acm F T
theorem acK {h:Heap} {F:Frag} {T:aN} (e:tD h F T=true):qB h F T=true:=(bY e).1
theorem agL {T:aN} {F:Frag} {f:Nat} {x:Str} (h:T.fns[f]?=some x):(gZ T F)[f]?=some (nsIn F mainGlobals x):=by
 unfold gZ
 rw [List.getElem?_append_left (by rw [List.length_map]; exact (eY h).1),List.getElem?_map,h]; rfl
theorem agK {T:aN} {F:Frag} {j:Nat} {n:Str} (h:T.meths[j]?=some n):(gZ T F)[T.fns.length + j]?=some (T.brd.bind fun q=>findIn F (.ref q.2) n):=by
 unfold gZ
 rw [List.getElem?_append_right (by rw [List.length_map]; exact Nat.le_add_right _ _),List.length_map,Nat.add_sub_cancel_left,List.getElem?_map,h]; rfl
theorem ajg {K:Kt} {F:Frag} {T:aN} {b:Str} {c:Nat} (X:F.In K.hb.h) (hg:K.hb.h.Ns mainGlobals K.mg) (e:acm F T=true) (hb:T.brd=some (b,c)):fw K F b c/\∀ n ∈ T.meths,(findIn F (.ref c) n).join.bind (typeIn F)=some (.type "function"):=by
 unfold acm at e
 rw [hb] at e
 simp only [Bool.and_eq_true,beq_iff_eq] at e
 obtain ⟨⟨⟨⟨⟨⟨⟨⟨⟨⟨e1,e2⟩,e3⟩,e4⟩,e5⟩,e6⟩,e7⟩,g1⟩,g2⟩,g3⟩,e8⟩:=e
 exact ⟨⟨mg_of X hg e1,X,e2,e3,e4,e5,e6,fun n hn=>eq_of_beq (List.all_eq_true.mp e7 n hn),g1,g2,fun n hn=>eq_of_beq (List.all_eq_true.mp g3 n hn)⟩,fun n hn=>eq_of_beq (List.all_eq_true.mp e8 n hn)⟩
theorem prgOk {K:Kt} {K':Frag} {T:aN} {n1 n2:Nat} {P:iv} {p:Program} {loose:List Str} (Tp:TopRead p loose K.mg K.mb K.hb.h) (X:K'.In K.hb.h) {aP:Heap} (aff:∀ b o,aP.get? b=some o->K.hb.h.get? b=some o) (hz:tD aP K' T=true) (h1:uL K' T.cst=true) (h2:qG K' T.bins=true) (h3:gh T n1 n2 K' (gZ T K')=some P.fns) (hrp:T.repl=true->K.pos=true):PrgOk K T P:=by
 unfold qG at h2
 obtain ⟨h2m,h2⟩:=bY h2
 obtain ⟨om,hom⟩:=Option.isSome_iff_exists.mp h2m
 have h0:=acK hz
 have hK:K.Ok:=⟨Tp.g,Tp.b,Tp.nolimit,om,X _ _ hom⟩
 have hl0:T.repl=true->zP K:=fun q=>by
  unfold qB at h0
  have:=(bY h0).1
  rw [q] at this
  contradiction
 refine ⟨hK,hrp,hl0,fun x v hx=>?_,fun x hx=>?_,
  ahN aff X Tp.g h0,
  fun f x hx=>?_
  ,fun b c hb=>?_
  ⟩
 ·obtain ⟨u,q1,q2⟩:=afB X h1 x v hx
  exact ⟨u,mg_of X Tp.g q1,q2⟩
 ·have:=List.all_eq_true.mp h2 x hx
  simp only [Bool.and_eq_true,Bool.not_eq_true',beq_eq_false_iff_ne] at this
  obtain ⟨⟨q1,q2⟩,q3⟩:=this
  obtain ⟨v,hv⟩:=Option.isSome_iff_exists.mp q2
  refine ⟨?_,v,hv,(Tp.builtins x q3).trans (ahY hv)⟩
  obtain ⟨q,h3,h4⟩:=(Option.any_eq_true _ _).mp q1
  exact mg_none_of X Tp.g (h3.trans (congrArg some (Option.isNone_iff_eq_none.mp h4)))
 ·obtain ⟨fn,q1,q2⟩:=yM h3 f _ (agL hx)
  obtain ⟨a,o,fd,body,ps,hq,F⟩:=tZ X q2
  exact ⟨fn,a,o,fd,body,ps,n1,n2,q1,mg_of X Tp.g hq,F⟩
 ·obtain ⟨B,hty⟩:=ajg X Tp.g (bY hz).2 hb
  refine ⟨K',B,fun j n hj=>?_⟩
  obtain ⟨fn,q1,q2⟩:=yM h3 _ _ (agK hj)
  obtain ⟨a,o,fd,body,ps,hq,F⟩:=tZ X q2
  have hq:findIn K' (.ref c) n=some (some (.ref a)):=by rw [hb] at hq; exact hq
  have:=hty n (List.mem_of_getElem? hj)
  rw [hq] at this
  exact ⟨fn,a,o,fd,body,ps,n1,n2,q1,⟨hq,this⟩,F⟩
end Mine
namespace Mine
open PySem PySem.W PyProof.Rows
theorem acE {P:Params} {h:Heap}:∀ {l:List Int} {vs:List Value},WellAll P h vs (ofPys (l.map .int))->aO h ⟨[],[],[]⟩ (l.map .int) vs:=by
 intro l
 induction l with
 | nil =>
  intro vs W
  cases (show WellAll P h vs [] from W)
  exact .nil
 | cons i l ih =>
  intro vs W
  cases (show WellAll P h vs (ofPy (.int i)::ofPys (l.map .int)) from W) with
  | cons a b =>
   cases a
   exact .cons (.int i _) (ih b)
theorem acZ {P:Params} {h:Heap} {a:Addr} {l:List Int} (W:Well P h (.ref a) (ofPy (.list (l.map .int)))):VR h ⟨[],[],[]⟩ (.fl (l.map .int)) (.ref a):=by
 simp only [ofPy] at W
 cases W with
 | list e w=>exact VR.flI e (by simp [AL.all]) (acE w)
theorem afD {d:Nat} (h:d <= 100):dB d callerA:=by
 have h1:callerA.depth + 2 * 100 + 200 < recursionLimit:=by decide
 have h2:callerA.units + 20 * 100 + 200 < cLine:=by decide
 exact ⟨by omega,by omega⟩
theorem hd0 {h:Heap} {fr:List Addr} {prog:Program} {w:World} {mg mb:Str->Option Value} {pos:Bool}:gA ⟨⟨h,fr,prog,w⟩,mg,mb,pos,false⟩ callerA 0:=
 ⟨fun zz=>rfl,rfl,fun z=>by contradiction⟩
theorem law_end {prog:Program} {w:World} {s₁:Shared} {mg mb:Str->Option Value} {T:aN} {P:iv} {f N d:Nat} {name:Str} {fa a:Addr} {l:List Int} {σ:ac} {pos:Bool} (p:PrgOk ⟨⟨s₁.heap,[],prog,w⟩,mg,mb,pos,false⟩ T P) (hx:T.fns[f]?=some name)
  (hmg:mg name=some (.ref fa)) (hd:d <= 100) (tk:pos=false) (W:Well w.params s₁.heap (.ref a) (ofPy (.list (l.map .int)))) (hrun:aG P N d f [.fl (l.map .int)] []=.ok (.bool true) σ)
  {Q:Value->Shared->Prop} {E:Value->Shared->Prop} (hQ:∀ s',(∀ b o,s₁.heap.get? b=some o->s'.heap.get? b=some o)->s'.os=s₁.os->s'.gens=s₁.gens->Q (.bool true) s') :
  wpAny (model prog w) callerA (call (.ref fa) [.ref a]) Q E s₁:=by
 have ctx:=fk (N:=N) d p 0 callerA [] (afD hd) hd0 ⟨[],rfl,rfl,fun e he=>by simp at he⟩
 obtain ⟨a',o,fd,h1,h2,h3,H⟩:=ctx.fn f name hx
 have e:a'=fa:=by
  have h1':mg name=some (.ref a'):=h1
  rw [hmg] at h1'; cases h1'; rfl
 subst e
 have ou:R ⟨s₁.heap,[],prog,w⟩ s₁.heap [] ⟨[],[],[]⟩:=⟨fun zz zz e=>e,fun zz h=>by simp at h,List.nodup_nil,rfl,fun zz h=>by simp at h,fun i m a e=>by simp at e,fun zz h=>by simp at h,rfl,fun zz h=>by simp at h,fun zz h=>by simp at h⟩
 have H:=H [.fl (l.map .int)] [.ref a] s₁ [] ⟨[],[],[]⟩ ou (.cons (acZ W) .nil)
 have hrun':(fP P N 0 d).call f [.fl (l.map .int)] []=.ok (.bool true) σ:=hrun
 rw [hrun'] at H
 refine wpAny_mono (H (by simp) fun q=>by rw [tk] at q; contradiction) (fun v s' hp=>?_) fun e s' hx=>?_
 ·obtain ⟨b,σ',α',e,x,r,vr,m⟩:=hp
  cases e
  obtain rfl:=vr.boolE
  exact hQ s' (fun b o e=>r.base b o e) m.os m.gens
 ·obtain ⟨i,σ',e,fx⟩:=hx
  contradiction
end Mine
namespace Mine
open PySem PySem.W PyProof.Rows
noncomputable def cG (h:Heap):Frag:=(List.range h.objs.size).filterMap fun a=>(h.get? a).map fun o=>(a,o)
theorem qa {f:Nat->Option Obj} {a:Addr} {o:Obj}:∀ {l:List Nat},(l.filterMap fun a=>(f a).map fun o=>(a,o)).lookup a=some o->f a=some o
 | [],h=>by simp at h
 | b::l,h=>by
  rw [List.filterMap_cons] at h
  cases hb:f b with
  | none=>rw [hb] at h; exact qa h
  | some p =>
   rw [hb] at h
   simp only [Option.map_some,List.lookup_cons] at h
   cases hq:(a == b) with
   | true =>
    rw [hq] at h
    have:a=b:=by simpa using hq
    subst this
    rw [hb]; exact h
   | false=>rw [hq] at h; exact qa h
theorem ab5 (h:Heap):(cG h).In h:=fun a o e=>qa (f:=h.get?) e
structure Says (T:aN) (n1 n2:Nat) (fns:List Fn) (h:Heap):Prop where
 ex:∃ (K:Frag) (aP:Heap),K.In h/\(∀ b o,aP.get? b=some o->h.get? b=some o)/\tD aP K T=true/\uL K T.cst=true/\qG K T.bins=true/\gh T n1 n2 K (gZ T K)=some fns
noncomputable def topHook (T:aN) (n1 n2:Nat) (fns:List Fn):Hook where
 α:=Bool × Bool × Bool × Option (List Fn)
 obs:=fun s=>(tD s.heap (cG s.heap) T,uL (cG s.heap) T.cst,qG (cG s.heap) T.bins,gh T n1 n2 (cG s.heap) (gZ T (cG s.heap)))
 val:=fun zz=>(true,true,true,some fns)
 says:=fun zz h=>Says T n1 n2 fns h
 of:=fun zz s e=>⟨⟨cG s.heap,s.heap,ab5 _,fun zz zz e=>e,congrArg (·.1) e,congrArg (·.2.1) e,congrArg (·.2.2.1) e,congrArg (·.2.2.2) e⟩⟩
 keeps:=fun zz h h' q k=>by
  obtain ⟨K,aP,a,a',b⟩:=q.ex
  exact ⟨⟨K,aP,fun x o e=>k x o (a x o e),fun x o e=>k x o (a' x o e),b⟩⟩
noncomputable def viewOf (p:Program):Program:={ p with main:={ p.main with body:=p.main.body.filter fun s=>match s with | .Assign [.Name n _] _ _=>!(n == "__name__") | _=>true } }
end Mine
namespace Mine
open PySem PySem.W PySem.Calls PyProof.Rows
theorem aeH:stepT=PySem.W.Fast.tw10156331382660048174:=PySem.W.Fast.te10156331382660048174
theorem ad4:denote=PySem.W.Fast.tw11892475500146522536:=PySem.W.Fast.te11892475500146522536
theorem aeC:treeTable=PySem.W.Fast.tw14364793385576792824:=PySem.W.Fast.te14364793385576792824
theorem acR:stepOk=PySem.W.Fast.tw6613529449190102663:=PySem.W.Fast.te6613529449190102663
noncomputable def qN (p:Program) (w:World) (vj:Nat) (ann:Option Value):Nat->SharedT->Thread->Option SharedT
 | 0,_,_=>none
 | n + 1,s,t=>match through t with
  | true=>some s
  | false=>match PySem.W.Fast.tw6613529449190102663 vj ann t with
   | false=>none
   | true=>match PySem.W.Fast.tw10156331382660048174 (PySem.W.Fast.tw11892475500146522536 PySem.W.Fast.tw14364793385576792824) p w s t with
    | some (s',t')=>qN p w vj ann n s' t'
    | none=>none
theorem acJ {p:Program} {w:World} {vj:Nat} {ann:Option Value}:∀ {n:Nat} {s s':SharedT} {t:Thread},qN p w vj ann n s t=some s'->topRun treeTable p w vj ann n s.abs t=some s'.abs:=by
 intro n
 induction n with
 | zero=>intro s s' t h; exact nomatch h
 | succ n ih =>
  intro s s' t h
  unfold qN at h
  unfold topRun
  rw [<- acR,<- aeH,<- ad4,<- aeC] at h
  cases he:through t with
  | true=>rw [he] at h; cases h; rfl
  | false =>
   rw [he] at h
   cases hk:stepOk vj ann t with
   | false=>rw [hk] at h; cases h
   | true =>
    rw [hk] at h
    cases hs:stepT (denote treeTable) p w s t with
    | none=>rw [hs] at h; cases h
    | some r=>obtain ⟨aw,akM⟩:=r; rw [hs] at h; rw [stepT_spec hs]; exact ih h
noncomputable def pY:List Obj->Nat->BT->Option BT
 | [],_,t=>some t
 | o::l,n,t=>match ((t.ins n o).get n).isSome with
  | true=>pY l (n + 1) (t.ins n o)
  | false=>none
theorem tw {life:Life}:∀ {l:List Obj} {n:Nat} {t t':BT},pY l n t=some t'->absHeap t' (n + l.length) life=l.foldl Heap.push (absHeap t n life)
 | [],n,t,t',h=>by cases h; rfl
 | o::l,n,t,t',h=>by
  unfold pY at h
  cases hs:((t.ins n o).get n).isSome with
  | false=>rw [hs] at h; cases h
  | true =>
   rw [hs] at h
   rw [List.length_cons,show n + (l.length + 1)=n + 1 + l.length by grind,tw h,absHeap_ins hs]; rfl
theorem ur {life:Life}:∀ (l:List Obj) (a:Array Obj),l.foldl Heap.push ⟨a,life⟩=⟨a++l.toArray,life⟩
 | [],a=>by simp
 | o::l,a=>by
  show l.foldl Heap.push ⟨a.push o,life⟩=_
  rw [ur l (a.push o)]
  simp
theorem zT {l:List Obj} {life:Life} {t:BT} (h:pY l 0 .nil=some t):absHeap t l.length life=⟨l.toArray,life⟩:=by
 have:=tw (life:=life) h
 rw [Nat.zero_add] at this
 rw [this]
 show l.foldl Heap.push ⟨#[],life⟩=_
 rw [ur]; simp
noncomputable def akA (p:Program) (aP:Heap) (s₁:Shared):Option Shared:=
 match staticsOk (importedModules p.main.body) aP s₁.heap && namesBound p s₁.heap && gensDone s₁ && laidKept aP s₁.heap with
 | true=>some s₁
 | false=>none
noncomputable def ua (p:Program) (w:World) (os:OsState) (N:Nat):Option Shared:=
 (pY (boot_heap w.params).objs.toList 0 .nil).bind fun T =>
  match (boot_heap w.params).isNs mainGlobals with
  | true=>(qN p w (boot_heap w.params).objs.toList.length ((boot_heap w.params).nsMap mainGlobals "__annotations__") N ⟨T,(boot_heap w.params).objs.toList.length,(boot_heap w.params).life,#[],boot_drawn,boot_toks,os⟩ (topStub p)).bind fun s=>akA p (boot_heap w.params) s.abs
  | false=>none
theorem adB {p:Program} {w:World} {os:OsState} {N:Nat} {s₁:Shared} (h:ua p w os N=some s₁):topFrom treeTable p w N ⟨boot_heap w.params,#[],boot_drawn,boot_toks,os⟩=some s₁:=by
 unfold ua at h
 obtain ⟨T,hT,h⟩:=Option.bind_eq_some_iff.mp h
 have hh:absHeap T (boot_heap w.params).objs.toList.length (boot_heap w.params).life=boot_heap w.params:=by
  rw [zT hT]
 cases hn:(boot_heap w.params).isNs mainGlobals with
 | false=>rw [hn] at h; cases h
 | true =>
  rw [hn] at h
  obtain ⟨s,hs,h⟩:=Option.bind_eq_some_iff.mp h
  have hr:=acJ hs
  have ha:(SharedT.abs ⟨T,(boot_heap w.params).objs.toList.length,(boot_heap w.params).life,#[],boot_drawn,boot_toks,os⟩)=⟨boot_heap w.params,#[],boot_drawn,boot_toks,os⟩:=by
   show (⟨absHeap T _ _,#[],boot_drawn,boot_toks,os⟩:Shared)=_
   rw [hh]
  rw [ha,Array.length_toList] at hr
  unfold topFrom
  have hb:((boot_heap w.params).isNs mainGlobals && (#[]:Array GenState).size == 0)=true:=by rw [hn]; rfl
  show (match ((boot_heap w.params).isNs mainGlobals && (#[]:Array GenState).size == 0) with | true=>_ | false=>_)=_
  rw [hb]
  dsimp only
  rw [hr]
  exact h
theorem ag4:openSeen=PySem.W.Fast.tw4187177175401517315:=PySem.W.Fast.te4187177175401517315
theorem ahq {p q:Program} {loose:List Str} {Xt:Shared->Bool} {α:Type} {Yf:Shared->α} {Ya:World->α} {N:Nat} (e:opening p=plainProg p.main.scope.names) (hN:Nat.ble 600 N=true) (f:∀ s,fenceModules? p s=some s)
  (h:∀ w os,(ua p w os N).map (fun s=>(PySem.W.Fast.tw4187177175401517315 q loose (importedModules p.main.body) Xt true s,Yf s))=some (openGood q loose,Ya w)):LeftO p q loose Xt Yf Ya N:=fun w=>by
 rw [<- ag4] at h
 obtain ⟨s,hs,hv⟩:=Option.map_eq_some_iff.mp (boot_open e hN f w)
 obtain ⟨hp,g,d,t,os⟩:=s
 simp only [Prod.mk.injEq] at hv
 obtain ⟨rfl,rfl,rfl,rfl⟩:=hv
 unfold openEnds
 rw [hs]
 obtain ⟨s₁,h1,h2⟩:=Option.map_eq_some_iff.mp (h w os)
 show (topFrom treeTable p w N _).map _=_
 have:=adB h1
 rw [show (⟨boot_heap w.params,{ toList:=[] },boot_drawn,boot_toks,os⟩:Shared)=⟨boot_heap w.params,#[],boot_drawn,boot_toks,os⟩ from rfl,this]
 exact congrArg some h2
theorem adm {T:aN} {n1 n2:Nat} {K:Frag} {ys:List (Option (Option Value))} {b:List Fn} (h2:gh T n1 n2 K ys=some b) (xs:List (Option (Option Value))):∀ {a:List Fn},gh T n1 n2 K xs=some a->gh T n1 n2 K (xs++ys)=some (a++b):=by
 induction xs with
 | nil=>intro a h; obtain rfl:=oi h; exact h2
 | cons x r ih =>
  intro a h
  change o2 _ _ _=_ at h
  refine dX (M:=fun a=>gh T n1 n2 K (x::r++ys)=some (a++b)) h fun f fs h3 h4=>?_
  show o2 (vn T n1 n2 K x) (gh T n1 n2 K (r++ys)) List.cons=_
  rw [h3,ih h4]; rfl
noncomputable def xP (T:aN) (g:List (Option (Option Value))->List (Option (Option Value))) (s:Shared):Option (List Fn):=gh T 40 30 (cG s.heap) (g (gZ T (cG s.heap)))
theorem ahJ {T:aN} {o:Option Shared} {k:Nat} {a b:List Fn} (h1:o.map (xP T (List.take k))=some (some a)) (h2:o.map (xP T (List.drop k))=some (some b)):o.map (fun s=>gh T 40 30 (cG s.heap) (gZ T (cG s.heap)))=some (some (a++b)):=by
 cases o with
 | none=>exact nomatch h1
 | some s =>
  have h:=adm (oi h2) _ (oi h1)
  rw [List.take_append_drop] at h
  exact congrArg some h
end Mine
namespace Mine
open PySem
noncomputable def TT:aN where
 fns:=["giver_of", "end_of", "why", "is_value", "product", "chosen", "single", "outcome", "is_name", "are_names", "are_unlike", "is_rule", "is_step", "is_plan", "givers_of", "outside", "is_between", "fire_turn", "run", "_law_cell_at", "_law_next", "_law_names", "_law_value", "_law_word", "_law_steps", "_law_links", "_law_asked", "_law_all_fired", "law"]
 cst:=[("MOST_VALUE",.int 999999),("WRAP",.int 1000000),("LETTERS",.str "abcdefghijklmnopqrstuvwxyz"),("FIGURES",.str "0123456789"),("LONGEST",.int 8),("MOST_STEPS",.int 20),("MOST_NEEDS",.int 4),("MOST_GIVES",.int 3),("PLAIN_WORDS",.tup [.str "sum",.str "times",.str "least",.str "most"]),("MOST_TURNS",.int 200)]
 bins:=["len", "list", "tuple", "sum", "min", "max", "all", "int", "str", "bool", "ValueError", "isinstance", "range", "zip", "set"]
 muts:=[(53,12),(140,12),(152,12),(175,21),(250,16),(289,17),(310,22),(322,22),(328,19)]
 excs:=[("FireError",31,[]),("NoPlan",44,[31]),("NoTurn",56,[31]),("NoPlace",68,[31]),("NoValue",80,[31]),("TokenThere",92,[31]),("NoStep",104,[31]),("Fired",116,[31]),("NotReady",128,[31]),("IsReady",140,[31]),("NoText",152,[31])]
 brd:=some ("Board",365)
 meths:=["__init__", "need_place", "need_turn", "need_step", "put", "missed", "has_fired", "is_ready", "fire", "at"]
 repl:=false
 dstr:=[(145,12)]
noncomputable abbrev oJ:Nat:=0
noncomputable abbrev yV:Nat:=1
noncomputable abbrev uf:Nat:=2
noncomputable abbrev gX:Nat:=3
noncomputable abbrev wz:Nat:=4
noncomputable abbrev yW:Nat:=5
noncomputable abbrev yU:Nat:=6
noncomputable abbrev qe:Nat:=7
noncomputable abbrev lw:Nat:=8
noncomputable abbrev cy:Nat:=9
noncomputable abbrev cW:Nat:=10
noncomputable abbrev wB:Nat:=11
noncomputable abbrev wA:Nat:=12
noncomputable abbrev gJ:Nat:=13
noncomputable abbrev iW:Nat:=14
noncomputable abbrev lu:Nat:=15
noncomputable abbrev cV:Nat:=16
noncomputable abbrev ml:Nat:=17
noncomputable abbrev agh:Nat:=18
noncomputable abbrev a9:Nat:=19
noncomputable abbrev em:Nat:=21
noncomputable abbrev ek:Nat:=22
noncomputable abbrev ug:Nat:=23
noncomputable abbrev rE:Nat:=24
noncomputable abbrev fX:Nat:=25
noncomputable abbrev mj:Nat:=26
noncomputable abbrev lv:Nat:=27
noncomputable abbrev ajQ:Nat:=28
noncomputable abbrev d0:Nat:=29
noncomputable abbrev eX:Nat:=30
noncomputable abbrev cI:Nat:=31
noncomputable abbrev fQ:Nat:=32
noncomputable abbrev mq:Nat:=33
noncomputable abbrev cR:Nat:=34
noncomputable abbrev bx:Nat:=35
noncomputable abbrev cX:Nat:=36
noncomputable abbrev qf:Nat:=37
noncomputable abbrev oK:Nat:=38
noncomputable abbrev gC:Nat:=116
noncomputable abbrev ae:Nat:=365
noncomputable def pD:S:=(.asg 3 (.sub (.attr 365 (.v 0) "givers") (.v 1)))
noncomputable def lJ:S:=(.ret (.tup (.cons (.v 3) (.cons (.bin .sub (.v 2) (.k (.int 1))) .nil))))
noncomputable def jD:S:=(.ife (.cmp (.sub (.sub (.v 3) (.k (.int 1))) (.k (.int 0))) .eq (.k (.str "later"))) (.cons lJ .nil) .nil)
noncomputable def pC:S:=(.ret (.tup (.cons (.v 3) (.cons (.v 2) .nil))))
noncomputable def uG:Fn:=⟨3,4,(.cons pD (.cons jD (.cons pC .nil)))⟩
noncomputable def xn:S:=(.ret (.tup (.cons (.k (.str "outside")) .nil)))
noncomputable def rM:S:=(.ife (.cmp (.v 1) .notin (.attr 365 (.v 0) "givers")) (.cons xn .nil) .nil)
noncomputable def mG:S:=(.asgT [4,5] (.call oJ (.cons (.v 0) (.cons (.v 1) (.cons (.v 2) .nil)))))
noncomputable def pF:S:=(.ret (.tup (.cons (.k (.str "first")) .nil)))
noncomputable def i3:S:=(.ife (.cmp (.v 5) .lt (.k (.int 0))) (.cons pF .nil) .nil)
noncomputable def xm:S:=(.ret (.tup (.cons (.k (.str "left")) .nil)))
noncomputable def mF:S:=(.ife (.meth 365 bx "has_fired" (.v 0) (.cons (.sub (.v 4) (.k (.int 0))) (.cons (.v 5) .nil))) (.cons xm .nil) .nil)
noncomputable def xl:S:=(.ret (.tup (.cons (.k (.str "ready")) .nil)))
noncomputable def mE:S:=(.ife (.meth 365 cX "is_ready" (.v 0) (.cons (.v 4) (.cons (.v 5) .nil))) (.cons xl .nil) .nil)
noncomputable def pE:S:=(.ret (.tup (.cons (.k (.str "ring")) (.cons (.sub (.v 3) (.tup (.cons (.sub (.v 4) (.k (.int 0))) (.cons (.v 5) .nil)))) .nil))))
noncomputable def mD:S:=(.ife (.cmp (.tup (.cons (.sub (.v 4) (.k (.int 0))) (.cons (.v 5) .nil))) .isin (.v 3)) (.cons pE .nil) .nil)
noncomputable def rL:S:=(.ret (.k .none))
noncomputable def zt:Fn:=⟨4,7,(.cons rM (.cons mG (.cons i3 (.cons mF (.cons mE (.cons mD (.cons rL .nil)))))))⟩
noncomputable def sx:S:=(.asg 3 (.meth 365 fQ "need_step" (.v 0) (.cons (.v 1) .nil)))
noncomputable def sw:S:=(.expr (.meth 365 cI "need_turn" (.v 0) (.cons (.v 2) .nil)))
noncomputable def ab8:S:=(.raise 116)
noncomputable def sv:S:=(.ife (.meth 365 bx "has_fired" (.v 0) (.cons (.v 1) (.cons (.v 2) .nil))) (.cons ab8 .nil) .nil)
noncomputable def ab7:S:=(.raise 140)
noncomputable def zj:S:=(.ife (.meth 365 cX "is_ready" (.v 0) (.cons (.v 3) (.cons (.v 2) .nil))) (.cons ab7 .nil) .nil)
noncomputable def zi:S:=(.asg 4 (.lst false .nil))
noncomputable def zh:S:=(.asg 5 (.dnew true))
noncomputable def zg:S:=(.asg 6 (.v 2))
noncomputable def zf:S:=(.asg 7 (.k .none))
noncomputable def uA:S:=(.asgSub (.v 5) (.tup (.cons (.sub (.v 3) (.k (.int 0))) (.cons (.v 6) .nil))) (.b1 .len (.v 4)))
noncomputable def uz:S:=(.asg 8 (.meth 365 cR "missed" (.v 0) (.cons (.v 3) (.cons (.v 6) .nil))))
noncomputable def uy:S:=(.expr (.me .append (.v 4) (.cons (.tup (.cons (.sub (.v 3) (.k (.int 0))) (.cons (.v 6) (.cons (.v 8) .nil)))) .nil)))
noncomputable def ux:S:=(.asg 7 (.call yV (.cons (.v 0) (.cons (.v 8) (.cons (.v 6) (.cons (.v 5) .nil))))))
noncomputable def qh:S:=(.asgT [3,6] (.call oJ (.cons (.v 0) (.cons (.v 8) (.cons (.v 6) .nil)))))
noncomputable def oO:S:=(.ife (.cmp (.v 7) .is (.k .none)) (.cons qh .nil) .nil)
noncomputable def qi:S:=(.cons uA (.cons uz (.cons uy (.cons ux (.cons oO .nil)))))
noncomputable def ze:S:=(.whl (.cmp (.v 7) .is (.k .none)) qi)
noncomputable def zd:S:=(.ret (.tup (.cons (.v 4) (.cons (.v 7) .nil))))
noncomputable def ab9:Fn:=⟨3,14,(.cons sx (.cons sw (.cons sv (.cons zj (.cons zi (.cons zh (.cons zg (.cons zf (.cons ze (.cons zd .nil))))))))))⟩
noncomputable def xj:S:=(.ret (.and (.cons (.isinst (.v 0) .int) (.cons (.not (.isinst (.v 0) .bool)) (.cons (.cmp2 (.k (.int 0)) .le (.v 0) .le (.k (.int 999999))) .nil)))))
noncomputable def jW:Fn:=⟨1,5,(.cons xj .nil)⟩
noncomputable def qo:S:=(.asg 1 (.k (.int 1)))
noncomputable def mX:S:=(.asg 1 (.bin .mod (.bin .mul (.v 1) (.v 2)) (.k (.int 1000000))))
noncomputable def pw:S:=(.cons mX .nil)
noncomputable def qm:S:=(.for1 2 (.v 0) pw)
noncomputable def ql:S:=(.ret (.v 1))
noncomputable def wG:Fn:=⟨1,4,(.cons qo (.cons qm (.cons ql .nil)))⟩
noncomputable def pG:S:=(.ret (.sub (.v 0) (.k (.int 1))))
noncomputable def i4:S:=(.ife (.cmp (.sub (.v 0) (.k (.int 0))) .eq (.k (.int 0))) (.cons pG .nil) .nil)
noncomputable def mH:S:=(.ret (.sub (.v 0) (.k (.int 2))))
noncomputable def zu:Fn:=⟨1,1,(.cons i4 (.cons mH .nil))⟩
noncomputable def cA:S:=(.asg 2 (.sub (.v 0) (.k (.int 0))))
noncomputable def pu:S:=(.ret (.bin .mod (.b1 .sum (.v 1)) (.k (.int 1000000))))
noncomputable def cz:S:=(.ife (.cmp (.v 2) .eq (.k (.str "sum"))) (.cons pu .nil) .nil)
noncomputable def pr:S:=(.ret (.call wz (.cons (.v 1) .nil)))
noncomputable def cN:S:=(.ife (.cmp (.v 2) .eq (.k (.str "times"))) (.cons pr .nil) .nil)
noncomputable def pq:S:=(.ret (.b1 .min (.v 1)))
noncomputable def dx:S:=(.ife (.cmp (.v 2) .eq (.k (.str "least"))) (.cons pq .nil) .nil)
noncomputable def pn:S:=(.ret (.b1 .max (.v 1)))
noncomputable def et:S:=(.ife (.cmp (.v 2) .eq (.k (.str "most"))) (.cons pn .nil) .nil)
noncomputable def pj:S:=(.ret (.sub (.v 0) (.k (.int 1))))
noncomputable def fY:S:=(.ife (.cmp (.v 2) .eq (.k (.str "fixed"))) (.cons pj .nil) .nil)
noncomputable def pi:S:=(.ret (.call yW (.cons (.v 1) .nil)))
noncomputable def iX:S:=(.ife (.cmp (.v 2) .eq (.k (.str "choose"))) (.cons pi .nil) .nil)
noncomputable def mr:S:=(.ret (.sub (.v 1) (.k (.int 0))))
noncomputable def zk:Fn:=⟨2,9,(.cons cA (.cons cz (.cons cN (.cons dx (.cons et (.cons fY (.cons iX (.cons mr .nil))))))))⟩
noncomputable def kx:S:=(.ret (.lst true (.cons (.sub (.v 1) (.k (.int 0))) (.cons (.k .none) .nil))))
noncomputable def iH:S:=(.ife (.cmp (.sub (.v 1) (.k (.int 1))) .eq (.k (.int 0))) (.cons kx .nil) .nil)
noncomputable def mY:S:=(.ret (.lst true (.cons (.k .none) (.cons (.sub (.v 1) (.k (.int 0))) .nil))))
noncomputable def fc:S:=(.ife (.cmp (.sub (.v 0) (.k (.int 0))) .eq (.k (.str "way"))) (.cons iH (.cons mY .nil)) .nil)
noncomputable def kv:S:=(.asg 3 (.call yU (.cons (.v 0) (.cons (.v 1) .nil))))
noncomputable def qv:X:=(.comp true 1 [none,none,some 3] (.v 2) (.k (.bool true)) (.range1 (.v 2)))
noncomputable def ku:S:=(.ret qv)
noncomputable def wH:Fn:=⟨3,6,(.cons fc (.cons kv (.cons ku .nil)))⟩
noncomputable def vS:S:=(.ret (.k (.bool false)))
noncomputable def hX:S:=(.ife (.or (.cons (.not (.isinst (.v 0) .str)) (.cons (.not (.cmp2 (.k (.int 1)) .le (.b1 .len (.v 0)) .le (.k (.int 8)))) (.cons (.cmp (.sub (.v 0) (.k (.int 0))) .notin (.k (.str "abcdefghijklmnopqrstuvwxyz"))) .nil)))) (.cons vS .nil) .nil)
noncomputable def zr:X:=(.comp true 1 [none,none,none,none] (.or (.cons (.cmp (.v 1) .isin (.k (.str "abcdefghijklmnopqrstuvwxyz"))) (.cons (.cmp (.v 1) .isin (.k (.str "0123456789"))) .nil))) (.k (.bool true)) (.v 0))
noncomputable def kX:S:=(.ret (.b1 .all zr))
noncomputable def wK:Fn:=⟨1,7,(.cons hX (.cons kX .nil))⟩
noncomputable def vW:X:=(.comp true 1 [none,none,none] (.call lw (.cons (.v 1) .nil)) (.k (.bool true)) (.v 0))
noncomputable def vV:S:=(.ret (.and (.cons (.isinst (.v 0) .tuple) (.cons (.cmp2 (.k (.int 1)) .le (.b1 .len (.v 0)) .le (.v 1)) (.cons (.b1 .all vW) .nil)))))
noncomputable def i5:Fn:=⟨2,6,(.cons vV .nil)⟩
noncomputable def uH:S:=(.ret (.cmp (.b1 .lenset (.v 0)) .eq (.b1 .len (.v 0))))
noncomputable def hY:Fn:=⟨1,3,(.cons uH .nil)⟩
noncomputable def vP:S:=(.ret (.k (.bool false)))
noncomputable def hV:S:=(.ife (.or (.cons (.not (.isinst (.v 0) .tuple)) (.cons (.cmp (.b1 .len (.v 0)) .eq (.k (.int 0))) (.cons (.not (.isinst (.sub (.v 0) (.k (.int 0))) .str)) .nil)))) (.cons vP .nil) .nil)
noncomputable def vO:S:=(.ret (.and (.cons (.cmp (.b1 .len (.v 0)) .eq (.k (.int 2))) (.cons (.call gX (.cons (.sub (.v 0) (.k (.int 1))) .nil)) .nil))))
noncomputable def fg:S:=(.ife (.cmp (.sub (.v 0) (.k (.int 0))) .eq (.k (.str "fixed"))) (.cons vO .nil) .nil)
noncomputable def vN:S:=(.ret (.k (.bool false)))
noncomputable def kS:S:=(.ife (.cmp (.b1 .len (.v 0)) .ne (.k (.int 1))) (.cons vN .nil) .nil)
noncomputable def vM:S:=(.ret (.cmp (.v 1) .eq (.k (.int 1))))
noncomputable def hJ:S:=(.ife (.cmp (.sub (.v 0) (.k (.int 0))) .eq (.k (.str "later"))) (.cons vM .nil) .nil)
noncomputable def vL:S:=(.ret (.and (.cons (.cmp (.v 1) .eq (.k (.int 2))) (.cons (.cmp (.v 2) .eq (.k (.int 2))) .nil))))
noncomputable def hH:S:=(.ife (.cmp (.sub (.v 0) (.k (.int 0))) .eq (.k (.str "way"))) (.cons vL .nil) .nil)
noncomputable def vK:S:=(.ret (.cmp (.v 1) .eq (.k (.int 3))))
noncomputable def hG:S:=(.ife (.cmp (.sub (.v 0) (.k (.int 0))) .eq (.k (.str "choose"))) (.cons vK .nil) .nil)
noncomputable def kR:S:=(.ret (.cmp (.sub (.v 0) (.k (.int 0))) .isin (.k (.tup [(.str "sum"),(.str "times"),(.str "least"),(.str "most")]))))
noncomputable def lH:Fn:=⟨3,9,(.cons hV (.cons fg (.cons kS (.cons hJ (.cons hH (.cons hG (.cons kR .nil)))))))⟩
noncomputable def vJ:S:=(.ret (.k (.bool false)))
noncomputable def hB:S:=(.ife (.or (.cons (.not (.isinst (.v 0) .tuple)) (.cons (.cmp (.b1 .len (.v 0)) .ne (.k (.int 4))) (.cons (.not (.call lw (.cons (.sub (.v 0) (.k (.int 0))) .nil))) .nil)))) (.cons vJ .nil) .nil)
noncomputable def vI:S:=(.ret (.k (.bool false)))
noncomputable def dM:S:=(.ife (.or (.cons (.not (.call cy (.cons (.sub (.v 0) (.k (.int 2))) (.cons (.k (.int 4)) .nil)))) (.cons (.not (.call cy (.cons (.sub (.v 0) (.k (.int 3))) (.cons (.k (.int 3)) .nil)))) (.cons (.not (.call cW (.cons (.sub (.v 0) (.k (.int 3))) .nil))) .nil)))) (.cons vI .nil) .nil)
noncomputable def kQ:S:=(.ret (.call wB (.cons (.sub (.v 0) (.k (.int 1))) (.cons (.b1 .len (.sub (.v 0) (.k (.int 2)))) (.cons (.b1 .len (.sub (.v 0) (.k (.int 3)))) .nil)))))
noncomputable def wI:Fn:=⟨1,10,(.cons hB (.cons dM (.cons kQ .nil)))⟩
noncomputable def qy:X:=(.comp true 1 [none,none,none] (.call wA (.cons (.v 1) .nil)) (.k (.bool true)) (.v 0))
noncomputable def vR:S:=(.ret (.k (.bool false)))
noncomputable def hW:S:=(.ife (.or (.cons (.not (.isinst (.v 0) .tuple)) (.cons (.not (.cmp2 (.k (.int 1)) .le (.b1 .len (.v 0)) .le (.k (.int 20)))) (.cons (.not (.b1 .all qy)) .nil)))) (.cons vR .nil) .nil)
noncomputable def kW:S:=(.asg 2 (.lst false .nil))
noncomputable def vQ:S:=(.expr (.me .extend (.v 2) (.cons (.sub (.v 1) (.k (.int 3))) .nil)))
noncomputable def pB:S:=(.cons vQ .nil)
noncomputable def kU:S:=(.for1 1 (.v 0) pB)
noncomputable def qx:X:=(.comp true 1 [none,none] (.sub (.v 1) (.k (.int 0))) (.k (.bool true)) (.v 0))
noncomputable def kT:S:=(.ret (.and (.cons (.call cW (.cons qx .nil)) (.cons (.call cW (.cons (.v 2) .nil)) .nil))))
noncomputable def wJ:Fn:=⟨1,9,(.cons hW (.cons kW (.cons kU (.cons kT .nil))))⟩
noncomputable def nB:S:=(.asg 1 (.dnew false))
noncomputable def qz:S:=(.asgSub (.v 1) (.v 3) (.v 2))
noncomputable def jH:S:=(.cons qz .nil)
noncomputable def sN:S:=(.for1 3 (.sub (.v 2) (.k (.int 3))) jH)
noncomputable def lI:S:=(.cons sN .nil)
noncomputable def vU:S:=(.for1 2 (.v 0) lI)
noncomputable def vT:S:=(.ret (.v 1))
noncomputable def mB:Fn:=⟨1,4,(.cons nB (.cons vU (.cons vT .nil)))⟩
noncomputable def qt:S:=(.asg 1 (.call iW (.cons (.v 0) .nil)))
noncomputable def qr:S:=(.asg 2 (.lst false .nil))
noncomputable def qp:S:=(.expr (.me .append (.v 2) (.cons (.v 4) .nil)))
noncomputable def sy:S:=(.ife (.and (.cons (.cmp (.v 4) .notin (.v 1)) (.cons (.cmp (.v 4) .notin (.v 2)) .nil))) (.cons qp .nil) .nil)
noncomputable def lC:S:=(.cons sy .nil)
noncomputable def vE:S:=(.for1 4 (.sub (.v 3) (.k (.int 2))) lC)
noncomputable def py:S:=(.cons vE .nil)
noncomputable def zq:S:=(.for1 3 (.v 0) py)
noncomputable def zo:S:=(.ret (.v 2))
noncomputable def qu:Fn:=⟨1,6,(.cons qt (.cons qr (.cons zq (.cons zo .nil))))⟩
noncomputable def uF:S:=(.ret (.and (.cons (.isinst (.v 0) .int) (.cons (.not (.isinst (.v 0) .bool)) (.cons (.cmp2 (.v 1) .le (.v 0) .le (.v 2)) .nil)))))
noncomputable def kY:Fn:=⟨3,6,(.cons uF .nil)⟩
noncomputable def nF:S:=(.asg 2 (.k (.int 0)))
noncomputable def jv:S:=(.expr (.meth 365 qf "fire" (.v 0) (.cons (.sub (.v 3) (.k (.int 0))) (.cons (.v 1) .nil))))
noncomputable def ju:S:=(.asg 2 (.bin .add (.v 2) (.k (.int 1))))
noncomputable def gu:S:=(.ife (.meth 365 cX "is_ready" (.v 0) (.cons (.v 3) (.cons (.v 1) .nil))) (.cons jv (.cons ju .nil)) .nil)
noncomputable def lK:S:=(.cons gu .nil)
noncomputable def nE:S:=(.for1 3 (.attr 365 (.v 0) "plan") lK)
noncomputable def nD:S:=(.ret (.v 2))
noncomputable def rK:Fn:=⟨2,4,(.cons nF (.cons nE (.cons nD .nil)))⟩
noncomputable def zn:S:=(.asg 1 (.k (.int 0)))
noncomputable def uC:S:=(.asg 3 (.call ml (.cons (.v 0) (.cons (.v 2) .nil))))
noncomputable def qk:S:=(.asg 1 (.bin .add (.v 1) (.v 3)))
noncomputable def qj:S:=(.asg 3 (.call ml (.cons (.v 0) (.cons (.v 2) .nil))))
noncomputable def mt:S:=(.cons qk (.cons qj .nil))
noncomputable def uB:S:=(.whl (.cmp (.v 3) .gt (.k (.int 0))) mt)
noncomputable def wF:S:=(.cons uC (.cons uB .nil))
noncomputable def zm:S:=(.for1 2 (.range1 (.attr 365 (.v 0) "turns")) wF)
noncomputable def zl:S:=(.ret (.v 1))
noncomputable def agu:Fn:=⟨1,6,(.cons zn (.cons zm (.cons zl .nil)))⟩
noncomputable def qw:S:=(.ret (.sub (.v 0) (.v 1)))
noncomputable def sM:S:=(.ife (.cmp (.v 1) .lt (.b1 .len (.v 0))) (.cons qw .nil) .nil)
noncomputable def sL:S:=(.ret (.k (.int 0)))
noncomputable def ec:Fn:=⟨2,3,(.cons sM (.cons sL .nil))⟩
noncomputable def xi:S:=(.asg 1 (.bin .mod (.bin .add (.bin .mul (.v 0) (.k (.int 48271))) (.k (.int 11))) (.k (.int 2147483647))))
noncomputable def xh:S:=(.ret (.bin .mod (.bin .mul (.v 1) (.v 1)) (.k (.int 2147483629))))
noncomputable def acb:Fn:=⟨1,2,(.cons xi (.cons xh .nil))⟩
noncomputable def sK:S:=(.asg 1 (.lst true (.cons (.k (.str "sum")) (.cons (.k (.str "later")) (.cons (.k (.str "way")) (.cons (.k (.str "fixed")) (.cons (.k (.str "a9")) (.cons (.k (.str "b")) (.cons (.k (.str "times")) (.cons (.k (.str "choose")) (.cons (.k (.str "least")) (.cons (.k (.str "most")) (.cons (.k (.str "z0")) (.cons (.k (.str "put")) .nil))))))))))))))
noncomputable def nq:X:=(.comp true 1 [none,none,some 0,some 1] (.bin .add (.sub (.v 3) (.bin .mod (.bin .add (.bin .fdiv (.v 2) (.k (.int 9))) (.v 1)) (.k (.int 12)))) (.sub (.lst true (.cons (.k (.str "")) (.cons (.k (.str "x")) .nil))) (.bin .fdiv (.v 1) (.k (.int 12))))) (.k (.bool true)) (.range1 (.k (.int 24))))
noncomputable def sJ:S:=(.ret nq)
noncomputable def iI:S:=(.ife (.cmp (.bin .mod (.v 0) (.k (.int 9))) .eq (.k (.int 8))) (.cons sK (.cons sJ .nil)) .nil)
noncomputable def nj:S:=(.asg 3 (.bin .add (.k (.int 1)) (.bin .mod (.v 0) (.k (.int 8)))))
noncomputable def ni:S:=(.asg 4 (.bin .mod (.bin .fdiv (.v 0) (.k (.int 8))) (.v 3)))
noncomputable def nh:S:=(.asg 1 (.k (.str "abcdefghijklmnopqrstuvwxyz0123456789")))
noncomputable def ng:S:=(.asg 5 (.lst false .nil))
noncomputable def sI:S:=(.asg 6 (.sub (.v 1) (.bin .mod (.bin .add (.bin .fdiv (.v 0) (.k (.int 64))) (.v 2)) (.sub (.lst true (.cons (.k (.int 26)) (.cons (.k (.int 36)) .nil))) (.b1 .int (.cmp (.v 4) .gt (.k (.int 0))))))))
noncomputable def sH:S:=(.expr (.me .append (.v 5) (.cons (.bin .add (.bin .add (.bin .mul (.k (.str "m")) (.v 4)) (.v 6)) (.bin .mul (.k (.str "m")) (.bin .sub (.bin .sub (.v 3) (.k (.int 1))) (.v 4)))) .nil)))
noncomputable def g7:S:=(.cons sI (.cons sH .nil))
noncomputable def nf:S:=(.for1 2 (.range1 (.k (.int 24))) g7)
noncomputable def nc:S:=(.ret (.v 5))
noncomputable def iZ:Fn:=⟨1,9,(.cons iI (.cons nj (.cons ni (.cons nh (.cons ng (.cons nf (.cons nc .nil)))))))⟩
noncomputable def sA:S:=(.ret (.sub (.lst true (.cons (.k (.int 0)) (.cons (.k (.int 0)) (.cons (.k (.int 1)) (.cons (.k (.int 999999)) .nil))))) (.bin .mod (.bin .fdiv (.v 0) (.k (.int 4))) (.k (.int 4)))))
noncomputable def vH:S:=(.ife (.cmp (.bin .mod (.v 0) (.k (.int 4))) .eq (.k (.int 0))) (.cons sA .nil) .nil)
noncomputable def sz:S:=(.ret (.bin .mod (.bin .fdiv (.v 0) (.k (.int 4))) (.bin .pow (.k (.int 10)) (.k (.int 6)))))
noncomputable def vG:S:=(.ife (.cmp (.bin .mod (.v 0) (.k (.int 4))) .eq (.k (.int 1))) (.cons sz .nil) .nil)
noncomputable def vF:S:=(.ret (.bin .mod (.bin .fdiv (.v 0) (.k (.int 4))) (.k (.int 5))))
noncomputable def iY:Fn:=⟨1,1,(.cons vH (.cons vG (.cons vF .nil)))⟩
noncomputable def xf:S:=(.asg 1 (.bin .add (.bin .mul (.lst true (.cons (.k (.str "NoPlan")) .nil)) (.b1 .int (.isexc (.v 0) [44] [31,44,56,68,80,92,104,116,128,140,152]))) (.bin .mul (.lst true (.cons (.k (.str "NoTurn")) .nil)) (.b1 .int (.isexc (.v 0) [56] [31,44,56,68,80,92,104,116,128,140,152])))))
noncomputable def xe:S:=(.asg 1 (.bin .add (.bin .add (.v 1) (.bin .mul (.lst true (.cons (.k (.str "NoPlace")) .nil)) (.b1 .int (.isexc (.v 0) [68] [31,44,56,68,80,92,104,116,128,140,152])))) (.bin .mul (.lst true (.cons (.k (.str "NoValue")) .nil)) (.b1 .int (.isexc (.v 0) [80] [31,44,56,68,80,92,104,116,128,140,152])))))
noncomputable def xd:S:=(.asg 1 (.bin .add (.bin .add (.v 1) (.bin .mul (.lst true (.cons (.k (.str "TokenThere")) .nil)) (.b1 .int (.isexc (.v 0) [92] [31,44,56,68,80,92,104,116,128,140,152])))) (.bin .mul (.lst true (.cons (.k (.str "NoStep")) .nil)) (.b1 .int (.isexc (.v 0) [104] [31,44,56,68,80,92,104,116,128,140,152])))))
noncomputable def xb:S:=(.asg 1 (.bin .add (.bin .add (.v 1) (.bin .mul (.lst true (.cons (.k (.str "Fired")) .nil)) (.b1 .int (.isexc (.v 0) [116] [31,44,56,68,80,92,104,116,128,140,152])))) (.bin .mul (.lst true (.cons (.k (.str "NotReady")) .nil)) (.b1 .int (.isexc (.v 0) [128] [31,44,56,68,80,92,104,116,128,140,152])))))
noncomputable def xa:S:=(.asg 1 (.bin .add (.bin .add (.v 1) (.bin .mul (.lst true (.cons (.k (.str "IsReady")) .nil)) (.b1 .int (.isexc (.v 0) [140] [31,44,56,68,80,92,104,116,128,140,152])))) (.bin .mul (.lst true (.cons (.k (.str "NoText")) .nil)) (.b1 .int (.isexc (.v 0) [152] [31,44,56,68,80,92,104,116,128,140,152])))))
noncomputable def uD:S:=(.ret (.k (.str "other")))
noncomputable def w9:S:=(.ife (.or (.cons (.cmp (.b1 .len (.v 1)) .ne (.k (.int 1))) (.cons (.not (.isexc (.v 0) [31,44,56,68,80,92,104,116,128,140,152] [31,44,56,68,80,92,104,116,128,140,152])) .nil))) (.cons uD .nil) .nil)
noncomputable def w8:S:=(.ret (.sub (.v 1) (.k (.int 0))))
noncomputable def aca:Fn:=⟨1,16,(.cons xf (.cons xe (.cons xd (.cons xb (.cons xa (.cons w9 (.cons w8 .nil)))))))⟩
noncomputable def nb:S:=(.asg 4 (.lst false .nil))
noncomputable def kC:S:=(.asg 6 (.tup (.cons (.sub (.v 0) (.bin .mod (.bin .sub (.v 5) (.k (.int 1))) (.v 1))) (.cons (.sub (.v 0) (.k (.int 23))) .nil))))
noncomputable def kB:S:=(.expr (.me .append (.v 4) (.cons (.tup (.cons (.sub (.v 0) (.v 5)) (.cons (.tup (.cons (.k (.str "sum")) .nil)) (.cons (.v 6) (.cons (.tup (.cons (.sub (.v 0) (.v 5)) .nil)) .nil))))) .nil)))
noncomputable def g6:S:=(.cons kC (.cons kB .nil))
noncomputable def m9:S:=(.for1 5 (.range1 (.v 1)) g6)
noncomputable def sB:S:=(.asgSub (.v 4) (.k (.int 0)) (.tup (.cons (.sub (.v 0) (.k (.int 0))) (.cons (.tup (.cons (.k (.str "later")) .nil)) (.cons (.tup (.cons (.sub (.v 0) (.bin .sub (.v 1) (.k (.int 1)))) .nil)) (.cons (.tup (.cons (.sub (.v 0) (.k (.int 0))) .nil)) .nil))))))
noncomputable def m8:S:=(.ife (.v 3) (.cons sB .nil) .nil)
noncomputable def kA:S:=(.asg 7 (.sub (.v 0) (.sub (.lst true (.cons (.bin .sub (.bin .add (.v 1) (.v 5)) (.k (.int 1))) (.cons (.k (.int 0)) .nil))) (.b1 .int (.cmp (.v 5) .eq (.k (.int 0)))))))
noncomputable def kz:S:=(.asg 8 (.sub (.v 0) (.bin .add (.v 1) (.v 5))))
noncomputable def ky:S:=(.expr (.me .append (.v 4) (.cons (.tup (.cons (.v 8) (.cons (.tup (.cons (.k (.str "sum")) .nil)) (.cons (.tup (.cons (.v 7) (.cons (.sub (.v 0) (.k (.int 23))) .nil))) (.cons (.tup (.cons (.v 8) .nil)) .nil))))) .nil)))
noncomputable def g0:S:=(.cons kA (.cons kz (.cons ky .nil)))
noncomputable def m7:S:=(.for1 5 (.range1 (.v 2)) g0)
noncomputable def mZ:S:=(.ret (.v 4))
noncomputable def rG:Fn:=⟨4,11,(.cons nb (.cons m9 (.cons m8 (.cons m7 (.cons mZ .nil)))))⟩
noncomputable def iK:S:=(.asg 5 (.lst false .nil))
noncomputable def kN:S:=(.asg 6 (.sub (.lst true (.cons (.bin .sub (.v 2) (.k (.int 1))) (.cons (.k (.int 0)) .nil))) (.b1 .int (.cmp (.v 2) .eq (.v 1)))))
noncomputable def kM:S:=(.expr (.me .append (.v 5) (.cons (.tup (.cons (.sub (.v 0) (.v 2)) (.cons (.v 3) (.cons (.sub (.v 0) (.v 6)) .nil)))) .nil)))
noncomputable def kL:S:=(.asg 2 (.v 6))
noncomputable def dq:S:=(.cons kN (.cons kM (.cons kL .nil)))
noncomputable def nA:S:=(.whl (.cmp (.v 2) .ge (.v 1)) dq)
noncomputable def kK:S:=(.asg 7 (.lst false .nil))
noncomputable def jq:S:=(.asg 6 (.sub (.v 0) (.bin .mod (.bin .sub (.bin .sub (.v 2) (.v 8)) (.k (.int 1))) (.v 1))))
noncomputable def jp:S:=(.expr (.me .append (.v 7) (.cons (.tup (.cons (.sub (.v 0) (.bin .mod (.bin .sub (.v 2) (.v 8)) (.v 1))) (.cons (.v 3) (.cons (.v 6) .nil)))) .nil)))
noncomputable def dF:S:=(.cons jq (.cons jp .nil))
noncomputable def kJ:S:=(.for1 8 (.range1 (.v 1)) dF)
noncomputable def kI:S:=(.ret (.tup (.cons (.bin .add (.v 5) (.v 7)) (.cons (.tup (.cons (.k (.str "ring")) (.cons (.b1 .len (.v 5)) .nil))) .nil))))
noncomputable def iJ:S:=(.ife (.not (.v 4)) (.cons kK (.cons kJ (.cons kI .nil))) .nil)
noncomputable def kH:S:=(.expr (.me .append (.v 5) (.cons (.tup (.cons (.sub (.v 0) (.v 2)) (.cons (.v 3) (.cons (.sub (.v 0) (.bin .sub (.v 2) (.k (.int 1)))) .nil)))) .nil)))
noncomputable def kG:S:=(.asg 2 (.bin .sub (.v 2) (.k (.int 1))))
noncomputable def g8:S:=(.cons kH (.cons kG .nil))
noncomputable def ny:S:=(.whl (.cmp (.v 2) .gt (.k (.int 0))) g8)
noncomputable def kF:S:=(.expr (.me .append (.v 5) (.cons (.tup (.cons (.sub (.v 0) (.k (.int 0))) (.cons (.v 9) (.cons (.sub (.v 0) (.bin .sub (.v 1) (.k (.int 1)))) .nil)))) .nil)))
noncomputable def jo:S:=(.expr (.me .append (.v 5) (.cons (.tup (.cons (.sub (.v 0) (.v 8)) (.cons (.v 9) (.cons (.sub (.v 0) (.bin .sub (.v 8) (.k (.int 1)))) .nil)))) .nil)))
noncomputable def fR:S:=(.cons jo .nil)
noncomputable def kE:S:=(.for1 8 (.range3 (.cons (.bin .sub (.v 1) (.k (.int 1))) (.cons (.k (.int 0)) (.cons (.neg (.k (.int 1))) .nil)))) fR)
noncomputable def lF:S:=(.cons kF (.cons kE .nil))
noncomputable def nw:S:=(.for1 9 (.range3 (.cons (.bin .sub (.v 3) (.k (.int 1))) (.cons (.neg (.k (.int 1))) (.cons (.neg (.k (.int 1))) .nil)))) lF)
noncomputable def nu:S:=(.ret (.tup (.cons (.v 5) (.cons (.tup (.cons (.k (.str "first")) .nil)) .nil))))
noncomputable def mz:Fn:=⟨5,13,(.cons iK (.cons nA (.cons iJ (.cons ny (.cons nw (.cons nu .nil))))))⟩
noncomputable def kO:S:=(.ret (.call uf (.cons (.v 0) (.cons (.v 1) (.cons (.v 2) .nil)))))
noncomputable def d3:S:=(.ret (.call ug (.cons (.v 3) .nil)))
noncomputable def iL:S:=(.tryE (.cons kO .nil) [31,44,56,68,80,92,104,116,128,140,152] 3 (.cons d3 .nil))
noncomputable def mA:Fn:=⟨3,7,(.cons iL .nil)⟩
noncomputable def f8:S:=(.asg 9 (.bin .add (.bin .mul (.v 7) (.bin .sub (.v 2) (.k (.int 1)))) (.sub (.lst true (.cons (.v 8) (.cons (.bin .add (.bin .sub (.v 8) (.v 2)) (.k (.int 1))) .nil))) (.b1 .int (.cmp (.v 8) .ge (.v 2))))))
noncomputable def kP:S:=(.ret (.k (.bool false)))
noncomputable def fZ:S:=(.ife (.cmp (.meth 365 oK "at" (.v 0) (.cons (.sub (.v 1) (.v 8)) (.cons (.v 7) .nil))) .ne (.bin .mod (.bin .add (.v 5) (.bin .mul (.v 6) (.v 9))) (.bin .pow (.k (.int 10)) (.k (.int 6))))) (.cons kP .nil) .nil)
noncomputable def gK:S:=(.cons f8 (.cons fZ .nil))
noncomputable def g9:S:=(.for1 8 (.range1 (.bin .add (.v 2) (.v 3))) gK)
noncomputable def io:S:=(.cons g9 .nil)
noncomputable def jt:S:=(.for1 7 (.range1 (.v 4)) io)
noncomputable def js:S:=(.ret (.k (.bool true)))
noncomputable def lG:Fn:=⟨7,12,(.cons jt (.cons js .nil))⟩
noncomputable def sG:S:=(.asg 1 (.call em (.cons (.call a9 (.cons (.v 0) (.cons (.k (.int 0)) .nil))) .nil)))
noncomputable def sF:S:=(.asg 2 (.bin .add (.k (.int 1)) (.bin .mod (.call a9 (.cons (.v 0) (.cons (.k (.int 1)) .nil))) (.k (.int 10)))))
noncomputable def sE:S:=(.asg 3 (.bin .mod (.bin .fdiv (.call a9 (.cons (.v 0) (.cons (.k (.int 1)) .nil))) (.k (.int 10))) (.k (.int 9))))
noncomputable def sD:S:=(.asg 4 (.cmp (.bin .mod (.call a9 (.cons (.v 0) (.cons (.k (.int 2)) .nil))) (.k (.int 3))) .gt (.k (.int 0))))
noncomputable def oU:S:=(.asg 5 (.bin .add (.k (.int 1)) (.bin .mod (.call a9 (.cons (.v 0) (.cons (.k (.int 3)) .nil))) (.k (.int 40)))))
noncomputable def uE:S:=(.asg 5 (.k (.int 200)))
noncomputable def sC:S:=(.ife (.cmp (.bin .mod (.bin .fdiv (.call a9 (.cons (.v 0) (.cons (.k (.int 3)) .nil))) (.k (.int 40))) (.k (.int 10))) .eq (.k (.int 1))) (.cons uE .nil) .nil)
noncomputable def oS:S:=(.asg 6 (.call rE (.cons (.v 1) (.cons (.v 2) (.cons (.v 3) (.cons (.v 4) .nil))))))
noncomputable def oR:S:=(.asg 7 (.bin .mod (.call a9 (.cons (.v 0) (.cons (.k (.int 4)) .nil))) (.b1 .len (.v 6))))
noncomputable def oQ:S:=(.asg 8 (.new 365 d0 (.cons (.b1 .tuple (.bin .add (.slice (.v 6) (.v 7) (.k .none)) (.slice (.v 6) (.k .none) (.v 7)))) (.cons (.v 5) .nil))))
noncomputable def oP:S:=(.asg 9 (.call ek (.cons (.call a9 (.cons (.v 0) (.cons (.k (.int 5)) .nil))) .nil)))
noncomputable def lE:S:=(.asg 10 (.call ek (.cons (.call a9 (.cons (.v 0) (.cons (.k (.int 6)) .nil))) .nil)))
noncomputable def pA:S:=(.expr (.meth 365 mq "put" (.v 8) (.cons (.sub (.v 1) (.k (.int 23))) (.cons (.v 11) (.cons (.v 9) .nil)))))
noncomputable def rJ:S:=(.ife (.or (.cons (.cmp (.bin .add (.v 2) (.v 3)) .gt (.k (.int 1))) (.cons (.not (.v 4)) .nil))) (.cons pA .nil) .nil)
noncomputable def oV:S:=(.cons rJ .nil)
noncomputable def jn:S:=(.for1 11 (.range1 (.v 5)) oV)
noncomputable def jm:S:=(.asg 12 (.and (.cons (.v 4) (.cons (.cmp (.bin .mod (.bin .fdiv (.call a9 (.cons (.v 0) (.cons (.k (.int 2)) .nil))) (.k (.int 3))) (.k (.int 2))) .eq (.k (.int 1))) .nil))))
noncomputable def rI:S:=(.expr (.meth 365 mq "put" (.v 8) (.cons (.sub (.v 1) (.k (.int 0))) (.cons (.k (.int 0)) (.cons (.v 10) .nil)))))
noncomputable def dU:S:=(.ife (.v 12) (.cons rI .nil) .nil)
noncomputable def aap:S:=(.ret (.k (.bool false)))
noncomputable def dT:S:=(.ife (.cmp (.call agh (.cons (.v 8) .nil)) .ne (.bin .mul (.bin .mul (.bin .add (.v 2) (.v 3)) (.v 5)) (.b1 .int (.v 12)))) (.cons aap .nil) .nil)
noncomputable def my:S:=(.asg 14 (.bin .mod (.v 13) (.bin .add (.v 2) (.v 3))))
noncomputable def mx:S:=(.asg 11 (.bin .mod (.bin .fdiv (.v 13) (.k (.int 20))) (.v 5)))
noncomputable def mw:S:=(.asg 15 (.k (.str "Fired")))
noncomputable def jC:S:=(.asg 15 (.call fX (.cons (.v 1) (.cons (.v 2) (.cons (.v 14) (.cons (.v 11) (.cons (.v 4) .nil)))))))
noncomputable def lD:S:=(.asg 15 (.tup (.cons (.sub (.call fX (.cons (.v 1) (.cons (.v 2) (.cons (.k (.int 0)) (.cons (.bin .add (.v 11) (.k (.int 1))) (.cons (.k (.bool true)) .nil)))))) (.k (.int 0))) (.cons (.tup (.cons (.k (.str "first")) .nil)) .nil))))
noncomputable def gm:S:=(.ife (.and (.cons (.v 4) (.cons (.cmp (.v 14) .eq (.k (.int 0))) .nil))) (.cons lD .nil) .nil)
noncomputable def mv:S:=(.ife (.not (.v 12)) (.cons jC (.cons gm .nil)) .nil)
noncomputable def xg:S:=(.ret (.k (.bool false)))
noncomputable def mu:S:=(.ife (.cmp (.call mj (.cons (.v 8) (.cons (.sub (.v 1) (.v 14)) (.cons (.v 11) .nil)))) .ne (.v 15)) (.cons xg .nil) .nil)
noncomputable def fF:S:=(.cons my (.cons mx (.cons mw (.cons mv (.cons mu .nil)))))
noncomputable def dS:S:=(.for1 13 (.bin .add (.slice (.v 0) (.k (.int 7)) (.k (.int 11))) (.lst true (.cons (.k (.int 0)) (.cons (.k (.int 8)) .nil)))) fF)
noncomputable def rH:S:=(.ret (.k (.bool true)))
noncomputable def dR:S:=(.ife (.not (.v 12)) (.cons rH .nil) .nil)
noncomputable def ff:S:=(.ret (.call lv (.cons (.v 8) (.cons (.v 1) (.cons (.v 2) (.cons (.v 3) (.cons (.v 5) (.cons (.v 10) (.cons (.v 9) .nil)))))))))
noncomputable def agw:Fn:=⟨1,29,(.cons sG (.cons sF (.cons sE (.cons sD (.cons oU (.cons sC (.cons oS (.cons oR (.cons oQ (.cons oP (.cons lE (.cons jn (.cons jm (.cons dU (.cons dT (.cons dS (.cons dR (.cons ff .nil))))))))))))))))))⟩
noncomputable def nS:S:=(.raise 44)
noncomputable def iu:S:=(.ife (.not (.call gJ (.cons (.v 1) .nil))) (.cons nS .nil) .nil)
noncomputable def nR:S:=(.raise 56)
noncomputable def ir:S:=(.ife (.not (.call cV (.cons (.v 2) (.cons (.k (.int 1)) (.cons (.k (.int 200)) .nil))))) (.cons nR .nil) .nil)
noncomputable def pW:S:=(.asgAttr 365 (.v 0) "plan" (.v 1))
noncomputable def pV:S:=(.asgAttr 365 (.v 0) "turns" (.v 2))
noncomputable def pU:S:=(.asgAttr 365 (.v 0) "givers" (.call iW (.cons (.v 1) .nil)))
noncomputable def pT:S:=(.asgAttr 365 (.v 0) "outer" (.call lu (.cons (.v 1) .nil)))
noncomputable def pS:S:=(.asgAttr 365 (.v 0) "here" (.dnew true))
noncomputable def pR:S:=(.asgAttr 365 (.v 0) "gone" (.dnew true))
noncomputable def pQ:S:=(.asgAttr 365 (.v 0) "order" (.lst false .nil))
noncomputable def gx:Fn:=⟨3,10,(.cons iu (.cons ir (.cons pW (.cons pV (.cons pU (.cons pT (.cons pS (.cons pR (.cons pQ .nil)))))))))⟩
noncomputable def k9:S:=(.raise 68)
noncomputable def gL:S:=(.ife (.or (.cons (.not (.isinst (.v 1) .str)) (.cons (.and (.cons (.cmp (.v 1) .notin (.attr 365 (.v 0) "givers")) (.cons (.cmp (.v 1) .notin (.attr 365 (.v 0) "outer")) .nil))) .nil))) (.cons k9 .nil) .nil)
noncomputable def jw:Fn:=⟨2,5,(.cons gL .nil)⟩
noncomputable def mJ:S:=(.raise 56)
noncomputable def hZ:S:=(.ife (.not (.call cV (.cons (.v 1) (.cons (.k (.int 0)) (.cons (.bin .sub (.attr 365 (.v 0) "turns") (.k (.int 1))) .nil))))) (.cons mJ .nil) .nil)
noncomputable def jI:Fn:=⟨2,4,(.cons hZ .nil)⟩
noncomputable def ef:S:=(.ret (.v 2))
noncomputable def cY:S:=(.ife (.cmp (.sub (.v 2) (.k (.int 0))) .eq (.v 1)) (.cons ef .nil) .nil)
noncomputable def fO:S:=(.cons cY .nil)
noncomputable def f9:S:=(.for1 2 (.attr 365 (.v 0) "plan") fO)
noncomputable def ia:S:=(.ife (.isinst (.v 1) .str) (.cons f9 .nil) .nil)
noncomputable def oW:S:=(.raise 104)
noncomputable def jJ:Fn:=⟨2,6,(.cons ia (.cons oW .nil))⟩
noncomputable def nL:S:=(.expr (.meth 365 eX "need_place" (.v 0) (.cons (.v 1) .nil)))
noncomputable def nK:S:=(.expr (.meth 365 cI "need_turn" (.v 0) (.cons (.v 2) .nil)))
noncomputable def sQ:S:=(.raise 68)
noncomputable def nJ:S:=(.ife (.and (.cons (.cmp (.v 1) .isin (.attr 365 (.v 0) "givers")) (.cons (.or (.cons (.cmp (.sub (.sub (.sub (.attr 365 (.v 0) "givers") (.v 1)) (.k (.int 1))) (.k (.int 0))) .ne (.k (.str "later"))) (.cons (.cmp (.v 2) .gt (.k (.int 0))) .nil))) .nil))) (.cons sQ .nil) .nil)
noncomputable def sP:S:=(.raise 80)
noncomputable def nI:S:=(.ife (.not (.call gX (.cons (.v 3) .nil))) (.cons sP .nil) .nil)
noncomputable def sO:S:=(.raise 92)
noncomputable def nH:S:=(.ife (.cmp (.tup (.cons (.v 1) (.cons (.v 2) .nil))) .isin (.attr 365 (.v 0) "here")) (.cons sO .nil) .nil)
noncomputable def nG:S:=(.asgSub (.attr 365 (.v 0) "here") (.tup (.cons (.v 1) (.cons (.v 2) .nil))) (.v 3))
noncomputable def mI:Fn:=⟨4,8,(.cons nL (.cons nK (.cons nJ (.cons nI (.cons nH (.cons nG .nil))))))⟩
noncomputable def fT:S:=(.asg 3 (.sub (.v 1) (.k (.int 2))))
noncomputable def pP:S:=(.asg 4 (.me .get (.attr 365 (.v 0) "here") (.cons (.tup (.cons (.sub (.v 3) (.k (.int 0))) (.cons (.v 2) .nil))) .nil)))
noncomputable def nP:S:=(.ret (.sub (.v 3) (.k (.int 0))))
noncomputable def pO:S:=(.ife (.cmp (.v 4) .is (.k .none)) (.cons nP .nil) .nil)
noncomputable def nN:S:=(.asg 3 (.slice (.v 3) (.k (.int 1)) (.k (.int 2))))
noncomputable def nO:S:=(.asg 3 (.slice (.v 3) (.k (.int 2)) (.k (.int 3))))
noncomputable def pN:S:=(.ife (.cmp (.v 4) .eq (.k (.int 0))) (.cons nN .nil) (.cons nO .nil))
noncomputable def fS:S:=(.ife (.cmp (.sub (.sub (.v 1) (.k (.int 1))) (.k (.int 0))) .eq (.k (.str "choose"))) (.cons pP (.cons pO (.cons pN .nil))) .nil)
noncomputable def nM:S:=(.ret (.v 5))
noncomputable def eE:S:=(.ife (.cmp (.tup (.cons (.v 5) (.cons (.v 2) .nil))) .notin (.attr 365 (.v 0) "here")) (.cons nM .nil) .nil)
noncomputable def fh:S:=(.cons eE .nil)
noncomputable def cJ:S:=(.for1 5 (.v 3) fh)
noncomputable def dG:S:=(.ret (.k .none))
noncomputable def nQ:Fn:=⟨3,6,(.cons fT (.cons fS (.cons cJ (.cons dG .nil))))⟩
noncomputable def oX:S:=(.ret (.cmp (.tup (.cons (.v 1) (.cons (.v 2) .nil))) .isin (.attr 365 (.v 0) "gone")))
noncomputable def fU:Fn:=⟨3,3,(.cons oX .nil)⟩
noncomputable def ip:S:=(.ret (.and (.cons (.not (.meth 365 bx "has_fired" (.v 0) (.cons (.sub (.v 1) (.k (.int 0))) (.cons (.v 2) .nil)))) (.cons (.cmp (.meth 365 cR "missed" (.v 0) (.cons (.v 1) (.cons (.v 2) .nil))) .is (.k .none)) .nil))))
noncomputable def kZ:Fn:=⟨3,3,(.cons ip .nil)⟩
noncomputable def lS:S:=(.asg 3 (.meth 365 fQ "need_step" (.v 0) (.cons (.v 1) .nil)))
noncomputable def lR:S:=(.expr (.meth 365 cI "need_turn" (.v 0) (.cons (.v 2) .nil)))
noncomputable def ro:S:=(.raise 116)
noncomputable def lQ:S:=(.ife (.meth 365 bx "has_fired" (.v 0) (.cons (.v 1) (.cons (.v 2) .nil))) (.cons ro .nil) .nil)
noncomputable def rn:S:=(.raise 128)
noncomputable def lP:S:=(.ife (.cmp (.meth 365 cR "missed" (.v 0) (.cons (.v 3) (.cons (.v 2) .nil))) .isNot (.k .none)) (.cons rn .nil) .nil)
noncomputable def lO:S:=(.asgSub (.attr 365 (.v 0) "gone") (.tup (.cons (.v 1) (.cons (.v 2) .nil))) (.k (.bool true)))
noncomputable def lN:S:=(.expr (.me .append (.attr 365 (.v 0) "order") (.cons (.tup (.cons (.v 1) (.cons (.v 2) .nil))) .nil)))
noncomputable def lT:X:=(.comp true 1 [none,none,some 0,some 2] (.me .get (.attr 365 (.v 2) "here") (.cons (.tup (.cons (.v 1) (.cons (.v 3) .nil))) .nil)) (.k (.bool true)) (.sub (.v 3) (.k (.int 2))))
noncomputable def lM:S:=(.asg 5 lT)
noncomputable def lL:S:=(.asg 6 (.bin .add (.v 2) (.b1 .int (.cmp (.sub (.sub (.v 3) (.k (.int 1))) (.k (.int 0))) .eq (.k (.str "later"))))))
noncomputable def eG:S:=(.ife (.cmp (.v 6) .eq (.attr 365 (.v 0) "turns")) (.cons .ret0 .nil) .nil)
noncomputable def iq:S:=(.asgSub (.attr 365 (.v 0) "here") (.tup (.cons (.v 4) (.cons (.v 6) .nil))) (.v 7))
noncomputable def jK:S:=(.ife (.cmp (.v 7) .isNot (.k .none)) (.cons iq .nil) .nil)
noncomputable def gw:S:=(.cons jK .nil)
noncomputable def ic:S:=(.forT [4,7] (.zip (.cons (.sub (.v 3) (.k (.int 3))) (.cons (.call qe (.cons (.sub (.v 3) (.k (.int 1))) (.cons (.v 5) (.cons (.b1 .len (.sub (.v 3) (.k (.int 3)))) .nil)))) .nil))) gw)
noncomputable def k6:Fn:=⟨3,14,(.cons lS (.cons lR (.cons lQ (.cons lP (.cons lO (.cons lN (.cons lM (.cons lL (.cons eG (.cons ic .nil))))))))))⟩
noncomputable def pJ:S:=(.expr (.meth 365 eX "need_place" (.v 0) (.cons (.v 1) .nil)))
noncomputable def pI:S:=(.expr (.meth 365 cI "need_turn" (.v 0) (.cons (.v 2) .nil)))
noncomputable def pH:S:=(.ret (.me .get (.attr 365 (.v 0) "here") (.cons (.tup (.cons (.v 1) (.cons (.v 2) .nil))) .nil)))
noncomputable def uI:Fn:=⟨3,3,(.cons pJ (.cons pI (.cons pH .nil)))⟩
noncomputable def PP:iv:=⟨[uG,zt,ab9,jW,wG,zu,zk,wH,wK,i5,hY,lH,wI,wJ,mB,qu,kY,rK,agu,ec,acb,iZ,iY,aca,rG,mz,mA,lG,agw,gx,jw,jI,jJ,mI,nQ,fU,kZ,k6,uI]⟩
noncomputable def topN:Nat:=4500
end Mine
namespace Mine
open PySem
noncomputable def aQ:ba->af PV
 | .next _ σ=>.ok .none σ
 | .ret v _ σ=>.ok v σ
 | .exc i _ σ=>.exc i σ
 | _=>.stuck
section
variable {α β:Type} {σ:ac} {ρ:aq} {C:aV} {n:Nat}
theorem aA {a:α} {f:α->ac->af β}:(af.ok a σ).bind f=f a σ:=rfl
theorem cH {a:α} {f:α->ac->ba}:(af.ok a σ).toS ρ f=f a σ:=rfl
theorem zy {a b:Str}:br .eq (.str a) (.str b) σ=.ok (a == b) σ:=rfl
theorem aiC {a b:Str}:br .ne (.str a) (.str b) σ=.ok (!(a == b)) σ:=rfl
theorem dN {a b:Int}:br .eq (.int a) (.int b) σ=.ok (a == b) σ:=rfl
theorem yH {a b:Int}:br .ne (.int a) (.int b) σ=.ok (!(a == b)) σ:=rfl
theorem lt_int {a b:Int}:br .lt (.int a) (.int b) σ=.ok (decide (a < b)) σ:=rfl
theorem le_int {a b:Int}:br .le (.int a) (.int b) σ=.ok (decide (a <= b)) σ:=rfl
theorem gt_int {a b:Int}:br .gt (.int a) (.int b) σ=.ok (decide (a > b)) σ:=rfl
theorem add_int {a b:Int}:fI .add (.int a) (.int b) σ=.ok (.int (a + b)) σ:=rfl
theorem sub_int {a b:Int}:fI .sub (.int a) (.int b) σ=.ok (.int (a - b)) σ:=rfl
theorem mul_int {a b:Int} (h:a.natAbs < 2 ^ 60\/b.natAbs < 2 ^ 60):fI .mul (.int a) (.int b) σ=.ok (.int (a * b)) σ:=by
 show (if qX a b=true then af.ok (PV.int (a * b)) σ else .stuck)=_
 exact if_pos (decide_eq_true h)
theorem bn {a b:Int} (h:0 < b):fI .mod (.int a) (.int b) σ=.ok (.int (a % b)) σ:=by
 have e:a.fmod b=a % b:=Int.fmod_eq_emod_of_nonneg _ (Int.le_of_lt h)
 show (if b=0 then af.stuck else .ok (PV.int (a.fmod b)) σ)=_
 rw [if_neg (Int.ne_of_gt h),e]
theorem eZ {a b:Int} (h:0 < b) (h2:b < 1073741824):fI .fdiv (.int a) (.int b) σ=.ok (.int (a / b)) σ:=by
 have e:a.fdiv b=a / b:=Int.fdiv_eq_ediv_of_nonneg _ (Int.le_of_lt h)
 have:b ≠ 0/\b.natAbs < 1073741824:=⟨Int.ne_of_gt h,by grind⟩
 show (if b ≠ 0/\b.natAbs < 1073741824 then af.ok (PV.int (a.fdiv b)) σ else .stuck)=_
 rw [if_pos this,e]
theorem add_str {a b:Str} (h:a.length + b.length <= au):fI .add (.str a) (.str b) σ=.ok (.str (a++b)) σ:=by
 show (if a.length + b.length <= au then af.ok (PV.str (a++b)) σ else .stuck)=_
 exact if_pos h
theorem aep {a b:List PV} (h:a.length + b.length <= au):fI .add (.fl a) (.fl b) σ=.ok (.fl (a++b)) σ:=by
 show (if a.length + b.length <= au then af.ok (PV.fl (a++b)) σ else .stuck)=_
 exact if_pos h
theorem jS {f:List PV->af PV} {a:PV} {xs:List PV} (h:aZ σ a=some xs):fA f a σ=f xs:=by unfold fA; rw [h]
theorem jT {γ:Type} {g:List PV->Option γ} {f:γ->af PV} {a:PV} {l:γ} (h:(be σ a).bind g=some l):c9 g f a σ=f l:=by unfold c9; rw [h]
theorem len_str {s:Str} (h:s.length <= au):cK .len (.str s) σ=.ok (.int s.length) σ:=by
 show (if s.length <= au then af.ok (PV.int s.length) σ else .stuck)=_
 exact if_pos h
theorem vy {xs:List PV} (h:xs.length <= au):cK .len (.tup xs) σ=.ok (.int xs.length) σ:=by
 show (if xs.length <= au then af.ok (PV.int xs.length) σ else .stuck)=_
 exact if_pos h
theorem aiN {xs:List PV} (h:xs.length <= au):cK .len (.fl xs) σ=.ok (.int xs.length) σ:=by
 show (if xs.length <= au then af.ok (PV.int xs.length) σ else .stuck)=_
 exact if_pos h
theorem aeu {xs:List PV} (h:xs.length <= au):cK .tuple (.fl xs) σ=.ok (.tup xs) σ:=by
 show (if xs.length <= au then af.ok (PV.tup xs) σ else .stuck)=_
 exact if_pos h
theorem int_bool {b:Bool}:cK .int (.bool b) σ=.ok (.int (if b then 1 else 0)) σ:=rfl
theorem agb {xs:List PV} (h:xs.length <= au):cg true xs σ=.ok (.fl xs) σ:=if_pos h
theorem vD {i:Int} {m:Nat} (h0:0 <= i) (h:i.toNat < m):cC i m=some i.toNat:=by
 unfold cC
 rw [if_pos h0,if_pos h]
theorem ke {xs:List PV} {i:Int} {x:PV} (hl:xs.length <= au) (h0:0 <= i) (h:xs[i.toNat]?=some x):eA (.fl xs) (.int i) σ=.ok x σ:=by
 have hi:=(eY h).1
 show (if xs.length <= au then af.ofOpt ((cC i xs.length).bind (xs[·]?)) σ else .stuck)=_
 rw [if_pos hl,vD h0 hi]
 show af.ofOpt xs[i.toNat]? σ=_
 rw [h]; rfl
theorem agV {xs:List PV} {r:Nat} {i:Int} {x:PV} (hr:σ[r]?=some (.lst xs)) (hl:xs.length <= au) (h0:0 <= i) (h:xs[i.toNat]?=some x):eA (.ref r) (.int i) σ=.ok x σ:=by
 have hi:=(eY h).1
 have e:be σ (.ref r)=some xs:=by unfold be; dsimp only; rw [hr]
 show (match be σ (.ref r) with
  | some xs=>ji xs i σ
  | none=>.stuck)=_
 rw [e]
 show (if xs.length <= au then af.ofOpt ((cC i xs.length).bind (xs[·]?)) σ else .stuck)=_
 rw [if_pos hl,vD h0 hi]
 show af.ofOpt xs[i.toNat]? σ=_
 rw [h]; rfl
theorem aaH {s:Str} {i:Int} {c:Nat} (hl:s.cps.size <= au) (h0:0 <= i) (h:s.cps.toList[i.toNat]?=some c):eA (.str s) (.int i) σ=.ok (.str ⟨#[c]⟩) σ:=by
 have hi:=(eY h).1
 have h':s.cps[i.toNat]?=some c:=by rw [<- Array.getElem?_toList]; exact h
 show (if s.cps.size <= au then (match (cC i s.cps.size).bind (s.cps[·]?) with
   | some c=>af.ok (PV.str ⟨#[c]⟩) σ
   | none=>.stuck)
  else .stuck)=_
 rw [if_pos hl,vD h0 (by simpa using hi)]
 show (match s.cps[i.toNat]? with
   | some c=>af.ok (PV.str ⟨#[c]⟩) σ
   | none=>.stuck)=_
 rw [h']
theorem ajj {P:Nat->Prop}:∀ k,k < 0->P k:=fun zz h=>absurd h (Nat.not_lt_zero _)
theorem v9 {P:Nat->Prop} {n:Nat} (h:∀ k,k < n->P k) (q:P n):∀ k,k < n + 1->P k:=fun k hk=>(Nat.lt_succ_iff_lt_or_eq.mp hk).elim (h k) fun e=>e ▸ q
theorem adH {P:Int->Prop} {n:Nat} (h:∀ k:Nat,k < n->P k) {w:Int} (h0:0 <= w) (h1:w < n):P w:=by
 obtain ⟨k,rfl⟩:=Int.eq_ofNat_of_zero_le h0
 exact h k (Int.ofNat_lt.mp h1)
theorem wi {w:Int} {n:Nat} (h0:0 <= w) (h1:w < n):w.toNat < n:=adH (P:=fun w=>w.toNat < n) (fun zz h=>h) h0 h1
theorem zL {a:Int} {k N:Nat} (hN:N ≠ 0):((a + k) % N).toNat=((a % N).toNat + k) % N:=by
 have hz:(N:Int) ≠ 0:=Int.ofNat_ne_zero.mpr hN
 rw [<- Int.emod_add_emod]
 obtain ⟨m,hm⟩:=Int.eq_ofNat_of_zero_le (Int.emod_nonneg a hz)
 rw [hm,Int.toNat_natCast,<- Int.natCast_add,<- Int.natCast_emod,Int.toNat_natCast]
theorem bV:au=1000000:=rfl
theorem uP {f:PV->ac->af (Option PV)} {g:PV->PV}:∀ (xs:List PV),(∀ x ∈ xs,f x σ=.ok (some (g x)) σ)->b9 none f xs σ=.ok (xs.map g) σ
 | [],_=>if_pos trivial
 | x::xs,h=>by
  refine (if_pos trivial).trans ?_
  rw [h x List.mem_cons_self]
  show (b9 none f xs σ).bind _=_
  rw [uP xs fun y hy=>h y (bJ _ hy)]
  rfl
theorem o7 {t:Nat} {cap:List (Option Nat)} {elt it:X} {xs:List PV} (g:PV->PV) (hit:evIt C it ρ σ=.ok (xs,none) σ) (hl:xs.length <= au)
  (h:∀ x ∈ xs,ev C elt ((bI cap ρ).set t (some x)) σ=.ok (g x) σ) (hh:C.hd=false:=by first | rfl | assumption):ev C (.comp true t cap elt (.k (.bool true)) it) ρ σ=.ok (.fl (xs.map g)) σ:=by
 rw [nV,hh,hit]
 show fH xs.length (b9 none (fun x σ=>((af.ok true σ).bind fun b σ=>if b=true then (ev C elt ((bI cap ρ).set t (some x)) σ).bind fun v σ=>.ok (some v) σ else .ok none σ)) xs σ) _=_
 rw [uP (g:=g) xs fun x hx=>by
  show (ev C elt ((bI cap ρ).set t (some x)) σ).bind _=_
  rw [h x hx]; rfl]
 exact agb (by simpa using hl)
section
variable {a b c r:X} {σ₁ σ₂ σ₃:ac} {x y z:PV}
theorem az {o:Op} {v:af PV} (ha:ev C a ρ σ=.ok x σ₁) (hb:ev C b ρ σ₁=.ok y σ₂) (h:fI o x y σ₂=v):ev C (.bin o a b) ρ σ=v:=by
 rw [ai9,ha,aA,hb,aA,h]
theorem aU {v:af PV} (ha:ev C a ρ σ=.ok x σ₁) (hb:ev C b ρ σ₁=.ok y σ₂) (h:eA x y σ₂=v):ev C (.sub a b) ρ σ=v:=by
 rw [ai6,ha,aA,hb,aA,h]
theorem yo {o lo hi v:PV} {a b:Option Int} (h1:eS lo=some a) (h2:eS hi=some b) (h:slV σ o a b=some v):eQ o lo hi σ=.ok v σ:=by
 unfold eQ
 rw [h1,h2]
 show af.ofOpt (slV σ o a b) σ=_
 rw [h]; rfl
theorem ajB {xs:List PV} {lo hi:PV} {a b:Option Int} (h1:eS lo=some a) (h2:eS hi=some b) (hl:xs.length <= au):eQ (.fl xs) lo hi σ=.ok (.fl (bN xs a b)) σ:=
 yo h1 h2 (show (if xs.length <= au then some (PV.fl (bN xs a b)) else none)=_ from if_pos hl)
theorem vX {v:af PV} (ha:ev C a ρ σ=.ok x σ₁) (hb:ev C b ρ σ₁=.ok y σ₂) (hc:ev C c ρ σ₂=.ok z σ₃) (h:eQ x y z σ₃=v):ev C (.slice a b c) ρ σ=v:=by
 rw [zx,ha,aA,hb,aA,hc,aA,h]
theorem aj8 {k:B1}:lW false k x σ=cK k x σ:=rfl
theorem cZ {k:B1} {v:af PV} (ha:ev C a ρ σ=.ok x σ₁) (h:cK k x σ₁=v) (hh:C.hd=false:=by first | rfl | assumption):ev C (.b1 k a) ρ σ=v:=by
 rw [agy,ha,aA,hh,aj8,h]
theorem bD {f:Nat} {v:af PV} (ha:ev C a ρ σ=.ok x σ₁) (h:C.call f [x] σ₁=v):ev C (.call f (.cons a .nil)) ρ σ=v:=by
 rw [iM,dy,ha,aA,bC]; exact h
theorem fG {f:Nat} {v:af PV} (ha:ev C a ρ σ=.ok x σ₁) (hb:ev C b ρ σ₁=.ok y σ₂) (h:C.call f [x,y] σ₂=v):ev C (.call f (.cons a (.cons b .nil))) ρ σ=v:=by
 rw [iM,dy,ha,aA,dy,hb,aA,bC]; exact h
theorem eu {f:Nat} {v:af PV} (ha:ev C a ρ σ=.ok x σ₁) (hb:ev C b ρ σ₁=.ok y σ₂) (hc:ev C c ρ σ₂=.ok z σ₃) (h:C.call f [x,y,z] σ₃=v):ev C (.call f (.cons a (.cons b (.cons c .nil)))) ρ σ=v:=by
 rw [iM,dy,ha,aA,dy,hb,aA,dy,hc,aA,bC]; exact h
theorem o6 {m:Me} {v:af PV} (ha:ev C a ρ σ=.ok x σ₁) (hm:sk m x σ₁=true) (hb:ev C b ρ σ₁=.ok y σ₂) (h:mV m x [y] σ₂=v):ev C (.me m a (.cons b .nil)) ρ σ=v:=by
 rw [agx,ha,aA,if_pos hm,dy,hb,aA,bC]; exact h
theorem zA {t:Ty} {q:Bool} (ha:ev C a ρ σ=.ok x σ₁) (h:fB x t σ₁=.ok q σ₁):ev C (.isinst a t) ρ σ=.ok (.bool q) σ₁:=by
 rw [ad1,ha,aA,h]; rfl
theorem d4 {o:Cm} {q:Bool} (ha:ev C a ρ σ=.ok x σ₁) (hb:ev C b ρ σ₁=.ok y σ₂) (h:br o x y σ₂=.ok q σ₃):ev C (.cmp a o b) ρ σ=.ok (.bool q) σ₃:=by
 rw [ai8,ha,aA,hb,aA,h]; rfl
theorem jX {xs:X} {v:af PV} (h:evAnd C xs ρ σ=v):ev C (.and xs) ρ σ=v:=h
theorem gN {v:af PV} (h:ev C a ρ σ=v):evAnd C (.cons a .nil) ρ σ=v:=h
theorem tF {xs:X} {v:af Bool} (h:tstAnd C xs ρ σ=v):tst C (.and xs) ρ σ=v:=h
theorem n8 {xs:X} {v:af Bool} (h:tstOr C xs ρ σ=v):tst C (.or xs) ρ σ=v:=h
theorem j9 {v:af PV} (ha:ev C a ρ σ=.ok (.bool true) σ₁) (hb:evAnd C (.cons b r) ρ σ₁=v):evAnd C (.cons a (.cons b r)) ρ σ=v:=by
 rw [ie,ha]; exact hb
theorem bj {o:Cm} {v:af Bool} (ha:ev C a ρ σ=.ok x σ₁) (hb:ev C b ρ σ₁=.ok y σ₂) (h:br o x y σ₂=v):tst C (.cmp a o b) ρ σ=v:=by
 rw [agO,ha,aA,hb,aA,h]
theorem dE {q:Bool} (ha:tst C a ρ σ=.ok q σ₁):tst C (.not a) ρ σ=.ok (!q) σ₁:=by
 rw [agN,ha]; rfl
theorem eN {f:Nat} {args:X} {q:Bool} (h:ev C (.call f args) ρ σ=.ok (.bool q) σ₁):tst C (.call f args) ρ σ=.ok q σ₁:=by
 rw [aex,h]; rfl
theorem ako {k:B1} {q:Bool} (h:ev C (.b1 k a) ρ σ=.ok (.bool q) σ₁):tst C (.b1 k a) ρ σ=.ok q σ₁:=by
 rw [ah9,h]; rfl
theorem aeD {t:Ty} {q:Bool} (h:ev C (.isinst a t) ρ σ=.ok (.bool q) σ₁):tst C (.isinst a t) ρ σ=.ok q σ₁:=by
 rw [abk,h]; rfl
theorem jd {v:af Bool} (ha:tst C a ρ σ=.ok false σ₁) (h:tstOr C r ρ σ₁=v):tstOr C (.cons a r) ρ σ=v:=by
 rw [fy,ha]; exact h
theorem acM (ha:tst C a ρ σ=.ok true σ₁):tstOr C (.cons a r) ρ σ=.ok true σ₁:=by
 rw [fy,ha]; rfl
theorem agT {v:af Bool} (ha:tst C a ρ σ=.ok true σ₁) (h:tstAnd C r ρ σ₁=v):tstAnd C (.cons a r) ρ σ=v:=by
 rw [ej,ha]; exact h
theorem agU (ha:tst C a ρ σ=.ok false σ₁):tstAnd C (.cons a r) ρ σ=.ok false σ₁:=by
 rw [ej,ha]; rfl
theorem tE {q p:Bool} (ha:tst C a ρ σ=.ok q σ₁) (h:q=false->tstOr C r ρ σ₁=.ok p σ₁):tstOr C (.cons a r) ρ σ=.ok (q || p) σ₁:=by
 rw [fy,ha,aA]
 cases q
 ·exact h rfl
 ·rfl
theorem ka {q:Bool} (ha:tst C a ρ σ=.ok q σ₁):tstOr C (.cons a .nil) ρ σ=.ok q σ₁:=by
 rw [fy,ha,aA]
 cases q <;> rfl
theorem u9 {q p:Bool} (ha:tst C a ρ σ=.ok q σ₁) (h:q=true->tstAnd C r ρ σ₁=.ok p σ₁):tstAnd C (.cons a r) ρ σ=.ok (q && p) σ₁:=by
 rw [ej,ha,aA]
 cases q
 ·rfl
 ·exact h rfl
theorem qP {q:Bool} (ha:tst C a ρ σ=.ok q σ₁):tstAnd C (.cons a .nil) ρ σ=.ok q σ₁:=by
 rw [ej,ha,aA]
 cases q <;> rfl
theorem nW {q p:Bool} (ha:ev C a ρ σ=.ok (.bool q) σ₁) (h:q=true->evAnd C (.cons b r) ρ σ₁=.ok (.bool p) σ₁):evAnd C (.cons a (.cons b r)) ρ σ=.ok (.bool (q && p)) σ₁:=by
 rw [ie,ha]
 cases q
 ·rfl
 ·exact h rfl
theorem mL {i j k:Int} (ha:ev C a ρ σ=.ok (.int i) σ) (hb:ev C b ρ σ=.ok (.int j) σ) (hc:ev C c ρ σ=.ok (.int k) σ):ev C (.cmp2 a .le b .le c) ρ σ=.ok (.bool (decide (i <= j) && decide (j <= k))) σ:=by
 rw [ahU,ha,aA,hb,aA,le_int,aA]
 cases decide (i <= j)
 ·rfl
 ·rw [if_pos rfl,hc,aA,le_int]; rfl
theorem ru {i j k:Int} (ha:ev C a ρ σ=.ok (.int i) σ) (hb:ev C b ρ σ=.ok (.int j) σ) (hc:ev C c ρ σ=.ok (.int k) σ):tst C (.cmp2 a .le b .le c) ρ σ=.ok (decide (i <= j) && decide (j <= k)) σ:=by
 rw [aew,ha,aA,hb,aA,le_int,aA]
 cases decide (i <= j)
 ·rfl
 ·rw [if_pos rfl,hc,aA,le_int]; rfl
theorem aJ {vs:List PV} (ha:ev C a ρ σ=.ok x σ₁) (h:evs C r ρ σ₁=.ok vs σ₂):evs C (.cons a r) ρ σ=.ok (x::vs) σ₂:=by
 rw [dy,ha,aA,h]; rfl
theorem rb {xs:X} {vs:List PV} (h:evs C xs ρ σ=.ok vs σ₁) (hl:vs.length <= au):ev C (.tup xs) ρ σ=.ok (.tup vs) σ₁:=by
 rw [ai5,h,aA,if_pos hl]
end
theorem aa {a r:S} {ρ':aq} {σ':ac} (h:ex C n a ρ σ=.next ρ' σ'):ex C n (.cons a r) ρ σ=ex C n r ρ' σ':=by
 show (match ex C n a ρ σ with | .next ρ σ=>ex C n r ρ σ | o=>o)=_
 rw [h]
theorem ak {a r:S} {v:PV} {ρ':aq} {σ':ac} (h:ex C n a ρ σ=.ret v ρ' σ'):ex C n (.cons a r) ρ σ=.ret v ρ' σ':=by
 show (match ex C n a ρ σ with | .next ρ σ=>ex C n r ρ σ | o=>o)=_
 rw [h]
theorem aE {i:Nat} {x:X} {v:PV} {σ':ac} (h:ev C x ρ σ=.ok v σ'):ex C n (.asg i x) ρ σ=.next (ρ.set i (some v)) σ':=by
 show (ev C x ρ σ).toS ρ _=_
 rw [h]; rfl
theorem av {x:X} {v:PV} {σ':ac} (h:ev C x ρ σ=.ok v σ'):ex C n (.ret x) ρ σ=.ret v ρ σ':=by
 show (ev C x ρ σ).toS ρ _=_
 rw [h]; rfl
theorem bX {x:X} {σ':ac} (h:ev C x ρ σ=.ok .none σ'):ex C n (.expr x) ρ σ=.next ρ σ':=by
 show (ev C x ρ σ).toS ρ _=_
 rw [h]; rfl
theorem aH {c:X} {a b:S} {σ':ac} (h:tst C c ρ σ=.ok true σ'):ex C n (.ife c a b) ρ σ=ex C n a ρ σ':=by
 show (tst C c ρ σ).toS ρ _=_
 rw [h]; rfl
theorem ai4 {c:X} {a b:S} {σ':ac} (h:tst C c ρ σ=.ok false σ'):ex C n (.ife c a b) ρ σ=ex C n b ρ σ':=by
 show (tst C c ρ σ).toS ρ _=_
 rw [h]; rfl
theorem aK:ex C n .nil ρ σ=.next ρ σ:=rfl
theorem ao {c:X} {a:S} {σ':ac} (h:tst C c ρ σ=.ok false σ'):ex C n (.ife c a .nil) ρ σ=.next ρ σ':=(ai4 h).trans aK
theorem ahP {b h:S} {sup:List Nat} {i:Nat} {o:ba} (e:ex C n b ρ σ=o) (ho:∀ c ρ σ,o ≠ .exc c ρ σ):ex C n (.tryE b sup i h) ρ σ=o:=by
 show (match ex C n b ρ σ with
  | .exc c ρ σ=>bif C.rz then (if sup.contains c/\i < ρ.length then nY (ex C.inH n h (ρ.set i (some (.exc c))) σ) else ba.stuck) else .stuck
  | o=>o)=_
 rw [e]
 cases o <;> first | rfl | exact absurd rfl (ho _ _ _)
theorem ahO {b h:S} {sup:List Nat} {i c:Nat} {ρ':aq} {σ':ac} (e:ex C n b ρ σ=.exc c ρ' σ') (hc:sup.contains c=true) (hi:i < ρ'.length) (hh:C.rz=true:=by first | rfl | assumption) :
  ex C n (.tryE b sup i h) ρ σ=nY (ex C.inH n h (ρ'.set i (some (.exc c))) σ'):=by
 show (match ex C n b ρ σ with
  | .exc c ρ σ=>bif C.rz then (if sup.contains c/\i < ρ.length then nY (ex C.inH n h (ρ.set i (some (.exc c))) σ) else ba.stuck) else .stuck
  | o=>o)=_
 rw [e,hh]
 exact if_pos ⟨hc,hi⟩
theorem zw {a r:S} {c:Nat} {ρ':aq} {σ':ac} (h:ex C n a ρ σ=.exc c ρ' σ'):ex C n (.cons a r) ρ σ=.exc c ρ' σ':=by
 show (match ex C n a ρ σ with | .next ρ σ=>ex C n r ρ σ | o=>o)=_
 rw [h]
theorem ahQ {c:Nat} {x:X} {σ':ac} (h:ev C x ρ σ=.exc c σ'):ex C n (.ret x) ρ σ=.exc c ρ σ':=by
 show (ev C x ρ σ).toS ρ _=_
 rw [h]; rfl
theorem afx {c:Nat} (hh:C.rz=true:=by first | rfl | assumption):ex C n (.raise c) ρ σ=.exc c ρ σ:=by
 show (bif C.rz then ba.exc c ρ σ else .stuck)=_
 rw [hh]; rfl
section
variable {bnd:PV->aq->Option aq} {f:aq->ac->ba} {x:PV} {xs:List PV} {ρ₁ ρ₂:aq} {σ₂:ac}
theorem bB:aX none bnd f [] ρ σ=.next ρ σ:=if_pos trivial
theorem bf (hb:bnd x ρ=some ρ₁) (h:f ρ₁ σ=.next ρ₂ σ₂):aX none bnd f (x::xs) ρ σ=aX none bnd f xs ρ₂ σ₂:=by
 refine (if_pos trivial).trans ?_
 rw [hb]; show p9 _ (f ρ₁ σ)=_; rw [h]; rfl
theorem bP {i:Nat} {it:X} {body:S} {ys:List PV} {σ₁:ac} {o:ba} (hit:evIt C it ρ σ=.ok (ys,none) σ₁) (h:aX none (bE i) (fun ρ σ=>ex C n body ρ σ) ys ρ σ₁=o) (hh:C.hd=false:=by first | rfl | assumption):ex C n (.for1 i it body) ρ σ=o:=by
 show (bif C.hd then ba.stuck else (evIt C it ρ σ).toS ρ _)=_
 rw [hh,hit]; exact h
end
theorem afJ {P:iv} {d f:Nat} {vs:List PV} {fn:Fn} (hf:P.fns[f]?=some fn) (hl:vs.length=fn.params) :
  aG P n (d + 1) f vs σ=aQ (ex (fP P n 0 d) n fn.body (vs.map some++List.replicate (fn.slots - fn.params) none) σ):=by
 show (match P.fns[f]? with
  | some fn=>if vs.length=fn.params then
    match ex (fP P n 0 d) n fn.body (vs.map some++List.replicate (fn.slots - fn.params) none) σ with
    | .next _ σ=>af.ok PV.none σ
    | .ret v _ σ=>.ok v σ
    | .exc i _ σ=>.exc i σ
    | _=>.stuck
   else .stuck
  | none=>.stuck)=_
 rw [hf]
 dsimp only
 rw [if_pos hl]
 cases ex (fP P n 0 d) n fn.body (vs.map some++List.replicate (fn.slots - fn.params) none) σ <;> rfl
end
end Mine
namespace Mine
open PySem
end Mine
namespace Mine
open PySem
noncomputable def CC (d:Nat):aV:=fP PP topN 0 d
theorem a5 {d f:Nat} {vs:List PV} {σ:ac} {fn:Fn} (hf:PP.fns[f]?=some fn) (hl:vs.length=fn.params) :
  aG PP topN (d + 1) f vs σ=aQ (ex (CC d) topN fn.body (vs.map some++List.replicate (fn.slots - fn.params) none) σ):=afJ hf hl
noncomputable def bT:List Nat:=("abcdefghijklmnopqrstuvwxyz" : Str).cps.toList
noncomputable def su:List Nat:=("0123456789" : Str).cps.toList
structure eh (s:Str):Prop where
 pos:1 <= s.length
 len:s.length <= 8
 fst:∀ c,s.cps.toList[0]?=some c->c ∈ bT
 all:∀ c ∈ s.cps.toList,c ∈ bT\/c ∈ su
noncomputable def oj (c:Nat):Bool:=bT.contains c || su.contains c
noncomputable def dY (s:Str):Bool:=decide (1 <= s.length) && decide (s.length <= 8) && (s.cps.toList.take 1).all (fun c=>bT.contains c) && s.cps.toList.all oj
theorem sj {s:Str} (h:dY s=true):eh s:=by
 simp only [dY,oj,Bool.and_eq_true,decide_eq_true_eq,List.all_eq_true,Bool.or_eq_true,List.contains_iff_mem] at h
 refine ⟨h.1.1.1,h.1.1.2,fun c hc=>?_,h.2⟩
 refine h.1.2 c ?_
 cases hq:s.cps.toList with
 | nil=>rw [hq] at hc; cases hc
 | cons x r=>rw [hq] at hc; simp at hc; subst hc; simp
theorem yK {s:Str} (h:eh s):dY s=true:=by
 simp only [dY,oj,Bool.and_eq_true,decide_eq_true_eq,List.all_eq_true,Bool.or_eq_true,List.contains_iff_mem]
 refine ⟨⟨⟨h.pos,h.len⟩,fun c hc=>h.fst c ?_⟩,h.all⟩
 cases hq:s.cps.toList with
 | nil=>rw [hq] at hc; simp at hc
 | cons x r=>rw [hq] at hc; simp at hc; simp [hc]
section
variable {d:Nat} {σ:ac}
theorem h0 {i:Int}:aG PP topN (d + 1) gX [.int i] σ=.ok (.bool (decide (0 <= i) && decide (i <= 999999))) σ:=by
 rw [a5 (fn:=jW) rfl rfl]
 have:ex (CC d) topN jW.body [some (.int i),none,none,none,none] σ=.ret (.bool (decide (0 <= i) && decide (i <= 999999))) [some (.int i),none,none,none,none] σ:=
  ak (av (jX (j9 (σ₁:=σ) rfl (j9 (σ₁:=σ) rfl (gN (mL rfl rfl rfl))))))
 show aQ (ex (CC d) topN jW.body [some (.int i),none,none,none,none] σ)=_
 rw [this]; rfl
theorem adh {c:Nat} {y:Str}:br .notin (.str ⟨#[c]⟩) (.str y) σ=.ok (!(y.cps.toList.contains c)) σ:=rfl
theorem aji {α:Type} {xs:List α} {g:α->Bool}:cK .all (.fl (xs.map fun x=>.bool (g x))) σ=.ok (.bool (xs.all g)) σ:=by
 have e:∀ xs:List α,dA (xs.map fun x=>.bool (g x))=some (xs.map g):=by
  intro xs
  induction xs with
  | nil=>rfl
  | cons x xs ih =>
   show (dA (xs.map fun x=>.bool (g x))).map (g x::·)=_
   rw [ih]; rfl
 refine (jT (σ:=σ) (a:=.fl _) (l:=xs.map g) (g:=dA) (e xs)).trans ?_
 rw [List.all_map]; rfl
theorem ta {C:aV} {ρ:aq} {α:Type} {t:Nat} {cap:List (Option Nat)} {elt it:X} {xs:List α} {w:α->PV} {g:α->Bool} (hit:evIt C it ρ σ=.ok (xs.map w,none) σ) (hl:xs.length <= au)
  (h:∀ x ∈ xs,ev C elt ((bI cap ρ).set t (some (w x))) σ=.ok (.bool (g x)) σ) (hh:C.hd=false:=by first | rfl | assumption):ev C (.b1 .all (.comp true t cap elt (.k (.bool true)) it)) ρ σ=.ok (.bool (xs.all g)) σ:=by
 refine cZ (x:=.fl (xs.map fun x=>.bool (g x))) (σ₁:=σ) ?_ aji hh
 rw [nV,hh,hit]
 show fH xs.length (b9 none (fun x σ=>((af.ok true σ).bind fun b σ=>if b=true then (ev C elt ((bI cap ρ).set t (some x)) σ).bind fun v σ=>.ok (some v) σ else .ok none σ)) (xs.map w) σ) _=_
 have e:∀ ys:List α,(∀ x ∈ ys,ev C elt ((bI cap ρ).set t (some (w x))) σ=.ok (.bool (g x)) σ)->b9 none (fun x σ=>((af.ok true σ).bind fun b σ=>if b=true then (ev C elt ((bI cap ρ).set t (some x)) σ).bind fun v σ=>.ok (some v) σ else .ok none σ)) (ys.map w) σ=.ok (ys.map fun x=>.bool (g x)) σ:=by
  intro ys
  induction ys with
  | nil=>intro _; exact if_pos trivial
  | cons y ys ih =>
   intro hy
   refine (if_pos trivial).trans ?_
   dsimp only
   rw [aA,if_pos rfl,hy y List.mem_cons_self,aA,aA]
   rw [ih fun x hx=>hy x (bJ _ hx)]
   rfl
 rw [e xs h]
 exact agb (by simpa using hl)
theorem h1 {s:Str} (hlen:s.length <= au):aG PP topN (d + 1) lw [.str s] σ=.ok (.bool (dY s)) σ:=by
 rw [a5 (fn:=wK) rfl rfl]
 show aQ (ex (CC d) topN (.cons hX (.cons kX .nil)) [some (.str s),none,none,none,none,none,none] σ)=_
 have hsz:s.length=s.cps.toList.length:=by simp [Str.length]
 have e0:tst (CC d) (.or (.cons (.not (.isinst (.v 0) .str)) (.cons (.not (.cmp2 (.k (.int 1)) .le (.b1 .len (.v 0)) .le (.k (.int 8)))) (.cons (.cmp (.sub (.v 0) (.k (.int 0))) .notin (.k (.str "abcdefghijklmnopqrstuvwxyz"))) .nil)))) [some (.str s),none,none,none,none,none,none] σ =
   .ok (!(decide (1 <= s.length) && decide (s.length <= 8)) || !(s.cps.toList.take 1).all (fun c=>bT.contains c)) σ:=by
  refine n8 (jd (σ₁:=σ) rfl (tE ((dE (ru rfl (cZ rfl (len_str hlen)) rfl)).trans ?_) fun hq=>ka ?_))
  ·rw [show decide ((1:Int) <= (s.length:Int))=decide (1 <= s.length) from decide_eq_decide.mpr (by grind),show decide ((s.length:Int) <= 8)=decide (s.length <= 8) from decide_eq_decide.mpr (by grind)]
  ·simp only [Bool.not_eq_false',Bool.and_eq_true,decide_eq_true_eq] at hq
   cases hx:s.cps.toList with
   | nil=>rw [hsz,hx] at hq; simp at hq
   | cons c r =>
    refine (bj (aU rfl rfl (aaH (c:=c) (i:=0) hlen (by (exact Int.natCast_nonneg _)) (by rw [hx]; rfl))) rfl adh).trans ?_
    show af.ok (!bT.contains c) σ=_
    simp
 have e1:ex (CC d) topN kX [some (.str s),none,none,none,none,none,none] σ=.ret (.bool (s.cps.toList.all oj)) [some (.str s),none,none,none,none,none,none] σ:=by
  refine av (ta (xs:=s.cps.toList) (w:=fun c=>.str ⟨#[c]⟩) (g:=oj) rfl (by rw [<- hsz]; exact hlen) fun c hc=>?_)
  rw [aj5,lU]
  show (if bT.contains c=true then af.ok (PV.bool (bT.contains c)) σ else _)=_
  unfold oj
  cases q:bT.contains c with
  | true=>rfl
  | false=>rfl
 cases hq:(!(decide (1 <= s.length) && decide (s.length <= 8)) || !(s.cps.toList.take 1).all (fun c=>bT.contains c)) with
 | true =>
  rw [hq] at e0
  rw [ak (a:=hX) ((aH e0).trans (ak (av rfl)))]
  have:dY s=false:=by
   unfold dY
   revert hq
   cases (decide (1 <= s.length) && decide (s.length <= 8)) <;> cases ((s.cps.toList.take 1).all fun c=>bT.contains c) <;> simp
  rw [this]; rfl
 | false =>
  rw [hq] at e0
  rw [aa (a:=hX) (ao e0),ak e1]
  have:dY s=s.cps.toList.all oj:=by
   unfold dY
   revert hq
   cases (decide (1 <= s.length) && decide (s.length <= 8)) <;> cases ((s.cps.toList.take 1).all fun c=>bT.contains c) <;> simp
  rw [this]; rfl
end
end Mine
namespace Mine
open PySem
noncomputable def jh (l:List Str) (m:Nat):Bool:=(decide (1 <= l.length) && decide (l.length <= m)) && l.all dY
section
variable {d:Nat} {σ:ac}
theorem uK {a b:Nat}:decide ((a:Int) <= (b:Int))=decide (a <= b):=decide_eq_decide.mpr (by grind)
theorem h2 {l:List Str} {m:Nat} (h:∀ n ∈ l,n.length <= au) (hl:l.length <= au):aG PP topN (d + 2) cy [.tup (l.map .str),.int m] σ=.ok (.bool (jh l m)) σ:=by
 have hlim:(l.map PV.str).length <= au:=by rw [List.length_map]; exact hl
 rw [a5 (fn:=i5) rfl rfl]
 have:ex (CC (d + 1)) topN i5.body [some (.tup (l.map .str)),some (.int m),none,none,none,none] σ=.ret (.bool (jh l m)) [some (.tup (l.map .str)),some (.int m),none,none,none,none] σ:=by
  refine ak (av (jX (j9 (zA rfl rfl) (nW ?_ fun zz=>gN ?_))))
  ·refine (mL (i:=((1:Nat):Int)) (k:=(m:Int)) rfl (cZ rfl (vy hlim)) rfl).trans ?_
   rw [List.length_map,uK,uK]
  ·exact ta (xs:=l) (w:=.str) (g:=dY) rfl hl fun n hn=>bD rfl (h1 (h n hn))
 show aQ (ex (CC (d + 1)) topN i5.body [some (.tup (l.map .str)),some (.int m),none,none,none,none] σ)=_
 rw [this]; rfl
theorem rR:∀ l:List Str,dj (l.map .str)=some l
 | []=>rfl
 | x::l=>by
  show (dj (l.map .str)).map (x::·)=_
  rw [rR l]; rfl
theorem sU:∀ (l a:List Str),a.Nodup->(l.foldl (fun a x=>if a.any (· == x) then a else a++[x]) a).length <= a.length + l.length ∧
  ((l.foldl (fun a x=>if a.any (· == x) then a else a++[x]) a).length=a.length + l.length ↔ (a++l).Nodup)
 | [],a,h=>by simpa using h
 | x::l,a,h=>by
  rw [List.foldl_cons]
  cases hx:a.any (· == x) with
  | true =>
   rw [if_pos rfl]
   obtain ⟨h1,h2⟩:=sU l a h
   rw [List.length_cons]
   refine ⟨by grind,⟨fun q=>absurd q (by grind),fun q=>?_⟩⟩
   obtain ⟨y,hy,e⟩:=List.any_eq_true.mp hx
   have e:y=x:=by simpa using e
   subst e
   rw [List.nodup_append] at q
   exact absurd rfl (q.2.2 y hy y (by simp))
  | false =>
   rw [if_neg (by simp)]
   have hn:(a++[x]).Nodup:=by
    rw [List.nodup_append]
    refine ⟨h,by simp,fun y hy z hz e=>?_⟩
    rw [List.mem_singleton] at hz
    subst hz; subst e
    rw [List.any_eq_false] at hx
    exact hx y hy (by simp)
   obtain ⟨h1,h2⟩:=sU l (a++[x]) hn
   rw [List.length_append,List.length_singleton] at h1 h2
   rw [List.length_cons]
   refine ⟨by grind,?_⟩
   rw [List.append_assoc,List.singleton_append] at h2
   rw [<- h2]
   (grind)
theorem ad5 {l:List Str}:(b8 l).length=l.length ↔ l.Nodup:=by
 have:=(sU l [] (by simp)).2
 rw [List.length_nil,Nat.zero_add,List.nil_append] at this
 exact this
noncomputable def cP (l:List Str):Bool:=(b8 l).length == l.length
theorem rt {l:List Str}:cP l=true ↔ l.Nodup:=by
 unfold cP; rw [beq_iff_eq]; exact ad5
theorem adz {v:PV} {l:List Str} (hv:aZ σ v=some (l.map .str)) (hl:l.length <= 1000):cK .lenset v σ=.ok (.int (b8 l).length) σ:=by
 have e:cK .lenset v σ=match (aZ σ v).bind dj with
  | some l=>if l.length <= 1000 then .ok (.int (b8 l).length) σ else .stuck
  | none=>.stuck:=by cases v <;> rfl
 rw [e,hv]
 show (match dj (l.map .str) with
  | some l=>if l.length <= 1000 then af.ok (PV.int (b8 l).length) σ else .stuck
  | none=>.stuck)=_
 rw [rR]
 dsimp only
 rw [if_pos hl]
theorem aho {v:PV} {xs:List PV} (hv:aZ σ v=some xs) (hn:∀ s,v ≠ .str s) (hl:xs.length <= au):cK .len v σ=.ok (.int xs.length) σ:=by
 have e:cK .len v σ=fA (fun xs=>if xs.length <= au then .ok (.int xs.length) σ else .stuck) v σ:=by cases v <;> first | rfl | exact absurd rfl (hn _)
 rw [e,jS hv,if_pos hl]
theorem h3 {v:PV} {l:List Str} (hv:aZ σ v=some (l.map .str)) (hn:∀ s,v ≠ .str s) (hl:l.length <= 1000):aG PP topN (d + 1) cW [v] σ=.ok (.bool (cP l)) σ:=by
 rw [a5 (fn:=hY) rfl rfl]
 have:ex (CC d) topN hY.body [some v,none,none] σ=.ret (.bool (cP l)) [some v,none,none] σ:=by
  refine ak (av ?_)
  refine d4 (q:=cP l) (cZ rfl (adz hv hl)) (cZ rfl (aho hv hn (by rw [List.length_map]; exact aC hl (by decide)))) ?_
  rw [dN,List.length_map]
  unfold cP
  congr 1
  rw [Bool.eq_iff_iff]; simp only [beq_iff_eq]; (grind)
 show aQ (ex (CC d) topN hY.body [some v,none,none] σ)=_
 rw [this]; rfl
inductive c0 where
 | word (w:Str)
 | fixed (v:Int)
noncomputable def c0.pv:c0->PV
 | .word w=>.tup [.str w]
 | .fixed v=>.tup [.str "fixed",.int v]
inductive ck:c0->Nat->Nat->Prop where
 | sum (n g:Nat):ck (.word "sum") n g
 | times (n g:Nat):ck (.word "times") n g
 | least (n g:Nat):ck (.word "least") n g
 | most (n g:Nat):ck (.word "most") n g
 | later (g:Nat):ck (.word "later") 1 g
 | way:ck (.word "way") 2 2
 | choose (g:Nat):ck (.word "choose") 3 g
 | fixed (v:Int) (n g:Nat):0 <= v->v <= 999999->ck (.fixed v) n g
noncomputable def jP:c0->Nat->Nat->Bool
 | .fixed v,_,_=>decide (0 <= v) && decide (v <= 999999)
 | .word w,n,g=>if w == ("fixed" : Str) then false else if w == ("later" : Str) then n == 1 else if w == ("way" : Str) then (n == 2 && g == 2) else if w == ("choose" : Str) then n == 3 else
   [("sum" : Str), "times", "least", "most"].any fun y=>y == w
set_option tactic.hygienic true in
theorem aeN {r:c0} {n g:Nat} (h:jP r n g=true):ck r n g:=by
 cases r with
 | fixed v =>
  simp only [jP,Bool.and_eq_true,decide_eq_true_eq] at h
  exact .fixed v n g h.1 h.2
 | word w =>
  simp only [jP] at h
  split at h
  ·cases h
  ·split at h
   ·rename_i q; rw [beq_iff_eq] at q h; subst q; subst h; exact .later g
   ·split at h
    ·rename_i q; rw [Bool.and_eq_true] at h; rw [beq_iff_eq] at q h; obtain ⟨h1,h2⟩:=h; rw [beq_iff_eq] at h2; subst q; subst h1; subst h2; exact .way
    ·split at h
     ·rename_i q; rw [beq_iff_eq] at q h; subst q; subst h; exact .choose g
     ·simp only [List.any_cons,List.any_nil,Bool.or_false,Bool.or_eq_true,beq_iff_eq] at h
      rcases h with q | q | q | q
      ·rw [<- q]; exact .sum n g
      ·rw [<- q]; exact .times n g
      ·rw [<- q]; exact .least n g
      ·rw [<- q]; exact .most n g
theorem aeO {r:c0} {n g:Nat} (h:ck r n g):jP r n g=true:=by
 cases h with
 | fixed v n g q1 q2=>simp [jP,q1,q2]
 | _=>rfl
theorem rj {n k:Nat}:((n:Int) == ((k:Nat):Int))=(n == k):=by
 rw [Bool.eq_iff_iff]; simp only [beq_iff_eq]; (grind)
theorem ads {w:Str}:br .isin (.str w) (.tup [.str "sum",.str "times",.str "least",.str "most"]) σ=.ok ([("sum" : Str), "times", "least", "most"].any fun y=>y == w) σ:=rfl
theorem h4 {r:c0} {n g:Nat}:aG PP topN (d + 2) wB [r.pv,.int n,.int g] σ=.ok (.bool (jP r n g)) σ:=by
 rw [a5 (fn:=lH) rfl rfl]
 cases r with
 | fixed v =>
  have:ex (CC (d + 1)) topN lH.body [some (.tup [.str "fixed",.int v]),some (.int n),some (.int g),none,none,none,none,none,none] σ=.ret (.bool (jP (.fixed v) n g)) [some (.tup [.str "fixed",.int v]),some (.int n),some (.int g),none,none,none,none,none,none] σ:=by
   refine (aa (a:=hV) (ρ':=[some (.tup [.str "fixed",.int v]),some (.int n),some (.int g),none,none,none,none,none,none]) (σ':=σ) rfl).trans (ak (a:=fg) ?_)
   refine (aH (σ':=σ) rfl).trans (ak (av ?_))
   exact jX (j9 rfl (gN (bD rfl h0)))
  show aQ (ex (CC (d + 1)) topN lH.body [some (.tup [.str "fixed",.int v]),some (.int n),some (.int g),none,none,none,none,none,none] σ)=_
  rw [this]; rfl
 | word w =>
  show aQ (ex (CC (d + 1)) topN (.cons hV (.cons fg (.cons kS (.cons hJ (.cons hH (.cons hG (.cons kR .nil))))))) [some (.tup [.str w]),some (.int n),some (.int g),none,none,none,none,none,none] σ)=_
  have ts:∀ k:Str,tst (CC (d + 1)) (.cmp (.sub (.v 0) (.k (.int 0))) .eq (.k (.str k))) [some (.tup [.str w]),some (.int n),some (.int g),none,none,none,none,none,none] σ=.ok (w == k) σ:=fun k=>rfl
  rw [aa (a:=hV) (ρ':=[some (.tup [.str w]),some (.int n),some (.int g),none,none,none,none,none,none]) (σ':=σ) rfl]
  simp only [jP]
  cases h1:w == ("fixed" : Str) with
  | true =>
   rw [ak (a:=fg) ((aH (σ':=σ) (by rw [ts,h1])).trans (ak (av (jX (v:=.ok (.bool false) σ) rfl))))]; rfl
  | false =>
   rw [aa (a:=fg) (ao (σ':=σ) (by rw [ts,h1]))]
   rw [aa (a:=kS) (ρ':=[some (.tup [.str w]),some (.int n),some (.int g),none,none,none,none,none,none]) (σ':=σ) rfl]
   cases h2:w == ("later" : Str) with
   | true =>
    rw [ak (a:=hJ) ((aH (σ':=σ) (by rw [ts,h2])).trans (ak (av (d4 (x:=.int n) (y:=.int ((1:Nat):Int)) (σ₁:=σ) (σ₂:=σ) rfl rfl (dN.trans (by rw [rj]))))))]; rfl
   | false =>
    rw [aa (a:=hJ) (ao (σ':=σ) (by rw [ts,h2]))]
    cases h3:w == ("way" : Str) with
    | true =>
     rw [ak (a:=hH) ((aH (σ':=σ) (by rw [ts,h3])).trans (ak (av (jX (nW (q:=n == 2) (p:=g == 2) (d4 (x:=.int n) (y:=.int ((2:Nat):Int)) (σ₁:=σ) (σ₂:=σ) rfl rfl (dN.trans (by rw [rj]))) fun zz=>gN (d4 (x:=.int g) (y:=.int ((2:Nat):Int)) (σ₁:=σ) (σ₂:=σ) rfl rfl (dN.trans (by rw [rj]))))))))]; rfl
    | false =>
     rw [aa (a:=hH) (ao (σ':=σ) (by rw [ts,h3]))]
     cases h4:w == ("choose" : Str) with
     | true =>
      rw [ak (a:=hG) ((aH (σ':=σ) (by rw [ts,h4])).trans (ak (av (d4 (x:=.int n) (y:=.int ((3:Nat):Int)) (σ₁:=σ) (σ₂:=σ) rfl rfl (dN.trans (by rw [rj]))))))]; rfl
     | false =>
      rw [aa (a:=hG) (ao (σ':=σ) (by rw [ts,h4]))]
      rw [ak (a:=kR) (av (d4 (x:=.str w) (y:=.tup [.str "sum",.str "times",.str "least",.str "most"]) (σ₁:=σ) (σ₂:=σ) rfl rfl ads))]; rfl
end
end Mine
namespace Mine
open PySem
structure aj where
 name:Str
 rule:c0
 needs:List Str
 gives:List Str
noncomputable def aj.pv (s:aj):PV:=.tup [.str s.name,s.rule.pv,.tup (s.needs.map .str),.tup (s.gives.map .str)]
structure gb (s:aj):Prop where
 name:eh s.name
 needs:∀ n ∈ s.needs,eh n
 needs1:1 <= s.needs.length
 needs4:s.needs.length <= 4
 gives:∀ n ∈ s.gives,eh n
 gives1:1 <= s.gives.length
 gives3:s.gives.length <= 3
 unlike:s.gives.Nodup
 rule:ck s.rule s.needs.length s.gives.length
structure cF (p:List aj):Prop where
 pos:1 <= p.length
 most:p.length <= 20
 steps:∀ s ∈ p,gb s
 names:(p.map (·.name)).Nodup
 gives:(p.flatMap (·.gives)).Nodup
noncomputable def aW (p:List aj):PV:=.tup (p.map aj.pv)
noncomputable def li (s:aj):Bool:=dY s.name && (jh s.needs 4 && (jh s.gives 3 && (cP s.gives && jP s.rule s.needs.length s.gives.length)))
noncomputable def tO (p:List aj):Bool:=(decide (1 <= p.length) && decide (p.length <= 20)) && (p.all li && (cP (p.map (·.name)) && cP (p.flatMap (·.gives))))
theorem tW {l:List Str} {m:Nat}:jh l m=true ↔ (∀ n ∈ l,eh n)/\1 <= l.length/\l.length <= m:=by
 simp only [jh,Bool.and_eq_true,decide_eq_true_eq,List.all_eq_true]
 exact ⟨fun h=>⟨fun n hn=>sj (h.2 n hn),h.1⟩,fun h=>⟨h.2,fun n hn=>yK (h.1 n hn)⟩⟩
theorem wk {s:aj}:li s=true ↔ gb s:=by
 simp only [li,Bool.and_eq_true,tW,rt]
 constructor
 ·rintro ⟨a,b,c,e,f⟩
  exact ⟨sj a,b.1,b.2.1,b.2.2,c.1,c.2.1,c.2.2,e,aeN f⟩
 ·intro h
  exact ⟨yK h.name,⟨h.needs,h.needs1,h.needs4⟩,⟨h.gives,h.gives1,h.gives3⟩,h.unlike,aeO h.rule⟩
theorem adf {p:List aj}:tO p=true ↔ cF p:=by
 simp only [tO,Bool.and_eq_true,rt,decide_eq_true_eq,List.all_eq_true,wk]
 constructor
 ·rintro ⟨⟨a,b⟩,c,e,f⟩
  exact ⟨a,b,c,e,f⟩
 ·intro h
  exact ⟨⟨h.pos,h.most⟩,h.steps,h.names,h.gives⟩
structure acv (s:aj):Prop where
 name:s.name.length <= au
 needs:∀ n ∈ s.needs,n.length <= au
 needsl:s.needs.length <= au
 gives:∀ n ∈ s.gives,n.length <= au
 givesl:s.gives.length <= au
section
variable {d:Nat} {σ:ac}
theorem afd {xs:List Str} (h:xs.length <= au):cK .len (.tup (xs.map .str)) σ=.ok (.int xs.length) σ:=by
 rw [vy (by rw [List.length_map]; exact h),List.length_map]
theorem ahZ {a b:Bool}:(!a || !b)=!(a && b):=by cases a <;> cases b <;> rfl
theorem h5 {s:aj} (h:acv s):aG PP topN (d + 3) wA [s.pv] σ=.ok (.bool (li s)) σ:=by
 rw [a5 (fn:=wI) rfl rfl]
 show aQ (ex (CC (d + 2)) topN (.cons hB (.cons dM (.cons kQ .nil))) [some s.pv,none,none,none,none,none,none,none,none,none] σ)=_
 have e0:tst (CC (d + 2)) (.or (.cons (.not (.isinst (.v 0) .tuple)) (.cons (.cmp (.b1 .len (.v 0)) .ne (.k (.int 4))) (.cons (.not (.call lw (.cons (.sub (.v 0) (.k (.int 0))) .nil))) .nil)))) [some s.pv,none,none,none,none,none,none,none,none,none] σ=.ok (!dY s.name) σ:=
  n8 (jd (σ₁:=σ) rfl (jd (σ₁:=σ) rfl (ka (dE (eN (bD (x:=.str s.name) (σ₁:=σ) rfl (h1 h.name)))))))
 unfold li
 cases q0:dY s.name with
 | false =>
  rw [q0] at e0
  rw [ak (a:=hB) ((aH e0).trans (ak (av rfl)))]; rfl
 | true =>
  rw [q0] at e0
  rw [aa (a:=hB) (ao e0)]
  cases q1:jh s.needs 4 with
  | false =>
   have e1:tst (CC (d + 2)) (.or (.cons (.not (.call cy (.cons (.sub (.v 0) (.k (.int 2))) (.cons (.k (.int 4)) .nil)))) (.cons (.not (.call cy (.cons (.sub (.v 0) (.k (.int 3))) (.cons (.k (.int 3)) .nil)))) (.cons (.not (.call cW (.cons (.sub (.v 0) (.k (.int 3))) .nil))) .nil)))) [some s.pv,none,none,none,none,none,none,none,none,none] σ=.ok true σ:=
    n8 (acM (dE (q:=false) (eN (fG (x:=.tup (s.needs.map .str)) (y:=.int ((4:Nat):Int)) (σ₁:=σ) (σ₂:=σ) rfl rfl ((h2 h.needs h.needsl).trans (by rw [q1]))))))
   rw [ak (a:=dM) ((aH e1).trans (ak (av rfl)))]; rfl
  | true =>
   cases q2:jh s.gives 3 with
   | false =>
    have e1:tst (CC (d + 2)) (.or (.cons (.not (.call cy (.cons (.sub (.v 0) (.k (.int 2))) (.cons (.k (.int 4)) .nil)))) (.cons (.not (.call cy (.cons (.sub (.v 0) (.k (.int 3))) (.cons (.k (.int 3)) .nil)))) (.cons (.not (.call cW (.cons (.sub (.v 0) (.k (.int 3))) .nil))) .nil)))) [some s.pv,none,none,none,none,none,none,none,none,none] σ=.ok true σ:=
     n8 (jd (dE (q:=true) (eN (fG (x:=.tup (s.needs.map .str)) (y:=.int ((4:Nat):Int)) (σ₁:=σ) (σ₂:=σ) rfl rfl ((h2 h.needs h.needsl).trans (by rw [q1]))))) (acM (dE (q:=false) (eN (fG (x:=.tup (s.gives.map .str)) (y:=.int ((3:Nat):Int)) (σ₁:=σ) (σ₂:=σ) rfl rfl ((h2 h.gives h.givesl).trans (by rw [q2])))))))
    rw [ak (a:=dM) ((aH e1).trans (ak (av rfl)))]; rfl
   | true =>
    have g3:=(tW.mp q2).2.2
    have e1:tst (CC (d + 2)) (.or (.cons (.not (.call cy (.cons (.sub (.v 0) (.k (.int 2))) (.cons (.k (.int 4)) .nil)))) (.cons (.not (.call cy (.cons (.sub (.v 0) (.k (.int 3))) (.cons (.k (.int 3)) .nil)))) (.cons (.not (.call cW (.cons (.sub (.v 0) (.k (.int 3))) .nil))) .nil)))) [some s.pv,none,none,none,none,none,none,none,none,none] σ=.ok (!cP s.gives) σ:=
     n8 (jd (dE (q:=true) (eN (fG (x:=.tup (s.needs.map .str)) (y:=.int ((4:Nat):Int)) (σ₁:=σ) (σ₂:=σ) rfl rfl ((h2 h.needs h.needsl).trans (by rw [q1]))))) (jd (dE (q:=true) (eN (fG (x:=.tup (s.gives.map .str)) (y:=.int ((3:Nat):Int)) (σ₁:=σ) (σ₂:=σ) rfl rfl ((h2 h.gives h.givesl).trans (by rw [q2])))))
      (ka (dE (eN (bD (x:=.tup (s.gives.map .str)) (σ₁:=σ) rfl (h3 rfl (fun zz q=>by cases q) (aC g3 (by decide)))))))))
    cases q3:cP s.gives with
    | false =>
     rw [q3] at e1
     rw [ak (a:=dM) ((aH e1).trans (ak (av rfl)))]; rfl
    | true =>
     rw [q3] at e1
     rw [aa (a:=dM) (ao e1)]
     rw [ak (a:=kQ) (av (eu (x:=s.rule.pv) (σ₁:=σ) rfl (cZ (x:=.tup (s.needs.map .str)) (σ₁:=σ) rfl (afd h.needsl)) (cZ (x:=.tup (s.gives.map .str)) (σ₁:=σ) rfl (afd h.givesl)) h4))]
     rfl
theorem un {pl:PV} {σ₀:ac} {d:Nat}:∀ (p:List aj) (y:Option PV) (acc:List Str),acc.length + 3 * p.length <= 1000->(∀ s ∈ p,s.gives.length <= 3) ->
  ∃ y',aX none (bE 1) (fun ρ σ=>ex (CC d) topN pB ρ σ) (p.map aj.pv) [some pl,y,some (.ref σ₀.length),none,none,none,none,none,none] (σ₀++[.lst (acc.map .str)]) =
   .next [some pl,y',some (.ref σ₀.length),none,none,none,none,none,none] (σ₀++[.lst ((acc++p.flatMap (·.gives)).map .str)])
 | [],y,acc,_,_=>⟨y,by simpa using bB⟩
 | s::p,y,acc,h,hs=>by
  have hg:=hs s (by simp)
  obtain ⟨y',ih⟩:=un (pl:=pl) (σ₀:=σ₀) (d:=d) p (some s.pv) (acc++s.gives) (by rw [List.length_append]; rw [List.length_cons] at h; (grind)) fun t ht=>hs t (bJ _ ht)
  refine ⟨y',(bf (ρ₁:=[some pl,some s.pv,some (.ref σ₀.length),none,none,none,none,none,none]) (ρ₂:=[some pl,some s.pv,some (.ref σ₀.length),none,none,none,none,none,none]) (σ₂:=σ₀++[.lst ((acc++s.gives).map .str)]) rfl ?_).trans (ih.trans (by simp [List.flatMap_cons]))⟩
  have hat:(σ₀++[MO.lst (acc.map .str)])[σ₀.length]?=some (.lst (acc.map .str)):=by simp
  refine (aa (bX (o6 (m:=.extend) (x:=.ref σ₀.length) (σ₁:=σ₀++[.lst (acc.map .str)]) (σ₂:=σ₀++[.lst (acc.map .str)]) rfl ?_ (y:=.tup (s.gives.map .str)) rfl ?_))).trans aK
  ·show jV (.ref σ₀.length) _=true
   unfold jV; dsimp only; rw [hat]
  ·show nU (.ref σ₀.length) (.tup (s.gives.map .str)) _=_
   unfold nU; dsimp only; rw [hat]; dsimp only
   rw [if_pos (by rw [List.length_map,List.length_map,bV]; (grind))]
   simp
theorem aa0:∀ (q:List aj),(∀ s ∈ q,s.gives.length <= 3)->(q.flatMap (·.gives)).length <= 3 * q.length
 | [],_=>by simp
 | s::q,hs=>by
  have h1:=aa0 q fun t ht=>hs t (bJ _ ht)
  have h2:=hs s (by simp)
  rw [List.flatMap_cons,List.length_append,List.length_cons]; (grind)
theorem h6x {p:List aj} (h:∀ s ∈ p,acv s) (hl:p.length <= au):∃ τ,aG PP topN (d + 4) gJ [aW p] σ=.ok (.bool (tO p)) (σ++τ):=by
 have hlim:(p.map aj.pv).length <= au:=by rw [List.length_map]; exact hl
 have hlen:∀ {σ:ac},cK .len (aW p) σ=.ok (.int p.length) σ:=fun {σ}=>by
  show cK .len (.tup (p.map aj.pv)) σ=_
  rw [vy hlim,List.length_map]
 rw [a5 (fn:=wJ) rfl rfl]
 show ∃ τ,aQ (ex (CC (d + 3)) topN (.cons hW (.cons kW (.cons kU (.cons kT .nil)))) [some (aW p),none,none,none,none,none,none,none,none] σ)=_
 have e0:tst (CC (d + 3)) (.or (.cons (.not (.isinst (.v 0) .tuple)) (.cons (.not (.cmp2 (.k (.int 1)) .le (.b1 .len (.v 0)) .le (.k (.int 20)))) (.cons (.not (.b1 .all qy)) .nil)))) [some (aW p),none,none,none,none,none,none,none,none] σ=.ok (!(decide (1 <= p.length) && decide (p.length <= 20)) || !p.all li) σ:=by
  refine n8 (jd (σ₁:=σ) rfl (tE ((dE (ru (i:=((1:Nat):Int)) (k:=((20:Nat):Int)) rfl (cZ rfl hlen) rfl)).trans (by rw [uK,uK])) fun zz=>ka (dE (ako (ta (xs:=p) (w:=aj.pv) (g:=li) rfl hl fun s hs=>?_)))))
  exact bD rfl (h5 (h s hs))
 rw [ahZ] at e0
 unfold tO
 rw [<- Bool.and_assoc]
 cases q0:((decide (1 <= p.length) && decide (p.length <= 20)) && p.all li) with
 | false =>
  rw [q0] at e0
  exact ⟨[],by rw [ak (a:=hW) ((aH e0).trans (ak (av rfl))),List.append_nil]; rfl⟩
 | true =>
  rw [q0] at e0
  simp only [Bool.and_eq_true,decide_eq_true_eq,List.all_eq_true,wk] at q0
  obtain ⟨⟨p1,p20⟩,hs⟩:=q0
  have e1:ex (CC (d + 3)) topN kW [some (aW p),none,none,none,none,none,none,none,none] σ=.next [some (aW p),none,some (.ref σ.length),none,none,none,none,none,none] (σ++[.lst []]):=rfl
  obtain ⟨y',e2⟩:=un (pl:=aW p) (σ₀:=σ) (d:=d + 3) p none [] (by simp; (grind)) fun s hq=>(hs s hq).gives3
  have e2':ex (CC (d + 3)) topN kU [some (aW p),none,some (.ref σ.length),none,none,none,none,none,none] (σ++[.lst []])=.next [some (aW p),y',some (.ref σ.length),none,none,none,none,none,none] (σ++[.lst ((p.flatMap (·.gives)).map .str)]):=
   bP (ys:=p.map aj.pv) (σ₁:=σ++[.lst []]) rfl e2
  have hgl:(p.flatMap (·.gives)).length <= 60:=by
   have h1:=aa0 p fun s hq=>(hs s hq).gives3
   (grind)
  have e3:ex (CC (d + 3)) topN kT [some (aW p),y',some (.ref σ.length),none,none,none,none,none,none] (σ++[.lst ((p.flatMap (·.gives)).map .str)])=.ret (.bool (cP (p.map (·.name)) && cP (p.flatMap (·.gives)))) [some (aW p),y',some (.ref σ.length),none,none,none,none,none,none] (σ++[.lst ((p.flatMap (·.gives)).map .str)]):=by
   have hat:(σ++[MO.lst ((p.flatMap (·.gives)).map .str)])[σ.length]?=some (.lst ((p.flatMap (·.gives)).map .str)):=by simp
   have c1:ev (CC (d + 3)) qx [some (aW p),y',some (.ref σ.length),none,none,none,none,none,none] (σ++[.lst ((p.flatMap (·.gives)).map .str)])=.ok (.fl ((p.map (·.name)).map .str)) (σ++[.lst ((p.flatMap (·.gives)).map .str)]):=by
    refine (o7 (fun x=>match x with | .tup (.str n::_)=>.str n | _=>.none) (xs:=p.map aj.pv) rfl hlim fun x hx=>?_).trans ?_
    ·obtain ⟨s,hs,rfl⟩:=List.mem_map.mp hx
     rfl
    ·rw [List.map_map,List.map_map]; rfl
   refine av (jX (nW (bD c1 (h3 rfl (fun zz q=>by cases q) (by rw [List.length_map]; exact aC p20 (by decide)))) fun zz=>(gN (bD rfl (h3 ?_ (fun zz q=>by cases q) (aC hgl (by decide)))))))
   unfold aZ; dsimp only; rw [hat]
  refine ⟨[.lst ((p.flatMap (·.gives)).map .str)],?_⟩
  rw [aa (a:=hW) (ao e0),aa e1,aa e2',ak e3]; rfl
theorem h6 {p:List aj} (h:∀ s ∈ p,acv s) (hl:p.length <= au):∃ σ',aG PP topN (d + 4) gJ [aW p] σ=.ok (.bool (tO p)) σ':=let ⟨_,e⟩:=h6x h hl; ⟨_,e⟩
end
section
variable {d:Nat} {σ:ac} {C:aV} {ρ:aq}
theorem yy {n:Nat} (h:n <= 100) {a:X} (ha:ev C a ρ σ=.ok (.int n) σ):evIt C (.range1 a) ρ σ=.ok (aL 0 1 n,none) σ:=by
 rw [mK,ha,aA]
 show (if 0 <= (n:Int)/\(n:Int) <= au then af.ok (aL 0 1 (n:Int).toNat,none) σ else .stuck)=_
 rw [if_pos ⟨by (exact Int.natCast_nonneg _),by rw [bV]; (grind)⟩]; rfl
theorem ac5 {n:Nat} {x:PV} (h:x ∈ aL 0 1 n):∃ i:Nat,i < n/\x=.int i:=by
 obtain ⟨i,hi,rfl⟩:=List.mem_map.mp h
 exact ⟨i,List.mem_range.mp hi,by simp⟩
end
end Mine
namespace Mine
open PySem
section
variable {d:Nat} {σ:ac} {C:aV} {ρ:aq}
theorem h12 {l:List Int} (hl:l.length <= 63) {k:Nat}:aG PP topN (d + 1) a9 [.fl (l.map .int),.int k] σ=.ok (.int (l.getD k 0)) σ:=by
 rw [a5 (fn:=ec) rfl rfl]
 have hlim:(l.map PV.int).length <= au:=by rw [List.length_map]; exact aC hl (by decide)
 have hlen:cK .len (.fl (l.map .int)) σ=.ok (.int l.length) σ:=by rw [aiN hlim,List.length_map]
 show aQ (ex (CC d) topN ec.body [some (.fl (l.map .int)),some (.int k),none] σ)=_
 by_cases h:k < l.length
 ·have:ex (CC d) topN ec.body [some (.fl (l.map .int)),some (.int k),none] σ=.ret (.int (l.getD k 0)) [some (.fl (l.map .int)),some (.int k),none] σ:=by
   refine ak ((aH (σ':=σ) (bj (x:=.int k) (σ₁:=σ) rfl (cZ (x:=.fl (l.map .int)) (σ₁:=σ) rfl hlen) ?_)).trans (ak (av (aU (x:=.fl (l.map .int)) (y:=.int k) (σ₁:=σ) (σ₂:=σ) rfl rfl (ke hlim (by (exact Int.natCast_nonneg _)) ?_)))))
   ·rw [lt_int,decide_eq_true (by (exact Int.ofNat_lt.mpr (by assumption)))]
   ·simp [h]
  rw [this]; rfl
 ·have:ex (CC d) topN ec.body [some (.fl (l.map .int)),some (.int k),none] σ=.ret (.int 0) [some (.fl (l.map .int)),some (.int k),none] σ:=by
   refine (aa (ρ':=[some (.fl (l.map .int)),some (.int k),none]) (σ':=σ) (ao (σ':=σ) (bj (x:=.int k) (σ₁:=σ) rfl (cZ (x:=.fl (l.map .int)) (σ₁:=σ) rfl hlen) ?_))).trans (ak (av rfl))
   rw [lt_int,decide_eq_false (by (exact fun q=>(by assumption:¬ _) (Int.ofNat_lt.mp q)))]
  have e:l.getD k 0=0:=by simp [List.getD,Nat.not_lt.mp h]
  rw [this,e]; rfl
theorem fdm {p a b:Int} (ha:0 < a) (ha2:a < 1073741824) (hb:0 < b) {x:X} (hx:ev C x ρ σ=.ok (.int p) σ):ev C (.bin .mod (.bin .fdiv x (.k (.int a))) (.k (.int b))) ρ σ=.ok (.int (p / a % b)) σ:=
 az (az hx (y:=.int a) (σ₂:=σ) rfl (eZ ha ha2)) (y:=.int b) (σ₂:=σ) rfl (bn hb)
theorem h15 {p:Int}:∃ v,0 <= v/\v <= 999999/\∀ {d:Nat} {σ:ac},aG PP topN (d + 1) ek [.int p] σ=.ok (.int v) σ:=by
 have m4:∀ {d:Nat} {σ:ac} (c:Int),tst (CC d) (.cmp (.bin .mod (.v 0) (.k (.int 4))) .eq (.k (.int c))) [some (.int p)] σ=.ok (p % 4 == c) σ:=fun {d σ} c =>
  bj (az (x:=.int p) (y:=.int 4) (σ₁:=σ) (σ₂:=σ) rfl rfl (bn (by decide))) (y:=.int c) (σ₂:=σ) rfl dN
 have n0:=Int.emod_nonneg (p / 4) (show (4:Int) ≠ 0 by decide)
 have n1:=Int.emod_lt_of_pos (p / 4) (show (0:Int) < 4 by decide)
 have fin:∀ {d:Nat} {σ:ac} {v:Int},ex (CC d) topN iY.body [some (.int p)] σ=.ret (.int v) [some (.int p)] σ->aG PP topN (d + 1) ek [.int p] σ=.ok (.int v) σ:=fun {d σ v} h=>by
  rw [a5 (fn:=iY) rfl rfl]
  show aQ (ex (CC d) topN iY.body [some (.int p)] σ)=_
  rw [h]; rfl
 by_cases h0:p % 4=0
 ·have hx:∃ v,0 <= v/\v <= 999999/\([PV.int 0,.int 0,.int 1,.int 999999])[(p / 4 % 4).toNat]?=some (.int v):=by
   refine adH (n:=4) (P:=fun w=>∃ v,0 <= v/\v <= 999999/\([PV.int 0,.int 0,.int 1,.int 999999])[w.toNat]?=some (.int v)) (v9 (v9 (v9 (v9 ajj ?_) ?_) ?_) ?_) n0 n1
   ·exact ⟨0,by decide,by decide,rfl⟩
   ·exact ⟨0,by decide,by decide,rfl⟩
   ·exact ⟨1,by decide,by decide,rfl⟩
   ·exact ⟨999999,by decide,by decide,rfl⟩
  obtain ⟨v,v0,v1,hv⟩:=hx
  refine ⟨v,v0,v1,fun {d σ}=>fin (ak ((aH (σ':=σ) ((m4 0).trans (by rw [h0]; rfl))).trans (ak (av (aU (x:=.fl [PV.int 0,.int 0,.int 1,.int 999999]) (σ₁:=σ) rfl (fdm (by decide) (by decide) (by decide) rfl) (ke (by decide) n0 hv))))))⟩
 ·have k0:∀ {d:Nat} {σ:ac},tst (CC d) (.cmp (.bin .mod (.v 0) (.k (.int 4))) .eq (.k (.int 0))) [some (.int p)] σ=.ok false σ:=fun {d σ}=>(m4 0).trans (by rw [show (p % 4 == 0)=false from beq_eq_false_iff_ne.mpr h0])
  by_cases h1:p % 4=1
  ·have a0:=Int.emod_nonneg (p / 4) (show (1000000:Int) ≠ 0 by decide)
   have a1:=Int.emod_lt_of_pos (p / 4) (show (0:Int) < 1000000 by decide)
   refine ⟨p / 4 % 1000000,a0,by grind,fun {d σ}=>fin ((aa (ρ':=[some (.int p)]) (σ':=σ) (ao (σ':=σ) k0)).trans (ak ((aH (σ':=σ) ((m4 1).trans (by rw [h1]; rfl))).trans (ak (av (az (az (x:=.int p) (y:=.int 4) (σ₁:=σ) (σ₂:=σ) rfl rfl (eZ (by decide) (by decide))) (y:=.int 1000000) (σ₂:=σ) rfl (bn (by decide))))))))⟩
  ·have a0:=Int.emod_nonneg (p / 4) (show (5:Int) ≠ 0 by decide)
   have a1:=Int.emod_lt_of_pos (p / 4) (show (0:Int) < 5 by decide)
   refine ⟨p / 4 % 5,a0,by grind,fun {d σ}=>fin ((aa (ρ':=[some (.int p)]) (σ':=σ) (ao (σ':=σ) k0)).trans ((aa (ρ':=[some (.int p)]) (σ':=σ) (ao (σ':=σ) ((m4 1).trans (by rw [show (p % 4 == 1)=false from beq_eq_false_iff_ne.mpr h1])))).trans (ak (av (fdm (by decide) (by decide) (by decide) rfl)))))⟩
end
end Mine
namespace Mine
open PySem
noncomputable def gT:List Str:=["sum", "later", "way", "fixed", "a9", "b", "times", "choose", "least", "most", "z0", "put"]
noncomputable def xJ (b k:Nat):Str:=(gT.getD ((b + k) % 12) "")++(if k / 12=0 then ("" : Str) else "x")
noncomputable def mU (b:Nat):List Str:=(List.range 24).map (xJ b)
noncomputable def tT:List Str->Bool
 | []=>true
 | x::r=>!(r.any (· == x)) && tT r
theorem wq:∀ {l:List Str},tT l=true->l.Nodup
 | [],_=>.nil
 | x::r,h=>by
  simp only [tT,Bool.and_eq_true,Bool.not_eq_true',List.any_eq_false,beq_iff_eq] at h
  exact List.nodup_cons.mpr ⟨fun q=>h.1 x q rfl,wq h.2⟩
noncomputable def tP (s:Str):Bool:=!(s.cps.toList.take 2 == [122,122]) && !(s.cps.toList.take 2 == [121,121])
noncomputable def uV (s:Str):Prop:=tP s=true
theorem yJ:∀ b:Nat,b < 12->(mU b).all tP=true:=by decide +kernel
theorem aag:∀ b:Nat,b < 12->(tT (mU b) && (mU b).all dY)=true:=by decide +kernel
theorem aga {n:Nat}:(Txt.mul "m" (n:Int)).cps.toList=List.replicate n 109:=by
 have hm:("m" : Str)=⟨#[109]⟩:=by decide +kernel
 rw [hm]
 unfold Txt.mul
 by_cases h1:(n:Int) < 1
 ·have:n=0:=by grind
  subst this; rw [if_pos h1]; rfl
 ·rw [if_neg h1]
  by_cases h2:n=1
  ·subst h2; rfl
  ·rw [if_neg (by
    have:((n:Int) == 1)=false:=beq_eq_false_iff_ne.mpr (by grind)
    rw [this]; decide)]
   have key:∀ (k:Nat) (acc:Array Nat),((List.replicate k (#[109]:Array Nat)).foldl (·++·) acc).toList=acc.toList++List.replicate k 109:=by
    intro k
    induction k with
    | zero=>intro acc; simp
    | succ k ih =>
     intro acc
     rw [List.replicate_succ,List.foldl_cons,ih]
     simp [List.replicate_succ]
   have:=key n #[]
   simpa using this
noncomputable def bO:List Nat:=("abcdefghijklmnopqrstuvwxyz0123456789" : Str).cps.toList
noncomputable def iN (p q N b k:Nat):List Nat:=List.replicate p 109++bO.getD ((b + k) % N) 0::List.replicate q 109
noncomputable def gf (p q N b k:Nat):Str:=⟨(iN p q N b k).toArray⟩
noncomputable def jf (p q N b:Nat):List Str:=(List.range 24).map (gf p q N b)
theorem kf:bO.length=36/\bO.Nodup/\(∀ c ∈ bO,c ∈ bT\/c ∈ su)/\(∀ i,i < 26->bO.getD i 0 ∈ bT)/\109 ∈ bT:=by decide +kernel
theorem ahf {p q:Nat} {x y:Nat} (h:List.replicate p 109++x::List.replicate q 109=List.replicate p 109++y::List.replicate q 109):x=y:=
 (List.cons.inj (List.append_cancel_left h)).1
theorem aiq {i j:Nat} (hi:i < 36) (hj:j < 36) (h:bO.getD i 0=bO.getD j 0):i=j:=by
 obtain ⟨h1,h2,_⟩:=kf
 have e1:bO.getD i 0=bO[i]'(by (exact aC (by assumption) (by decide))):=by simp [List.getD,h1,hi]
 have e2:bO.getD j 0=bO[j]'(by (exact aC (by assumption) (by decide))):=by simp [List.getD,h1,hj]
 rw [e1,e2] at h
 have e3:bO[i]?=bO[j]?:=by rw [List.getElem?_eq_getElem (by (exact aC (by assumption) (by decide))),List.getElem?_eq_getElem (by (exact aC (by assumption) (by decide))),h]
 exact (List.getElem?_inj (by (assumption)) h2).mp e3
theorem aaf {p q N b:Nat} (hs:p + 1 + q <= 8) (hN:(p=0/\N=26)\/(0 < p/\N=36)):(jf p q N b).Nodup/\∀ n ∈ jf p q N b,eh n:=by
 have hN1:24 <= N/\N <= 36:=by
  rcases hN with ⟨_,rfl⟩ | ⟨_,rfl⟩
  ·decide
  ·decide
 have hN0:0 < N:=Nat.lt_of_lt_of_le (by decide) hN1.1
 obtain ⟨f1,f2,f3,f4,f5⟩:=kf
 constructor
 ·unfold jf
  rw [List.Nodup,List.pairwise_map]
  refine List.Pairwise.imp_of_mem ?_ (List.nodup_range (n:=24))
  intro i j hi hj hne e
  have hi:=List.mem_range.mp hi
  have hj:=List.mem_range.mp hj
  have e1:iN p q N b i=iN p q N b j:=by
   have:=congrArg (fun s:Str=>s.cps.toList) e
   simpa [gf] using this
  have e2:=ahf e1
  have lt36:∀ {k:Nat},(b + k) % N < 36:=Nat.lt_of_lt_of_le (Nat.mod_lt _ hN0) hN1.2
  have e3:=aiq lt36 lt36 e2
  have key:∀ i j,j < 24->(b + i) % N=(b + j) % N->j <= i:=fun i j hj e=>by
   rcases Nat.le_total j i with h | h
   ·exact h
   ·have z:=Nat.sub_mod_eq_zero_of_mod_eq e.symm
    rw [Nat.add_sub_add_left,Nat.mod_eq_of_lt (Nat.lt_of_le_of_lt (Nat.sub_le _ _) (Nat.lt_of_lt_of_le hj hN1.1))] at z
    exact Nat.le_of_sub_eq_zero z
  exact hne (Nat.le_antisymm (key j i hi e3.symm) (key i j hj e3))
 ·intro n hn
  obtain ⟨k,hk,rfl⟩:=List.mem_map.mp hn
  have m1:(b + k) % N < N:=Nat.mod_lt _ hN0
  have hin:bO.getD ((b + k) % N) 0 ∈ bO:=by
   have hlt:(b + k) % N < bO.length:=by rw [f1]; exact Nat.lt_of_lt_of_le m1 hN1.2
   rw [List.getD_eq_getElem?_getD,List.getElem?_eq_getElem hlt]; exact List.getElem_mem hlt
  have hl:(gf p q N b k).length=p + 1 + q:=by
   show (iN p q N b k).toArray.size=_
   simp [iN]; (grind)
  refine ⟨by rw [hl]; exact aC (Nat.le_add_left 1 p) (Nat.le_add_right _ q),by rw [hl]; exact hs,fun c hc=>?_,fun c hc=>?_⟩
  ·have hc':(iN p q N b k)[0]?=some c:=by simpa [gf] using hc
   rcases hN with ⟨rfl,rfl⟩ | ⟨hp,rfl⟩
   ·simp [iN] at hc'
    subst hc'
    have:=f4 _ m1
    simpa [List.getD] using this
   ·obtain ⟨p',rfl⟩:∃ p',p=p' + 1:=⟨p - 1,by grind⟩
    simp [iN,List.replicate_succ] at hc'
    subst hc'; exact f5
  ·have hc':c ∈ iN p q N b k:=by simpa [gf] using hc
   simp only [iN,List.mem_append,List.mem_cons,List.mem_replicate] at hc'
   rcases hc' with ⟨_,rfl⟩ | rfl | ⟨_,rfl⟩
   ·exact .inl f5
   ·exact f3 _ hin
   ·exact .inl f5
theorem sf {x y:Nat} {r:List Nat} {s:Str} (h:s.cps.toList=x::y::r) (q:x=109\/y=109):uV s:=by
 unfold uV tP
 rw [h]
 rcases q with rfl | rfl
 ·rfl
 ·show (!(x == 122 && (false && true)) && !(x == 121 && (false && true)))=true
  rw [Bool.false_and,Bool.and_false,Bool.and_false]; rfl
theorem yI {p q N b:Nat}:∀ n ∈ jf p q N b,uV n:=by
 intro n hn
 obtain ⟨k,hk,rfl⟩:=List.mem_map.mp hn
 have e:(gf p q N b k).cps.toList=iN p q N b k:=rfl
 generalize gf p q N b k=s at e
 unfold iN at e
 cases p with
 | zero =>
  cases q with
  | zero=>unfold uV tP; rw [e]; show (!(_ && false) && !(_ && false))=true; rw [Bool.and_false,Bool.and_false]; rfl
  | succ q=>exact sf e (.inr rfl)
 | succ p =>
  cases p with
  | zero=>exact sf e (.inl rfl)
  | succ p=>exact sf e (.inl rfl)
end Mine
namespace Mine
open PySem
section
variable {d:Nat} {σ:ac} {C:aV} {ρ:aq}
theorem ac6 {n:Nat} {g:PV->PV} {f:Nat->Str} (h:∀ k,k < n->g (.int k)=.str (f k)):(aL 0 1 n).map g=((List.range n).map f).map .str:=by
 unfold aL
 rw [List.map_map,List.map_map]
 refine List.map_congr_left fun k hk=>?_
 show g (.int (0 + (k:Int) * 1))=.str (f k)
 rw [show (0 + (k:Int) * 1)=k by grind]
 exact h k (List.mem_range.mp hk)
theorem acS:∀ i,i < 12->(gT.map PV.str)[i]?=some (.str (gT.getD i "")):=fun i hi=>by
 rw [List.getElem?_map]
 have:gT.length=12:=rfl
 simp [List.getD,this,hi]
theorem abG:∀ i,i < 12->(gT.getD i ("" : Str)).length <= 8:=by decide +kernel
noncomputable abbrev R9 (a b c e f g h:Option PV):aq:=[a,b,c,e,f,g,h,none,none]
theorem aah {c:Int}:ev (CC d) nq (R9 (some (.int c)) (some (.fl (gT.map .str))) none none none none none) σ=.ok (.fl ((mU (c / 9 % 12).toNat).map .str)) σ:=by
 have n0:=Int.emod_nonneg (c / 9) (show (12:Int) ≠ 0 by decide)
 have n1:=Int.emod_lt_of_pos (c / 9) (show (0:Int) < 12 by decide)
 refine (o7 (fun x=>match x with | .int i=>.str (xJ (c / 9 % 12).toNat i.toNat) | _=>.none) (yy (n:=24) (by decide) rfl) (by rw [show (aL 0 1 24).length=24 by simp [aL]]; decide) fun x hx=>?_).trans (by rw [ac6 (f:=xJ (c / 9 % 12).toNat) fun k hk=>by simp]; rfl)
 obtain ⟨k,hk,rfl⟩:=ac5 hx
 show _=af.ok (PV.str (xJ (c / 9 % 12).toNat ((k:Int).toNat))) σ
 have hi:((c / 9 + k) % 12).toNat=((c / 9 % 12).toNat + k) % 12:=zL (N:=12) (by decide)
 have hlt:((c / 9 % 12).toNat + k) % 12 < 12:=Nat.mod_lt _ (by decide)
 have h2:([PV.str "",.str "x"])[((k:Int) / 12).toNat]?=some (.str (if k / 12=0 then ("" : Str) else "x")):=by
  have e:((k:Int) / 12).toNat=k / 12:=rfl
  rw [e]
  exact v9 (P:=fun i=>([PV.str "",.str "x"])[i]?=some (.str (if i=0 then ("" : Str) else "x"))) (v9 ajj rfl) rfl _ (Nat.div_lt_of_lt_mul hk)
 refine az (x:=.str (gT.getD (((c / 9 % 12).toNat + k) % 12) "")) (y:=.str (if k / 12=0 then ("" : Str) else "x")) (σ₁:=σ) (σ₂:=σ) ?_ ?_ ?_
 ·refine aU (x:=.fl (gT.map .str)) (σ₁:=σ) rfl (az (az (az (x:=.int c) (y:=.int 9) (σ₁:=σ) (σ₂:=σ) rfl rfl (eZ (by decide) (by decide))) (y:=.int k) (σ₂:=σ) rfl add_int) (y:=.int 12) (σ₂:=σ) rfl (bn (by decide))) (ke (show (12:Nat) <= au by decide) (Int.emod_nonneg _ (by decide)) ?_)
  rw [hi]; exact acS _ hlt
 ·exact aU (x:=.fl [.str "",.str "x"]) (σ₁:=σ) rfl (az (x:=.int k) (y:=.int 12) (σ₁:=σ) (σ₂:=σ) rfl rfl (eZ (by decide) (by decide))) (ke (show (2:Nat) <= au by decide) (by (exact Int.natCast_nonneg _)) h2)
 ·have l1:=abG _ hlt
  have l2:(if k / 12=0 then ("" : Str) else "x").length <= 1:=by split <;> decide +kernel
  rw [add_str (by rw [bV]; (grind))]
  rfl
theorem aaQ {n:Int} (h0:0 <= n) (h1:n <= 100):fI .mul (.str "m") (.int n) σ=.ok (.str (Txt.mul "m" n)) σ:=by
 show (if ("m" : Str).length <= 100/\0 <= n/\n <= 100 then af.ok (PV.str (Txt.mul "m" n)) σ else .stuck)=_
 exact if_pos ⟨by decide +kernel,h0,h1⟩
theorem wR {σ₀:ac} {xs:List PV} {v:PV} (h:xs.length < 1000):mV .append (.ref σ₀.length) [v] (σ₀++[.lst xs])=.ok .none (σ₀++[.lst (xs++[v])]):=by
 have hat:(σ₀++[MO.lst xs])[σ₀.length]?=some (.lst xs):=by simp
 show iP (.ref σ₀.length) v (σ₀++[.lst xs])=_
 unfold iP; dsimp only; rw [hat]; dsimp only
 rw [if_pos (by rw [bV]; (exact aC (by assumption) (by decide)))]
 simp
theorem yL {σ₀ τ:ac} {xs:List PV} {m:Me} (hm:m=.append\/m=.extend\/False):sk m (.ref σ₀.length) (σ₀++.lst xs::τ)=true:=by
 have hat:(σ₀++MO.lst xs::τ)[σ₀.length]?=some (.lst xs):=by simp
 have:jV (.ref σ₀.length) (σ₀++.lst xs::τ)=true:=by unfold jV; dsimp only; rw [hat]
 rcases hm with rfl | rfl | h
 ·exact this
 ·exact this
 ·exact h.elim
theorem aju {c:Int} {p q N k:Nat} (hs:p + 1 + q <= 8) (hN:(p=0/\N=26)\/(0 < p/\N=36)) (acc:List Str) (hacc:acc.length < 100) {z:Option PV} :
  ex (CC d) topN g7 (R9 (some (.int c)) (some (.str "abcdefghijklmnopqrstuvwxyz0123456789")) (some (.int k)) (some (.int ((p + 1 + q:Nat):Int))) (some (.int p)) (some (.ref σ.length)) z) (σ++[.lst (acc.map .str)]) =
   .next (R9 (some (.int c)) (some (.str "abcdefghijklmnopqrstuvwxyz0123456789")) (some (.int k)) (some (.int ((p + 1 + q:Nat):Int))) (some (.int p)) (some (.ref σ.length)) (some (.str ⟨#[bO.getD (((c / 64 % N).toNat + k) % N) 0]⟩))) (σ++[.lst ((acc++[gf p q N (c / 64 % N).toNat k]).map .str)]):=by
 obtain ⟨f1,f2,f3,f4,f5⟩:=kf
 have hN0:0 < N:=by grind
 have n0:=Int.emod_nonneg (c / 64) (show (N:Int) ≠ 0 by (exact Int.ofNat_ne_zero.mpr (Nat.ne_of_gt (by assumption))))
 have n1:=Int.emod_lt_of_pos (c / 64) (show (0:Int) < N by (exact Int.ofNat_lt.mpr (by assumption)))
 have hi:((c / 64 + k) % N).toNat=((c / 64 % N).toNat + k) % N:=zL (Nat.ne_of_gt hN0)
 have hlt:((c / 64 % N).toNat + k) % N < N:=Nat.mod_lt _ hN0
 have hsel:([PV.int 26,.int 36])[((if decide ((p:Int) > 0)=true then 1 else 0:Int)).toNat]?=some (.int N):=by
  rcases hN with ⟨rfl,rfl⟩ | ⟨hp,rfl⟩
  ·rfl
  ·rw [decide_eq_true (by grind)]; rfl
 have hsel0:(0:Int) <= (if decide ((p:Int) > 0)=true then 1 else 0:Int):=by split <;> decide
 have s1:ex (CC d) topN (.asg 6 (.sub (.v 1) (.bin .mod (.bin .add (.bin .fdiv (.v 0) (.k (.int 64))) (.v 2)) (.sub (.lst true (.cons (.k (.int 26)) (.cons (.k (.int 36)) .nil))) (.b1 .int (.cmp (.v 4) .gt (.k (.int 0)))))))) (R9 (some (.int c)) (some (.str "abcdefghijklmnopqrstuvwxyz0123456789")) (some (.int k)) (some (.int ((p + 1 + q:Nat):Int))) (some (.int p)) (some (.ref σ.length)) z) (σ++[.lst (acc.map .str)]) =
   .next (R9 (some (.int c)) (some (.str "abcdefghijklmnopqrstuvwxyz0123456789")) (some (.int k)) (some (.int ((p + 1 + q:Nat):Int))) (some (.int p)) (some (.ref σ.length)) (some (.str ⟨#[bO.getD (((c / 64 % N).toNat + k) % N) 0]⟩))) (σ++[.lst (acc.map .str)]):=by
  generalize hS:σ++[MO.lst (acc.map .str)]=S
  refine aE (aU (x:=.str "abcdefghijklmnopqrstuvwxyz0123456789") (σ₁:=S) rfl (az (az (az (x:=.int c) (y:=.int 64) (σ₁:=S) (σ₂:=S) rfl rfl (eZ (by decide) (by decide))) (y:=.int k) (σ₂:=S) rfl add_int) (y:=.int N) (σ₂:=S) (aU (x:=.fl [.int 26,.int 36]) (σ₁:=S) rfl (cZ (d4 (x:=.int p) (y:=.int 0) (σ₁:=S) (σ₂:=S) rfl rfl gt_int) int_bool) (ke (show (2:Nat) <= au by decide) hsel0 hsel)) (bn (by (exact Int.ofNat_lt.mpr (by assumption))))) (aaH (by decide +kernel) (Int.emod_nonneg _ (by (exact Int.ofNat_ne_zero.mpr (Nat.ne_of_gt (by assumption))))) ?_))
  rw [hi]
  show bO[((c / 64 % N).toNat + k) % N]?=_
  simp [List.getD,f1,show ((c / 64 % N).toNat + k) % N < 36 by grind]
 refine (aa s1).trans ?_
 refine (aa (bX (o6 (m:=.append) (x:=.ref σ.length) (σ₁:=σ++[.lst (acc.map .str)]) rfl (yL (.inl rfl)) (y:=.str (gf p q N (c / 64 % N).toNat k)) (σ₂:=σ++[.lst (acc.map .str)]) ?_ (wR (by rw [List.length_map]; (exact aC (by assumption) (by decide))))))).trans (by rw [aK,List.map_append]; rfl)
 generalize σ++[MO.lst (acc.map .str)]=S
 have hp:Txt.mul "m" (p:Int)=⟨(List.replicate p 109).toArray⟩:=Str.ext' (Array.toList_inj.mp (by rw [aga]))
 have hq:Txt.mul "m" (((p + 1 + q:Nat):Int) - 1 - p)=⟨(List.replicate q 109).toArray⟩:=by
  rw [show ((p + 1 + q:Nat):Int) - 1 - p=(q:Int) by grind]
  exact Str.ext' (Array.toList_inj.mp (by rw [aga]))
 refine az (az (az (x:=.str "m") (y:=.int p) (σ₁:=S) (σ₂:=S) rfl rfl (aaQ (by (exact Int.natCast_nonneg _)) (by grind))) (y:=.str ⟨#[bO.getD (((c / 64 % N).toNat + k) % N) 0]⟩) (σ₂:=S) rfl (add_str ?_)) (az (x:=.str "m") (σ₁:=S) rfl (az (az (x:=.int ((p + 1 + q:Nat):Int)) (y:=.int 1) (σ₁:=S) (σ₂:=S) rfl rfl sub_int) (y:=.int p) (σ₂:=S) rfl sub_int) (aaQ (by grind) (by grind))) ?_
 ·rw [hp,bV]
  show (List.replicate p 109).toArray.size + 1 <= _
  simp; (grind)
 ·rw [hp,hq,add_str]
  ·congr 1
   refine congrArg PV.str (Str.ext' ?_)
   simp [Str.cps_append,gf,iN]
  ·rw [Str.length_append,bV]
   show (List.replicate p 109).toArray.size + 1 + (List.replicate q 109).toArray.size <= _
   simp; (exact aC (by assumption) (by decide))
theorem age {c:Int} {p q N:Nat} (hs:p + 1 + q <= 8) (hN:(p=0/\N=26)\/(0 < p/\N=36)):∀ (n k:Nat) (acc:List Str) (y z:Option PV),acc.length=k->k + n <= 24->∃ y' z',
  aX none (bE 2) (fun ρ σ=>ex (CC d) topN g7 ρ σ) ((List.range' k n).map fun (i:Nat)=>PV.int i) (R9 (some (.int c)) (some (.str "abcdefghijklmnopqrstuvwxyz0123456789")) y (some (.int ((p + 1 + q:Nat):Int))) (some (.int p)) (some (.ref σ.length)) z) (σ++[.lst (acc.map .str)]) =
   .next (R9 (some (.int c)) (some (.str "abcdefghijklmnopqrstuvwxyz0123456789")) y' (some (.int ((p + 1 + q:Nat):Int))) (some (.int p)) (some (.ref σ.length)) z') (σ++[.lst ((acc++(List.range' k n).map (gf p q N (c / 64 % N).toNat)).map .str)])
 | 0,k,acc,y,z,_,_=>⟨y,z,by simpa using bB⟩
 | n + 1,k,acc,y,z,h1,h2=>by
  obtain ⟨y',z',ih⟩:=age hs hN n (k + 1) (acc++[gf p q N (c / 64 % N).toNat k]) (some (.int k)) (some (.str ⟨#[bO.getD (((c / 64 % N).toNat + k) % N) 0]⟩)) (by rw [List.length_append,h1]; rfl) (by grind)
  refine ⟨y',z',?_⟩
  rw [List.range'_succ,List.map_cons]
  refine (bf (ρ₁:=R9 (some (.int c)) (some (.str "abcdefghijklmnopqrstuvwxyz0123456789")) (some (.int k)) (some (.int ((p + 1 + q:Nat):Int))) (some (.int p)) (some (.ref σ.length)) z) rfl (aju hs hN acc (by grind))).trans (ih.trans ?_)
  simp [List.append_assoc]
theorem h14 (c:Int):∃ names:List Str,names.length=24/\names.Nodup/\(∀ n ∈ names,eh n)/\(∀ n ∈ names,uV n) ∧
  ((∀ d,aG PP topN (d + 1) em [.int c] []=.ok (.fl (names.map .str)) [])\/(∀ d,aG PP topN (d + 1) em [.int c] []=.ok (.ref 0) [.lst (names.map .str)])):=by
 have t0:∀ d,tst (CC d) (.cmp (.bin .mod (.v 0) (.k (.int 9))) .eq (.k (.int 8))) (R9 (some (.int c)) none none none none none none) []=.ok (c % 9 == 8) []:=fun d =>
  bj (az (x:=.int c) (y:=.int 9) (σ₁:=[]) (σ₂:=[]) rfl rfl (bn (by decide))) (y:=.int 8) (σ₂:=[]) rfl dN
 have fin:∀ {d:Nat} {v:PV} {ρ:aq} {σ:ac},ex (CC d) topN iZ.body (R9 (some (.int c)) none none none none none none) []=.ret v ρ σ->aG PP topN (d + 1) em [.int c] []=.ok v σ:=fun {d v ρ σ} h=>by
  rw [a5 (fn:=iZ) rfl rfl]
  show aQ (ex (CC d) topN iZ.body (R9 (some (.int c)) none none none none none none) [])=_
  rw [h]; rfl
 by_cases h9:c % 9=8
 ·have n0:=Int.emod_nonneg (c / 9) (show (12:Int) ≠ 0 by decide)
  have n1:=Int.emod_lt_of_pos (c / 9) (show (0:Int) < 12 by decide)
  have g:=aag (c / 9 % 12).toNat (wi (n:=12) n0 n1)
  rw [Bool.and_eq_true] at g
  refine ⟨mU (c / 9 % 12).toNat,by simp [mU],wq g.1,fun n hn=>sj (List.all_eq_true.mp g.2 n hn),fun n hn=>List.all_eq_true.mp (yJ (c / 9 % 12).toNat (wi (n:=12) n0 n1)) n hn,.inl fun d=>fin (ak (a:=iI) ((aH (σ':=[]) ((t0 d).trans (by rw [h9]; rfl))).trans ((aa (ρ':=R9 (some (.int c)) (some (.fl (gT.map .str))) none none none none none) (σ':=[]) rfl).trans (ak (av aah)))))⟩
 ·have a0:=Int.emod_nonneg c (show (8:Int) ≠ 0 by decide)
  have a1:=Int.emod_lt_of_pos c (show (0:Int) < 8 by decide)
  have b2:(0:Int) < 1 + c % 8:=Int.lt_of_lt_of_le (by decide) (Int.le_add_of_nonneg_right a0)
  have b0:=Int.emod_nonneg (c / 8) (Int.ne_of_gt b2)
  have b1:=Int.emod_lt_of_pos (c / 8) b2
  obtain ⟨p,hp⟩:=Int.eq_ofNat_of_zero_le b0
  obtain ⟨e,he⟩:=Int.eq_ofNat_of_zero_le a0
  rw [hp,he] at b1
  rw [he] at a1
  have hpe:p < 1 + e:=Int.ofNat_lt.mp b1
  rw [Nat.add_comm] at hpe
  have hq:1 + c % 8=((p + 1 + (e - p):Nat):Int):=by
   rw [he,Nat.add_right_comm,Nat.add_sub_cancel' (Nat.le_of_lt_succ hpe),Nat.add_comm]; rfl
  generalize e - p=q at hq
  have hs:p + 1 + q <= 8:=by rw [he] at hq; exact (Int.ofNat.inj hq:1 + e=p + 1 + q) ▸ Nat.add_le_add_left (Nat.le_of_lt_succ (Int.ofNat_lt.mp a1)) 1
  obtain ⟨N,hN⟩:∃ N:Nat,(p=0/\N=26)\/(0 < p/\N=36):=by
   rcases Nat.eq_zero_or_pos p with q | q
   ·exact ⟨26,.inl ⟨q,rfl⟩⟩
   ·exact ⟨36,.inr ⟨q,rfl⟩⟩
  have good:=aaf (b:=(c / 64 % N).toNat) hs hN
  refine ⟨jf p q N (c / 64 % N).toNat,by simp [jf],good.1,good.2,yI,.inr fun d=>?_⟩
  obtain ⟨y',z',hl⟩:=age (d:=d) (σ:=[]) (c:=c) hs hN 24 0 [] none none rfl (by decide)
  refine fin (ρ:=R9 (some (.int c)) (some (.str "abcdefghijklmnopqrstuvwxyz0123456789")) y' (some (.int ((p + 1 + q:Nat):Int))) (some (.int p)) (some (.ref 0)) z') ?_
  have e0:ex (CC d) topN iI (R9 (some (.int c)) none none none none none none) []=.next (R9 (some (.int c)) none none none none none none) []:=(ao (σ':=[]) ((t0 d).trans (by rw [show (c % 9 == 8)=false from beq_eq_false_iff_ne.mpr h9])))
  have e1:ex (CC d) topN nj (R9 (some (.int c)) none none none none none none) []=.next (R9 (some (.int c)) none none (some (.int ((p + 1 + q:Nat):Int))) none none none) []:=by
   refine aE ((az (x:=.int 1) (σ₁:=[]) rfl (az (x:=.int c) (y:=.int 8) (σ₁:=[]) (σ₂:=[]) rfl rfl (bn (by decide))) add_int).trans ?_)
   rw [hq]
  have e2:ex (CC d) topN ni (R9 (some (.int c)) none none (some (.int ((p + 1 + q:Nat):Int))) none none none) []=.next (R9 (some (.int c)) none none (some (.int ((p + 1 + q:Nat):Int))) (some (.int p)) none none) []:=by
   refine aE ((az (az (x:=.int c) (y:=.int 8) (σ₁:=[]) (σ₂:=[]) rfl rfl (eZ (by decide) (by decide))) (y:=.int ((p + 1 + q:Nat):Int)) (σ₂:=[]) rfl (bn (by grind))).trans ?_)
   rw [<- hq,hp]
  have e5:ex (CC d) topN nf (R9 (some (.int c)) (some (.str "abcdefghijklmnopqrstuvwxyz0123456789")) none (some (.int ((p + 1 + q:Nat):Int))) (some (.int p)) (some (.ref 0)) none) [.lst []] =
    .next (R9 (some (.int c)) (some (.str "abcdefghijklmnopqrstuvwxyz0123456789")) y' (some (.int ((p + 1 + q:Nat):Int))) (some (.int p)) (some (.ref 0)) z') [.lst ((jf p q N (c / 64 % N).toNat).map .str)]:=by
   refine bP (ys:=(List.range' 0 24).map fun (i:Nat)=>PV.int i) (σ₁:=[.lst []]) ((yy (n:=24) (by decide) rfl).trans ?_) (hl.trans ?_)
   ·have:aL 0 1 24=(List.range' 0 24).map fun (i:Nat)=>PV.int i:=by
     unfold aL; rw [List.range_eq_range']; refine List.map_congr_left fun i zz=>?_; congr 1; (grind)
    rw [this]
   ·simp [jf,List.range_eq_range']
  exact (aa e0).trans ((aa e1).trans ((aa e2).trans ((aa (a:=nh) (ρ':=R9 (some (.int c)) (some (.str "abcdefghijklmnopqrstuvwxyz0123456789")) none (some (.int ((p + 1 + q:Nat):Int))) (some (.int p)) none none) (σ':=[]) rfl).trans ((aa (a:=ng) (ρ':=R9 (some (.int c)) (some (.str "abcdefghijklmnopqrstuvwxyz0123456789")) none (some (.int ((p + 1 + q:Nat):Int))) (some (.int p)) (some (.ref 0)) none) (σ':=[.lst []]) rfl).trans ((aa e5).trans (ak (a:=nc) rfl))))))
end
end Mine
namespace Mine
open PySem
section
variable {d:Nat} {σ:ac}
theorem agF {i a b:Int}:aG PP topN (d + 1) cV [.int i,.int a,.int b] σ=.ok (.bool (decide (a <= i) && decide (i <= b))) σ:=by
 rw [a5 (fn:=kY) rfl rfl]
 have:ex (CC d) topN kY.body [some (.int i),some (.int a),some (.int b),none,none,none] σ=.ret (.bool (decide (a <= i) && decide (i <= b))) [some (.int i),some (.int a),some (.int b),none,none,none] σ:=
  ak (av (jX (j9 (σ₁:=σ) rfl (j9 (σ₁:=σ) rfl (gN (mL rfl rfl rfl))))))
 exact (congrArg aQ this).trans rfl
theorem bZ {τ υ:ac} {m:MO}:(τ++m::υ)[τ.length]?=some m:=by simp
theorem di {τ υ:ac} {m m':MO}:(τ++m::υ).set τ.length m'=τ++m'::υ:=by simp
theorem aem {es:List (Str × PV)} {k:Str}:k ∉ es.map (·.1)->ah k es=none:=by
 intro h
 unfold ah
 rw [List.find?_eq_none.mpr]
 ·rfl
 ·intro e he q
  exact h (List.mem_map.mpr ⟨e,he,of_decide_eq_true q⟩)
theorem zJ {es:List (Str × PV)} {k:Str} {v:PV} (h:k ∉ es.map (·.1)):bQ k v es=es++[(k,v)]:=by
 unfold bQ
 rw [if_neg]
 intro q
 obtain ⟨e,he,q⟩:=List.any_eq_true.mp q
 exact h (List.mem_map.mpr ⟨e,he,of_decide_eq_true q⟩)
theorem ael {es:List (Str × PV)} {k:Str}:(ah k es).isSome=decide (k ∈ es.map (·.1)):=by
 by_cases h:k ∈ es.map (·.1)
 ·rw [decide_eq_true h]
  obtain ⟨e,he,q⟩:=List.mem_map.mp h
  unfold ah
  rw [Option.isSome_map,List.find?_isSome]
  exact ⟨e,he,decide_eq_true q⟩
 ·rw [decide_eq_false h,aem h]; rfl
noncomputable def aS (p:List aj):List (Str × PV):=p.flatMap fun s=>s.gives.map fun g=>(g,s.pv)
theorem rF (p:List aj):(aS p).map (·.1)=p.flatMap (·.gives):=by
 unfold aS
 rw [List.map_flatMap]
 congr 1
 funext s
 rw [List.map_map]
 exact List.map_id _
theorem aeG {r:Nat} {es:List (Str × PV)} {k:Str} {v:PV} {ρ:aq} (hr:σ[r]?=some (.ds es)) (hl:es.length < au):bp (.ref r) (.str k) v ρ σ=.next ρ (σ.set r (.ds (bQ k v es))):=by
 have e:((σ[r]?).bind fun m=>mQ m (.str k) v)=some (.ds (bQ k v es)):=by rw [hr]; exact if_pos hl
 unfold bp; dsimp only; rw [e]
theorem sa {r:Nat} {es:List ((Str × Int) × PV)} {x:Str} {j:Int} {v:PV} {ρ:aq} (hr:σ[r]?=some (.dp es)) (hl:es.length < au):bp (.ref r) (.tup [.str x,.int j]) v ρ σ=.next ρ (σ.set r (.dp (bQ (x,j) v es))):=by
 have e:((σ[r]?).bind fun m=>mQ m (.tup [.str x,.int j]) v)=some (.dp (bQ (x,j) v es)):=by rw [hr]; exact if_pos hl
 unfold bp; dsimp only; rw [e]
theorem aiX {pl s:PV} {τ:ac}:∀ (gs:List Str) (y:Option PV) (es:List (Str × PV)),es.length + gs.length <= 1000->(es.map (·.1)++gs).Nodup ->
  ∃ y',aX none (bE 3) (fun ρ σ=>ex (CC d) topN jH ρ σ) (gs.map .str) [some pl,some (.ref τ.length),some s,y] (τ++[.ds es]) =
   .next [some pl,some (.ref τ.length),some s,y'] (τ++[.ds (es++gs.map fun g=>(g,s))]):=by
 intro gs
 induction gs with
 | nil=>intro y es _ _; exact ⟨y,by simpa using bB⟩
 | cons g gs ih =>
  intro y es hl hn
  have hk:g ∉ es.map (·.1):=fun q=>(List.nodup_append.mp hn).2.2 g q g (by simp) rfl
  rw [List.length_cons] at hl
  obtain ⟨y',e⟩:=ih (some (.str g)) (es++[(g,s)]) (by rw [List.length_append]; show es.length + 1 + gs.length <= 1000; (grind)) (by simpa using hn)
  refine ⟨y',(bf (ρ₁:=[some pl,some (.ref τ.length),some s,some (.str g)]) (ρ₂:=[some pl,some (.ref τ.length),some s,some (.str g)]) (σ₂:=τ++[.ds (es++[(g,s)])]) rfl ?_).trans (e.trans (by simp))⟩
  refine (aa ?_).trans aK
  show bp (.ref τ.length) (.str g) s _ (τ++[.ds es])=_
  rw [aeG bZ (by rw [bV]; (grind)),di,zJ hk]
theorem ahG {pl:PV} {τ:ac}:∀ (p:List aj) (x y:Option PV) (es:List (Str × PV)),es.length + 3 * p.length <= 1000->(∀ s ∈ p,s.gives.length <= 3)->(es.map (·.1)++p.flatMap (·.gives)).Nodup ->
  ∃ x' y',aX none (bE 2) (fun ρ σ=>ex (CC d) topN lI ρ σ) (p.map aj.pv) [some pl,some (.ref τ.length),x,y] (τ++[.ds es]) =
   .next [some pl,some (.ref τ.length),x',y'] (τ++[.ds (es++aS p)]):=by
 intro p
 induction p with
 | nil=>intro x y es _ _ _; exact ⟨x,y,by simpa [aS] using bB⟩
 | cons s p ih =>
  intro x y es hl h3 hn
  have hs:=h3 s (by simp)
  rw [List.length_cons] at hl
  rw [List.flatMap_cons,<- List.append_assoc] at hn
  obtain ⟨y1,e1⟩:=aiX (d:=d) (pl:=pl) (s:=s.pv) (τ:=τ) s.gives y es (by grind) (List.nodup_append.mp hn).1
  have hk:(es++s.gives.map fun g=>(g,s.pv)).map (·.1)=es.map (·.1)++s.gives:=by
   rw [List.map_append,List.map_map]; congr 1; exact List.map_id _
  obtain ⟨x',y',e2⟩:=ih (some s.pv) y1 (es++s.gives.map fun g=>(g,s.pv)) (by rw [List.length_append,List.length_map]; (grind)) (fun t ht=>h3 t (bJ _ ht)) (by rw [hk]; exact hn)
  refine ⟨x',y',(bf (ρ₁:=[some pl,some (.ref τ.length),some s.pv,y]) (ρ₂:=[some pl,some (.ref τ.length),some s.pv,y1]) (σ₂:=τ++[.ds (es++s.gives.map fun g=>(g,s.pv))]) rfl ?_).trans (e2.trans (by simp [aS]))⟩
  exact (aa (bP (ys:=s.gives.map .str) (σ₁:=τ++[.ds es]) rfl e1)).trans aK
theorem wC {p:List aj} (h:cF p):aG PP topN (d + 1) iW [aW p] σ=.ok (.ref σ.length) (σ++[.ds (aS p)]):=by
 rw [a5 (fn:=mB) rfl rfl]
 obtain ⟨x',y',e⟩:=ahG (d:=d) (pl:=aW p) (τ:=σ) p none none [] (by show 0 + 3 * p.length <= 1000; have:=h.most; (grind)) (fun s hs=>(h.steps s hs).gives3) (by simpa using h.gives)
 have:ex (CC d) topN mB.body [some (aW p),none,none,none] σ=.ret (.ref σ.length) [some (aW p),some (.ref σ.length),x',y'] (σ++[.ds (aS p)]):=by
  refine (aa (a:=nB) (ρ':=[some (aW p),some (.ref σ.length),none,none]) (σ':=σ++[.ds []]) rfl).trans ((aa (bP (ys:=p.map aj.pv) (σ₁:=σ++[.ds []]) rfl e)).trans ?_)
  exact ak (av rfl)
 exact (congrArg aQ this).trans rfl
end
end Mine
namespace Mine
open PySem
section
variable {d:Nat} {σ:ac}
theorem acL {ns:List Str}:(ns.map PV.str).mapM (toD 16 σ)=some (ns.map PyData.str):=by
 induction ns with
 | nil=>rfl
 | cons n ns ih=>rw [List.map_cons,List.mapM_cons,ih]; rfl
theorem adr {ns:List Str} {g:Str}:jB σ (.str g) (ns.map .str)=some (decide (g ∈ ns)):=by
 unfold jB
 rw [acL]
 show some ((ns.map PyData.str).any fun y=>PyData.eqv y (.str g))=_
 congr 1
 rw [List.any_map]
 induction ns with
 | nil=>rfl
 | cons n ns ih =>
  rw [List.any_cons,ih]
  show (n == g || decide (g ∈ ns))=_
  by_cases q:n=g
  ·subst q; simp
  ·rw [beq_eq_false_iff_ne.mpr q]
   by_cases q2:g ∈ ns
   ·simp [q2]
   ·rw [decide_eq_false q2,decide_eq_false (by simp [q2]; exact fun z=>q z.symm)]; rfl
theorem tS {r:Nat} {ns:List Str} {g:Str} (h:σ[r]?=some (.lst (ns.map .str))):br .notin (.str g) (.ref r) σ=.ok (!decide (g ∈ ns)) σ:=by
 show af.ofOpt ((bS (.str g) (.ref r) σ).map (!·)) σ=_
 have:bS (.str g) (.ref r) σ=some (decide (g ∈ ns)):=by
  unfold bS
  dsimp only
  rw [h]
  exact adr
 rw [this]; rfl
theorem wo {r:Nat} {es:List (Str × PV)} {g:Str} (h:σ[r]?=some (.ds es)):br .notin (.str g) (.ref r) σ=.ok (!decide (g ∈ es.map (·.1))) σ:=by
 show af.ofOpt ((bS (.str g) (.ref r) σ).map (!·)) σ=_
 have:bS (.str g) (.ref r) σ=some (decide (g ∈ es.map (·.1))):=by
  unfold bS
  dsimp only
  rw [h]
  exact congrArg some ael
 rw [this]; rfl
noncomputable def cm (G acc:List Str) (n:Str):List Str:=if (!decide (n ∈ G) && !decide (n ∈ acc))=true then acc++[n] else acc
noncomputable def abN (G ns:List Str):List Str:=ns.foldl (cm G) []
theorem rB {G acc:List Str} {n:Str}:(cm G acc n).length <= acc.length + 1:=by
 unfold cm; split
 ·simp
 ·(exact Nat.le_add_right _ _)
theorem ahb {G:List Str}:∀ (ns acc:List Str),(ns.foldl (cm G) acc).length <= acc.length + ns.length:=by
 intro ns
 induction ns with
 | nil=>intro acc; exact Nat.le_refl _
 | cons n ns ih =>
  intro acc
  rw [List.foldl_cons,List.length_cons]
  have h1:=ih (cm G acc n)
  have h2:=rB (G:=G) (acc:=acc) (n:=n)
  (grind)
theorem ah0 {τ:ac} {xs:List PV} {v:PV} (h:xs.length < 1000):mV .append (.ref τ.length) [v] (τ++[.lst xs])=.ok .none (τ++[.lst (xs++[v])]):=wR h
theorem aiw {pl s:PV} {r:Nat} {es:List (Str × PV)} {τ:ac} {w:Option PV} (hr:τ[r]?=some (.ds es)):∀ (ns:List Str) (y:Option PV) (acc:List Str),acc.length + ns.length <= 900 ->
  ∃ y',aX none (bE 4) (fun ρ σ=>ex (CC d) topN lC ρ σ) (ns.map .str) [some pl,some (.ref r),some (.ref τ.length),some s,y,w] (τ++[.lst (acc.map .str)]) =
   .next [some pl,some (.ref r),some (.ref τ.length),some s,y',w] (τ++[.lst ((ns.foldl (cm (es.map (·.1))) acc).map .str)]):=by
 intro ns
 induction ns with
 | nil=>intro y acc _; exact ⟨y,bB⟩
 | cons n ns ih =>
  intro y acc hl
  rw [List.length_cons] at hl
  obtain ⟨y',e⟩:=ih (some (.str n)) (cm (es.map (·.1)) acc n) (by have:=rB (G:=es.map (·.1)) (acc:=acc) (n:=n); (grind))
  refine ⟨y',(bf (ρ₁:=[some pl,some (.ref r),some (.ref τ.length),some s,some (.str n),w]) (ρ₂:=[some pl,some (.ref r),some (.ref τ.length),some s,some (.str n),w]) (σ₂:=τ++[.lst ((cm (es.map (·.1)) acc n).map .str)]) rfl ?_).trans e⟩
  have hr':(τ++[MO.lst (acc.map .str)])[r]?=some (.ds es):=by
   rw [List.getElem?_append_left (eY hr).1]; exact hr
  have t:tst (CC d) (.and (.cons (.cmp (.v 4) .notin (.v 1)) (.cons (.cmp (.v 4) .notin (.v 2)) .nil))) [some pl,some (.ref r),some (.ref τ.length),some s,some (.str n),w] (τ++[.lst (acc.map .str)])=.ok (!decide (n ∈ es.map (·.1)) && !decide (n ∈ acc)) (τ++[.lst (acc.map .str)]):=
   tF (u9 (bj (x:=.str n) (y:=.ref r) (σ₁:=τ++[.lst (acc.map .str)]) (σ₂:=τ++[.lst (acc.map .str)]) rfl rfl (wo hr')) fun zz=>qP (bj (x:=.str n) (y:=.ref τ.length) (σ₁:=τ++[.lst (acc.map .str)]) (σ₂:=τ++[.lst (acc.map .str)]) rfl rfl (tS bZ)))
  unfold cm
  cases hq:(!decide (n ∈ es.map (·.1)) && !decide (n ∈ acc)) with
  | false =>
   rw [hq] at t
   exact (aa (ao t)).trans aK
  | true =>
   rw [hq] at t
   rw [if_pos rfl]
   refine (aa ((aH t).trans ((aa (bX (o6 (m:=.append) (x:=.ref τ.length) (σ₁:=τ++[.lst (acc.map .str)]) rfl ?_ (y:=.str n) (σ₂:=τ++[.lst (acc.map .str)]) rfl (ah0 (by rw [List.length_map]; (grind)))))).trans ?_))).trans aK
   ·exact yL (.inl rfl)
   ·rw [List.map_append]; exact aK
theorem ag9 {pl:PV} {r:Nat} {es:List (Str × PV)} {τ:ac} {w:Option PV} (hr:τ[r]?=some (.ds es)):∀ (p:List aj) (x y:Option PV) (acc:List Str),acc.length + 4 * p.length <= 900->(∀ s ∈ p,s.needs.length <= 4) ->
  ∃ x' y',aX none (bE 3) (fun ρ σ=>ex (CC d) topN py ρ σ) (p.map aj.pv) [some pl,some (.ref r),some (.ref τ.length),x,y,w] (τ++[.lst (acc.map .str)]) =
   .next [some pl,some (.ref r),some (.ref τ.length),x',y',w] (τ++[.lst (((p.flatMap (·.needs)).foldl (cm (es.map (·.1))) acc).map .str)]):=by
 intro p
 induction p with
 | nil=>intro x y acc _ _; exact ⟨x,y,bB⟩
 | cons s p ih =>
  intro x y acc hl h4
  have hs:=h4 s (by simp)
  rw [List.length_cons] at hl
  obtain ⟨y1,e1⟩:=aiw (d:=d) (pl:=pl) (s:=s.pv) (w:=w) hr s.needs y acc (by grind)
  obtain ⟨x',y',e2⟩:=ih (some s.pv) y1 (s.needs.foldl (cm (es.map (·.1))) acc) (by have:=ahb (G:=es.map (·.1)) s.needs acc; (grind)) fun t ht=>h4 t (bJ _ ht)
  refine ⟨x',y',(bf (ρ₁:=[some pl,some (.ref r),some (.ref τ.length),some s.pv,y,w]) (ρ₂:=[some pl,some (.ref r),some (.ref τ.length),some s.pv,y1,w]) (σ₂:=τ++[.lst ((s.needs.foldl (cm (es.map (·.1))) acc).map .str)]) rfl ?_).trans (e2.trans (by rw [List.flatMap_cons,List.foldl_append]))⟩
  exact (aa (bP (ys:=s.needs.map .str) (σ₁:=τ++[.lst (acc.map .str)]) rfl e1)).trans aK
theorem aeY {p:List aj} (h:cF p):aG PP topN (d + 2) lu [aW p] σ=.ok (.ref (σ.length + 1)) (σ++[.ds (aS p),.lst ((abN (p.flatMap (·.gives)) (p.flatMap (·.needs))).map .str)]):=by
 rw [a5 (fn:=qu) rfl rfl]
 have hr:(σ++[MO.ds (aS p)])[σ.length]?=some (.ds (aS p)):=by simp
 obtain ⟨x',y',e⟩:=ag9 (d:=d + 1) (pl:=aW p) (w:=none) hr p none none [] (by show 0 + 4 * p.length <= 900; have:=h.most; (grind)) fun s hs=>(h.steps s hs).needs4
 rw [rF] at e
 have hl:(σ++[MO.ds (aS p)]).length=σ.length + 1:=by simp
 rw [hl] at e
 have:ex (CC (d + 1)) topN qu.body [some (aW p),none,none,none,none,none] σ=.ret (.ref (σ.length + 1)) [some (aW p),some (.ref σ.length),some (.ref (σ.length + 1)),x',y',none] (σ++[.ds (aS p),.lst ((abN (p.flatMap (·.gives)) (p.flatMap (·.needs))).map .str)]):=by
  refine (aa (a:=qt) (ρ':=[some (aW p),some (.ref σ.length),none,none,none,none]) (σ':=σ++[.ds (aS p)]) (aE (bD (x:=aW p) (σ₁:=σ) rfl (wC h)))).trans ?_
  refine (aa (a:=qr) (ρ':=[some (aW p),some (.ref σ.length),some (.ref (σ++[MO.ds (aS p)]).length),none,none,none]) (σ':=σ++[.ds (aS p)]++[.lst []]) rfl).trans ?_
  rw [hl]
  refine (aa (bP (ys:=p.map aj.pv) (σ₁:=σ++[.ds (aS p)]++[.lst []]) rfl e)).trans ((ak (av rfl)).trans ?_)
  rw [List.append_assoc]; rfl
 exact (congrArg aQ this).trans rfl
end
end Mine
namespace Mine
open PySem
section
variable {d:Nat} {σ:ac}
theorem abD {n:Str} {c:Nat} {v:PV} {ρ:aq} {τ υ:ac} {fs:List (Str × PV)} (h:fs.length < 100):eP c (.inst c τ.length) n v ρ (τ++.ns fs::υ)=.next ρ (τ++.ns (bQ n v fs)::υ):=by
 unfold eP
 dsimp only
 rw [if_pos rfl,bZ]
 dsimp only
 rw [if_pos h,di]
theorem ahS {c k:Nat} {n:Str} {o x:X} {v:PV} {C:aV} {ρ:aq} {τ υ υ':ac} {fs:List (Str × PV)} (hx:ev C x ρ (τ++.ns fs::υ)=.ok v (τ++.ns fs::υ')) (ho:ev C o ρ (τ++.ns fs::υ')=.ok (.inst c τ.length) (τ++.ns fs::υ')) (h:fs.length < 100) :
  ex C k (.asgAttr c o n x) ρ (τ++.ns fs::υ)=.next ρ (τ++.ns (bQ n v fs)::υ'):=by
 show (ev C x ρ (τ++.ns fs::υ)).toS ρ (fun v σ=>(ev C o ρ σ).toS ρ fun o σ=>eP c o n v ρ σ)=_
 rw [hx]
 show (ev C o ρ (τ++.ns fs::υ')).toS ρ (fun o σ=>eP c o n v ρ σ)=_
 rw [ho]
 exact abD h
end
end Mine
namespace Mine
open PySem
section
variable {d:Nat} {σ:ac}
theorem ahK {s:aj} (h:gb s):acv s:=by
 have k:∀ n,eh n->n.length <= au:=fun n q=>aC q.len (by decide)
 exact ⟨k _ h.name,fun n hn=>k n (h.needs n hn),aC h.needs4 (by decide),fun n hn=>k n (h.gives n hn),aC h.gives3 (by decide)⟩
theorem ade {p:List aj} (h:cF p):∃ τ,aG PP topN (d + 4) gJ [aW p] σ=.ok (.bool true) (σ++τ):=by
 obtain ⟨τ,e⟩:=h6x (d:=d) (σ:=σ) (fun s hs=>ahK (h.steps s hs)) (aC h.most (by decide))
 rw [adf.mpr h] at e
 exact ⟨τ,e⟩
end
end Mine
namespace Mine
open PySem
noncomputable def mW (p:List aj) (n:Nat) (g o h gn od:Nat):List (Str × PV):=[("plan",aW p),("turns",.int n),("givers",.ref g),("outer",.ref o),("here",.ref h),("gone",.ref gn),("order",.ref od)]
noncomputable def oz (p:List aj):List Str:=abN (p.flatMap (·.gives)) (p.flatMap (·.needs))
structure rW (p:List aj) (n:Nat) (es:List ((Str × Int) × PV)) (i g o h gn od:Nat) (σ:ac):Prop where
 ns:σ[i]?=some (.ns (mW p n g o h gn od))
 gv:σ[g]?=some (.ds (aS p))
 ot:σ[o]?=some (.lst ((oz p).map .str))
 hr:σ[h]?=some (.dp es)
 ne:h ≠ i/\h ≠ g/\h ≠ o
theorem rW.more {p:List aj} {n:Nat} {es:List ((Str × Int) × PV)} {i g o h gn od:Nat} {σ τ:ac} (b:rW p n es i g o h gn od σ):rW p n es i g o h gn od (σ++τ):=by
 have k:∀ {j:Nat} {m:MO},σ[j]?=some m->(σ++τ)[j]?=some m:=fun {j m} e=>by rw [List.getElem?_append_left (eY e).1]; exact e
 exact ⟨k b.ns,k b.gv,k b.ot,k b.hr,b.ne⟩
theorem rW.other {p:List aj} {n:Nat} {es:List ((Str × Int) × PV)} {i g o h gn od j:Nat} {m:MO} {σ:ac} (b:rW p n es i g o h gn od σ) (hj:j ≠ i/\j ≠ g/\j ≠ o/\j ≠ h):rW p n es i g o h gn od (σ.set j m):=by
 have k:∀ {a:Nat},j ≠ a->(σ.set j m)[a]?=σ[a]?:=fun {a} e=>List.getElem?_set_ne e
 exact ⟨(k hj.1).trans b.ns,(k hj.2.1).trans b.gv,(k hj.2.2.1).trans b.ot,(k hj.2.2.2).trans b.hr,b.ne⟩
theorem rW.put {p:List aj} {n:Nat} {es es':List ((Str × Int) × PV)} {i g o h gn od:Nat} {σ:ac} (b:rW p n es i g o h gn od σ):rW p n es' i g o h gn od (σ.set h (.dp es')):=by
 have k:∀ {a:Nat},h ≠ a->(σ.set h (.dp es'))[a]?=σ[a]?:=fun {a} e=>List.getElem?_set_ne e
 exact ⟨(k b.ne.1).trans b.ns,(k b.ne.2.1).trans b.gv,(k b.ne.2.2).trans b.ot,List.getElem?_set_self (eY b.hr).1,b.ne⟩
theorem abR:(("turns" : Str) ∉ (["plan"]:List Str))/\(("givers" : Str) ∉ (["plan", "turns"]:List Str))/\(("outer" : Str) ∉ (["plan", "turns", "givers"]:List Str))/\(("here" : Str) ∉ (["plan", "turns", "givers", "outer"]:List Str)) ∧
  (("gone" : Str) ∉ (["plan", "turns", "givers", "outer", "here"]:List Str))/\(("order" : Str) ∉ (["plan", "turns", "givers", "outer", "here", "gone"]:List Str)):=by decide +kernel
section
variable {d:Nat} {σ:ac}
theorem afn {p:List aj} {n:Nat} (h:cF p) (h1:1 <= n) (h2:n <= 200):∃ (υ:ac) (g o hr gn od:Nat),aG PP topN (d + 5) d0 [.inst ae σ.length,aW p,.int n] (σ++[.ns []])=.ok .none (σ++υ)/\rW p n [] σ.length g o hr gn od (σ++υ)/\σ.length < g/\σ.length < o/\σ.length < hr/\(σ.length < g/\g < o/\o < hr/\hr < gn/\gn < od)/\(σ++υ)[gn]?=some (.dp [])/\(σ++υ)[od]?=some (.lst []):=by
 obtain ⟨τ,hp⟩:=ade (d:=d) (σ:=σ++[.ns []]) h
 rw [a5 (fn:=gx) rfl rfl]
 obtain ⟨f1,f2,f3,f4,f5,f6⟩:=abR
 generalize kt:([some (.inst ae σ.length),some (aW p),some (.int n),none,none,none,none,none,none,none]:aq)=ρ
 have o0:∀ {st:ac},ev (CC (d + 4)) (.v 0) ρ st=.ok (.inst ae σ.length) st:=fun {st}=>by subst kt; rfl
 have o1:∀ {st:ac},ev (CC (d + 4)) (.v 1) ρ st=.ok (aW p) st:=fun {st}=>by subst kt; rfl
 have o2:∀ {st:ac},ev (CC (d + 4)) (.v 2) ρ st=.ok (.int n) st:=fun {st}=>by subst kt; rfl
 have s0:ex (CC (d + 4)) topN iu ρ (σ++[.ns []])=.next ρ (σ++.ns []::τ):=by
  have c1:ev (CC (d + 4)) (.call gJ (.cons (.v 1) .nil)) ρ (σ++[.ns []])=.ok (.bool true) (σ++.ns []::τ):=by
   have c:ev (CC (d + 4)) (.call gJ (.cons (.v 1) .nil)) ρ (σ++[.ns []])=.ok (.bool true) (σ++[.ns []]++τ):=bD o1 hp
   rw [List.append_assoc] at c; exact c
  exact (ao (dE (q:=true) (eN c1)))
 have s1:ex (CC (d + 4)) topN ir ρ (σ++.ns []::τ)=.next ρ (σ++.ns []::τ):=by
  have c:aG PP topN (d + 4) cV [.int n,.int 1,.int 200] (σ++.ns []::τ)=.ok (.bool true) (σ++.ns []::τ):=by
   rw [agF,decide_eq_true (show (1:Int) <= n from Int.ofNat_le.mpr h1),decide_eq_true (show (n:Int) <= 200 from Int.ofNat_le.mpr h2)]; rfl
  exact (ao (dE (q:=true) (eN (eu (f:=cV) (y:=.int 1) (z:=.int 200) (σ₂:=σ++.ns []::τ) (σ₃:=σ++.ns []::τ) o2 rfl rfl c))))
 have at_:∀ {k:Str} {v:PV} {fs:List (Str × PV)} {υ υ':ac} {x:X},ev (CC (d + 4)) x ρ (σ++.ns fs::υ)=.ok v (σ++.ns fs::υ')->k ∉ fs.map (·.1)->fs.length < 100->ex (CC (d + 4)) topN (.asgAttr ae (.v 0) k x) ρ (σ++.ns fs::υ)=.next ρ (σ++.ns (fs++[(k,v)])::υ'):=fun {k v fs υ υ' x} hx hk hl=>by
  rw [<- zJ hk]
  exact ahS hx o0 hl
 have s2:=at_ (k := "plan") (fs:=[]) (υ:=τ) o1 (by simp) (by decide)
 have s3:=at_ (k := "turns") (fs:=[("plan",aW p)]) (υ:=τ) o2 f1 (by simp)
 have app:∀ {a b:ac} {m:MO},(σ++m::a)++b=σ++m::(a++b):=fun {a b m}=>by rw [List.append_assoc]; rfl
 have len:∀ {a:ac} {m:MO},(σ++m::a).length=σ.length + a.length + 1:=fun {a m}=>by rw [List.length_append,List.length_cons]; rfl
 have cv:∀ {x:X} {k:Nat} {a b:ac} {m:MO},ev (CC (d + 4)) x ρ (σ++m::a)=.ok (.ref ((σ++m::a).length + k)) ((σ++m::a)++b)->ev (CC (d + 4)) x ρ (σ++m::a)=.ok (.ref (σ.length + a.length + 1 + k)) (σ++m::(a++b)):=fun {x k a b m} c=>by
  rw [len,app] at c; exact c
 have s4:=at_ (k := "givers") (x:=.call iW (.cons (.v 1) .nil)) (fs:=[("plan",aW p),("turns",.int n)]) (υ:=τ) (υ':=τ++[.ds (aS p)]) (v:=.ref (σ.length + τ.length + 1)) (cv (k:=0) (bD o1 (wC (d:=d + 3) h))) f2 (by simp)
 have s5:=at_ (k := "outer") (x:=.call lu (.cons (.v 1) .nil)) (fs:=[("plan",aW p),("turns",.int n),("givers",.ref (σ.length + τ.length + 1))]) (υ:=τ++[.ds (aS p)]) (υ':=τ++[.ds (aS p)]++[.ds (aS p),.lst ((oz p).map .str)]) (v:=.ref (σ.length + (τ++[MO.ds (aS p)]).length + 1 + 1)) (cv (k:=1) (a:=τ++[.ds (aS p)]) (b:=[.ds (aS p),.lst ((oz p).map .str)]) (bD (f:=lu) o1 (aeY (d:=d + 2) h))) f3 (by simp)
 generalize afo:τ++[MO.ds (aS p)]++[.ds (aS p),.lst ((oz p).map .str)]=gP at s5
 generalize hg:σ.length + τ.length + 1=g at s4 s5
 generalize ho:σ.length + (τ++[MO.ds (aS p)]).length + 1 + 1=o at s5
 have s6:=at_ (k := "here") (x:=.dnew true) (fs:=[("plan",aW p),("turns",.int n),("givers",.ref g),("outer",.ref o)]) (υ:=gP) (υ':=gP++[.dp []]) (v:=.ref (σ.length + gP.length + 1)) (cv (k:=0) rfl) f4 (by simp)
 generalize hh:σ.length + gP.length + 1=hr at s6
 have s7:=at_ (k := "gone") (x:=.dnew true) (fs:=[("plan",aW p),("turns",.int n),("givers",.ref g),("outer",.ref o),("here",.ref hr)]) (υ:=gP++[.dp []]) (υ':=gP++[.dp []]++[.dp []]) (v:=.ref (σ.length + (gP++[MO.dp []]).length + 1)) (cv (k:=0) rfl) f5 (by simp)
 generalize hgn:σ.length + (gP++[MO.dp []]).length + 1=gn at s7
 have s8:=at_ (k := "order") (x:=.lst false .nil) (fs:=[("plan",aW p),("turns",.int n),("givers",.ref g),("outer",.ref o),("here",.ref hr),("gone",.ref gn)]) (υ:=gP++[.dp []]++[.dp []]) (υ':=gP++[.dp []]++[.dp []]++[.lst []]) (v:=.ref (σ.length + (gP++[MO.dp []]++[MO.dp []]).length + 1)) (cv (k:=0) rfl) f6 (by simp)
 generalize hod:σ.length + (gP++[MO.dp []]++[MO.dp []]).length + 1=od at s8
 have body:ex (CC (d + 4)) topN gx.body ρ (σ++[.ns []])=.next ρ (σ++.ns (mW p n g o hr gn od)::(gP++[.dp []]++[.dp []]++[.lst []])):=
  (aa s0).trans ((aa s1).trans ((aa s2).trans ((aa s3).trans ((aa s4).trans ((aa s5).trans ((aa s6).trans ((aa s7).trans ((aa s8).trans aK))))))))
 have l2:gP.length=τ.length + 3:=by subst afo; simp
 have ho':o=σ.length + τ.length + 3:=by subst ho; simp; (grind)
 have at2:∀ {j:Nat} {m:MO},gP[j]?=some m->(σ++.ns (mW p n g o hr gn od)::(gP++[.dp []]++[.dp []]++[.lst []]))[σ.length + j + 1]?=some m:=fun {j m} e=>by
  have hj:=(eY e).1
  rw [Nat.add_assoc,List.getElem?_append_right (Nat.le_add_right _ _),Nat.add_sub_cancel_left,List.getElem?_cons_succ,List.append_assoc,List.append_assoc,List.getElem?_append_left hj]; exact e
 have a0:σ.length < g:=hg ▸ Nat.lt_succ_of_le (Nat.le_add_right _ _)
 have a3:σ.length < o:=by rw [ho',Nat.add_assoc]; exact Nat.lt_add_of_pos_right (Nat.succ_pos _)
 have hh2:hr=σ.length + τ.length + 4:=by rw [<- hh,l2]; rfl
 have a1:g < hr:=by rw [hh2,<- hg]; exact Nat.add_lt_add_left (by decide) _
 have a2:o < hr:=by rw [hh2,ho']; exact Nat.lt_succ_self _
 refine ⟨_,g,o,hr,gn,od,by subst kt; exact (congrArg aQ body).trans rfl,⟨?_,?_,?_,?_,?_⟩,?_⟩
 ·rw [List.getElem?_append_right (Nat.le_refl _),Nat.sub_self]; rfl
 ·have q:=at2 (j:=τ.length) (m:=.ds (aS p)) (by subst afo; simp)
  rw [hg] at q; exact q
 ·have q:=at2 (j:=τ.length + 2) (m:=.lst ((oz p).map .str)) (by subst afo; simp)
  rw [show σ.length + (τ.length + 2) + 1=o from ho'.symm] at q; exact q
 ·rw [List.getElem?_append_right (Nat.le_of_lt (Nat.lt_trans a0 a1)),show hr - σ.length=gP.length + 1 from (by rw [<- hh,Nat.add_assoc,Nat.add_sub_cancel_left]),List.getElem?_cons_succ]
  simp
 ·exact ⟨Nat.ne_of_gt (Nat.lt_trans a0 a1),Nat.ne_of_gt a1,Nat.ne_of_gt a2⟩
 ·have hg2:gn=hr + 1:=by rw [<- hgn,<- hh,List.length_append]; rfl
  have ho2:od=gn + 1:=by rw [<- hod,<- hgn,List.length_append (bs:=[MO.dp []])]; rfl
  have go:g < o:=by rw [ho',<- hg]; exact Nat.add_lt_add_left (by decide) _
  have i2:∀ {k j:Nat} {m:MO} {l:ac},k=σ.length + j + 1->l[j]?=some m->(σ++.ns (mW p n g o hr gn od)::l)[k]?=some m:=fun {k j m l} hk e=>by
   rw [hk,Nat.add_assoc,List.getElem?_append_right (Nat.le_add_right _ _),Nat.add_sub_cancel_left,List.getElem?_cons_succ]; exact e
  refine ⟨a0,a3,Nat.lt_trans a0 a1,⟨a0,go,a2,hg2 ▸ Nat.lt_succ_self _,ho2 ▸ Nat.lt_succ_self _⟩,i2 (j:=gP.length + 1) ?_ ?_,i2 (j:=gP.length + 2) ?_ ?_⟩
  ·rw [hg2,<- hh]; rfl
  ·simp
  ·rw [ho2,hg2,<- hh]; rfl
  ·simp
end
theorem aad {G acc:List Str} {n x:Str}:x ∈ cm G acc n ↔ x ∈ acc\/(x=n/\n ∉ G):=by
 unfold cm
 by_cases h1:n ∈ G
 ·rw [decide_eq_true h1]
  exact ⟨.inl,fun h=>h.elim id fun z=>absurd h1 z.2⟩
 ·rw [decide_eq_false h1]
  by_cases h2:n ∈ acc
  ·rw [decide_eq_true h2]
   exact ⟨.inl,fun h=>h.elim id fun z=>z.1 ▸ h2⟩
  ·rw [decide_eq_false h2]
   show x ∈ acc++[n] ↔ _
   rw [List.mem_append,List.mem_singleton]
   exact ⟨fun h=>h.imp id fun z=>⟨z,h1⟩,fun h=>h.imp id fun z=>z.1⟩
theorem aha {G:List Str} {x:Str}:∀ (ns acc:List Str),x ∈ ns.foldl (cm G) acc ↔ x ∈ acc\/(x ∈ ns/\x ∉ G):=by
 intro ns
 induction ns with
 | nil=>intro acc; exact ⟨.inl,fun h=>h.elim id fun z=>nomatch z.1⟩
 | cons n ns ih =>
  intro acc
  rw [List.foldl_cons,ih,aad,List.mem_cons]
  constructor
  ·rintro ((h | ⟨rfl,h⟩) | h)
   ·exact .inl h
   ·exact .inr ⟨.inl rfl,h⟩
   ·exact .inr ⟨.inr h.1,h.2⟩
  ·rintro (h | ⟨rfl | h,h'⟩)
   ·exact .inl (.inl h)
   ·exact .inl (.inr ⟨rfl,h'⟩)
   ·exact .inr ⟨h,h'⟩
theorem ae1 {p:List aj} {x:Str}:x ∈ oz p ↔ x ∈ p.flatMap (·.needs)/\x ∉ p.flatMap (·.gives):=by
 unfold oz abN
 rw [aha]
 exact ⟨fun h=>h.elim (fun z=>nomatch z) id,.inr⟩
end Mine
namespace Mine
open PySem
theorem aiO {α:Type} {l:List α} (h:l.length=2):∃ a b,l=[a,b]:=by
 cases l with
 | nil=>contradiction
 | cons a l =>
  cases l with
  | nil=>exact nomatch Nat.succ.inj h
  | cons b l =>
   cases l with
   | nil=>exact ⟨a,b,rfl⟩
   | cons c l=>exact nomatch Nat.succ.inj (Nat.succ.inj h)
theorem afe {α:Type} {l:List α} (h:l.length=3):∃ a b c,l=[a,b,c]:=by
 cases l with
 | nil=>contradiction
 | cons a l =>
  obtain ⟨b,c,rfl⟩:=aiO (Nat.succ.inj h)
  exact ⟨a,b,c,rfl⟩
section
variable {C:aV} {ρ:aq} {σ σ₁ σ₂:ac}
theorem cE {c i:Nat} {o:X} {n:Str} {v:PV} {fs:List (Str × PV)} (ho:ev C o ρ σ=.ok (.inst c i) σ₁) (hs:σ₁[i]?=some (.ns fs)) (hv:ah n fs=some v):ev C (.attr c o n) ρ σ=.ok v σ₁:=by
 rw [aa3,ho,aA]
 unfold uS
 dsimp only
 rw [if_pos rfl,hs]
 dsimp only
 rw [hv]; rfl
theorem bu {c i f:Nat} {o args:X} {n:Str} {vs:List PV} {fs:List (Str × PV)} {r:af PV} (ho:ev C o ρ σ=.ok (.inst c i) σ₁) (hs:σ₁[i]?=some (.ns fs)) (hn:ah n fs=none) (ha:evs C args ρ σ₁=.ok vs σ₂) (h:C.call f (.inst c i::vs) σ₂=r):ev C (.meth c f n o args) ρ σ=r:=by
 rw [aa2,ho,aA]
 unfold lq
 dsimp only
 rw [if_pos rfl,hs]
 dsimp only
 rw [hn]
 dsimp only
 rw [ha]; exact h
end
section
variable {p:List aj} {n g o h gn od:Nat}
end
section
variable {C:aV} {ρ:aq} {σ:ac}
theorem adN {r:Nat} {x:Str} {j:Int} {es:List ((Str × Int) × PV)} (h:σ[r]?=some (.dp es)):mV .get (.ref r) [.tup [.str x,.int j]] σ=.ok ((ah (x,j) es).getD .none) σ:=by
 show za (.ref r) (.tup [.str x,.int j]) σ=_
 unfold za; dsimp only; rw [h]; rfl
theorem adT {r:Nat} {es:List ((Str × Int) × PV)} (h:σ[r]?=some (.dp es)):sk .get (.ref r) σ=true:=by
 show ue (.ref r) σ=true
 unfold ue; dsimp only; rw [h]
theorem vz {r:Nat} {x:Str} {j:Int} {es:List ((Str × Int) × PV)} (h:σ[r]?=some (.dp es)):br .isin (.tup [.str x,.int j]) (.ref r) σ=.ok (ah (x,j) es).isSome σ:=by
 show af.ofOpt (bS (.tup [.str x,.int j]) (.ref r) σ) σ=_
 have:bS (.tup [.str x,.int j]) (.ref r) σ=some (ah (x,j) es).isSome:=by unfold bS; dsimp only; rw [h]; rfl
 rw [this]; rfl
theorem aig {r:Nat} {x:Str} {j:Int} {v:PV} {es:List ((Str × Int) × PV)} (h:σ[r]?=some (.dp es)) (hv:ah (x,j) es=some v):eA (.ref r) (.tup [.str x,.int j]) σ=.ok v σ:=by
 show n9 (.ref r) (.tup [.str x,.int j]) σ=_
 unfold n9; dsimp only; rw [h]
 show af.ofOpt (ah (x,j) es) σ=_
 rw [hv]; rfl
end
theorem v8 {es:List ((Str × Int) × PV)} {k:Str × Int} {v:PV} (h:ah k es=none):bQ k v es=es++[(k,v)]:=by
 unfold bQ
 rw [if_neg]
 intro z
 obtain ⟨e,he,hk⟩:=List.any_eq_true.mp z
 unfold ah at h
 rw [Option.map_eq_none_iff,List.find?_eq_none] at h
 exact h e he hk
noncomputable def lA (p:List aj) (x:Str):Option aj:=p.find? fun s=>decide (x ∈ s.gives)
noncomputable def d7:c0->Bool
 | .word w=>w == "later"
 | _=>false
noncomputable def fm (p:List aj) (x:Str) (j:Int):Bool:=
 match lA p x with
 | some s=>!d7 s.rule || decide (j > 0)
 | none=>false
theorem i8 {x:Str}:∀ {p:List aj},ah x (aS p)=(lA p x).map aj.pv:=by
 intro p
 induction p with
 | nil=>rfl
 | cons s p ih =>
  unfold lA
  rw [List.find?_cons]
  have e:aS (s::p)=(s.gives.map fun g=>(g,s.pv))++aS p:=rfl
  unfold ah at ih ⊢
  rw [e,List.find?_append]
  by_cases hx:x ∈ s.gives
  ·rw [decide_eq_true hx]
   have:∀ (l:List Str),x ∈ l->(l.map fun g=>(g,s.pv)).find? (fun e=>decide (e.1=x))=some (x,s.pv):=by
    intro l
    induction l with
    | nil=>intro h; contradiction
    | cons a l ih2 =>
     intro h
     rw [List.map_cons,List.find?_cons]
     by_cases ha:a=x
     ·subst ha; simp
     ·rw [decide_eq_false ha]
      exact ih2 ((List.mem_cons.mp h).resolve_left fun z=>ha z.symm)
   rw [this _ hx]; rfl
  ·rw [decide_eq_false hx]
   have:(s.gives.map fun g=>(g,s.pv)).find? (fun e=>decide (e.1=x))=none:=by
    rw [List.find?_eq_none]
    intro e he
    obtain ⟨g,hg,rfl⟩:=List.mem_map.mp he
    simp; rintro rfl; exact hx hg
   rw [this]
   exact ih
section
variable {σ:ac}
theorem ahy {r:Nat} {es:List (Str × PV)} {k:Str} (h:σ[r]?=some (.ds es)):br .isin (.str k) (.ref r) σ=.ok (ah k es).isSome σ:=by
 show af.ofOpt (bS (.str k) (.ref r) σ) σ=_
 have:bS (.str k) (.ref r) σ=some (ah k es).isSome:=by unfold bS; dsimp only; rw [h]
 rw [this]; rfl
theorem acO {r:Nat} {es:List (Str × PV)} {k:Str} {v:PV} (h:σ[r]?=some (.ds es)) (hv:ah k es=some v):eA (.ref r) (.str k) σ=.ok v σ:=by
 show n9 (.ref r) (.str k) σ=_
 unfold n9; dsimp only; rw [h]
 show af.ofOpt (ah k es) σ=_
 rw [hv]; rfl
end
end Mine
namespace Mine
open PySem
noncomputable abbrev bR:=List ((Str × Int) × PV)
structure Ix where
 i:Nat
 g:Nat
 o:Nat
 h:Nat
 gn:Nat
 od:Nat
structure Ix.Lt (X:Ix):Prop where
 a:X.i < X.g
 b:X.g < X.o
 c:X.o < X.h
 d:X.h < X.gn
 e:X.gn < X.od
structure Bo (p:List aj) (n:Nat) (es gs:bR) (os:List PV) (X:Ix) (σ:ac):Prop where
 ns:σ[X.i]?=some (.ns (mW p n X.g X.o X.h X.gn X.od))
 gv:σ[X.g]?=some (.ds (aS p))
 ot:σ[X.o]?=some (.lst ((oz p).map .str))
 hr:σ[X.h]?=some (.dp es)
 go:σ[X.gn]?=some (.dp gs)
 od:σ[X.od]?=some (.lst os)
 lt:X.Lt
structure c7 (X:Ix) (σ σ':ac):Prop where
 len:σ.length <= σ'.length
 at_:∀ (j:Nat) (m:MO),j ≠ X.h->j ≠ X.gn->j ≠ X.od->σ[j]?=some m->σ'[j]?=some m
theorem c7.refl {X:Ix} {σ:ac}:c7 X σ σ:=⟨Nat.le_refl _,fun zz zz zz zz zz h=>h⟩
theorem c7.trans {X:Ix} {a b c:ac} (k:c7 X a b) (l:c7 X b c):c7 X a c:=⟨aC k.len l.len,fun j m h1 h2 h3 h=>l.at_ j m h1 h2 h3 (k.at_ j m h1 h2 h3 h)⟩
theorem dL {σ τ:ac} {j:Nat} {m:MO} (e:σ[j]?=some m):(σ++τ)[j]?=some m:=by rw [List.getElem?_append_left (eY e).1]; exact e
theorem bU {σ:ac} {j k:Nat} {m m':MO} (hj:k ≠ j) (e:σ[j]?=some m):(σ.set k m')[j]?=some m:=(List.getElem?_set_ne hj).trans e
theorem sq {σ:ac} {j:Nat} {m m':MO} (e:σ[j]?=some m):(σ.set j m')[j]?=some m':=List.getElem?_set_self (eY e).1
theorem c7.app {X:Ix} {σ τ:ac}:c7 X σ (σ++τ):=⟨by rw [List.length_append]; exact Nat.le_add_right _ _,fun zz zz zz zz zz h=>dL h⟩
theorem c7.set {X:Ix} {σ:ac} {j:Nat} {m:MO} (hj:j=X.h\/j=X.gn\/j=X.od):c7 X σ (σ.set j m):=⟨by rw [List.length_set]; exact Nat.le_refl _,fun k m' h1 h2 h3 h=>bU (fun q=>by
 subst q
 rcases hj with q | q | q
 ·exact h1 q
 ·exact h2 q
 ·exact h3 q) h⟩
section
variable {p:List aj} {n:Nat} {es gs:bR} {os:List PV} {X:Ix} {σ:ac}
theorem Bo.more {τ:ac} (b:Bo p n es gs os X σ):Bo p n es gs os X (σ++τ):=⟨dL b.ns,dL b.gv,dL b.ot,dL b.hr,dL b.go,dL b.od,b.lt⟩
theorem Ix.Lt.hi (l:X.Lt):X.h ≠ X.i:=Nat.ne_of_gt (Nat.lt_trans l.a (Nat.lt_trans l.b l.c))
theorem Ix.Lt.hg (l:X.Lt):X.h ≠ X.g:=Nat.ne_of_gt (Nat.lt_trans l.b l.c)
theorem Ix.Lt.gi (l:X.Lt):X.gn ≠ X.i:=Nat.ne_of_gt (Nat.lt_trans l.a (Nat.lt_trans l.b (Nat.lt_trans l.c l.d)))
theorem Ix.Lt.gg (l:X.Lt):X.gn ≠ X.g:=Nat.ne_of_gt (Nat.lt_trans l.b (Nat.lt_trans l.c l.d))
theorem Ix.Lt.go (l:X.Lt):X.gn ≠ X.o:=Nat.ne_of_gt (Nat.lt_trans l.c l.d)
theorem Ix.Lt.oh (l:X.Lt):X.od ≠ X.h:=Nat.ne_of_gt (Nat.lt_trans l.d l.e)
theorem Ix.Lt.oo (l:X.Lt):X.od ≠ X.o:=Nat.ne_of_gt (Nat.lt_trans l.c (Nat.lt_trans l.d l.e))
theorem Ix.Lt.og (l:X.Lt):X.od ≠ X.g:=Nat.ne_of_gt (Nat.lt_trans l.b (Nat.lt_trans l.c (Nat.lt_trans l.d l.e)))
theorem Ix.Lt.oi (l:X.Lt):X.od ≠ X.i:=Nat.ne_of_gt (Nat.lt_trans l.a (Nat.lt_trans l.b (Nat.lt_trans l.c (Nat.lt_trans l.d l.e))))
theorem Bo.here {es':bR} (b:Bo p n es gs os X σ):Bo p n es' gs os X (σ.set X.h (.dp es')):=
 ⟨bU b.lt.hi b.ns,bU b.lt.hg b.gv,bU (Nat.ne_of_gt b.lt.c) b.ot,sq b.hr,bU (Nat.ne_of_lt b.lt.d) b.go,bU b.lt.oh.symm b.od,b.lt⟩
theorem Bo.gone {gs':bR} (b:Bo p n es gs os X σ):Bo p n es gs' os X (σ.set X.gn (.dp gs')):=
 ⟨bU b.lt.gi b.ns,bU b.lt.gg b.gv,bU b.lt.go b.ot,bU (Nat.ne_of_gt b.lt.d) b.hr,sq b.go,bU (Nat.ne_of_lt b.lt.e) b.od,b.lt⟩
theorem Bo.order {os':List PV} (b:Bo p n es gs os X σ):Bo p n es gs os' X (σ.set X.od (.lst os')):=
 ⟨bU b.lt.oi b.ns,bU b.lt.og b.gv,bU b.lt.oo b.ot,bU b.lt.oh b.hr,bU (Nat.ne_of_gt b.lt.e) b.go,sq b.od,b.lt⟩
end
noncomputable def cS:c0->Bool
 | .word w=>w == "choose"
 | _=>false
noncomputable def lg:PV->Bool
 | .int i=>i == 0
 | _=>false
noncomputable def mM (es:bR) (s:aj) (t:Int):List Str:=
 if cS s.rule=true then (match s.needs with
  | [a,b,c]=>(match ah (a,t) es with
   | none=>[a]
   | some v=>if lg v=true then [b] else [c])
  | _=>[])
 else s.needs
noncomputable def cj (es:bR) (s:aj) (t:Int):Option Str:=(mM es s t).find? fun x=>(ah (x,t) es).isNone
noncomputable def kg (es gs:bR) (s:aj) (t:Int):Bool:=(ah (s.name,t) gs).isNone && (cj es s t).isNone
noncomputable def ae3:Option Str->PV
 | some x=>.str x
 | none=>.none
noncomputable def dO (es:bR):Prop:=∀ k v,ah k es=some v->∃ i:Int,v=.int i/\0 <= i/\i <= 999999
section
variable {p:List aj} {n:Nat} {es gs:bR} {os:List PV} {X:Ix} {σ:ac} {d:Nat}
theorem jk {x:Str} {t:Int} (b:Bo p n es gs os X σ):aG PP topN (d + 1) bx [.inst ae X.i,.str x,.int t] σ=.ok (.bool (ah (x,t) gs).isSome) σ:=by
 rw [a5 (fn:=fU) rfl rfl]
 have:ex (CC d) topN fU.body [some (.inst ae X.i),some (.str x),some (.int t)] σ=.ret (.bool (ah (x,t) gs).isSome) [some (.inst ae X.i),some (.str x),some (.int t)] σ:=
  ak (av (d4 (x:=.tup [.str x,.int t]) (σ₁:=σ) rfl (cE (i:=X.i) (σ₁:=σ) (v:=.ref X.gn) rfl b.ns rfl) (vz b.go)))
 exact (congrArg aQ this).trans rfl
theorem ae4 {r:Nat} {x:Str} {j:Int} {es:bR} (h:σ[r]?=some (.dp es)):br .notin (.tup [.str x,.int j]) (.ref r) σ=.ok (ah (x,j) es).isNone σ:=by
 show af.ofOpt ((bS (.tup [.str x,.int j]) (.ref r) σ).map (!·)) σ=_
 have:bS (.tup [.str x,.int j]) (.ref r) σ=some (ah (x,j) es).isSome:=by unfold bS; dsimp only; rw [h]; rfl
 rw [this]
 cases ah (x,j) es <;> rfl
theorem aaY {bnd:PV->aq->Option aq} {f:aq->ac->ba} {x v:PV} {xs:List PV} {ρ ρ₁ ρ₂:aq} {σ₂:ac} (hb:bnd x ρ=some ρ₁) (h:f ρ₁ σ=.ret v ρ₂ σ₂):aX none bnd f (x::xs) ρ σ=.ret v ρ₂ σ₂:=by
 refine (if_pos trivial).trans ?_
 rw [hb]; show p9 _ (f ρ₁ σ)=_; rw [h]; rfl
theorem ado {t:Int} {sp pl:PV} {y:Option PV} (b:Bo p n es gs os X σ):∀ (ns:List Str) (z:Option PV),∃ z',
  aX none (bE 5) (fun ρ σ=>ex (CC d) topN fh ρ σ) (ns.map .str) [some (.inst ae X.i),some sp,some (.int t),some pl,y,z] σ =
   match ns.find? fun x=>(ah (x,t) es).isNone with
   | some x=>.ret (.str x) [some (.inst ae X.i),some sp,some (.int t),some pl,y,z'] σ
   | none=>.next [some (.inst ae X.i),some sp,some (.int t),some pl,y,z'] σ:=by
 intro ns
 induction ns with
 | nil=>intro z; exact ⟨z,bB⟩
 | cons x ns ih =>
  intro z
  have tt:tst (CC d) (.cmp (.tup (.cons (.v 5) (.cons (.v 2) .nil))) .notin (.attr ae (.v 0) "here")) [some (.inst ae X.i),some sp,some (.int t),some pl,y,some (.str x)] σ=.ok (ah (x,t) es).isNone σ:=
   bj (x:=.tup [.str x,.int t]) (σ₁:=σ) rfl (cE (i:=X.i) (σ₁:=σ) (v:=.ref X.h) rfl b.ns rfl) (ae4 b.hr)
  rw [List.find?_cons]
  cases hq:(ah (x,t) es).isNone with
  | true =>
   rw [hq] at tt
   exact ⟨some (.str x),aaY (ρ₁:=[some (.inst ae X.i),some sp,some (.int t),some pl,y,some (.str x)]) rfl (ak (a:=eE) ((aH tt).trans (ak (av rfl))))⟩
  | false =>
   rw [hq] at tt
   obtain ⟨z',e⟩:=ih (some (.str x))
   exact ⟨z',(bf (ρ₁:=[some (.inst ae X.i),some sp,some (.int t),some pl,y,some (.str x)]) (ρ₂:=[some (.inst ae X.i),some sp,some (.int t),some pl,y,some (.str x)]) (σ₂:=σ) rfl ((aa (a:=eE) (ao tt)).trans aK)).trans e⟩
theorem afa {t:Int} {sp pl:PV} {y z:Option PV} {ns:List Str} (b:Bo p n es gs os X σ) (hp:evIt (CC d) (.v 3) [some (.inst ae X.i),some sp,some (.int t),some pl,y,z] σ=.ok (ns.map .str,none) σ) :
  aQ (ex (CC d) topN (.cons cJ (.cons dG .nil)) [some (.inst ae X.i),some sp,some (.int t),some pl,y,z] σ)=.ok (ae3 (ns.find? fun x=>(ah (x,t) es).isNone)) σ:=by
 obtain ⟨z',e⟩:=ado (d:=d) (t:=t) (sp:=sp) (pl:=pl) (y:=y) b ns z
 have e2:=bP (C:=CC d) (n:=topN) (i:=5) (body:=fh) hp e
 cases hq:ns.find? fun x=>(ah (x,t) es).isNone with
 | none =>
  rw [hq] at e2
  exact (congrArg aQ ((aa (a:=cJ) e2).trans (ak (a:=dG) (av rfl)))).trans rfl
 | some x =>
  rw [hq] at e2
  exact (congrArg aQ (ak (a:=cJ) e2)).trans rfl
theorem wm {r:c0} {k g:Nat} (h:ck r k g):∃ w,(∀ σ,eA r.pv (.int 0) σ=.ok (.str w) σ)/\(w == "choose")=cS r/\(cS r=true->k=3):=by
 cases h <;> first | exact ⟨_,fun zz=>rfl,rfl,fun z=>by contradiction⟩ | exact ⟨_,fun zz=>rfl,rfl,fun zz=>rfl⟩ | exact ⟨"fixed",fun zz=>rfl,by decide +kernel,fun z=>by contradiction⟩ | skip
 all_goals refine ⟨_,fun zz=>rfl,rfl,fun z=>?_⟩
 all_goals (revert z; decide +kernel)
noncomputable def jx (s:aj):Prop:=cS s.rule=false
theorem vq {s:aj} {t:Int} (b:Bo p n es gs os X σ) (hs:gb s) (hr:jx s) (hv:dO es):aG PP topN (d + 1) cR [.inst ae X.i,s.pv,.int t] σ=.ok (ae3 (cj es s t)) σ:=by
 rw [a5 (fn:=nQ) rfl rfl]
 show aQ (ex (CC d) topN (.cons fT (.cons fS (.cons cJ (.cons dG .nil)))) [some (.inst ae X.i),some s.pv,some (.int t),none,none,none] σ)=_
 obtain ⟨w,hw1,hw2,hw3⟩:=wm hs.rule
 rw [aa (a:=fT) (ρ':=[some (.inst ae X.i),some s.pv,some (.int t),some (.tup (s.needs.map .str)),none,none]) (σ':=σ) rfl]
 have tt:tst (CC d) (.cmp (.sub (.sub (.v 1) (.k (.int 1))) (.k (.int 0))) .eq (.k (.str "choose"))) [some (.inst ae X.i),some s.pv,some (.int t),some (.tup (s.needs.map .str)),none,none] σ=.ok (cS s.rule) σ:=by
  rw [<- hw2]
  exact bj (x:=.str w) (σ₁:=σ) (aU (x:=s.rule.pv) (σ₁:=σ) rfl (y:=.int 0) (σ₂:=σ) rfl (hw1 σ)) (y:=.str "choose") (σ₂:=σ) rfl zy
 unfold cj mM
 cases hc:cS s.rule with
 | false =>
  rw [hc] at tt
  rw [aa (a:=fS) (ao tt),if_neg (by decide)]
  exact afa b rfl
 | true =>
  rw [hc] at tt
  exact absurd (hc.symm.trans hr) (by decide)
theorem yx {s:aj} {t:Int} (b:Bo p n es gs os X σ) (hs:gb s) (hr:jx s) (hv:dO es):aG PP topN (d + 2) cX [.inst ae X.i,s.pv,.int t] σ=.ok (.bool (kg es gs s t)) σ:=by
 rw [a5 (fn:=kZ) rfl rfl]
 have e1:ev (CC (d + 1)) (.meth ae bx "has_fired" (.v 0) (.cons (.sub (.v 1) (.k (.int 0))) (.cons (.v 2) .nil))) [some (.inst ae X.i),some s.pv,some (.int t)] σ=.ok (.bool (ah (s.name,t) gs).isSome) σ:=
  bu (i:=X.i) (σ₁:=σ) (σ₂:=σ) (vs:=[.str s.name,.int t]) rfl b.ns rfl rfl (jk b)
 have e2:ev (CC (d + 1)) (.meth ae cR "missed" (.v 0) (.cons (.v 1) (.cons (.v 2) .nil))) [some (.inst ae X.i),some s.pv,some (.int t)] σ=.ok (ae3 (cj es s t)) σ:=
  bu (i:=X.i) (σ₁:=σ) (σ₂:=σ) (vs:=[s.pv,.int t]) rfl b.ns rfl rfl (vq b hs hr hv)
 have e3:ev (CC (d + 1)) (.not (.meth ae bx "has_fired" (.v 0) (.cons (.sub (.v 1) (.k (.int 0))) (.cons (.v 2) .nil)))) [some (.inst ae X.i),some s.pv,some (.int t)] σ=.ok (.bool (ah (s.name,t) gs).isNone) σ:=by
  rw [ai7,e1]
  cases ah (s.name,t) gs <;> rfl
 have e4:ev (CC (d + 1)) (.cmp (.meth ae cR "missed" (.v 0) (.cons (.v 1) (.cons (.v 2) .nil))) .is (.k .none)) [some (.inst ae X.i),some s.pv,some (.int t)] σ=.ok (.bool (cj es s t).isNone) σ:=
  d4 e2 (y:=.none) (σ₂:=σ) rfl (by cases cj es s t <;> rfl)
 exact (congrArg aQ (ak (a:=ip) (av (jX (nW e3 fun zz=>gN e4))))).trans rfl
end
end Mine
namespace Mine
open PySem
noncomputable def d8 (vs:List PV):List Int:=(bL vs).getD []
noncomputable def xI (l:List Int):Int:=l.foldl (fun a x=>a * x % 1000000) 1
noncomputable def qc:List Int->Int
 | []=>0
 | x::l=>l.foldl min x
noncomputable def tY:List Int->Int
 | []=>0
 | x::l=>l.foldl max x
theorem rT:∀ l:List Int,bL (l.map .int)=some l:=by
 intro l
 induction l with
 | nil=>rfl
 | cons x l ih=>show (bL (l.map .int)).map (x::·)=_; rw [ih]; rfl
theorem fE {l:List Int}:d8 (l.map .int)=l:=by unfold d8; rw [rT]; rfl
section
variable {d:Nat} {σ:ac}
theorem adc {pl:PV} {w:Option PV}:∀ (l:List Int) (a:Int) (z:Option PV),(0 <= a/\a <= 999999)->(∀ x ∈ l,0 <= x/\x <= 999999)->∃ z',aX none (bE 2) (fun ρ σ=>ex (CC d) topN pw ρ σ) (l.map .int) [some pl,some (.int a),z,w] σ=.next [some pl,some (.int (l.foldl (fun a x=>a * x % 1000000) a)),z',w] σ:=by
 intro l
 induction l with
 | nil=>intro a z _ _; exact ⟨z,bB⟩
 | cons x l ih =>
  intro a z ha hl
  have hb:0 <= a * x % 1000000/\a * x % 1000000 <= 999999:=⟨Int.emod_nonneg _ (by decide),Int.le_of_lt_add_one (Int.emod_lt_of_pos _ (by decide))⟩
  obtain ⟨z',e⟩:=ih (a * x % 1000000) (some (.int x)) hb fun y hy=>hl y (bJ _ hy)
  refine ⟨z',(bf (ρ₁:=[some pl,some (.int a),some (.int x),w]) (ρ₂:=[some pl,some (.int (a * x % 1000000)),some (.int x),w]) (σ₂:=σ) rfl ?_).trans e⟩
  refine (aa (a:=mX) (aE (az (az (x:=.int a) (σ₁:=σ) rfl (y:=.int x) (σ₂:=σ) rfl (mul_int (.inl ?_))) (y:=.int 1000000) (σ₂:=σ) rfl (bn (by decide))))).trans aK
  (grind)
theorem aeW {l:List Int} (h:∀ x ∈ l,0 <= x/\x <= 999999):aG PP topN (d + 1) wz [.fl (l.map .int)] σ=.ok (.int (xI l)) σ:=by
 rw [a5 (fn:=wG) rfl rfl]
 obtain ⟨z,e⟩:=adc (d:=d) (σ:=σ) (pl:=.fl (l.map .int)) (w:=none) l 1 none (by decide) h
 exact (congrArg aQ ((aa (a:=qo) (ρ':=[some (.fl (l.map .int)),some (.int 1),none,none]) (σ':=σ) rfl).trans ((aa (a:=qm) (bP (ys:=l.map .int) (σ₁:=σ) rfl e)).trans (ak (a:=ql) (av rfl))))).trans rfl
theorem sZ {l:List Int}:(be σ (.fl (l.map .int))).bind bL=some l:=rT l
theorem aie {l:List Int} (hl:l.length <= 1000) (h:∀ x ∈ l,0 <= x/\x <= 999999):cK .sum (.fl (l.map .int)) σ=.ok (.int l.sum) σ:=by
 show c9 bL (fun l=>if l.length <= 1000/\l.all (fun x=>decide (x.natAbs < 2 ^ 40)) then af.ok (PV.int l.sum) σ else .stuck) (.fl (l.map .int)) σ=_
 rw [jT sZ]
 refine if_pos ⟨hl,List.all_eq_true.mpr fun x hx=>decide_eq_true ?_⟩
 have:=h x hx
 (grind)
theorem aiF {x:Int} {l:List Int}:cK .min (.fl ((x::l).map .int)) σ=.ok (.int (qc (x::l))) σ:=by
 show c9 bL (fun l=>match l with
  | x::l=>af.ok (PV.int (l.foldl min x)) σ
  | []=>.stuck) (.fl ((x::l).map .int)) σ=_
 rw [jT sZ]; rfl
theorem aiI {x:Int} {l:List Int}:cK .max (.fl ((x::l).map .int)) σ=.ok (.int (tY (x::l))) σ:=by
 show c9 bL (fun l=>match l with
  | x::l=>af.ok (PV.int (l.foldl max x)) σ
  | []=>.stuck) (.fl ((x::l).map .int)) σ=_
 rw [jT sZ]; rfl
noncomputable def dh:c0->List PV->PV
 | .fixed v,_=>.int v
 | .word w,vs =>
  if w == ("sum" : Str) then .int ((d8 vs).sum % 1000000) else
  if w == ("times" : Str) then .int (xI (d8 vs)) else
  if w == ("least" : Str) then .int (qc (d8 vs)) else
  if w == ("most" : Str) then .int (tY (d8 vs)) else
  if w == ("choose" : Str) then (if lg (vs.getD 0 .none)=true then vs.getD 1 .none else vs.getD 2 .none) else
  vs.getD 0 .none
noncomputable def l7:c0->Bool
 | .word w=>w == "way"
 | _=>false
noncomputable def mc (r:c0) (vs:List PV) (k:Nat):List PV:=
 if l7 r=true then (if lg (vs.getD 1 .none)=true then [vs.getD 0 .none,.none] else [.none,vs.getD 0 .none]) else List.replicate k (dh r vs)
noncomputable def bA (v:PV):Prop:=∃ i:Int,v=.int i/\0 <= i/\i <= 999999
noncomputable def n4 (r:c0) (vs:List PV):Prop:=if cS r=true then bA (vs.getD 0 .none)/\bA (if lg (vs.getD 0 .none)=true then vs.getD 1 .none else vs.getD 2 .none) else ∀ v ∈ vs,bA v
theorem iy:∀ {vs:List PV},(∀ v ∈ vs,bA v)->∃ l:List Int,vs=l.map .int/\∀ x ∈ l,0 <= x/\x <= 999999:=by
 intro vs
 induction vs with
 | nil=>intro _; exact ⟨[],rfl,fun x hx=>by contradiction⟩
 | cons v vs ih =>
  intro h
  obtain ⟨l,rfl,hl⟩:=ih fun w hw=>h w (bJ _ hw)
  obtain ⟨i,rfl,hi⟩:=h v List.mem_cons_self
  exact ⟨i::l,rfl,fun x hx=>by
   rcases List.mem_cons.mp hx with rfl | hx
   ·exact hi
   ·exact hl x hx⟩
end
end Mine
namespace Mine
open PySem
section
variable {d:Nat} {σ:ac}
theorem bA.get {vs:List PV} {i:Nat} (h:∀ v ∈ vs,bA v) (hi:i < vs.length):∃ x:Int,vs.getD i .none=.int x/\vs[i]?=some (.int x):=by
 obtain ⟨x,hx,_⟩:=h vs[i] (List.getElem_mem hi)
 exact ⟨x,by rw [List.getD_eq_getElem?_getD,List.getElem?_eq_getElem hi]; exact hx,by rw [List.getElem?_eq_getElem hi,hx]⟩
theorem aih {vs:List PV} {i:Nat} {x:PV} (hl:vs.length <= 100) (h:vs[i]?=some x):eA (.fl vs) (.int (i:Nat)) σ=.ok x σ:=
 ke (aC hl (by decide)) (Int.natCast_nonneg i) (by rw [Int.toNat_natCast]; exact h)
theorem ahX {a b c:PV} (ha:∃ i:Int,a=.int i):aG PP topN (d + 1) yW [.fl [a,b,c]] σ=.ok (if lg a=true then b else c) σ:=by
 obtain ⟨i,rfl⟩:=ha
 rw [a5 (fn:=zu) rfl rfl]
 have t:tst (CC d) (.cmp (.sub (.v 0) (.k (.int 0))) .eq (.k (.int 0))) [some (.fl [.int i,b,c])] σ=.ok (i == 0) σ:=rfl
 show aQ (ex (CC d) topN (.cons i4 (.cons mH .nil)) [some (.fl [.int i,b,c])] σ)=.ok (if (i == 0)=true then b else c) σ
 cases hi:(i == 0) with
 | true =>
  rw [hi] at t
  exact (congrArg aQ (ak (a:=i4) ((aH t).trans (ak (a:=pG) (av (v:=b) (σ':=σ) rfl))))).trans rfl
 | false =>
  rw [hi] at t
  exact (congrArg aQ ((aa (a:=i4) (ao t)).trans (ak (a:=mH) (av (v:=c) (σ':=σ) rfl)))).trans rfl
theorem ag3 {r:c0} {vs:List PV} {k:Nat} (h:ck r vs.length k) (hw:l7 r=false) (hl:vs.length <= 100) (h1:1 <= vs.length) (he:n4 r vs):aG PP topN (d + 2) yU [r.pv,.fl vs] σ=.ok (dh r vs) σ:=by
 rw [a5 (fn:=zk) rfl rfl]
 show aQ (ex (CC (d + 1)) topN (.cons cA (.cons cz (.cons cN (.cons dx (.cons et (.cons fY (.cons iX (.cons mr .nil)))))))) [some r.pv,some (.fl vs),none,none,none,none,none,none,none] σ)=_
 generalize hk:vs.length=m at h
 cases h with
 | sum _ _ =>
  obtain ⟨l,rfl,hv⟩:=iy (show ∀ v ∈ vs,bA v from he)
  have e:ev (CC (d + 1)) (.bin .mod (.b1 .sum (.v 1)) (.k (.int 1000000))) [some (c0.pv (.word "sum")),some (.fl (l.map .int)),some (.str "sum"),none,none,none,none,none,none] σ=.ok (.int (l.sum % 1000000)) σ:=
   az (cZ (x:=.fl (l.map .int)) (σ₁:=σ) rfl (aie (by rw [List.length_map] at hl; (exact aC (by assumption) (by decide))) hv)) (y:=.int 1000000) (σ₂:=σ) rfl (bn (by decide))
  refine (congrArg aQ ((aa (a:=cA) (aE (v:=.str "sum") (σ':=σ) rfl)).trans (ak (a:=cz) ((aH (σ':=σ) rfl).trans (ak (a:=pu) (av e)))))).trans ?_
  show af.ok (PV.int (l.sum % 1000000)) σ=af.ok (.int ((d8 (l.map .int)).sum % 1000000)) σ
  rw [fE]
 | times _ _ =>
  obtain ⟨l,rfl,hv⟩:=iy (show ∀ v ∈ vs,bA v from he)
  refine (congrArg aQ ((aa (a:=cA) (aE (v:=.str "times") (σ':=σ) rfl)).trans ((aa (a:=cz) (ao (σ':=σ) rfl)).trans (ak (a:=cN) ((aH (σ':=σ) rfl).trans (ak (a:=pr) (av (bD (x:=.fl (l.map .int)) (σ₁:=σ) rfl (aeW hv))))))))).trans ?_
  show af.ok (PV.int (xI l)) σ=af.ok (.int (xI (d8 (l.map .int)))) σ
  rw [fE]
 | least _ _ =>
  obtain ⟨l,rfl,hv⟩:=iy (show ∀ v ∈ vs,bA v from he)
  cases l with
  | nil=>exact absurd h1 (by decide)
  | cons x l =>
  refine (congrArg aQ ((aa (a:=cA) (aE (v:=.str "least") (σ':=σ) rfl)).trans ((aa (a:=cz) (ao (σ':=σ) rfl)).trans ((aa (a:=cN) (ao (σ':=σ) rfl)).trans
   (ak (a:=dx) ((aH (σ':=σ) rfl).trans (ak (a:=pq) (av (cZ (x:=.fl ((x::l).map .int)) (σ₁:=σ) rfl aiF))))))))).trans ?_
  show af.ok (PV.int (qc (x::l))) σ=af.ok (.int (qc (d8 ((x::l).map .int)))) σ
  rw [fE]
 | most _ _ =>
  obtain ⟨l,rfl,hv⟩:=iy (show ∀ v ∈ vs,bA v from he)
  cases l with
  | nil=>exact absurd h1 (by decide)
  | cons x l =>
  refine (congrArg aQ ((aa (a:=cA) (aE (v:=.str "most") (σ':=σ) rfl)).trans ((aa (a:=cz) (ao (σ':=σ) rfl)).trans ((aa (a:=cN) (ao (σ':=σ) rfl)).trans ((aa (a:=dx) (ao (σ':=σ) rfl)).trans
   (ak (a:=et) ((aH (σ':=σ) rfl).trans (ak (a:=pn) (av (cZ (x:=.fl ((x::l).map .int)) (σ₁:=σ) rfl aiI)))))))))).trans ?_
  show af.ok (PV.int (tY (x::l))) σ=af.ok (.int (tY (d8 ((x::l).map .int)))) σ
  rw [fE]
 | later _ =>
  have hx:vs[0]?=some (vs.getD 0 .none):=by rw [List.getD_eq_getElem?_getD,List.getElem?_eq_getElem (show 0 < vs.length from h1)]; rfl
  exact (congrArg aQ ((aa (a:=cA) (aE (v:=.str "later") (σ':=σ) rfl)).trans ((aa (a:=cz) (ao (σ':=σ) rfl)).trans ((aa (a:=cN) (ao (σ':=σ) rfl)).trans ((aa (a:=dx) (ao (σ':=σ) rfl)).trans ((aa (a:=et) (ao (σ':=σ) rfl)).trans
   ((aa (a:=fY) (ao (σ':=σ) rfl)).trans ((aa (a:=iX) (ao (σ':=σ) rfl)).trans (ak (a:=mr) (av (aU (x:=.fl vs) (σ₁:=σ) rfl (y:=.int ((0:Nat):Int)) (σ₂:=σ) rfl (aih hl hx)))))))))))).trans rfl
 | way=>contradiction
 | choose _ =>
  obtain ⟨i,hi,_⟩:=(show bA (vs.getD 0 .none) from And.left he)
  obtain ⟨a,b,c,rfl⟩:=afe hk
  exact (congrArg aQ ((aa (a:=cA) (aE (v:=.str "choose") (σ':=σ) rfl)).trans ((aa (a:=cz) (ao (σ':=σ) rfl)).trans ((aa (a:=cN) (ao (σ':=σ) rfl)).trans ((aa (a:=dx) (ao (σ':=σ) rfl)).trans ((aa (a:=et) (ao (σ':=σ) rfl)).trans
   ((aa (a:=fY) (ao (σ':=σ) rfl)).trans (ak (a:=iX) ((aH (σ':=σ) rfl).trans (ak (a:=pi) (av (bD (x:=.fl [a,b,c]) (σ₁:=σ) rfl (ahX ⟨i,hi⟩))))))))))))).trans rfl
 | fixed v _ _ _ _ =>
  exact (congrArg aQ ((aa (a:=cA) (aE (v:=.str "fixed") (σ':=σ) rfl)).trans ((aa (a:=cz) (ao (σ':=σ) rfl)).trans ((aa (a:=cN) (ao (σ':=σ) rfl)).trans ((aa (a:=dx) (ao (σ':=σ) rfl)).trans ((aa (a:=et) (ao (σ':=σ) rfl)).trans
   (ak (a:=fY) ((aH (σ':=σ) rfl).trans (ak (a:=pj) (av (v:=.int v) (σ':=σ) rfl)))))))))).trans rfl
theorem aeZ {r:c0} {vs:List PV} {k:Nat} (h:ck r vs.length k) (hl:vs.length <= 100) (h1:1 <= vs.length) (hk:k <= 100) (he:n4 r vs):aG PP topN (d + 3) qe [r.pv,.fl vs,.int (k:Nat)] σ=.ok (.fl (mc r vs k)) σ:=by
 rw [a5 (fn:=wH) rfl rfl]
 show aQ (ex (CC (d + 2)) topN (.cons fc (.cons kv (.cons ku .nil))) [some r.pv,some (.fl vs),some (.int (k:Nat)),none,none,none] σ)=_
 have tt:tst (CC (d + 2)) (.cmp (.sub (.v 0) (.k (.int 0))) .eq (.k (.str "way"))) [some r.pv,some (.fl vs),some (.int (k:Nat)),none,none,none] σ=.ok (l7 r) σ:=by
  generalize vs.length=m at h
  cases h <;> rfl
 unfold mc
 cases hw:l7 r with
 | true =>
  rw [hw] at tt
  rw [if_pos rfl]
  generalize hm:vs.length=m at h
  cases h with
  | way =>
   obtain ⟨a,b,rfl⟩:=aiO hm
   obtain ⟨j,rfl,_⟩:=(show ∀ v ∈ [a,b],bA v from he) b (by simp)
   have t2:tst (CC (d + 2)) (.cmp (.sub (.v 1) (.k (.int 1))) .eq (.k (.int 0))) [some (c0.pv (.word "way")),some (.fl [a,.int j]),some (.int ((2:Nat):Int)),none,none,none] σ=.ok (j == 0) σ:=rfl
   show _=af.ok (PV.fl (if (j == 0)=true then [a,.none] else [.none,a])) σ
   cases hj:(j == 0) with
   | true =>
    rw [hj] at t2
    exact (congrArg aQ (ak (a:=fc) ((aH tt).trans (ak (a:=iH) ((aH t2).trans (ak (a:=kx) (av (v:=.fl [a,.none]) (σ':=σ) rfl))))))).trans rfl
   | false =>
    rw [hj] at t2
    exact (congrArg aQ (ak (a:=fc) ((aH tt).trans ((aa (a:=iH) (ao t2)).trans (ak (a:=mY) (av (v:=.fl [.none,a]) (σ':=σ) rfl)))))).trans rfl
  | _=>contradiction
 | false =>
  rw [hw] at tt
  rw [if_neg (by decide)]
  have s1:ex (CC (d + 2)) topN kv [some r.pv,some (.fl vs),some (.int (k:Nat)),none,none,none] σ=.next [some r.pv,some (.fl vs),some (.int (k:Nat)),some (dh r vs),none,none] σ:=
   aE (fG (x:=r.pv) (y:=.fl vs) (σ₁:=σ) (σ₂:=σ) rfl rfl (ag3 h hw hl h1 he))
  have rng:evIt (CC (d + 2)) (.range1 (.v 2)) [some r.pv,some (.fl vs),some (.int (k:Nat)),some (dh r vs),none,none] σ=.ok (aL 0 1 k,none) σ:=by
   show (if 0 <= (k:Int)/\(k:Int) <= au then af.ok (aL 0 1 (k:Int).toNat,none) σ else .stuck)=_
   rw [if_pos ⟨by (exact Int.natCast_nonneg _),by rw [bV]; (grind)⟩]; rfl
  have c:ev (CC (d + 2)) qv [some r.pv,some (.fl vs),some (.int (k:Nat)),some (dh r vs),none,none] σ=.ok (.fl ((aL 0 1 k).map fun zz=>dh r vs)) σ:=
   o7 (fun zz=>dh r vs) rng (by rw [bV]; simp [aL]; (exact aC (by assumption) (by decide))) fun x zz=>rfl
  rw [List.map_const',show (aL 0 1 k).length=k by simp [aL]] at c
  exact (congrArg aQ ((aa (a:=fc) (ao tt)).trans ((aa s1).trans (ak (a:=ku) (av c))))).trans rfl
end
end Mine
namespace Mine
open PySem
section
variable {p:List aj} {n:Nat} {es gs:bR} {os:List PV} {X:Ix} {σ:ac} {d:Nat}
theorem eV {t:Int} (b:Bo p n es gs os X σ) (h0:0 <= t) (h1:t < n):aG PP topN (d + 2) cI [.inst ae X.i,.int t] σ=.ok .none σ:=by
 rw [a5 (fn:=jI) rfl rfl]
 have c:aG PP topN (d + 1) cV [.int t,.int 0,.int ((n:Int) - 1)] σ=.ok (.bool true) σ:=by
  rw [agF,decide_eq_true h0,decide_eq_true (show t <= (n:Int) - 1 by grind)]; rfl
 have tt:tst (CC (d + 1)) (.not (.call cV (.cons (.v 1) (.cons (.k (.int 0)) (.cons (.bin .sub (.attr ae (.v 0) "turns") (.k (.int 1))) .nil))))) [some (.inst ae X.i),some (.int t),none,none] σ=.ok (!true) σ:=
  dE (eN (eu (x:=.int t) (σ₁:=σ) rfl (y:=.int 0) (σ₂:=σ) rfl (az (cE (i:=X.i) (σ₁:=σ) (v:=.int n) rfl b.ns rfl) (y:=.int 1) (σ₂:=σ) rfl sub_int) c))
 exact (congrArg aQ ((aa (a:=hZ) (ao tt)).trans aK)).trans rfl
theorem acQ {i:Nat} {s:aj}:∀ (q:List aj) (z:Option PV),s ∈ q->(q.map (·.name)).Nodup->∃ z',aX none (bE 2) (fun ρ σ=>ex (CC d) topN fO ρ σ) (q.map aj.pv) [some (.inst ae i),some (.str s.name),z,none,none,none] σ=.ret s.pv [some (.inst ae i),some (.str s.name),z',none,none,none] σ:=by
 intro q
 induction q with
 | nil=>intro z h _; contradiction
 | cons a q ih =>
  intro z h hn
  rw [List.map_cons,List.nodup_cons] at hn
  have tt:tst (CC d) (.cmp (.sub (.v 2) (.k (.int 0))) .eq (.v 1)) [some (.inst ae i),some (.str s.name),some a.pv,none,none,none] σ=.ok (a.name == s.name) σ:=rfl
  by_cases ha:a.name=s.name
  ·have:a=s:=by
    rcases List.mem_cons.mp h with rfl | h
    ·rfl
    ·exact absurd (List.mem_map.mpr ⟨s,h,ha.symm⟩) hn.1
   subst this
   rw [beq_self_eq_true] at tt
   exact ⟨some a.pv,aaY (ρ₁:=[some (.inst ae i),some (.str a.name),some a.pv,none,none,none]) rfl (ak (a:=cY) ((aH tt).trans (ak (a:=ef) (av rfl))))⟩
  ·rw [beq_eq_false_iff_ne.mpr ha] at tt
   obtain ⟨z',e⟩:=ih (some a.pv) ((List.mem_cons.mp h).resolve_left fun q=>ha (q ▸ rfl)) hn.2
   exact ⟨z',(bf (ρ₁:=[some (.inst ae i),some (.str s.name),some a.pv,none,none,none]) (ρ₂:=[some (.inst ae i),some (.str s.name),some a.pv,none,none,none]) (σ₂:=σ) rfl ((aa (a:=cY) (ao tt)).trans aK)).trans e⟩
theorem aaN {o:Mine.X} {ρ:aq} (b:Bo p n es gs os X σ) (ho:ev (CC d) o ρ σ=.ok (.inst ae X.i) σ):evIt (CC d) (.attr ae o "plan") ρ σ=.ok (p.map aj.pv,none) σ:=by
 show (ev (CC d) (.attr ae o "plan") ρ σ).bind rD=_
 rw [cE (v:=aW p) ho b.ns rfl]; rfl
theorem oC {s:aj} (b:Bo p n es gs os X σ) (hs:s ∈ p) (hn:(p.map (·.name)).Nodup):aG PP topN (d + 1) fQ [.inst ae X.i,.str s.name] σ=.ok s.pv σ:=by
 rw [a5 (fn:=jJ) rfl rfl]
 obtain ⟨z,e⟩:=acQ (d:=d) (σ:=σ) (i:=X.i) p none hs hn
 have e2:ex (CC d) topN f9 [some (.inst ae X.i),some (.str s.name),none,none,none,none] σ=.ret s.pv [some (.inst ae X.i),some (.str s.name),z,none,none,none] σ:=
  bP (ys:=p.map aj.pv) (σ₁:=σ) (aaN b rfl) e
 exact (congrArg aQ (ak (a:=ia) ((aH (σ':=σ) rfl).trans (ak e2)))).trans rfl
theorem kc {C:aV} {c f:Nat} {m:Str} {o args:Mine.X} {ρ:aq} {q:Bool} {σ₁:ac} (h:ev C (.meth c f m o args) ρ σ=.ok (.bool q) σ₁):tst C (.meth c f m o args) ρ σ=.ok q σ₁:=by
 show (ev C (.meth c f m o args) ρ σ).bind cU=_
 rw [h]; rfl
noncomputable def cw (es:bR) (s:aj) (t:Int):List PV:=s.needs.map fun x=>(ah (x,t) es).getD .none
noncomputable def bw (s:aj) (t:Int):Int:=t + (if d7 s.rule=true then 1 else 0)
noncomputable def dW (w:Int) (es:bR) (e:Str × PV):bR:=if bW e.2=true then es else bQ (e.1,w) e.2 es
noncomputable def b7 (n:Nat) (es:bR) (s:aj) (t:Int):bR:=if bw s t=n then es else (s.gives.zip (mc s.rule (cw es s t) s.gives.length)).foldl (dW (bw s t)) es
theorem wM {s:aj} {t:Int} (hs:gb s) (hv:dO es) (hm:cj es s t=none):n4 s.rule (cw es s t):=by
 unfold n4
 unfold cj mM at hm
 rw [List.find?_eq_none] at hm
 have got:∀ x,¬ (ah (x,t) es).isNone=true->bA ((ah (x,t) es).getD .none):=fun x hx=>by
  cases ha:ah (x,t) es with
  | none=>rw [ha] at hx; exact absurd rfl hx
  | some v=>exact hv _ _ ha
 obtain ⟨_,_,_,h3⟩:=wm hs.rule
 cases hc:cS s.rule with
 | false =>
  rw [hc,if_neg (by decide)] at hm
  rw [if_neg (by decide)]
  intro v hv'
  obtain ⟨x,hx,rfl⟩:=List.mem_map.mp hv'
  exact got x (hm x hx)
 | true =>
  rw [hc,if_pos rfl] at hm
  rw [if_pos rfl]
  have h3:=h3 hc
  obtain ⟨nm,rl,ns,gv⟩:=s
  dsimp only at h3 hm
  obtain ⟨x,y,z,rfl⟩:=afe (show ns.length=3 from h3)
  dsimp only at hm
  cases ha:ah (x,t) es with
  | none =>
   rw [ha] at hm
   exact absurd (by rw [ha]; rfl) (hm x (by simp))
  | some v =>
   rw [ha] at hm
   show bA ((ah (x,t) es).getD .none)/\bA (if lg ((ah (x,t) es).getD .none)=true then (ah (y,t) es).getD .none else (ah (z,t) es).getD .none)
   rw [ha]
   refine ⟨hv _ _ ha,?_⟩
   dsimp only at hm
   show bA (if lg v=true then (ah (y,t) es).getD .none else (ah (z,t) es).getD .none)
   cases hz:lg v with
   | true=>rw [hz] at hm; exact got y (hm y (by simp))
   | false=>rw [hz] at hm; exact got z (hm z (by simp))
theorem yz {w:Int} {es:bR} {e:Str × PV}:(dW w es e).length <= es.length + 1:=by
 unfold dW
 split
 ·exact Nat.le_succ _
 ·unfold bQ
  split
  ·rw [List.length_map]; exact Nat.le_succ _
  ·rw [List.length_append]; exact Nat.le_refl _
theorem aeU {w:Int}:∀ (l:List (Str × PV)) (es:bR),(l.foldl (dW w) es).length <= es.length + l.length:=by
 intro l
 induction l with
 | nil=>intro es; exact Nat.le_refl _
 | cons e l ih =>
  intro es
  rw [List.foldl_cons,List.length_cons]
  have h1:=ih (dW w es e)
  have h2:=yz (w:=w) (es:=es) (e:=e)
  (grind)
theorem afs {w:Option (Nat × MO)} {bnd:PV->aq->Option aq} {f:aq->ac->ba} {ρ:aq} (hw:dg w σ):aX w bnd f [] ρ σ=.next ρ σ:=if_pos hw
theorem adX {w:Option (Nat × MO)} {bnd:PV->aq->Option aq} {f:aq->ac->ba} {x:PV} {xs:List PV} {ρ ρ₁ ρ₂:aq} {σ₂:ac} (hw:dg w σ) (hb:bnd x ρ=some ρ₁) (h:f ρ₁ σ=.next ρ₂ σ₂):aX w bnd f (x::xs) ρ σ=aX w bnd f xs ρ₂ σ₂:=by
 refine (if_pos hw).trans ?_
 rw [hb]; show p9 _ (f ρ₁ σ)=_; rw [h]; rfl
noncomputable def RF (i:Nat) (nm:Str) (t:Int) (sp:PV) (pl vs:Option PV) (w:Option PV) (v:Option PV):aq:=[some (.inst ae i),some (.str nm),some (.int t),some sp,pl,vs,w,v,none,none,none,none,none,none]
theorem adR {j:Nat} {nm:Str} {t w:Int} {sp:PV} {vs:Option PV} (hj:j ≠ X.h):∀ (l:List (Str × PV)) (es:bR) (σ:ac) (y z:Option PV),σ[j]?=some .tp->Bo p n es gs os X σ->es.length + l.length < 900000 ->
  ∃ y' z' σ',aX (some (j,.tp)) (fJ [4,7]) (fun ρ σ=>ex (CC d) topN gw ρ σ) (l.map fun e=>.tup [.str e.1,e.2]) (RF X.i nm t sp y vs (some (.int w)) z) σ=.next (RF X.i nm t sp y' vs (some (.int w)) z') σ'/\Bo p n (l.foldl (dW w) es) gs os X σ'/\c7 X σ σ':=by
 intro l
 induction l with
 | nil=>intro es σ y z hw b _; exact ⟨y,z,σ,afs hw,b,.refl⟩
 | cons e l ih =>
  intro es σ y z hw b hl
  rw [List.length_cons] at hl
  obtain ⟨x,v⟩:=e
  have tt:tst (CC d) (.cmp (.v 7) .isNot (.k .none)) (RF X.i nm t sp (some (.str x)) vs (some (.int w)) (some v)) σ=.ok (!bW v) σ:=rfl
  have hb:fJ [4,7] (.tup [.str x,v]) (RF X.i nm t sp y vs (some (.int w)) z)=some (RF X.i nm t sp (some (.str x)) vs (some (.int w)) (some v)):=rfl
  have fin:∀ {es':bR} {σ₁:ac},es'=dW w es (x,v)->ex (CC d) topN jK (RF X.i nm t sp (some (.str x)) vs (some (.int w)) (some v)) σ=.next (RF X.i nm t sp (some (.str x)) vs (some (.int w)) (some v)) σ₁->Bo p n es' gs os X σ₁->c7 X σ σ₁->σ₁[j]?=some .tp ->
    ∃ y' z' σ',aX (some (j,.tp)) (fJ [4,7]) (fun ρ σ=>ex (CC d) topN gw ρ σ) (((x,v)::l).map fun e=>.tup [.str e.1,e.2]) (RF X.i nm t sp y vs (some (.int w)) z) σ=.next (RF X.i nm t sp y' vs (some (.int w)) z') σ'/\Bo p n (((x,v)::l).foldl (dW w) es) gs os X σ'/\c7 X σ σ':=fun {es' σ₁} he h b1 k1 hw1=>by
   subst he
   obtain ⟨y',z',σ',e,b',k'⟩:=ih (dW w es (x,v)) σ₁ (some (.str x)) (some v) hw1 b1 (by have:=yz (w:=w) (es:=es) (e:=(x,v)); (grind))
   exact ⟨y',z',σ',(adX (w:=some (j,.tp)) hw hb ((aa h).trans aK)).trans e,b',k1.trans k'⟩
  cases hv:bW v with
  | true =>
   rw [hv] at tt
   exact fin (es':=es) (by unfold dW; exact (if_pos hv).symm) (ao tt) b .refl hw
  | false =>
   rw [hv] at tt
   refine fin (es':=bQ (x,w) v es) (σ₁:=σ.set X.h (.dp (bQ (x,w) v es))) (by unfold dW; exact (if_neg (by rw [hv]; decide)).symm) ((aH tt).trans ((aa (a:=iq) ?_).trans aK)) b.here (.set (.inl rfl)) (bU (Ne.symm hj) hw)
   have ahr:ev (CC d) (.attr ae (.v 0) "here") (RF X.i nm t sp (some (.str x)) vs (some (.int w)) (some v)) σ=.ok (.ref X.h) σ:=cE (i:=X.i) (σ₁:=σ) rfl b.ns rfl
   show (ev (CC d) (.v 7) (RF X.i nm t sp (some (.str x)) vs (some (.int w)) (some v)) σ).toS _ (fun v σ=>(ev (CC d) (.attr ae (.v 0) "here") (RF X.i nm t sp (some (.str x)) vs (some (.int w)) (some v)) σ).toS _ fun o σ=>(ev (CC d) (.tup (.cons (.v 4) (.cons (.v 6) .nil))) (RF X.i nm t sp (some (.str x)) vs (some (.int w)) (some v)) σ).toS _ fun i σ=>bp o i v _ σ)=_
   rw [show ev (CC d) (.v 7) (RF X.i nm t sp (some (.str x)) vs (some (.int w)) (some v)) σ=.ok v σ from rfl,cH,ahr,cH,show ev (CC d) (.tup (.cons (.v 4) (.cons (.v 6) .nil))) (RF X.i nm t sp (some (.str x)) vs (some (.int w)) (some v)) σ=.ok (.tup [.str x,.int w]) σ from rfl,cH]
   exact sa b.hr (by rw [bV]; (grind))
theorem j0 {r:Nat} {xs:List PV} {v:PV} (h:σ[r]?=some (.lst xs)) (hl:xs.length < 900000):mV .append (.ref r) [v] σ=.ok .none (σ.set r (.lst (xs++[v]))):=by
 show iP (.ref r) v σ=_
 unfold iP; dsimp only; rw [h]; dsimp only
 exact if_pos (by rw [bV]; (exact aC (by assumption) (by decide)))
theorem vm {r:Nat} {xs:List PV} (h:σ[r]?=some (.lst xs)):sk .append (.ref r) σ=true:=by
 show jV (.ref r) σ=true
 unfold jV; dsimp only; rw [h]
theorem oH {r:c0} {k g:Nat} (h:ck r k g):∃ w,(∀ σ,eA r.pv (.int 0) σ=.ok (.str w) σ)/\(w == "later")=d7 r:=by
 cases h <;> first | exact ⟨_,fun zz=>rfl,rfl⟩ | exact ⟨"fixed",fun zz=>rfl,by decide +kernel⟩
theorem aba:∀ (a:List Str) (b:List PV),gQ (a.map .str) b=(a.zip b).map fun e=>.tup [.str e.1,e.2]:=by
 intro a
 induction a with
 | nil=>intro b; cases b <;> rfl
 | cons x a ih =>
  intro b
  cases b with
  | nil=>rfl
  | cons y b=>exact congrArg (_::·) (ih b)
theorem ae0 {r:c0} {vs:List PV} {k g:Nat} (h:ck r k g):(mc r vs g).length=g:=by
 unfold mc
 cases hw:l7 r with
 | false=>rw [if_neg (by decide)]; exact List.length_replicate
 | true =>
  rw [if_pos rfl]
  cases h <;> first | contradiction | (split <;> rfl)
structure Did (p:List aj) (n:Nat) (es gs:bR) (os:List PV) (X:Ix) (σ:ac) (r:af PV) (v:PV) (σ':ac):Prop where
 e:r=.ok v σ'
 b:Bo p n es gs os X σ'
 k:c7 X σ σ'
theorem aj2 {s:aj} {t:Int} (hp:cF p) (b:Bo p n es gs os X σ) (hs:s ∈ p) (hr:jx s) (hv:dO es) (h0:0 <= t) (h1:t < n) (hg:ah (s.name,t) gs=none) (hm:cj es s t=none)
  (l1:es.length < 800000) (l2:gs.length < 800000) (l3:os.length < 800000) :
  ∃ σ',Did p n (b7 n es s t) (gs++[((s.name,t),.bool true)]) (os++[.tup [.str s.name,.int t]]) X σ (aG PP topN (d + 4) qf [.inst ae X.i,.str s.name,.int t] σ) .none σ':=by
 have so:=hp.steps s hs
 rw [a5 (fn:=k6) rfl rfl]
 have s0:ex (CC (d + 3)) topN lS [some (.inst ae X.i),some (.str s.name),some (.int t),none,none,none,none,none,none,none,none,none,none,none] σ=.next (RF X.i s.name t s.pv none none none none) σ:=
  aE (bu (i:=X.i) (σ₁:=σ) (σ₂:=σ) (vs:=[.str s.name]) rfl b.ns rfl rfl (oC b hs hp.names))
 have s1:ex (CC (d + 3)) topN lR (RF X.i s.name t s.pv none none none none) σ=.next (RF X.i s.name t s.pv none none none none) σ:=
  bX (bu (i:=X.i) (σ₁:=σ) (σ₂:=σ) (vs:=[.int t]) rfl b.ns rfl rfl (eV b h0 h1))
 have s2:ex (CC (d + 3)) topN lQ (RF X.i s.name t s.pv none none none none) σ=.next (RF X.i s.name t s.pv none none none none) σ:=by
  have c:=jk (d:=d + 2) (x:=s.name) (t:=t) b
  rw [hg] at c
  exact (ao (kc (bu (i:=X.i) (σ₁:=σ) (σ₂:=σ) (vs:=[.str s.name,.int t]) rfl b.ns rfl rfl c)))
 have s3:ex (CC (d + 3)) topN lP (RF X.i s.name t s.pv none none none none) σ=.next (RF X.i s.name t s.pv none none none none) σ:=by
  have c:=vq (d:=d + 2) (t:=t) b so hr hv
  rw [hm] at c
  exact (ao (bj (bu (i:=X.i) (σ₁:=σ) (σ₂:=σ) (vs:=[s.pv,.int t]) rfl b.ns rfl rfl c) (y:=.none) (σ₂:=σ) rfl rfl))
 have s4:ex (CC (d + 3)) topN lO (RF X.i s.name t s.pv none none none none) σ=.next (RF X.i s.name t s.pv none none none none) (σ.set X.gn (.dp (gs++[((s.name,t),.bool true)]))):=by
  have ag:ev (CC (d + 3)) (.attr ae (.v 0) "gone") (RF X.i s.name t s.pv none none none none) σ=.ok (.ref X.gn) σ:=cE (i:=X.i) (σ₁:=σ) rfl b.ns rfl
  show (af.ok (PV.bool true) σ).toS _ (fun v σ=>(ev (CC (d + 3)) (.attr ae (.v 0) "gone") (RF X.i s.name t s.pv none none none none) σ).toS _ fun o σ=>(ev (CC (d + 3)) (.tup (.cons (.v 1) (.cons (.v 2) .nil))) (RF X.i s.name t s.pv none none none none) σ).toS _ fun i σ=>bp o i v _ σ)=_
  rw [cH,ag,cH,show ev (CC (d + 3)) (.tup (.cons (.v 1) (.cons (.v 2) .nil))) (RF X.i s.name t s.pv none none none none) σ=.ok (.tup [.str s.name,.int t]) σ from rfl,cH,sa b.go (by rw [bV]; (exact aC (by assumption) (by decide))),v8 hg]
 have b1:Bo p n es (gs++[((s.name,t),.bool true)]) os X (σ.set X.gn (.dp (gs++[((s.name,t),.bool true)]))):=b.gone
 have k1:c7 X σ (σ.set X.gn (.dp (gs++[((s.name,t),.bool true)]))):=.set (.inr (.inl rfl))
 generalize σ.set X.gn (.dp (gs++[((s.name,t),.bool true)]))=σ1 at s4 b1 k1
 generalize gs++[((s.name,t),.bool true)]=gs1 at b1 ⊢
 have s5:ex (CC (d + 3)) topN lN (RF X.i s.name t s.pv none none none none) σ1=.next (RF X.i s.name t s.pv none none none none) (σ1.set X.od (.lst (os++[.tup [.str s.name,.int t]]))):=
  bX (o6 (cE (i:=X.i) (σ₁:=σ1) (v:=.ref X.od) rfl b1.ns rfl) (vm b1.od) (y:=.tup [.str s.name,.int t]) (σ₂:=σ1) rfl (j0 b1.od (by (exact aC (by assumption) (by decide)))))
 have b2:Bo p n es gs1 (os++[.tup [.str s.name,.int t]]) X (σ1.set X.od (.lst (os++[.tup [.str s.name,.int t]]))):=b1.order
 have k2:=k1.trans (c7.set (X:=X) (σ:=σ1) (m:=.lst (os++[.tup [.str s.name,.int t]])) (.inr (.inr rfl)))
 generalize σ1.set X.od (.lst (os++[.tup [.str s.name,.int t]]))=σ2 at s5 b2 k2
 generalize os++[.tup [.str s.name,.int t]]=os1 at b2 ⊢
 have nl:(s.needs.map PV.str).length <= au:=by rw [List.length_map]; exact aC so.needs4 (by decide)
 have s6:ex (CC (d + 3)) topN lM (RF X.i s.name t s.pv none none none none) σ2=.next (RF X.i s.name t s.pv none (some (.fl (cw es s t))) none none) σ2:=by
  have c:ev (CC (d + 3)) lT (RF X.i s.name t s.pv none none none none) σ2=.ok (.fl ((s.needs.map PV.str).map fun v=>match v with | .str x=>(ah (x,t) es).getD .none | _=>.none)) σ2:=
   o7 (xs:=s.needs.map .str) _ rfl nl fun v hv'=>by
    obtain ⟨x,_,rfl⟩:=List.mem_map.mp hv'
    exact o6 (cE (i:=X.i) (σ₁:=σ2) (v:=.ref X.h) rfl b2.ns rfl) (adT b2.hr) (y:=.tup [.str x,.int t]) (σ₂:=σ2) rfl (adN b2.hr)
  rw [List.map_map] at c
  exact aE c
 obtain ⟨w,hw1,hw2⟩:=oH so.rule
 have s7:ex (CC (d + 3)) topN lL (RF X.i s.name t s.pv none (some (.fl (cw es s t))) none none) σ2=.next (RF X.i s.name t s.pv none (some (.fl (cw es s t))) (some (.int (bw s t))) none) σ2:=by
  have c:ev (CC (d + 3)) (.cmp (.sub (.sub (.v 3) (.k (.int 1))) (.k (.int 0))) .eq (.k (.str "later"))) (RF X.i s.name t s.pv none (some (.fl (cw es s t))) none none) σ2=.ok (.bool (d7 s.rule)) σ2:=by
   rw [<- hw2]
   exact d4 (aU (x:=s.rule.pv) (σ₁:=σ2) rfl (y:=.int 0) (σ₂:=σ2) rfl (hw1 σ2)) (y:=.str "later") (σ₂:=σ2) rfl zy
  exact aE (az (x:=.int t) (σ₁:=σ2) rfl (cZ c int_bool) add_int)
 have t8:tst (CC (d + 3)) (.cmp (.v 6) .eq (.attr ae (.v 0) "turns")) (RF X.i s.name t s.pv none (some (.fl (cw es s t))) (some (.int (bw s t))) none) σ2=.ok (bw s t == (n:Int)) σ2:=
  bj (x:=.int (bw s t)) (σ₁:=σ2) rfl (cE (i:=X.i) (σ₁:=σ2) (v:=.int n) rfl b2.ns rfl) dN
 have pre:∀ {o:ba},ex (CC (d + 3)) topN (.cons eG (.cons ic .nil)) (RF X.i s.name t s.pv none (some (.fl (cw es s t))) (some (.int (bw s t))) none) σ2=o->ex (CC (d + 3)) topN k6.body [some (.inst ae X.i),some (.str s.name),some (.int t),none,none,none,none,none,none,none,none,none,none,none] σ=o:=fun {o} ho =>
  (aa s0).trans ((aa s1).trans ((aa s2).trans ((aa s3).trans ((aa s4).trans ((aa s5).trans ((aa s6).trans ((aa s7).trans ho)))))))
 unfold b7
 by_cases hw:bw s t=n
 ·rw [beq_iff_eq.mpr hw] at t8
  rw [if_pos hw]
  exact ⟨σ2,(congrArg aQ (pre (ak (a:=eG) ((aH t8).trans (ak (a:=.ret0) rfl))))).trans rfl,b2,k2⟩
 ·rw [beq_eq_false_iff_ne.mpr hw] at t8
  rw [if_neg hw]
  have vl:(cw es s t).length=s.needs.length:=List.length_map _
  have out:=aeZ (d:=d) (σ:=σ2) (r:=s.rule) (vs:=cw es s t) (k:=s.gives.length) (by rw [vl]; exact so.rule) (by rw [vl]; exact aC so.needs4 (by decide)) (by rw [vl]; exact so.needs1) (aC so.gives3 (by decide)) (wM so hv hm)
  have ol:(mc s.rule (cw es s t) s.gives.length).length=s.gives.length:=ae0 so.rule
  generalize mc s.rule (cw es s t) s.gives.length=us at out ol ⊢
  have it:evIt (CC (d + 3)) (.zip (.cons (.sub (.v 3) (.k (.int 3))) (.cons (.call qe (.cons (.sub (.v 3) (.k (.int 1))) (.cons (.v 5) (.cons (.b1 .len (.sub (.v 3) (.k (.int 3)))) .nil)))) .nil))) (RF X.i s.name t s.pv none (some (.fl (cw es s t))) (some (.int (bw s t))) none) σ2=.ok ((s.gives.zip us).map fun e=>.tup [.str e.1,e.2],some (σ2.length,.tp)) (σ2++[.tp]):=by
   rw [afy,aJ (x:=.tup (s.gives.map .str)) (σ₁:=σ2) rfl (aJ (eu (x:=s.rule.pv) (σ₁:=σ2) rfl (y:=.fl (cw es s t)) (σ₂:=σ2) rfl (cZ (x:=.tup (s.gives.map .str)) (σ₁:=σ2) rfl (afd (aC so.gives3 (by decide)))) out) (bC)),aA]
   show (if (s.gives.map PV.str).length=us.length/\us.length <= au then af.ok (gQ (s.gives.map .str) us,some (σ2.length,MO.tp)) (σ2++[.tp]) else .stuck)=_
   rw [if_pos ⟨by rw [List.length_map,ol],by rw [ol]; exact aC so.gives3 (by decide)⟩,aba]
  obtain ⟨y',z',σ',e,b',k'⟩:=adR (d:=d + 3) (n:=n) (j:=σ2.length) (nm:=s.name) (t:=t) (w:=bw s t) (sp:=s.pv) (vs:=some (.fl (cw es s t))) (X:=X) (Nat.ne_of_gt (eY b2.hr).1) (s.gives.zip us) es (σ2++[.tp]) none none (by simp) b2.more (by rw [List.length_zip,ol,Nat.min_self]; have:=so.gives3; (grind))
  have s9:ex (CC (d + 3)) topN ic (RF X.i s.name t s.pv none (some (.fl (cw es s t))) (some (.int (bw s t))) none) σ2=.next (RF X.i s.name t s.pv y' (some (.fl (cw es s t))) (some (.int (bw s t))) z') σ':=by
   show (evIt (CC (d + 3)) _ _ σ2).toS _ _=_
   rw [it]; exact e
  exact ⟨σ',(congrArg aQ (pre ((aa (a:=eG) (ao t8)).trans ((aa s9).trans aK)))).trans rfl,b',(k2.trans .app).trans k'⟩
end
end Mine
namespace Mine
open PySem
theorem lZ {κ:Type} [DecidableEq κ] {k k':κ} {v:PV} {es:List (κ × PV)}:ah k (bQ k' v es)=if k=k' then some v else ah k es:=tc
theorem lX {κ:Type} [DecidableEq κ] {k k':κ} {v:PV} {es:List (κ × PV)} (h:ah k' es=none):ah k (es++[(k',v)])=if k=k' then some v else ah k es:=by
 unfold ah at h ⊢
 rw [List.find?_append]
 by_cases hk:k=k'
 ·subst hk
  rw [if_pos rfl,Option.map_eq_none_iff.mp h]
  simp
 ·rw [if_neg hk]
  have:[(k',v)].find? (fun e=>decide (e.1=k))=none:=by simp [Ne.symm hk]
  rw [this,Option.or_none]
theorem lY {w:Int} {k:Str × Int}:∀ (l:List (Str × PV)) (es:bR),k.2 ≠ w\/k.1 ∉ l.map (·.1)->ah k (l.foldl (dW w) es)=ah k es:=by
 intro l
 induction l with
 | nil=>intro es _; rfl
 | cons e l ih =>
  intro es h
  rw [List.foldl_cons,ih]
  ·unfold dW
   split
   ·rfl
   ·rw [lZ,if_neg]
    rintro rfl
    rcases h with h | h
    ·exact h rfl
    ·exact h (by simp)
  ·rcases h with h | h
   ·exact .inl h
   ·exact .inr fun q=>h (bJ _ q)
theorem dO.puts {w:Int}:∀ (l:List (Str × PV)) (es:bR),dO es->(∀ e ∈ l,bA e.2\/e.2=.none)->dO (l.foldl (dW w) es):=by
 intro l
 induction l with
 | nil=>intro es h _; exact h
 | cons e l ih =>
  intro es h hl
  refine ih _ ?_ fun x hx=>hl x (bJ _ hx)
  unfold dW
  rcases hl e List.mem_cons_self with hv | hv
  ·split
   ·exact h
   ·intro k v hk
    rw [lZ] at hk
    by_cases hq:k=(e.1,w)
    ·rw [if_pos hq] at hk
     obtain rfl:=oi hk
     exact hv
    ·rw [if_neg hq] at hk; exact h k v hk
  ·rw [if_pos (by rw [hv]; rfl)]; exact h
theorem mO {i:Int} (h0:0 <= i) (h1:i <= 999999):bA (.int i):=⟨i,rfl,h0,h1⟩
theorem aaZ {f:Int->Int->Int} (hf:∀ a b:Int,f a b=a\/f a b=b):∀ (l:List Int) (a:Int),(0 <= a/\a <= 999999)->(∀ x ∈ l,0 <= x/\x <= 999999)->0 <= l.foldl f a/\l.foldl f a <= 999999:=by
 intro l
 induction l with
 | nil=>intro a h _; exact h
 | cons x l ih =>
  intro a h hl
  refine ih _ ?_ fun y hy=>hl y (bJ _ hy)
  rcases hf a x with q | q
  ·rw [q]; exact h
  ·rw [q]; exact hl x List.mem_cons_self
theorem aiE (a b:Int):min a b=a\/min a b=b:=by grind
theorem aiH (a b:Int):max a b=a\/max a b=b:=by grind
theorem aaR {i:Int}:bA (.int (i % 1000000)):=mO (Int.emod_nonneg _ (by decide)) (Int.le_of_lt_add_one (Int.emod_lt_of_pos _ (by decide)))
theorem aeX:∀ (l:List Int) (a:Int),(0 <= a/\a <= 999999)->bA (.int (l.foldl (fun a x=>a * x % 1000000) a)):=by
 intro l
 induction l with
 | nil=>intro a h; exact mO h.1 h.2
 | cons x l ih=>intro a h; obtain ⟨i,hi,h0,h1⟩:=aaR (i:=a * x); cases hi; exact ih _ ⟨h0,h1⟩
theorem tJ {r:c0} {vs:List PV} {k:Nat} (h:ck r vs.length k) (h1:1 <= vs.length) (he:n4 r vs):bA (dh r vs):=by
 have at0:(∀ v ∈ vs,bA v)->bA (vs.getD 0 .none):=fun hv=>by
  rw [List.getD_eq_getElem?_getD,List.getElem?_eq_getElem (show 0 < vs.length from h1)]
  exact hv _ (List.getElem_mem _)
 generalize hk:vs.length=m at h
 cases h with
 | sum _ _=>exact aaR
 | times _ _=>exact aeX _ 1 (by decide)
 | least _ _ =>
  obtain ⟨l,rfl,hv⟩:=iy (show ∀ v ∈ vs,bA v from he)
  show bA (.int (qc (d8 (l.map .int))))
  rw [fE]
  cases l with
  | nil=>exact absurd h1 (by decide)
  | cons x l=>obtain ⟨a,b⟩:=aaZ (f:=min) aiE l x (hv x List.mem_cons_self) fun y hy=>hv y (bJ _ hy); exact mO a b
 | most _ _ =>
  obtain ⟨l,rfl,hv⟩:=iy (show ∀ v ∈ vs,bA v from he)
  show bA (.int (tY (d8 (l.map .int))))
  rw [fE]
  cases l with
  | nil=>exact absurd h1 (by decide)
  | cons x l=>obtain ⟨a,b⟩:=aaZ (f:=max) aiH l x (hv x List.mem_cons_self) fun y hy=>hv y (bJ _ hy); exact mO a b
 | later _=>exact at0 he
 | way=>exact at0 he
 | choose _=>exact he.2
 | fixed v _ _ a b=>exact mO a b
theorem ag8 {r:c0} {vs:List PV} {k:Nat} (h:ck r vs.length k) (h1:1 <= vs.length) (he:n4 r vs):∀ u ∈ mc r vs k,bA u\/u=.none:=by
 unfold mc
 cases hw:l7 r with
 | false =>
  rw [if_neg (by decide)]
  intro u hu
  rw [List.eq_of_mem_replicate hu]
  exact .inl (tJ h h1 he)
 | true =>
  rw [if_pos rfl]
  have hs:=tJ h h1 he
  generalize vs.length=m at h
  cases h with
  | way =>
   have hs:bA (vs.getD 0 .none):=hs
   intro u hu
   split at hu
   ·rcases List.mem_cons.mp hu with rfl | hu
    ·exact .inl hs
    ·exact .inr (List.mem_singleton.mp hu)
   ·rcases List.mem_cons.mp hu with rfl | hu
    ·exact .inr rfl
    ·rw [List.mem_singleton.mp hu]; exact .inl hs
  | _=>contradiction
theorem dO.fire {n:Nat} {es:bR} {s:aj} {t:Int} (hs:gb s) (hv:dO es) (hm:cj es s t=none):dO (b7 n es s t):=by
 unfold b7
 split
 ·exact hv
 ·have vl:(cw es s t).length=s.needs.length:=List.length_map _
  refine hv.puts _ _ fun e he=>?_
  exact ag8 (k:=s.gives.length) (by rw [vl]; exact hs.rule) (by rw [vl]; exact hs.needs1) (wM hs hv hm) e.2 (List.of_mem_zip he).2
end Mine
namespace Mine
open PySem
structure cu where
 es:bR
 gs:bR
 os:List PV
noncomputable def cu.fire (n:Nat) (B:cu) (s:aj) (t:Int):cu:=⟨b7 n B.es s t,B.gs++[((s.name,t),.bool true)],B.os++[.tup [.str s.name,.int t]]⟩
noncomputable def cu.rdy (B:cu) (s:aj) (t:Int):Bool:=kg B.es B.gs s t
theorem cu.rdy_of {B:cu} {s:aj} {t:Int} (h:B.rdy s t=true):ah (s.name,t) B.gs=none/\cj B.es s t=none:=by
 obtain ⟨a,b⟩:=bY h
 exact ⟨Option.isNone_iff_eq_none.mp a,Option.isNone_iff_eq_none.mp b⟩
inductive bt (p:List aj) (n:Nat) (A:cu):cu->List (aj × Int)->Prop
 | nil:bt p n A A []
 | snoc {B:cu} {l:List (aj × Int)} {s:aj} {t:Int} (h:bt p n A B l) (hs:s ∈ p) (h0:0 <= t) (h1:t < n) (hr:B.rdy s t=true):bt p n A (B.fire n s t) (l++[(s,t)])
section
variable {p:List aj} {n:Nat} {A B:cu} {l:List (aj × Int)}
theorem bt.trans {D:cu} {k:List (aj × Int)} (h:bt p n A B l) (h2:bt p n B D k):bt p n A D (l++k):=by
 induction h2 with
 | nil=>rw [List.append_nil]; exact h
 | snoc h2 hs h0 h1 hr ih=>rw [<- List.append_assoc]; exact .snoc ih hs h0 h1 hr
theorem bt.val (hp:cF p) (h:bt p n A B l) (hv:dO A.es):dO B.es:=by
 induction h with
 | nil=>exact hv
 | snoc h hs h0 h1 hr ih=>exact ih.fire (hp.steps _ hs) (cu.rdy_of hr).2
structure i9 (B:cu) (m:Nat):Prop where
 es:B.es.length <= 3 * m
 gs:B.gs.length <= m
 os:B.os.length <= m
theorem afp {es:bR} {s:aj} {t:Int} (hs:gb s):(b7 n es s t).length <= es.length + 3:=by
 unfold b7
 split
 ·exact Nat.le_add_right _ _
 ·refine aC (aeU _ _) (Nat.add_le_add_left ?_ _)
  rw [List.length_zip]
  exact aC (Nat.min_le_left _ _) hs.gives3
theorem i9.fire {m:Nat} {s:aj} {t:Int} (hs:gb s) (h:i9 B m):i9 (B.fire n s t) (m + 1):=
 ⟨by have:=afp (n:=n) (es:=B.es) (t:=t) hs; have:=h.es; show (b7 n B.es s t).length <= _; (grind),by show (B.gs++[_]).length <= _; rw [List.length_append]; exact Nat.succ_le_succ h.gs,by show (B.os++[_]).length <= _; rw [List.length_append]; exact Nat.succ_le_succ h.os⟩
theorem bt.sized {m:Nat} (hp:cF p) (h:bt p n A B l) (hz:i9 A m):i9 B (m + l.length):=by
 induction h with
 | nil=>exact hz
 | snoc h hs h0 h1 hr ih=>rw [List.length_append]; exact ih.fire (hp.steps _ hs)
noncomputable def left (p:List aj) (B:cu) (t:Int):Nat:=p.countP fun s=>(ah (s.name,t) B.gs).isNone
theorem ach {f g:aj->Bool} {s:aj} (h:∀ x,g x=true->f x=true) (hf:f s=true) (hg:g s=false):∀ {p:List aj},s ∈ p->p.countP g + 1 <= p.countP f:=by
 intro p
 induction p with
 | nil=>intro h; contradiction
 | cons a p ih =>
  intro hs
  rw [List.countP_cons,List.countP_cons]
  have le:p.countP g <= p.countP f:=List.countP_mono_left fun x zz=>h x
  rcases List.mem_cons.mp hs with rfl | hs
  ·rw [hf,hg]; simp; exact le
  ·have:=ih hs
   cases ha:g a with
   | true=>rw [h a ha]; simp; (assumption)
   | false=>simp; (exact aC (by assumption) (Nat.le_add_right _ _))
theorem bt.left {t:Int} (h:bt p n A B l) (ht:∀ e ∈ l,e.2=t):left p B t + l.length <= left p A t:=by
 induction h with
 | nil=>exact Nat.le_refl _
 | @snoc B l s t' h hs h0 h1 hr ih =>
  have:=ih fun e he=>ht e (List.mem_append_left _ he)
  obtain rfl:t'=t:=ht (s,t') (List.mem_append_right _ (List.mem_singleton.mpr rfl))
  have hg:=(cu.rdy_of hr).1
  have key:∀ x,ah (x,t') (B.fire n s t').gs=if (x,t')=(s.name,t') then some (.bool true) else ah (x,t') B.gs:=fun x=>lX hg
  have c:Mine.left p (B.fire n s t') t' + 1 <= Mine.left p B t':=by
   refine ach (s:=s) (fun x hx=>?_) (by rw [hg]; rfl) ?_ hs
   ·rw [key] at hx
    by_cases q:(x.name,t')=(s.name,t')
    ·rw [if_pos q] at hx; contradiction
    ·rw [if_neg q] at hx; exact hx
   ·rw [key,if_pos rfl]; rfl
  rw [List.length_append]
  show _ + (l.length + 1) <= _
  (grind)
theorem ahs {t:Int}:left p B t <= p.length:=List.countP_le_length
theorem bt.rdy {t:Int} {s:aj} (h:bt p n A B l) (ht:∀ e ∈ l,t < e.2):B.rdy s t=A.rdy s t:=by
 induction h with
 | nil=>rfl
 | @snoc B l s' t' h hs h0 h1 hr ih =>
  rw [<- ih fun e he=>ht e (List.mem_append_left _ he)]
  have lt:t < t':=ht (s',t') (List.mem_append_right _ (List.mem_singleton.mpr rfl))
  have hg:=(cu.rdy_of hr).1
  have e1:∀ x,ah (x,t) (B.fire n s' t').gs=ah (x,t) B.gs:=fun x=>(lX hg).trans (if_neg fun q=>Int.ne_of_lt lt (Prod.mk.inj q).2)
  have e2:∀ x,ah (x,t) (B.fire n s' t').es=ah (x,t) B.es:=fun x=>by
   show ah (x,t) (b7 n B.es s' t')=_
   unfold b7
   split
   ·rfl
   ·refine lY _ _ (.inl (Int.ne_of_lt ?_))
    unfold bw
    split
    ·exact Int.lt_add_one_of_le (Int.le_of_lt lt)
    ·rw [Int.add_zero]; exact lt
  show kg _ _ _ _=kg _ _ _ _
  unfold kg cj
  have e3:mM (B.fire n s' t').es s t=mM B.es s t:=by
   unfold mM
   split
   ·split
    ·rw [e2]
    ·rfl
   ·rfl
  rw [e1,e3]
  refine congrArg (fun f=>(ah (s.name,t) B.gs).isNone && ((mM B.es s t).find? f).isNone) (funext fun x=>?_)
  rw [e2]
end
noncomputable abbrev pL (p:List aj) (n:Nat) (B:cu) (X:Ix) (σ:ac):Prop:=Bo p n B.es B.gs B.os X σ
section
variable {p:List aj} {n:Nat} {X:Ix} {σ:ac} {d:Nat}
noncomputable def RT (i:Nat) (t:Int) (c:Nat) (z:Option PV):aq:=[some (.inst ae i),some (.int t),some (.int c),z]
theorem acF {t:Int} (hp:cF p) (h0:0 <= t) (h1:t < n):∀ (q:List aj) (B:cu) (σ:ac) (c m:Nat) (z:Option PV),(∀ s ∈ q,s ∈ p/\jx s)->pL p n B X σ->dO B.es->i9 B m->m + q.length < 200000 ->
  ∃ B' l σ' z',aX none (bE 3) (fun ρ σ=>ex (CC (d + 4)) topN lK ρ σ) (q.map aj.pv) (RT X.i t c z) σ=.next (RT X.i t (c + l.length) z') σ'/\pL p n B' X σ'/\c7 X σ σ'/\bt p n B B' l/\(∀ e ∈ l,e.2=t)/\(l=[]->B'=B/\∀ s ∈ q,B.rdy s t=false):=by
 intro q
 induction q with
 | nil=>intro B σ c m z _ b _ _ _; exact ⟨B,[],σ,z,bB,b,.refl,.nil,fun e he=>by contradiction,fun zz=>⟨rfl,fun s hs=>by contradiction⟩⟩
 | cons s q ih =>
  intro B σ c m z hq b hv hz hl
  rw [List.length_cons] at hl
  obtain ⟨hs,hpl⟩:=hq s List.mem_cons_self
  have tt:tst (CC (d + 4)) (.meth ae cX "is_ready" (.v 0) (.cons (.v 3) (.cons (.v 1) .nil))) (RT X.i t c (some s.pv)) σ=.ok (B.rdy s t) σ:=
   kc (bu (i:=X.i) (σ₁:=σ) (σ₂:=σ) (vs:=[s.pv,.int t]) rfl b.ns rfl rfl (yx b (hp.steps s hs) hpl hv))
  cases hr:B.rdy s t with
  | false =>
   rw [hr] at tt
   obtain ⟨B',l,σ',z',e,b',k,f,ht,hn⟩:=ih B σ c m (some s.pv) (fun x hx=>hq x (bJ _ hx)) b hv hz (by (exact Nat.lt_of_succ_lt (by assumption)))
   refine ⟨B',l,σ',z',(bf (ρ₁:=RT X.i t c (some s.pv)) (ρ₂:=RT X.i t c (some s.pv)) (σ₂:=σ) rfl ((aa (a:=gu) (ao tt)).trans aK)).trans e,b',k,f,ht,fun h=>⟨(hn h).1,fun x hx=>?_⟩⟩
   rcases List.mem_cons.mp hx with rfl | hx
   ·exact hr
   ·exact (hn h).2 x hx
  | true =>
   rw [hr] at tt
   obtain ⟨g1,g2⟩:=cu.rdy_of hr
   obtain ⟨σ1,e1,b1,k1⟩:=aj2 (d:=d) hp b hs hpl hv h0 h1 g1 g2 (by have:=hz.es; (grind)) (by have:=hz.gs; (grind)) (by have:=hz.os; (grind))
   have f1:bt p n B (B.fire n s t) [(s,t)]:=.snoc .nil hs h0 h1 hr
   obtain ⟨B',l,σ',z',e,b',k,f,ht,_⟩:=ih (B.fire n s t) σ1 (c + 1) (m + 1) (some s.pv) (fun x hx=>hq x (bJ _ hx)) b1 (f1.val hp hv) (hz.fire (hp.steps s hs)) (by grind)
   have x1:ex (CC (d + 4)) topN jv (RT X.i t c (some s.pv)) σ=.next (RT X.i t c (some s.pv)) σ1:=bX (bu (i:=X.i) (σ₁:=σ) (σ₂:=σ) (vs:=[.str s.name,.int t]) rfl b.ns rfl rfl e1)
   have x2:ex (CC (d + 4)) topN ju (RT X.i t c (some s.pv)) σ1=.next (RT X.i t (c + 1) (some s.pv)) σ1:=rfl
   refine ⟨B',(s,t)::l,σ',z',?_,b',k1.trans k,f1.trans f,fun x hx=>?_,fun h=>by contradiction⟩
   ·refine (bf (ρ₁:=RT X.i t c (some s.pv)) (ρ₂:=RT X.i t (c + 1) (some s.pv)) (σ₂:=σ1) rfl ((aa (a:=gu) ((aH tt).trans ((aa x1).trans ((aa x2).trans aK)))).trans aK)).trans (e.trans ?_)
    rw [List.length_cons,Nat.add_assoc,Nat.add_comm 1]
   ·rcases List.mem_cons.mp hx with rfl | hx
    ·rfl
    ·exact ht x hx
theorem uu {t:Int} {B:cu} {m:Nat} (hp:cF p) (hpl:∀ s ∈ p,jx s) (h0:0 <= t) (h1:t < n) (b:pL p n B X σ) (hv:dO B.es) (hz:i9 B m) (hl:m < 190000) :
  ∃ B' l σ',aG PP topN (d + 5) ml [.inst ae X.i,.int t] σ=.ok (.int (l.length:Nat)) σ'/\pL p n B' X σ'/\c7 X σ σ'/\bt p n B B' l/\(∀ e ∈ l,e.2=t)/\(l=[]->∀ s ∈ p,B'.rdy s t=false):=by
 obtain ⟨B',l,σ',z',e,b',k,f,ht,hn⟩:=acF (d:=d) (X:=X) hp h0 h1 p B σ 0 m none (fun s hs=>⟨hs,hpl s hs⟩) b hv hz (by have:=hp.most; (grind))
 rw [Nat.zero_add] at e
 refine ⟨B',l,σ',?_,b',k,f,ht,fun h s hs=>?_⟩
 ·rw [a5 (fn:=rK) rfl rfl]
  exact (congrArg aQ ((aa (a:=nF) (ρ':=RT X.i t 0 none) (σ':=σ) rfl).trans ((aa (a:=nE) (bP (ys:=p.map aj.pv) (σ₁:=σ) (aaN b rfl) e)).trans (ak (a:=nD) (av (v:=.int (l.length:Nat)) (σ':=σ') rfl))))).trans rfl
 ·obtain ⟨e1,e2⟩:=hn h
  rw [e1]; exact e2 s hs
end
end Mine
namespace Mine
open PySem
theorem qC {C:aV} {k:Nat} {c:X} {body:S} {ρ:aq} {σ:ac} (hh:C.hd=false):ex C k (.whl c body) ρ σ=bc (fun ρ σ=>tst C c ρ σ) (fun ρ σ=>ex C k body ρ σ) k ρ σ:=by
 show (bif C.hd then ba.stuck else bc (fun ρ σ=>tst C c ρ σ) (fun ρ σ=>ex C k body ρ σ) k ρ σ)=_
 rw [hh]; rfl
theorem ahI:100 < topN:=by decide
noncomputable def RN (i:Nat) (c:Nat) (t m:Option PV):aq:=[some (.inst ae i),some (.int c),t,m,none,none]
section
variable {p:List aj} {n:Nat} {X:Ix} {d:Nat}
theorem ac0 {t:Int} (hp:cF p) (hpl:∀ s ∈ p,jx s) (h0:0 <= t) (h1:t < n):∀ (k:Nat) (B:cu) (σ:ac) (c m z:Nat),pL p n B X σ->dO B.es->i9 B z->z + left p B t < 190000->(m=0->∀ s ∈ p,B.rdy s t=false)->(if m=0 then 0 else left p B t + 1) < k ->
  ∃ B' l σ',bc (fun ρ σ=>tst (CC (d + 5)) (.cmp (.v 3) .gt (.k (.int 0))) ρ σ) (fun ρ σ=>ex (CC (d + 5)) topN mt ρ σ) k (RN X.i c (some (.int t)) (some (.int (m:Nat)))) σ=.next (RN X.i (c + m + l.length) (some (.int t)) (some (.int ((0:Nat):Int)))) σ'/\pL p n B' X σ'/\c7 X σ σ'/\bt p n B B' l/\(∀ e ∈ l,e.2=t)/\∀ s ∈ p,B'.rdy s t=false:=by
 intro k
 induction k with
 | zero=>intro B σ c m z _ _ _ _ _ h; exact absurd h (Nat.not_lt_zero _)
 | succ k ih =>
  intro B σ c m z b hv hz hl hr hk
  have tt:tst (CC (d + 5)) (.cmp (.v 3) .gt (.k (.int 0))) (RN X.i c (some (.int t)) (some (.int (m:Nat)))) σ=.ok (decide ((m:Int) > 0)) σ:=rfl
  by_cases hm:m=0
  ·subst hm
   refine ⟨B,[],σ,?_,b,.refl,.nil,fun e he=>by contradiction,hr rfl⟩
   unfold bc
   rw [tt]; rfl
  ·rw [if_neg hm] at hk
   rw [decide_eq_true (show (m:Int) > 0 by grind)] at tt
   obtain ⟨B1,l1,σ1,e1,b1,k1,f1,t1,n1⟩:=uu (d:=d) (X:=X) hp hpl h0 h1 b hv hz (by grind)
   have lf:=f1.left t1
   have x:ex (CC (d + 5)) topN mt (RN X.i c (some (.int t)) (some (.int (m:Nat)))) σ=.next (RN X.i (c + m) (some (.int t)) (some (.int (l1.length:Nat)))) σ1:=
    (aa (a:=qk) (ρ':=RN X.i (c + m) (some (.int t)) (some (.int (m:Nat)))) (σ':=σ) rfl).trans ((aa (a:=qj) (aE (fG (x:=.inst ae X.i) (y:=.int t) (σ₁:=σ) (σ₂:=σ) rfl rfl e1))).trans aK)
   obtain ⟨B',l,σ',e,b',k',f,t',n'⟩:=ih B1 σ1 (c + m) l1.length (z + l1.length) b1 (f1.val hp hv) (f1.sized hp hz) (by grind) (fun q=>n1 (List.eq_nil_of_length_eq_zero q)) (by
    by_cases q:l1.length=0
    ·rw [if_pos q]; (grind)
    ·rw [if_neg q]; (grind))
   refine ⟨B',l1++l,σ',?_,b',k1.trans k',f1.trans f,fun e he=>?_,n'⟩
   ·unfold bc
    rw [tt]
    dsimp only
    rw [x]
    dsimp only
    rw [e,List.length_append,Nat.add_assoc (c + m)]
   ·rcases List.mem_append.mp he with q | q
    ·exact t1 e q
    ·exact t' e q
theorem aeM (hp:cF p) (hpl:∀ s ∈ p,jx s):∀ (k a:Nat) (B:cu) (σ:ac) (c z:Nat) (u v:Option PV),a + k=n->pL p n B X σ->dO B.es->i9 B z->z + p.length * k < 180000->(∀ t:Int,0 <= t->t < a->∀ s ∈ p,B.rdy s t=false) ->
  ∃ B' l σ' u' v',aX none (bE 2) (fun ρ σ=>ex (CC (d + 5)) topN wF ρ σ) ((List.range' a k).map fun (i:Nat)=>PV.int (0 + (i:Int) * 1)) (RN X.i c u v) σ=.next (RN X.i (c + l.length) u' v') σ'/\pL p n B' X σ'/\c7 X σ σ'/\bt p n B B' l/\l.length <= p.length * k/\∀ t:Int,0 <= t->t < n->∀ s ∈ p,B'.rdy s t=false:=by
 intro k
 induction k with
 | zero=>intro a B σ c z u v ha b _ _ _ hr; exact ⟨B,[],σ,u,v,bB,b,.refl,.nil,Nat.zero_le _,fun t h0 h1=>hr t h0 (by grind)⟩
 | succ k ih =>
  intro a B σ c z u v ha b hv hz hl hr
  rw [Nat.mul_succ] at hl
  have at0:(0:Int) <= (a:Int):=Int.natCast_nonneg a
  have at1:(a:Int) < n:=by grind
  obtain ⟨B1,l1,σ1,e1,b1,k1,f1,t1,n1⟩:=uu (d:=d) (X:=X) hp hpl at0 at1 b hv hz (by grind)
  have lf:=f1.left t1
  have le:=ahs (p:=p) (B:=B) (t:=(a:Int))
  obtain ⟨B2,l2,σ2,e2,b2,k2,f2,t2,n2⟩:=ac0 (d:=d) (X:=X) hp hpl at0 at1 topN B1 σ1 c l1.length (z + l1.length) b1 (f1.val hp hv) (f1.sized hp hz) (by grind) (fun q=>n1 (List.eq_nil_of_length_eq_zero q)) (by
   have hm:=hp.most
   have:=ahI
   generalize topN=fuel at this ⊢
   by_cases q:l1.length=0
   ·rw [if_pos q]; (grind)
   ·rw [if_neg q]; (grind))
  have lf2:=f2.left t2
  have f:=f1.trans f2
  have ht:∀ e ∈ l1++l2,e.2=(a:Int):=fun e he=>(List.mem_append.mp he).elim (t1 e) (t2 e)
  have hlen:(l1++l2).length <= p.length:=by rw [List.length_append]; (grind)
  obtain ⟨B3,l3,σ3,u3,v3,e3,b3,k3,f3,afe,n3⟩:=ih (a + 1) B2 σ2 (c + (l1++l2).length) (z + (l1++l2).length) (some (.int (a:Int))) (some (.int ((0:Nat):Int))) (by grind) b2 (f.val hp hv) (f.sized hp hz) (by grind) fun t q0 q1 s hs=>by
   by_cases q:t=(a:Int)
   ·subst q; exact n2 s hs
   ·rw [f.rdy fun e he=>(by rw [ht e he]; (grind))]
    exact hr t q0 (by grind) s hs
  refine ⟨B3,(l1++l2)++l3,σ3,u3,v3,?_,b3,(k1.trans k2).trans k3,f.trans f3,?_,n3⟩
  ·rw [List.range'_succ,List.map_cons]
   have hb:bE 2 (PV.int (0 + (a:Int) * 1)) (RN X.i c u v)=some (RN X.i c (some (.int (a:Int))) v):=by
    rw [show (0:Int) + (a:Int) * 1=a by grind]; rfl
   have x1:ex (CC (d + 5)) topN uC (RN X.i c (some (.int (a:Int))) v) σ=.next (RN X.i c (some (.int (a:Int))) (some (.int (l1.length:Nat)))) σ1:=aE (fG (x:=.inst ae X.i) (y:=.int (a:Int)) (σ₁:=σ) (σ₂:=σ) rfl rfl e1)
   have x2:ex (CC (d + 5)) topN uB (RN X.i c (some (.int (a:Int))) (some (.int (l1.length:Nat)))) σ1=.next (RN X.i (c + (l1++l2).length) (some (.int (a:Int))) (some (.int ((0:Nat):Int)))) σ2:=by
    rw [List.length_append,<- Nat.add_assoc]
    exact (qC (C:=CC (d + 5)) rfl).trans e2
   refine (bf hb ((aa x1).trans ((aa x2).trans aK))).trans (e3.trans ?_)
   rw [List.length_append (as:=l1++l2),Nat.add_assoc c]
  ·rw [List.length_append,Nat.mul_succ]; (grind)
theorem air {B:cu} {σ:ac} {z:Nat} (hp:cF p) (hpl:∀ s ∈ p,jx s) (hn:n <= 200) (b:pL p n B X σ) (hv:dO B.es) (hz:i9 B z) (hl:z < 100000) :
  ∃ B' l σ',aG PP topN (d + 6) agh [.inst ae X.i] σ=.ok (.int (l.length:Nat)) σ'/\pL p n B' X σ'/\c7 X σ σ'/\bt p n B B' l/\l.length <= 4000/\∀ t:Int,0 <= t->t < n->∀ s ∈ p,B'.rdy s t=false:=by
 have hm:p.length * n <= 4000:=Nat.mul_le_mul hp.most hn
 obtain ⟨B',l,σ',u,v,e,b',k,f,len,nr⟩:=aeM (d:=d) (X:=X) hp hpl n 0 B σ 0 z none none (Nat.zero_add n) b hv hz (by grind) fun t h0 h1=>absurd h0 (by grind)
 rw [Nat.zero_add] at e
 refine ⟨B',l,σ',?_,b',k,f,aC len hm,nr⟩
 rw [a5 (fn:=agu) rfl rfl]
 have it:evIt (CC (d + 5)) (.range1 (.attr ae (.v 0) "turns")) (RN X.i 0 none none) σ=.ok ((List.range' 0 n).map fun (i:Nat)=>PV.int (0 + (i:Int) * 1),none) σ:=by
  rw [mK,cE (i:=X.i) (c:=ae) (σ₁:=σ) (v:=.int n) rfl b.ns rfl,aA]
  show (if 0 <= (n:Int)/\(n:Int) <= au then af.ok (aL 0 1 (n:Int).toNat,none) σ else .stuck)=_
  rw [if_pos ⟨by (exact Int.natCast_nonneg _),by rw [bV]; (grind)⟩,<- List.range_eq_range']; rfl
 exact (congrArg aQ ((aa (a:=zn) (ρ':=RN X.i 0 none none) (σ':=σ) rfl).trans ((aa (a:=zm) (bP it e)).trans (ak (a:=zl) (av (v:=.int (l.length:Nat)) (σ':=σ') rfl))))).trans rfl
end
end Mine
namespace Mine
open PySem
noncomputable def oy (p:List aj) (x:Str):Bool:=decide (x ∈ p.flatMap (·.gives)) || decide (x ∈ oz p)
section
variable {p:List aj} {n:Nat} {es gs:bR} {os:List PV} {X:Ix} {σ:ac} {d:Nat}
theorem pe {x:Str} (b:Bo p n es gs os X σ) (h:oy p x=true):aG PP topN (d + 1) eX [.inst ae X.i,.str x] σ=.ok .none σ:=by
 rw [a5 (fn:=jw) rfl rfl]
 have tt:tst (CC d) (.or (.cons (.not (.isinst (.v 1) .str)) (.cons (.and (.cons (.cmp (.v 1) .notin (.attr ae (.v 0) "givers")) (.cons (.cmp (.v 1) .notin (.attr ae (.v 0) "outer")) .nil))) .nil))) [some (.inst ae X.i),some (.str x),none,none,none] σ=.ok (!oy p x) σ:=by
  refine n8 (jd (dE (q:=true) (aeD (zA (x:=.str x) (σ₁:=σ) rfl rfl))) (ka ((tF (u9 (bj (x:=.str x) (σ₁:=σ) rfl (cE (i:=X.i) (σ₁:=σ) (v:=.ref X.g) rfl b.ns rfl) (wo b.gv)) fun zz=>qP (bj (x:=.str x) (σ₁:=σ) rfl (cE (i:=X.i) (σ₁:=σ) (v:=.ref X.o) rfl b.ns rfl) (tS b.ot)))).trans ?_)))
  rw [rF]
  unfold oy
  rw [Bool.not_or]
 rw [h] at tt
 exact (congrArg aQ ((aa (a:=gL) (ao tt)).trans aK)).trans rfl
theorem adb {x:Str} {j i:Int} (hp:cF p) (b:Bo p n es gs os X σ) (h1:oy p x=true) (h0:0 <= j) (hj:j < n) (hb:fm p x j=false) (hv:0 <= i/\i <= 999999) (ha:ah (x,j) es=none) (hl:es.length < 900000) :
  aG PP topN (d + 4) mq [.inst ae X.i,.str x,.int j,.int i] σ=.ok .none (σ.set X.h (.dp (es++[((x,j),.int i)]))):=by
 rw [a5 (fn:=mI) rfl rfl]
 show aQ (ex (CC (d + 3)) topN mI.body [some (.inst ae X.i),some (.str x),some (.int j),some (.int i),none,none,none,none] σ)=_
 generalize kt:([some (.inst ae X.i),some (.str x),some (.int j),some (.int i),none,none,none,none]:aq)=ρ
 have v0:∀ {τ:ac},ev (CC (d + 3)) (.v 0) ρ τ=.ok (.inst ae X.i) τ:=fun {τ}=>by subst kt; rfl
 have v1:∀ {τ:ac},ev (CC (d + 3)) (.v 1) ρ τ=.ok (.str x) τ:=fun {τ}=>by subst kt; rfl
 have v2:∀ {τ:ac},ev (CC (d + 3)) (.v 2) ρ τ=.ok (.int j) τ:=fun {τ}=>by subst kt; rfl
 have v3:∀ {τ:ac},ev (CC (d + 3)) (.v 3) ρ τ=.ok (.int i) τ:=fun {τ}=>by subst kt; rfl
 have s0:ex (CC (d + 3)) topN nL ρ σ=.next ρ σ:=bX (bu v0 b.ns rfl (aJ v1 rfl) (pe b h1))
 have s1:ex (CC (d + 3)) topN nK ρ σ=.next ρ σ:=bX (bu v0 b.ns rfl (aJ v2 rfl) (eV b h0 hj))
 have agv:=cE (n := "givers") (v:=.ref X.g) (v0 (τ:=σ)) b.ns rfl
 have ahr:=cE (n := "here") (v:=.ref X.h) (v0 (τ:=σ)) b.ns rfl
 have key:ev (CC (d + 3)) (.tup (.cons (.v 1) (.cons (.v 2) .nil))) ρ σ=.ok (.tup [.str x,.int j]) σ:=rb (vs:=[.str x,.int j]) (aJ v1 (aJ v2 rfl)) (show (2:Nat) <= au by decide)
 have t2:tst (CC (d + 3)) (.and (.cons (.cmp (.v 1) .isin (.attr ae (.v 0) "givers")) (.cons (.or (.cons (.cmp (.sub (.sub (.sub (.attr ae (.v 0) "givers") (.v 1)) (.k (.int 1))) (.k (.int 0))) .ne (.k (.str "later"))) (.cons (.cmp (.v 2) .gt (.k (.int 0))) .nil))) .nil))) ρ σ=.ok (fm p x j) σ:=by
  have c1:=bj v1 agv (ahy (k:=x) b.gv)
  rw [i8,Option.isSome_map] at c1
  unfold fm
  cases hg:lA p x with
  | none =>
   rw [hg] at c1
   exact tF (agU c1)
  | some s =>
   rw [hg] at c1
   have hs:s ∈ p:=List.mem_of_find?_eq_some hg
   obtain ⟨w,hw1,hw2⟩:=oH (hp.steps s hs).rule
   have c2:ev (CC (d + 3)) (.sub (.attr ae (.v 0) "givers") (.v 1)) ρ σ=.ok s.pv σ:=aU agv v1 (acO b.gv (by rw [i8,hg]; rfl))
   have c4:ev (CC (d + 3)) (.sub (.sub (.sub (.attr ae (.v 0) "givers") (.v 1)) (.k (.int 1))) (.k (.int 0))) ρ σ=.ok (.str w) σ:=aU (aU c2 (y:=.int 1) (σ₂:=σ) rfl (v:=.ok s.rule.pv σ) rfl) (y:=.int 0) (σ₂:=σ) rfl (hw1 σ)
   have c5:=bj c4 (y:=.str "later") (σ₂:=σ) (b:=.k (.str "later")) rfl aiC
   rw [hw2] at c5
   exact tF (agT c1 (qP (n8 (tE c5 fun zz=>ka (bj v2 (y:=.int 0) (σ₂:=σ) rfl gt_int)))))
 rw [hb] at t2
 have s2:ex (CC (d + 3)) topN nJ ρ σ=.next ρ σ:=(ao t2)
 have t3:tst (CC (d + 3)) (.not (.call gX (.cons (.v 3) .nil))) ρ σ=.ok (!true) σ:=by
  have c:aG PP topN (d + 3) gX [.int i] σ=.ok (.bool (decide (0 <= i) && decide (i <= 999999))) σ:=Mine.h0
  rw [decide_eq_true hv.1,decide_eq_true hv.2] at c
  exact dE (eN (bD v3 c))
 have s3:ex (CC (d + 3)) topN nI ρ σ=.next ρ σ:=(ao t3)
 have t4:=bj key ahr (vz (x:=x) (j:=j) b.hr)
 rw [ha] at t4
 have s4:ex (CC (d + 3)) topN nH ρ σ=.next ρ σ:=(ao t4)
 have s5:ex (CC (d + 3)) topN nG ρ σ=.next ρ (σ.set X.h (.dp (es++[((x,j),.int i)]))):=by
  show (ev (CC (d + 3)) (.v 3) ρ σ).toS ρ (fun v σ=>(ev (CC (d + 3)) (.attr ae (.v 0) "here") ρ σ).toS ρ fun o σ=>(ev (CC (d + 3)) (.tup (.cons (.v 1) (.cons (.v 2) .nil))) ρ σ).toS ρ fun i σ=>bp o i v ρ σ)=_
  rw [v3,cH,ahr,cH,key,cH,sa b.hr (by rw [bV]; (exact aC (by assumption) (by decide))),v8 ha]
 exact (congrArg aQ ((aa s0).trans ((aa s1).trans ((aa s2).trans ((aa s3).trans ((aa s4).trans ((aa s5).trans aK))))))).trans rfl
end
end Mine
namespace Mine
open PySem
theorem y9 {s:aj} {x:Str} (hx:x ∈ s.gives):∀ {p:List aj},(p.flatMap (·.gives)).Nodup->s ∈ p->lA p x=some s:=by
 intro p
 induction p with
 | nil=>intro _ h; contradiction
 | cons a p ih =>
  intro hg hs
  rw [List.flatMap_cons,List.nodup_append] at hg
  unfold lA
  rw [List.find?_cons]
  by_cases ha:x ∈ a.gives
  ·rw [decide_eq_true ha]
   rcases List.mem_cons.mp hs with rfl | hs
   ·rfl
   ·exact absurd rfl (hg.2.2 x ha x (List.mem_flatMap.mpr ⟨s,hs,hx⟩))
  ·rw [decide_eq_false ha]
   rcases List.mem_cons.mp hs with rfl | hs
   ·exact absurd hx ha
   ·exact ih hg.2.1 hs
theorem uZ {g:List Str} {l:List PV} {x:Str} (h:x ∈ (g.zip l).map (·.1)):x ∈ g:=by
 obtain ⟨e,he,rfl⟩:=List.mem_map.mp h
 exact (List.of_mem_zip he).1
section
variable {p:List aj} {n:Nat} {A B:cu} {l:List (aj × Int)} {es:bR} {s:aj} {t:Int}
theorem adS {x:Str} {j:Int} (hp:cF p) (hs:s ∈ p) (h0:0 <= t) (hb:fm p x j=false):ah (x,j) (b7 n es s t)=ah (x,j) es:=by
 unfold b7
 split
 ·rfl
 ·refine lY _ _ ?_
  by_cases hx:x ∈ s.gives
  ·refine .inl fun q=>?_
   unfold fm at hb
   rw [y9 hx hp.gives hs] at hb
   obtain ⟨h1,h2⟩:=Bool.or_eq_false_iff.mp hb
   have h1:d7 s.rule=true:=by cases hl:d7 s.rule <;> rw [hl] at h1 <;> first | rfl | contradiction
   have q:j=t + (if d7 s.rule=true then 1 else 0):=q
   rw [if_pos h1] at q
   have:=of_decide_eq_false h2
   (grind)
  ·exact .inr fun q=>hx (uZ q)
theorem bt.free {x:Str} {j:Int} (hp:cF p) (h:bt p n A B l) (hb:fm p x j=false):ah (x,j) B.es=ah (x,j) A.es:=by
 induction h with
 | nil=>rfl
 | snoc h hs h0 h1 hr ih=>exact (adS hp hs h0 hb).trans ih
theorem ada {w:Int} {k:Str × Int}:∀ (l:List (Str × PV)) (es:bR),(ah k es).isSome=true->(ah k (l.foldl (dW w) es)).isSome=true:=by
 intro l
 induction l with
 | nil=>intro es h; exact h
 | cons e l ih =>
  intro es h
  rw [List.foldl_cons]
  refine ih _ ?_
  unfold dW
  split
  ·exact h
  ·rw [lZ]
   split
   ·rfl
   ·exact h
theorem adQ {k:Str × Int} (h:(ah k es).isSome=true):(ah k (b7 n es s t)).isSome=true:=by
 unfold b7
 split
 ·exact h
 ·exact ada _ _ h
theorem afS {w:Int} {v:PV} (hv:bW v=false):∀ (g:List Str) (es:bR) (x:Str),x ∈ g->ah (x,w) ((g.zip (List.replicate g.length v)).foldl (dW w) es)=some v:=by
 intro g
 induction g with
 | nil=>intro es x h; contradiction
 | cons a g ih =>
  intro es x h
  rw [List.length_cons,List.replicate_succ,List.zip_cons_cons,List.foldl_cons]
  by_cases hx:x ∈ g
  ·exact ih _ x hx
  ·rw [lY _ _ (.inr fun q=>hx (uZ q))]
   unfold dW
   rw [if_neg (by rw [hv]; decide),lZ,if_pos]
   rw [(List.mem_cons.mp h).resolve_right hx]
theorem afq {x:Str} (hw:l7 s.rule=false) (hv:bW (dh s.rule (cw es s t))=false) (hn:bw s t ≠ n) (hx:x ∈ s.gives):ah (x,bw s t) (b7 n es s t)=some (dh s.rule (cw es s t)):=by
 unfold b7 mc
 rw [if_neg hn,if_neg (by rw [hw]; decide)]
 exact afS hv _ _ _ hx
theorem ab4 {k:Str × Int} (h:k.2 ≠ bw s t\/k.1 ∉ s.gives):ah k (b7 n es s t)=ah k es:=by
 unfold b7
 split
 ·rfl
 ·exact lY _ _ (h.imp id fun h q=>h (uZ q))
theorem afb (hc:cS s.rule=false) (hm:cj es s t=none):∀ x ∈ s.needs,∃ v,ah (x,t) es=some v:=by
 intro x hx
 unfold cj mM at hm
 rw [hc,if_neg (by decide),List.find?_eq_none] at hm
 cases ha:ah (x,t) es with
 | none=>exact absurd (by rw [ha]; rfl) (hm x hx)
 | some v=>exact ⟨v,rfl⟩
theorem adn (hc:cS s.rule=false) (h:∀ x ∈ s.needs,(ah (x,t) es).isSome=true):cj es s t=none:=by
 unfold cj mM
 rw [hc,if_neg (by decide),List.find?_eq_none]
 intro x hx
 have:=h x hx
 cases ha:ah (x,t) es with
 | none=>rw [ha] at this; contradiction
 | some v=>exact fun q=>nomatch q
theorem abI (hr:B.rdy s t=false) (hm:cj B.es s t=none):(ah (s.name,t) B.gs).isSome=true:=by
 have hr:((ah (s.name,t) B.gs).isNone && (cj B.es s t).isNone)=false:=hr
 rw [hm] at hr
 cases ha:ah (s.name,t) B.gs with
 | none=>rw [ha] at hr; contradiction
 | some v=>rfl
theorem qZ {κ:Type} [DecidableEq κ] {k:κ} {es:List (κ × PV)}:(ah k es).isSome=true ↔ k ∈ es.map (·.1):=by
 unfold ah
 rw [Option.isSome_map,List.find?_isSome,List.mem_map]
 exact ⟨fun ⟨e,he,q⟩=>⟨e,he,of_decide_eq_true q⟩,fun ⟨e,he,q⟩=>⟨e,he,decide_eq_true q⟩⟩
structure Gk (p:List aj) (n:Nat) (B:cu):Prop where
 nodup:(B.gs.map (·.1)).Nodup
 inn:∀ k:Str × Int,k ∈ B.gs.map (·.1)->∃ s ∈ p,k.1=s.name/\0 <= k.2/\k.2 < (n:Int)
 os:B.os=B.gs.map fun e=>.tup [.str e.1.1,.int e.1.2]
theorem bt.gk (h:bt p n A B l) (g:Gk p n A):Gk p n B:=by
 induction h with
 | nil=>exact g
 | @snoc B l s t h hs h0 h1 hr ih =>
  have hg:=(cu.rdy_of hr).1
  have nin:(s.name,t) ∉ B.gs.map (·.1):=fun q=>by
   have:=qZ.mpr q
   rw [hg] at this; contradiction
  refine ⟨?_,fun k hk=>?_,?_⟩
  ·show ((B.gs++[((s.name,t),PV.bool true)]).map (·.1)).Nodup
   rw [List.map_append,List.nodup_append]
   refine ⟨ih.nodup,List.nodup_cons.mpr ⟨List.not_mem_nil,List.nodup_nil⟩,fun a ha b hb q=>?_⟩
   rw [List.mem_singleton.mp hb] at q
   have q:a=(s.name,t):=q
   rw [q] at ha; exact nin ha
  ·have hk:k ∈ (B.gs++[((s.name,t),PV.bool true)]).map (·.1):=hk
   rw [List.map_append] at hk
   rcases List.mem_append.mp hk with hk | hk
   ·exact ih.inn k hk
   ·rw [List.mem_singleton.mp hk]
    exact ⟨s,hs,rfl,h0,h1⟩
  ·show B.os++[_]=(B.gs++[((s.name,t),PV.bool true)]).map _
   rw [List.map_append,ih.os]; rfl
theorem bt.count (h:bt p n A B l):B.gs.length=A.gs.length + l.length:=by
 induction h with
 | nil=>rfl
 | @snoc B l s t h hs h0 h1 hr ih =>
  show (B.gs++[((s.name,t),PV.bool true)]).length=_
  rw [List.length_append,List.length_append,ih]; rfl
end
theorem z0:((0:Nat):Int) <= 0:=Int.le_refl 0
theorem adi {α:Type} [DecidableEq α]:∀ (l k:List α),l.Nodup->(∀ x ∈ l,x ∈ k)->l.length <= k.length:=by
 intro l
 induction l with
 | nil=>intro k _ _; exact Nat.zero_le _
 | cons a l ih =>
  intro k hn hk
  rw [List.nodup_cons] at hn
  have ha:=hk a List.mem_cons_self
  have:=ih (k.erase a) hn.2 fun x hx=>(List.mem_erase_of_ne (fun e:x=a=>hn.1 (by rw [<- e]; exact hx))).mpr (hk x (bJ _ hx))
  rw [List.length_erase_of_mem ha] at this
  have:=List.length_pos_of_mem ha
  rw [List.length_cons]; (grind)
theorem Gk.len {p:List aj} {n:Nat} {B:cu} (g:Gk p n B):B.gs.length <= p.length * n:=by
 have:=adi _ ((p.map (·.name)).flatMap fun x=>(List.range n).map fun (t:Nat)=>(x,(t:Int))) g.nodup fun k hk=>by
  obtain ⟨s,hs,h1,h2,h3⟩:=g.inn k hk
  obtain ⟨x,t⟩:=k
  obtain ⟨t,rfl⟩:=Int.eq_ofNat_of_zero_le h2
  rw [List.mem_flatMap]
  refine ⟨x,List.mem_map.mpr ⟨s,hs,Eq.symm h1⟩,List.mem_map.mpr ⟨t,List.mem_range.mpr (by have:(t:Int) < n:=h3; (exact Int.ofNat_lt.mp (by assumption))),rfl⟩⟩
 rw [List.length_map,List.length_flatMap] at this
 have c:∀ l:List Str,(l.map fun x=>((List.range n).map fun (t:Nat)=>(x,(t:Int))).length).sum=l.length * n:=by
  intro l
  induction l with
  | nil=>simp
  | cons a l ih=>rw [List.map_cons,List.sum_cons,ih,List.length_map,List.length_range,List.length_cons,Nat.succ_mul,Nat.add_comm]
 rw [c,List.length_map] at this
 exact this
theorem aaX {p:List aj} {x:Str} {j:Int} (h:∀ s ∈ p,x ∈ s.gives->d7 s.rule=true/\j <= 0):fm p x j=false:=by
 unfold fm
 cases hg:lA p x with
 | none=>rfl
 | some s =>
  have hs:=List.mem_of_find?_eq_some hg
  have hx:x ∈ s.gives:=of_decide_eq_true (List.find?_some (p:=fun s:aj=>decide (x ∈ s.gives)) hg)
  obtain ⟨h1,h2⟩:=h s hs hx
  show (!d7 s.rule || decide (j > 0))=false
  rw [h1,decide_eq_false (by grind)]; rfl
noncomputable def cu.put (B:cu) (x:Str) (j i:Int):cu:=⟨B.es++[((x,j),.int i)],B.gs,B.os⟩
end Mine
namespace Mine
open PySem
inductive aT (names:List Str) (σ:ac):PV->Prop
 | fl:aT names σ (.fl (names.map .str))
 | ref (j:Nat):σ[j]?=some (.lst (names.map .str))->aT names σ (.ref j)
theorem aT.app {names:List Str} {σ τ:ac} {v:PV} (h:aT names σ v):aT names (σ++τ) v:=by
 cases h with
 | fl=>exact .fl
 | ref j e=>exact .ref j (dL e)
noncomputable def nm (names:List Str) (i:Nat):Str:=names.getD i ""
theorem aT.sub {names:List Str} {σ:ac} {v:PV} {i:Nat} (h:aT names σ v) (hl:names.length=24) (hi:i < 24):eA v (.int (i:Nat)) σ=.ok (.str (nm names i)) σ:=by
 have hx:(names.map PV.str)[(i:Int).toNat]?=some (.str (nm names i)):=by
  rw [Int.toNat_natCast,List.getElem?_map,List.getElem?_eq_getElem (by rw [hl]; exact hi)]
  unfold nm
  rw [List.getD_eq_getElem?_getD,List.getElem?_eq_getElem (by rw [hl]; exact hi)]; rfl
 have hl':(names.map PV.str).length <= au:=by rw [List.length_map,hl]; decide
 cases h with
 | fl=>exact ke hl' (Int.natCast_nonneg i) hx
 | ref j e=>exact agV e hl' (Int.natCast_nonneg i) hx
structure fM (names:List Str):Prop where
 len:names.length=24
 nodup:names.Nodup
 ok:∀ x ∈ names,eh x
section
variable {names:List Str}
theorem fM.at_ (h:fM names) {i:Nat} (hi:i < 24):names[i]?=some (nm names i):=by
 unfold nm
 rw [List.getD_eq_getElem?_getD,List.getElem?_eq_getElem (by rw [h.len]; exact hi)]; rfl
theorem fM.inj (h:fM names) {i j:Nat} (hi:i < 24) (hj:j < 24) (e:nm names i=nm names j):i=j:=
 (List.getElem?_inj (by rw [h.len]; exact hi) h.nodup).mp ((h.at_ hi).trans ((congrArg some e).trans (h.at_ hj).symm))
theorem fM.name (h:fM names) {i:Nat} (hi:i < 24):eh (nm names i):=h.ok _ (List.mem_of_getElem? (h.at_ hi))
theorem yF (h:fM names) {k:Nat} (hk:k <= 24):((List.range k).map (nm names)).Nodup:=by
 refine List.Pairwise.imp_of_mem (R:=fun a b=>a ≠ b) ?_ (List.nodup_range (n:=k)) |> List.pairwise_map.mpr
 intro a b ha hb ne e
 exact ne (h.inj (Nat.lt_of_lt_of_le (List.mem_range.mp ha) hk) (Nat.lt_of_lt_of_le (List.mem_range.mp hb) hk) e)
end
structure Rg where
 nms:List Str
 m:Nat
 r:Nat
 lt:Bool
 n:Nat
 v:Int
 f:Int
structure aR (G:Rg):Prop where
 nm:fM G.nms
 m1:1 <= G.m
 m2:G.m <= 10
 r8:G.r <= 8
 n1:1 <= G.n
 n2:G.n <= 200
 v0:0 <= G.v/\G.v <= 999999
 f0:0 <= G.f/\G.f <= 999999
noncomputable def Rg.N (G:Rg) (i:Nat):Str:=nm G.nms i
noncomputable def Rg.pv (G:Rg) (k:Nat):Nat:=if k=0 then G.m - 1 else if k=G.m then 0 else k - 1
noncomputable def Rg.sb (G:Rg) (k:Nat):Bool->aj
 | true=>⟨G.N k,.word "later",[G.N (G.pv k)],[G.N k]⟩
 | false=>⟨G.N k,.word "sum",[G.N (G.pv k),G.N 23],[G.N k]⟩
noncomputable def Rg.lb (G:Rg) (k:Nat):Bool:=G.lt && decide (k=0)
noncomputable def Rg.st (G:Rg) (k:Nat):aj:=G.sb k (G.lb k)
noncomputable def Rg.l (G:Rg):List aj:=(List.range (G.m + G.r)).map G.st
section
variable {G:Rg}
theorem gE {k:Nat}:(G.st k).name=G.N k:=by unfold Rg.st; cases G.lb k <;> rfl
theorem iz {k:Nat}:(G.st k).gives=[G.N k]:=by unfold Rg.st; cases G.lb k <;> rfl
theorem oG {k:Nat} (h:k ≠ 0):G.lb k=false:=by unfold Rg.lb; rw [decide_eq_false h,Bool.and_false]
theorem gV (h:aR G) {k:Nat} (hk:k < G.m + G.r):G.pv k < G.m + G.r:=by
 unfold Rg.pv
 split
 ·exact Nat.lt_of_lt_of_le (Nat.sub_lt h.m1 (by decide)) (Nat.le_add_right _ _)
 split
 ·exact Nat.lt_of_lt_of_le h.m1 (Nat.le_add_right _ _)
 ·exact Nat.lt_of_le_of_lt (Nat.sub_le _ _) hk
theorem p7:G.pv 0=G.m - 1:=if_pos rfl
theorem sd (h:aR G):G.pv G.m=0:=by unfold Rg.pv; rw [if_neg (by have:=h.m1; (exact Nat.ne_of_gt (by assumption))),if_pos rfl]
theorem eR {k:Nat} (h0:k ≠ 0) (hm:k ≠ G.m):G.pv k=k - 1:=by unfold Rg.pv; rw [if_neg h0,if_neg hm]
theorem t9:G.l.length=G.m + G.r:=by unfold Rg.l; rw [List.length_map,List.length_range]
theorem ahd:G.l.map (·.name)=(List.range (G.m + G.r)).map G.N:=by
 unfold Rg.l
 rw [List.map_map]
 exact List.map_congr_left fun k zz=>gE
theorem aaV:G.l.flatMap (·.gives)=(List.range (G.m + G.r)).map G.N:=by
 unfold Rg.l
 rw [List.flatMap_map]
 induction List.range (G.m + G.r) with
 | nil=>rfl
 | cons a l ih=>rw [List.flatMap_cons,List.map_cons,<- ih,iz]; rfl
theorem lr {s:aj}:s ∈ G.l ↔ ∃ k,k < G.m + G.r/\s=G.st k:=by
 unfold Rg.l
 rw [List.mem_map]
 exact ⟨fun ⟨k,hk,e⟩=>⟨k,List.mem_range.mp hk,e.symm⟩,fun ⟨k,hk,e⟩=>⟨k,List.mem_range.mpr hk,e.symm⟩⟩
theorem cL (h:aR G) {k:Nat} (hk:k < G.m + G.r):k < 23:=Nat.lt_of_lt_of_le hk (aC (Nat.add_le_add h.m2 h.r8) (by decide))
theorem zO (h:aR G) {k:Nat} (hk:k < 24):eh (G.N k):=h.nm.name hk
theorem ja (h:aR G) {i j:Nat} (hi:i < 24) (hj:j < 24) (e:G.N i=G.N j):i=j:=h.nm.inj hi hj e
theorem qQ (h:aR G) {k:Nat} (hk:k < G.m + G.r):gb (G.st k):=by
 have hn:=zO h (Nat.lt_succ_of_lt (cL h hk))
 have hq:=zO h (Nat.lt_succ_of_lt (cL h (gV h hk)))
 have h3:=zO h (show 23 < 24 by decide)
 unfold Rg.st
 cases G.lb k with
 | true =>
  refine ⟨hn,fun x hx=>?_,Nat.le_refl _,Nat.le_of_ble_eq_true rfl,fun x hx=>?_,Nat.le_refl _,Nat.le_of_ble_eq_true rfl,List.nodup_cons.mpr ⟨List.not_mem_nil,List.nodup_nil⟩,.later _⟩
  ·rw [List.mem_singleton.mp hx]; exact hq
  ·rw [List.mem_singleton.mp hx]; exact hn
 | false =>
  refine ⟨hn,fun x hx=>?_,Nat.le_of_ble_eq_true rfl,Nat.le_of_ble_eq_true rfl,fun x hx=>?_,Nat.le_refl _,Nat.le_of_ble_eq_true rfl,List.nodup_cons.mpr ⟨List.not_mem_nil,List.nodup_nil⟩,.sum _ _⟩
  ·rcases List.mem_cons.mp hx with rfl | hx
   ·exact hq
   ·rw [List.mem_singleton.mp hx]; exact h3
  ·rw [List.mem_singleton.mp hx]; exact hn
theorem kh (h:aR G) {p:List aj} (hp:p.Perm G.l):cF p:=by
 have nn:=yF h.nm (k:=G.m + G.r) (aC (Nat.add_le_add h.m2 h.r8) (by decide))
 refine ⟨?_,?_,fun s hs=>?_,?_,?_⟩
 ·rw [hp.length_eq,t9]; exact aC h.m1 (Nat.le_add_right _ _)
 ·rw [hp.length_eq,t9]; exact aC (Nat.add_le_add h.m2 h.r8) (by decide)
 ·obtain ⟨k,hk,rfl⟩:=lr.mp (hp.mem_iff.mp hs)
  exact qQ h hk
 ·rw [(hp.map _).nodup_iff,ahd]; exact nn
 ·rw [(hp.flatMap_right _).nodup_iff,aaV]; exact nn
end
section
variable {C:aV} {ρ:aq} {σ σ₁:ac}
theorem ig {x:X} {a:PV} (h:ev C x ρ σ=.ok a σ):ev C (.tup (.cons x .nil)) ρ σ=.ok (.tup [a]) σ:=rb (vs:=[a]) (aJ h bC) (show (1:Nat) <= au by decide)
theorem fj {x y:X} {a b:PV} (h:ev C x ρ σ=.ok a σ) (h2:ev C y ρ σ=.ok b σ):ev C (.tup (.cons x (.cons y .nil))) ρ σ=.ok (.tup [a,b]) σ:=rb (vs:=[a,b]) (aJ h (aJ h2 bC)) (show (2:Nat) <= au by decide)
theorem ad3 {x y z:X} {a b c:PV} (h:ev C x ρ σ=.ok a σ) (h2:ev C y ρ σ=.ok b σ) (h3:ev C z ρ σ=.ok c σ):ev C (.tup (.cons x (.cons y (.cons z .nil)))) ρ σ=.ok (.tup [a,b,c]) σ:=rb (vs:=[a,b,c]) (aJ h (aJ h2 (aJ h3 bC))) (show (3:Nat) <= au by decide)
theorem ad2 {x y z u:X} {a b c e:PV} (h:ev C x ρ σ=.ok a σ) (h2:ev C y ρ σ=.ok b σ) (h3:ev C z ρ σ=.ok c σ) (h4:ev C u ρ σ=.ok e σ):ev C (.tup (.cons x (.cons y (.cons z (.cons u .nil))))) ρ σ=.ok (.tup [a,b,c,e]) σ:=
 rb (vs:=[a,b,c,e]) (aJ h (aJ h2 (aJ h3 (aJ h4 bC)))) (show (4:Nat) <= au by decide)
theorem qT {x:X} {n:Nat} (h:ev C x ρ σ=.ok (.int (n:Nat)) σ) (hn:n <= 1000):evIt C (.range1 x) ρ σ=.ok (aL 0 1 n,none) σ:=by
 rw [mK,h,aA]
 show (if 0 <= (n:Int)/\(n:Int) <= au then af.ok (aL 0 1 (n:Int).toNat,none) σ else .stuck)=_
 rw [if_pos ⟨Int.natCast_nonneg _,Int.ofNat_le.mpr (aC hn (by decide))⟩]; rfl
theorem j4 {n:Nat}:aL 0 1 n=(List.range' 0 n).map fun (i:Nat)=>PV.int (i:Int):=by
 unfold aL
 rw [List.range_eq_range']
 exact List.map_congr_left fun k zz=>by rw [Int.zero_add,Int.mul_one]
theorem ai3 {N:Nat} {o i x:X} {v:PV} {r k:Nat} {xs:List PV} (hx:ev C x ρ σ=.ok v σ) (ho:ev C o ρ σ=.ok (.ref r) σ) (hi:ev C i ρ σ=.ok (.int (k:Nat)) σ) (hr:σ[r]?=some (.lst xs)) (hk:k < xs.length) (hl:xs.length <= 1000):ex C N (.asgSub o i x) ρ σ=.next ρ (σ.set r (.lst (xs.set k v))):=by
 show (ev C x ρ σ).toS ρ (fun v σ=>(ev C o ρ σ).toS ρ fun o σ=>(ev C i ρ σ).toS ρ fun i σ=>bp o i v ρ σ)=_
 rw [hx,cH,ho,cH,hi,cH]
 unfold bp
 dsimp only
 rw [hr]
 show (match (if 0 <= (k:Int)/\(k:Int).toNat < xs.length/\xs.length <= au then some (MO.lst (xs.set (k:Int).toNat v)) else none) with
  | some m=>ba.next ρ (σ.set r m)
  | none=>.stuck)=_
 rw [if_pos ⟨Int.natCast_nonneg _,by rw [Int.toNat_natCast]; exact hk,aC hl (by decide)⟩]; rfl
end
theorem aiz {G:Rg} (h:aR G) {a:Nat}:G.m + a ≠ 0:=Nat.ne_of_gt (Nat.lt_of_lt_of_le h.m1 (Nat.le_add_right _ _))
theorem iF {α:Type} {L:List α} {x:α} {c n:Nat} (h:L.length + (c + 1) < n):(L++[x]).length + c < n:=by
 rw [List.length_append,Nat.add_assoc,Nat.add_comm _ c]; exact h
theorem kq {α:Type} {L:List α} {c n:Nat} (h:L.length + c < n):L.length < n:=Nat.lt_of_le_of_lt (Nat.le_add_right _ _) h
theorem wv {G:Rg} (h:aR G) {i:Nat} (hi:i < G.m):i < 24:=Nat.lt_of_lt_of_le hi (aC h.m2 (by decide))
theorem vC {a b c:Int}:a - b - c=a - c - b:=by rw [Int.sub_sub,Int.sub_sub,Int.add_comm b]
theorem rZ {a:Nat}:((a + 1:Nat):Int) - 1=a:=Int.add_sub_cancel (a:Int) 1
theorem oc {a:Nat} (h:1 <= a):(a:Int) - 1=((a - 1:Nat):Int):=(Int.ofNat_sub h).symm
section
variable {d:Nat} {σ:ac} {G:Rg} {nv:PV} {j:Nat}
noncomputable def RS (G:Rg) (nv:PV) (j:Nat) (k a b c:Option PV):aq:=[some nv,some (.int (G.m:Nat)),some (.int (G.r:Nat)),some (.bool G.lt),some (.ref j),k,a,b,c,none,none]
theorem ac9 (h:aR G) {k:Nat} (hk:k < G.m):((k:Int) - 1) % (G.m:Nat)=(G.pv k:Nat):=by
 cases k with
 | zero =>
  have:((0:Nat):Int) - 1=((G.m - 1:Nat):Int) - (G.m:Nat):=by rw [<- oc h.m1,vC,Int.sub_self]; rfl
  rw [p7,this,Int.sub_emod_right]
  exact Int.emod_eq_of_lt (Int.natCast_nonneg _) (Int.ofNat_lt.mpr (Nat.sub_lt h.m1 (by decide)))
 | succ k =>
  rw [eR (Nat.succ_ne_zero k) (Nat.ne_of_lt hk),rZ]
  exact Int.emod_eq_of_lt (Int.natCast_nonneg _) (Int.ofNat_lt.mpr (Nat.lt_of_succ_lt hk))
theorem aeo {C:aV} {N:Nat} {ρ:aq} {τ:ac} {o x y z u:X} {ss:List aj} {s:aj} (ho:ev C o ρ τ=.ok (.ref j) τ) (hj:τ[j]?=some (.lst (ss.map aj.pv))) (hx:ev C x ρ τ=.ok (.str s.name) τ) (hy:ev C y ρ τ=.ok s.rule.pv τ) (hz:ev C z ρ τ=.ok (.tup (s.needs.map .str)) τ) (hu:ev C u ρ τ=.ok (.tup (s.gives.map .str)) τ) (hl:ss.length < 500) :
  ex C N (.expr (.me .append o (.cons (.tup (.cons x (.cons y (.cons z (.cons u .nil))))) .nil))) ρ τ=.next ρ (τ.set j (.lst ((ss++[s]).map aj.pv))):=by
 refine (bX (o6 ho (vm hj) (ad2 hx hy hz hu) (j0 hj (by rw [List.length_map]; exact Nat.lt_trans hl (by decide))))).trans ?_
 rw [List.map_append]; rfl
theorem agX (h:aR G) {τ:ac} {a:Nat} {ss:List aj} {y:Option PV} (hv:aT G.nms τ nv) (ha:a < G.m) (hj:τ[j]?=some (.lst (ss.map aj.pv))) (hl:ss.length < 500) :
  ex (CC d) topN g6 (RS G nv j (some (.int (a:Int))) y none none) τ=.next (RS G nv j (some (.int (a:Int))) (some (.tup [.str (G.N (G.pv a)),.str (G.N 23)])) none none) (τ.set j (.lst ((ss++[G.sb a false]).map aj.pv))):=by
 have n1:=hv.sub h.nm.len (Nat.lt_succ_of_lt (cL h (gV h (Nat.lt_of_lt_of_le ha (Nat.le_add_right _ _)))))
 have na:∀ {y:Option PV},ev (CC d) (.sub (.v 0) (.v 5)) (RS G nv j (some (.int (a:Int))) y none none) τ=.ok (.str (G.N a)) τ:=fun {y}=>aU (x:=nv) (σ₁:=τ) rfl (y:=.int (a:Int)) (σ₂:=τ) rfl (hv.sub h.nm.len (wv h ha))
 have x0:ex (CC d) topN kC (RS G nv j (some (.int (a:Int))) y none none) τ=.next (RS G nv j (some (.int (a:Int))) (some (.tup [.str (G.N (G.pv a)),.str (G.N 23)])) none none) τ:=
  aE (fj (aU (x:=nv) (σ₁:=τ) rfl (az (az (x:=.int (a:Int)) (σ₁:=τ) rfl (y:=.int 1) (σ₂:=τ) rfl sub_int) (y:=.int (G.m:Nat)) (σ₂:=τ) rfl (bn (Int.ofNat_lt.mpr h.m1))) (by rw [ac9 h ha]; exact n1)) (aU (x:=nv) (σ₁:=τ) rfl (y:=.int ((23:Nat):Int)) (σ₂:=τ) rfl (hv.sub h.nm.len (by decide))))
 exact (aa x0).trans ((aa (a:=kB) (aeo (s:=G.sb a false) rfl hj na (ig (a:=.str "sum") rfl) rfl (ig na) hl)).trans aK)
theorem ail (h:aR G) (hv:aT G.nms σ nv):∀ (k a:Nat) (ss:List aj) (z y:Option PV),a + k=G.m->ss.length + k < 500 ->
  ∃ z' y',aX none (bE 5) (fun ρ σ=>ex (CC d) topN g6 ρ σ) ((List.range' a k).map fun (i:Nat)=>PV.int (i:Int)) (RS G nv σ.length z y none none) (σ++[.lst (ss.map aj.pv)]) =
   .next (RS G nv σ.length z' y' none none) (σ++[.lst ((ss++(List.range' a k).map fun i=>G.sb i false).map aj.pv)]):=by
 intro k
 induction k with
 | zero=>intro a ss z y _ _; refine ⟨z,y,bB.trans ?_⟩; rw [List.range'_zero,List.map_nil,List.append_nil]
 | succ k ih =>
  intro a ss z y ha hs
  have x:=agX (d:=d) (y:=y) h (hv.app (τ:=[.lst (ss.map aj.pv)])) (ha ▸ Nat.lt_add_of_pos_right (Nat.succ_pos k)) bZ (kq hs)
  rw [di] at x
  obtain ⟨z',y',e⟩:=ih (a + 1) (ss++[G.sb a false]) (some (.int (a:Int))) (some (.tup [.str (G.N (G.pv a)),.str (G.N 23)])) ((Nat.succ_add_eq_add_succ a k).trans ha) (iF hs)
  refine ⟨z',y',?_⟩
  rw [List.range'_succ,List.map_cons]
  refine (bf (ρ₁:=RS G nv σ.length (some (.int (a:Int))) y none none) rfl x).trans (e.trans ?_)
  rw [List.append_assoc,List.map_cons]; rfl
theorem agW (h:aR G) {τ:ac} {a:Nat} {ss:List aj} {y x w:Option PV} (hv:aT G.nms τ nv) (ha:a < G.r) (hj:τ[j]?=some (.lst (ss.map aj.pv))) (hl:ss.length < 500) :
  ex (CC d) topN g0 (RS G nv j (some (.int (a:Int))) y x w) τ=.next (RS G nv j (some (.int (a:Int))) y (some (.str (G.N (G.pv (G.m + a))))) (some (.str (G.N (G.m + a))))) (τ.set j (.lst ((ss++[G.sb (G.m + a) false]).map aj.pv))):=by
 have lt1:=Nat.add_lt_add_left ha G.m
 have n1:=hv.sub h.nm.len (Nat.lt_succ_of_lt (cL h (gV h lt1)))
 have n2:=hv.sub h.nm.len (Nat.lt_succ_of_lt (cL h lt1))
 have sub2:eA (.fl [.int ((G.m:Int) + (a:Int) - 1),.int 0]) (.int (if ((a:Int) == 0)=true then 1 else 0)) τ=.ok (.int (G.pv (G.m + a):Nat)) τ:=by
  cases a with
  | zero=>rw [Nat.add_zero,sd h]; rfl
  | succ a =>
   rw [eR (aiz h) (Nat.ne_of_gt (Nat.lt_add_of_pos_right (Nat.succ_pos a))),if_neg (fun z=>Nat.succ_ne_zero a (Int.ofNat.inj (eq_of_beq z)):¬ (((a + 1:Nat):Int) == 0)=true),<- Int.natCast_add,oc (a:=G.m + (a + 1)) (Nat.succ_le_succ (Nat.zero_le _))]
   rfl
 have x0:ex (CC d) topN kA (RS G nv j (some (.int (a:Int))) y x w) τ=.next (RS G nv j (some (.int (a:Int))) y (some (.str (G.N (G.pv (G.m + a))))) w) τ:=
  aE (aU (x:=nv) (σ₁:=τ) rfl (aU (x:=.fl [.int ((G.m:Int) + (a:Int) - 1),.int 0]) (σ₁:=τ) rfl (cZ (d4 (x:=.int (a:Int)) (σ₁:=τ) rfl (y:=.int 0) (σ₂:=τ) rfl dN) int_bool) sub2) n1)
 have x1:ex (CC d) topN kz (RS G nv j (some (.int (a:Int))) y (some (.str (G.N (G.pv (G.m + a))))) w) τ=.next (RS G nv j (some (.int (a:Int))) y (some (.str (G.N (G.pv (G.m + a))))) (some (.str (G.N (G.m + a))))) τ:=
  aE (aU (x:=nv) (σ₁:=τ) rfl (az (x:=.int (G.m:Nat)) (σ₁:=τ) rfl (y:=.int (a:Int)) (σ₂:=τ) rfl add_int) (by rw [<- Int.natCast_add]; exact n2))
 exact (aa x0).trans ((aa x1).trans ((aa (a:=ky) (aeo (s:=G.sb (G.m + a) false) rfl hj rfl (ig (a:=.str "sum") rfl) (fj (a:=.str (G.N (G.pv (G.m + a)))) rfl (aU (x:=nv) (σ₁:=τ) rfl (y:=.int ((23:Nat):Int)) (σ₂:=τ) rfl (hv.sub h.nm.len (by decide)))) (ig (a:=.str (G.N (G.m + a))) rfl) hl)).trans aK))
theorem aij (h:aR G) (hv:aT G.nms σ nv):∀ (k a:Nat) (ss:List aj) (z y x w:Option PV),a + k=G.r->ss.length + k < 500 ->
  ∃ z' x' w',aX none (bE 5) (fun ρ σ=>ex (CC d) topN g0 ρ σ) ((List.range' a k).map fun (i:Nat)=>PV.int (i:Int)) (RS G nv σ.length z y x w) (σ++[.lst (ss.map aj.pv)]) =
   .next (RS G nv σ.length z' y x' w') (σ++[.lst ((ss++(List.range' a k).map fun i=>G.sb (G.m + i) false).map aj.pv)]):=by
 intro k
 induction k with
 | zero=>intro a ss z y x w _ _; refine ⟨z,x,w,bB.trans ?_⟩; rw [List.range'_zero,List.map_nil,List.append_nil]
 | succ k ih =>
  intro a ss z y x w ha hs
  have s:=agW (d:=d) (y:=y) (x:=x) (w:=w) h (hv.app (τ:=[.lst (ss.map aj.pv)])) (ha ▸ Nat.lt_add_of_pos_right (Nat.succ_pos k)) bZ (kq hs)
  rw [di] at s
  obtain ⟨z',x',w',e⟩:=ih (a + 1) (ss++[G.sb (G.m + a) false]) (some (.int (a:Int))) y (some (.str (G.N (G.pv (G.m + a))))) (some (.str (G.N (G.m + a)))) ((Nat.succ_add_eq_add_succ a k).trans ha) (iF hs)
  refine ⟨z',x',w',?_⟩
  rw [List.range'_succ,List.map_cons]
  refine (bf (ρ₁:=RS G nv σ.length (some (.int (a:Int))) y x w) rfl s).trans (e.trans ?_)
  rw [List.append_assoc,List.map_cons]; rfl
theorem aku (h:aR G):G.l=((List.range' 0 G.m).map G.st)++(List.range' 0 G.r).map fun i=>G.sb (G.m + i) false:=by
 unfold Rg.l
 rw [List.range_add,List.map_append,List.map_map,List.range_eq_range',List.range_eq_range']
 refine congrArg _ (List.map_congr_left fun k zz=>?_)
 show G.sb (G.m + k) (G.lb (G.m + k))=_
 rw [oG (aiz h)]
theorem aaM {a b:Nat} (h:G.lt=false\/1 <= a):(List.range' a b).map G.st=(List.range' a b).map fun i=>G.sb i false:=List.map_congr_left fun k hk=>by
 show G.sb k (G.lb k)=_
 rcases h with h | h
 ·unfold Rg.lb; rw [h]; rfl
 ·rw [oG (Nat.ne_of_gt (Nat.lt_of_lt_of_le h (List.mem_range'_1.mp hk).1))]
theorem aik (h:aR G) (hv:aT G.nms σ nv) {z y:Option PV}:ex (CC d) topN m8 (RS G nv σ.length z y none none) (σ++[.lst (((List.range' 0 G.m).map fun i=>G.sb i false).map aj.pv)])=.next (RS G nv σ.length z y none none) (σ++[.lst (((List.range' 0 G.m).map G.st).map aj.pv)]):=by
 have len1:(((List.range' 0 G.m).map fun i=>G.sb i false).map aj.pv).length=G.m:=by rw [List.length_map,List.length_map,List.length_range']
 have hv':aT G.nms (σ++[.lst (((List.range' 0 G.m).map fun i=>G.sb i false).map aj.pv)]) nv:=hv.app
 have g:(σ++[MO.lst (((List.range' 0 G.m).map fun i=>G.sb i false).map aj.pv)])[σ.length]?=some (.lst (((List.range' 0 G.m).map fun i=>G.sb i false).map aj.pv)):=bZ
 generalize hτ:σ++[MO.lst (((List.range' 0 G.m).map fun i=>G.sb i false).map aj.pv)]=τ at hv' g
 have tt:tst (CC d) (.v 3) (RS G nv σ.length z y none none) τ=.ok G.lt τ:=rfl
 cases hlt:G.lt with
 | false =>
  rw [hlt] at tt
  rw [aaM (.inl hlt),hτ]
  exact ao tt
 | true =>
  rw [hlt] at tt
  have n0:∀ {x:PV},x=.int ((0:Nat):Int)->eA nv x τ=.ok (.str (G.N 0)) τ:=fun {x} e=>by rw [e]; exact hv'.sub h.nm.len (by decide)
  refine (aH tt).trans ((aa (ai3 (v:=(G.sb 0 true).pv) (k:=0) ?_ rfl rfl g (by rw [len1]; exact h.m1) (by rw [len1]; exact aC h.m2 (by decide)))).trans ?_)
  ·refine ad2 (aU (x:=nv) rfl rfl (n0 rfl)) (ig (a:=.str "later") rfl) (ig (aU (x:=nv) rfl (az (x:=.int (G.m:Nat)) rfl (y:=.int 1) rfl sub_int) ?_)) (ig (aU (x:=nv) rfl rfl (n0 rfl)))
   rw [oc h.m1,p7]; exact hv'.sub h.nm.len (wv h (Nat.sub_lt h.m1 (by decide)))
  ·obtain ⟨q,hq⟩:=Nat.exists_eq_add_of_le' h.m1
   rw [<- hτ,di,<- List.map_set,hq,List.range'_succ,List.map_cons,List.map_cons,List.set_cons_zero,<- aaM (.inr (Nat.le_refl _))]
   rw [show G.st 0=G.sb 0 true by show G.sb 0 (G.lb 0)=_; unfold Rg.lb; rw [hlt]; rfl]; rfl
theorem abZ (h:aR G) (hv:aT G.nms σ nv):aG PP topN (d + 1) rE [nv,.int (G.m:Nat),.int (G.r:Nat),.bool G.lt] σ=.ok (.ref σ.length) (σ++[.lst (G.l.map aj.pv)]):=by
 rw [a5 (fn:=rG) rfl rfl]
 obtain ⟨z,y,e1⟩:=ail (d:=d) h hv G.m 0 [] none none (Nat.zero_add _) (Nat.lt_of_le_of_lt (Nat.add_le_add_left h.m2 _) (by decide))
 rw [<- j4,List.nil_append] at e1
 obtain ⟨z3,x3,w3,e3⟩:=aij (d:=d) h hv G.r 0 ((List.range' 0 G.m).map G.st) z y none none (Nat.zero_add _) (by rw [List.length_map,List.length_range']; exact Nat.lt_of_le_of_lt (Nat.add_le_add h.m2 h.r8) (by decide))
 rw [<- j4,<- aku h] at e3
 exact (congrArg aQ ((aa (a:=nb) (ρ':=RS G nv σ.length none none none none) (σ':=σ++[.lst []]) rfl).trans ((aa (a:=m9) (bP (qT (n:=G.m) rfl (aC h.m2 (by decide))) e1)).trans ((aa (aik h hv)).trans ((aa (a:=m7) (bP (qT (n:=G.r) rfl (aC h.r8 (by decide))) e3)).trans (ak (a:=mZ) (av rfl))))))).trans rfl
end
end Mine
namespace Mine
open PySem
theorem jM {c:aq->ac->af Bool} {f:aq->ac->ba} {n:Nat} {ρ ρ':aq} {σ σ':ac} (hc:c ρ σ=.ok true σ) (hf:f ρ σ=.next ρ' σ'):bc c f (n + 1) ρ σ=bc c f n ρ' σ':=by
 show (match c ρ σ with
  | .ok true σ=>match f ρ σ with
   | .next ρ σ=>bc c f n ρ σ
   | .cont ρ σ=>bc c f n ρ σ
   | .brk ρ σ=>.next ρ σ
   | .ret v ρ σ=>.ret v ρ σ
   | _=>.stuck
  | .ok false σ=>.next ρ σ
  | _=>.stuck)=_
 rw [hc]
 dsimp only
 rw [hf]
theorem pX {c:aq->ac->af Bool} {f:aq->ac->ba} {n:Nat} {ρ:aq} {σ:ac} (hc:c ρ σ=.ok false σ):bc c f (n + 1) ρ σ=.next ρ σ:=by
 show (match c ρ σ with
  | .ok true σ=>match f ρ σ with
   | .next ρ σ=>bc c f n ρ σ
   | .cont ρ σ=>bc c f n ρ σ
   | .brk ρ σ=>.next ρ σ
   | .ret v ρ σ=>.ret v ρ σ
   | _=>.stuck
  | .ok false σ=>.next ρ σ
  | _=>.stuck)=_
 rw [hc]
theorem aa1 {C:aV} {N:Nat} {is:List Nat} {x:X} {v:PV} {ρ ρ':aq} {σ σ':ac} (hd:C.hd=false) (h:ev C x ρ σ=.ok v σ') (hb:fJ is v ρ=some ρ'):ex C N (.asgT is x) ρ σ=.next ρ' σ':=by
 show (bif C.hd then ba.stuck else (ev C x ρ σ).toS ρ fun v σ=>match fJ is v ρ with
  | some ρ=>.next ρ σ
  | none=>.stuck)=_
 rw [hd,h,cond_false,cH,hb]
theorem v7 {τ υ:ac} {a m:MO}:(τ++a::m::υ)[τ.length + 1]?=some m:=by
 rw [List.getElem?_append_right (Nat.le_add_right _ _),Nat.add_sub_cancel_left]; rfl
theorem aeJ {τ υ:ac} {a m m':MO}:(τ++a::m::υ).set (τ.length + 1) m'=τ++a::m'::υ:=by
 rw [List.set_append_right _ _ (Nat.le_add_right _ _),Nat.add_sub_cancel_left]; rfl
theorem afR {κ:Type} [DecidableEq κ] {k:κ} {v:PV}:∀ {es:List (κ × PV)},(es.map (·.1)).Nodup->(k,v) ∈ es->ah k es=some v:=by
 intro es
 induction es with
 | nil=>intro _ h; contradiction
 | cons e es ih =>
  intro hn hm
  rw [List.map_cons,List.nodup_cons] at hn
  unfold ah
  rw [List.find?_cons]
  by_cases q:e.1=k
  ·rw [decide_eq_true q]
   rcases List.mem_cons.mp hm with rfl | hm
   ·rfl
   ·exact absurd (List.mem_map.mpr ⟨_,hm,q.symm⟩) hn.1
  ·rw [decide_eq_false q]
   exact ih hn.2 ((List.mem_cons.mp hm).resolve_left fun z=>q (by rw [<- z]))
theorem ahR {C:aV} {ρ:aq} {σ:ac} {N:Nat} {o i x:X} {v:PV} {r:Nat} {k:Str} {t:Int} {es:bR} (hx:ev C x ρ σ=.ok v σ) (ho:ev C o ρ σ=.ok (.ref r) σ) (hi:ev C i ρ σ=.ok (.tup [.str k,.int t]) σ) (hr:σ[r]?=some (.dp es)) (ha:ah (k,t) es=none) (hl:es.length < 100000):ex C N (.asgSub o i x) ρ σ=.next ρ (σ.set r (.dp (es++[((k,t),v)]))):=by
 show (ev C x ρ σ).toS ρ (fun v σ=>(ev C o ρ σ).toS ρ fun o σ=>(ev C i ρ σ).toS ρ fun i σ=>bp o i v ρ σ)=_
 rw [hx,cH,ho,cH,hi,cH]
 unfold bp
 dsimp only
 rw [hr]
 show (match (if es.length < au then some (MO.dp (bQ (k,t) v es)) else none) with
  | some m=>ba.next ρ (σ.set r m)
  | none=>.stuck)=_
 rw [if_pos (Nat.lt_of_lt_of_le hl (by decide)),v8 ha]
section
variable {G:Rg} {p:List aj} {X:Ix} {es:bR} {σ:ac} {d:Nat}
structure db (G:Rg) (p:List aj) (X:Ix) (es:bR) (σ:ac):Prop where
 ok:aR G
 perm:p.Perm G.l
 bo:Bo p G.n es [] [] X σ
 no:∀ k,k < G.m + G.r->∀ t:Int,ah (G.N k,t) es=none
 val:dO es
theorem db.more {τ:ac} (q:db G p X es σ):db G p X es (σ++τ):=⟨q.ok,q.perm,q.bo.more,q.no,q.val⟩
theorem qR (hp:p.Perm G.l) {k:Nat} (hk:k < G.m + G.r):G.st k ∈ p:=hp.mem_iff.mpr (lr.mpr ⟨k,hk,rfl⟩)
theorem je {k:Nat}:cS (G.st k).rule=false:=by
 unfold Rg.st
 cases G.lb k
 ·exact (show cS (.word "sum")=false by decide +kernel)
 ·exact (show cS (.word "later")=false by decide +kernel)
theorem tH {k:Nat}:d7 (G.st k).rule=G.lb k:=by
 unfold Rg.st
 cases G.lb k
 ·exact (show d7 (.word "sum")=false by decide +kernel)
 ·exact (show d7 (.word "later")=true by decide +kernel)
theorem aaW (h:aR G) (hp:p.Perm G.l) {k:Nat} (hk:k < G.m + G.r):lA p (G.N k)=some (G.st k):=
 y9 (by rw [iz]; exact List.mem_singleton_self _) (kh h hp).gives (qR hp hk)
theorem ahe {k:Nat} {t:Int} (ha:ah (G.N (G.pv k),t) es=none):cj es (G.st k) t=some (G.N (G.pv k)):=by
 unfold cj mM
 rw [if_neg (by rw [je]; decide)]
 have:∃ l,(G.st k).needs=G.N (G.pv k)::l:=by unfold Rg.st; cases G.lb k <;> exact ⟨_,rfl⟩
 obtain ⟨l,e⟩:=this
 rw [e,List.find?_cons,ha]; rfl
theorem db.miss (q:db G p X es σ) {k:Nat} {t:Int} (hk:k < G.m + G.r):cj es (G.st k) t=some (G.N (G.pv k)):=ahe (q.no _ (gV q.ok hk) t)
theorem db.unready (q:db G p X es σ) {k:Nat} {t:Int} (hk:k < G.m + G.r):kg es [] (G.st k) t=false:=by
 unfold kg
 rw [q.miss hk]; exact Bool.and_false _
noncomputable def Rg.wh (G:Rg) (k:Nat) (t:Int):Int:=if G.lb k=true then t - 1 else t
theorem wD (q:db G p X es σ) {k:Nat} {t:Int} (hk:k < G.m + G.r):aG PP topN (d + 1) oJ [.inst ae X.i,.str (G.N k),.int t] σ=.ok (.tup [(G.st k).pv,.int (G.wh k t)]) σ:=by
 rw [a5 (fn:=uG) rfl rfl]
 have ag:ah (G.N k) (aS p)=some (G.st k).pv:=by rw [i8,aaW q.ok q.perm hk]; rfl
 have s0:ex (CC d) topN pD [some (.inst ae X.i),some (.str (G.N k)),some (.int t),none] σ=.next [some (.inst ae X.i),some (.str (G.N k)),some (.int t),some (G.st k).pv] σ:=
  aE (aU (cE (i:=X.i) (σ₁:=σ) (v:=.ref X.g) rfl q.bo.ns rfl) (y:=.str (G.N k)) (σ₂:=σ) rfl (acO q.bo.gv ag))
 obtain ⟨w,hw,hl⟩:=oH (qQ q.ok hk).rule
 have tt:tst (CC d) (.cmp (.sub (.sub (.v 3) (.k (.int 1))) (.k (.int 0))) .eq (.k (.str "later"))) [some (.inst ae X.i),some (.str (G.N k)),some (.int t),some (G.st k).pv] σ=.ok (G.lb k) σ:=by
  rw [<- tH,<- hl]
  exact bj (aU (aU (x:=(G.st k).pv) (σ₁:=σ) rfl (y:=.int 1) (σ₂:=σ) rfl (v:=.ok (G.st k).rule.pv σ) rfl) (y:=.int 0) (σ₂:=σ) rfl (hw σ)) (y:=.str "later") (σ₂:=σ) rfl zy
 unfold Rg.wh
 cases hb:G.lb k with
 | true =>
  rw [hb] at tt
  exact (congrArg aQ ((aa s0).trans (ak (a:=jD) ((aH tt).trans (ak (a:=lJ) (av (fj (a:=(G.st k).pv) rfl (b:=.int (t - 1)) rfl))))))).trans rfl
 | false =>
  rw [hb] at tt
  exact (congrArg aQ ((aa s0).trans ((aa (a:=jD) (ao tt)).trans (ak (a:=pC) (av (fj (a:=(G.st k).pv) rfl (b:=.int t) rfl)))))).trans rfl
noncomputable def jE (ss:bR) (x:Str) (w:Int):PV:=if w < 0 then .tup [.str "first"] else match ah (x,w) ss with
 | some i=>.tup [.str "ring",i]
 | none=>.none
theorem ahV (q:db G p X es σ) {k sn:Nat} {t:Int} {ss:bR} (hk:k < G.m + G.r) (hs:σ[sn]?=some (.dp ss)):aG PP topN (d + 3) yV [.inst ae X.i,.str (G.N k),.int t,.ref sn] σ=.ok (jE ss (G.N k) (G.wh k t)) σ:=by
 rw [a5 (fn:=zt) rfl rfl]
 have ag:ah (G.N k) (aS p)=some (G.st k).pv:=by rw [i8,aaW q.ok q.perm hk]; rfl
 have s0:ex (CC (d + 2)) topN rM [some (.inst ae X.i),some (.str (G.N k)),some (.int t),some (.ref sn),none,none,none] σ=.next [some (.inst ae X.i),some (.str (G.N k)),some (.int t),some (.ref sn),none,none,none] σ:=by
  refine ao (bj (x:=.str (G.N k)) (σ₁:=σ) rfl (cE (i:=X.i) (σ₁:=σ) (v:=.ref X.g) rfl q.bo.ns rfl) ?_)
  show af.ofOpt ((bS (.str (G.N k)) (.ref X.g) σ).map (!·)) σ=_
  have:bS (.str (G.N k)) (.ref X.g) σ=some true:=by unfold bS; dsimp only; rw [q.bo.gv]; dsimp only; rw [ag]; rfl
  rw [this]; rfl
 have s1:ex (CC (d + 2)) topN mG [some (.inst ae X.i),some (.str (G.N k)),some (.int t),some (.ref sn),none,none,none] σ=.next [some (.inst ae X.i),some (.str (G.N k)),some (.int t),some (.ref sn),some (G.st k).pv,some (.int (G.wh k t)),none] σ:=
  aa1 rfl (eu (x:=.inst ae X.i) (σ₁:=σ) rfl (y:=.str (G.N k)) (σ₂:=σ) rfl (z:=.int t) (σ₃:=σ) rfl (wD q hk)) rfl
 generalize G.wh k t=w at s1
 have t2:tst (CC (d + 2)) (.cmp (.v 5) .lt (.k (.int 0))) [some (.inst ae X.i),some (.str (G.N k)),some (.int t),some (.ref sn),some (G.st k).pv,some (.int w),none] σ=.ok (decide (w < 0)) σ:=bj (x:=.int w) (σ₁:=σ) rfl (y:=.int 0) (σ₂:=σ) rfl lt_int
 unfold jE
 by_cases hw:w < 0
 ·rw [if_pos hw]
  rw [decide_eq_true hw] at t2
  exact (congrArg aQ ((aa s0).trans ((aa s1).trans (ak (a:=i3) ((aH t2).trans (ak (a:=pF) (av (ig (a:=.str "first") rfl)))))))).trans rfl
 ·rw [if_neg hw]
  rw [decide_eq_false hw] at t2
  have nk:ev (CC (d + 2)) (.sub (.v 4) (.k (.int 0))) [some (.inst ae X.i),some (.str (G.N k)),some (.int t),some (.ref sn),some (G.st k).pv,some (.int w),none] σ=.ok (.str (G.N k)) σ:=by rw [<- gE]; rfl
  have s3:ex (CC (d + 2)) topN mF [some (.inst ae X.i),some (.str (G.N k)),some (.int t),some (.ref sn),some (G.st k).pv,some (.int w),none] σ=.next [some (.inst ae X.i),some (.str (G.N k)),some (.int t),some (.ref sn),some (G.st k).pv,some (.int w),none] σ:=
   ao (kc (bu (i:=X.i) (σ₁:=σ) (σ₂:=σ) (vs:=[.str (G.N k),.int w]) rfl q.bo.ns rfl (aJ nk (aJ (x:=.int w) (σ₁:=σ) rfl bC)) (jk q.bo)))
  have s4:ex (CC (d + 2)) topN mE [some (.inst ae X.i),some (.str (G.N k)),some (.int t),some (.ref sn),some (G.st k).pv,some (.int w),none] σ=.next [some (.inst ae X.i),some (.str (G.N k)),some (.int t),some (.ref sn),some (G.st k).pv,some (.int w),none] σ:=by
   refine ao (kc (bu (i:=X.i) (σ₁:=σ) (σ₂:=σ) (vs:=[(G.st k).pv,.int w]) rfl q.bo.ns rfl rfl ?_))
   exact (yx q.bo (qQ q.ok hk) je q.val).trans (by rw [q.unready hk])
  have key:=fj nk (y:=.v 5) (b:=.int w) rfl
  have t5:tst (CC (d + 2)) (.cmp (.tup (.cons (.sub (.v 4) (.k (.int 0))) (.cons (.v 5) .nil))) .isin (.v 3)) [some (.inst ae X.i),some (.str (G.N k)),some (.int t),some (.ref sn),some (G.st k).pv,some (.int w),none] σ=.ok (ah (G.N k,w) ss).isSome σ:=bj key (y:=.ref sn) (σ₂:=σ) rfl (vz hs)
  have pre:=fun {r:S}=>(aa (r:=.cons mG (.cons i3 (.cons mF (.cons mE r)))) s0).trans ((aa s1).trans ((aa (a:=i3) (ao t2)).trans ((aa s3).trans (aa s4))))
  cases ha:ah (G.N k,w) ss with
  | some i =>
   rw [ha] at t5
   exact (congrArg aQ (pre.trans (ak (a:=mD) ((aH t5).trans (ak (a:=pE) (av (fj (a:=.str "ring") rfl (aU (x:=.ref sn) (σ₁:=σ) rfl key (aig hs ha))))))))).trans rfl
  | none =>
   rw [ha] at t5
   exact (congrArg aQ (pre.trans ((aa (a:=mD) (ao t5)).trans (ak (a:=rL) (av rfl))))).trans rfl
noncomputable def Rg.lk (G:Rg) (x:Nat × Int):PV:=.tup [.str (G.N x.1),.int x.2,.str (G.N (G.pv x.1))]
noncomputable def Rg.sn (G:Rg) (l:List (Nat × Int)):bR:=l.zipIdx.map fun q=>((G.N q.1.1,q.1.2),.int (q.2:Nat))
theorem agZ {l:List (Nat × Int)} {x:Nat × Int}:G.sn (l++[x])=G.sn l++[((G.N x.1,x.2),.int (l.length:Nat))]:=by
 unfold Rg.sn
 rw [List.zipIdx_append,List.map_append,Nat.zero_add]; rfl
theorem aaL {l:List (Nat × Int)}:(G.sn l).map (·.1)=l.map fun q=>(G.N q.1,q.2):=by
 unfold Rg.sn
 rw [List.map_map]
 show (l.zipIdx.map ((fun q:Nat × Int=>(G.N q.1,q.2)) ∘ Prod.fst))=_
 rw [<- List.map_map,List.zipIdx_map_fst]
theorem ain {l:List (Nat × Int)}:(G.sn l).length=l.length:=by unfold Rg.sn; rw [List.length_map,List.length_zipIdx]
theorem aaK (h:aR G) {l:List (Nat × Int)} {x:Nat × Int} (hx:x.1 < G.m + G.r) (hl:∀ q ∈ l,q.1 < G.m + G.r) (hn:x ∉ l):ah (G.N x.1,x.2) (G.sn l)=none:=by
 cases e:ah (G.N x.1,x.2) (G.sn l) with
 | none=>rfl
 | some v =>
  have:=qZ.mp (show (ah (G.N x.1,x.2) (G.sn l)).isSome=true by rw [e]; rfl)
  rw [aaL] at this
  obtain ⟨q,hq,hz⟩:=List.mem_map.mp this
  obtain ⟨z1,z2⟩:=Prod.mk.inj hz
  have:=ja h (Nat.lt_succ_of_lt (cL h (hl q hq))) (Nat.lt_succ_of_lt (cL h hx)) z1
  exact absurd (show x ∈ l from (Prod.ext this z2:q=x) ▸ hq) hn
theorem agY (h:aR G) {l:List (Nat × Int)} {x:Nat × Int} {i:Nat} (hl:∀ q ∈ l,q.1 < G.m + G.r) (hn:l.Nodup) (hi:l[i]?=some x):ah (G.N x.1,x.2) (G.sn l)=some (.int (i:Nat)):=by
 refine afR ?_ ?_
 ·rw [aaL]
  refine List.pairwise_map.mpr (List.Pairwise.imp_of_mem ?_ hn)
  intro a b ha hb ne e
  obtain ⟨z1,z2⟩:=Prod.mk.inj e
  exact ne (Prod.ext (ja h (Nat.lt_succ_of_lt (cL h (hl a ha))) (Nat.lt_succ_of_lt (cL h (hl b hb))) z1) z2)
 ·unfold Rg.sn
  exact List.mem_map.mpr ⟨(x,i),List.mem_zipIdx_iff_getElem?.mpr hi,rfl⟩
noncomputable def Rg.nx (G:Rg) (x:Nat × Int):Nat × Int:=(G.pv x.1,G.wh (G.pv x.1) x.2)
noncomputable def gd (G:Rg) (full:List (Nat × Int)) (E:PV):Nat × Int->List (Nat × Int)->Prop
 | x,[]=>jE (G.sn full) (G.N (G.nx x).1) (G.nx x).2=E
 | x,y::l=>G.nx x=y/\0 <= y.2/\gd G full E y l
noncomputable def RW (i:Nat) (x:Str) (t:Int) (sp:PV) (j:Nat) (w:Int) (e:PV) (pl:Option PV):aq:=[some (.inst ae i),some (.str x),some (.int t),some sp,some (.ref j),some (.ref (j + 1)),some (.int w),some e,pl,none,none,none,none,none]
theorem xY (q:db G p X es σ) {nm0:Str} {t:Int} {pre:List (Nat × Int)} {x:Nat × Int} {pl:Option PV} {E:PV} (hx:x.1 < G.m + G.r) (hpre:∀ q ∈ pre,q.1 < G.m + G.r) (hn:x ∉ pre) (hl:pre.length < 5000) (he:jE (G.sn (pre++[x])) (G.N (G.nx x).1) (G.nx x).2=E) :
  ex (CC (d + 3)) topN qi (RW X.i nm0 t (G.st x.1).pv σ.length x.2 .none pl) (σ++[.lst (pre.map G.lk),.dp (G.sn pre)]) =
   .next (RW X.i nm0 t (if bW E=true then (G.st (G.nx x).1).pv else (G.st x.1).pv) σ.length (if bW E=true then (G.nx x).2 else x.2) E (some (.str (G.N (G.nx x).1)))) (σ++[.lst ((pre++[x]).map G.lk),.dp (G.sn (pre++[x]))]):=by
 have hx2:=gV q.ok hx
 have nk:∀ {e:PV} {pl:Option PV} {τ:ac},ev (CC (d + 3)) (.sub (.v 3) (.k (.int 0))) (RW X.i nm0 t (G.st x.1).pv σ.length x.2 e pl) τ=.ok (.str (G.N x.1)) τ:=fun {e pl τ}=>by rw [<- gE]; rfl
 have b0:ex (CC (d + 3)) topN uA (RW X.i nm0 t (G.st x.1).pv σ.length x.2 .none pl) (σ++[.lst (pre.map G.lk),.dp (G.sn pre)])=.next (RW X.i nm0 t (G.st x.1).pv σ.length x.2 .none pl) (σ++[.lst (pre.map G.lk),.dp (G.sn (pre++[x]))]):=by
  refine (ahR (v:=.int (pre.length:Nat)) (r:=σ.length + 1) (k:=G.N x.1) (t:=x.2) (cZ (x:=.ref σ.length) (σ₁:=σ++[.lst (pre.map G.lk),.dp (G.sn pre)]) rfl ?_) rfl (fj nk rfl) v7 (aaK q.ok hx hpre hn) (by rw [ain]; (exact aC (by assumption) (by decide)))).trans ?_
  ·show fA _ (.ref σ.length) _=_
   rw [jS (show aZ (σ++[.lst (pre.map G.lk),.dp (G.sn pre)]) (.ref σ.length)=some (pre.map G.lk) by unfold aZ; dsimp only; rw [bZ])]
   rw [if_pos (by rw [List.length_map,bV]; (grind)),List.length_map]
  ·rw [aeJ,agZ]
 have q1:db G p X es (σ++[.lst (pre.map G.lk),.dp (G.sn (pre++[x]))]):=q.more
 have b1:ex (CC (d + 3)) topN uz (RW X.i nm0 t (G.st x.1).pv σ.length x.2 .none pl) (σ++[.lst (pre.map G.lk),.dp (G.sn (pre++[x]))])=.next (RW X.i nm0 t (G.st x.1).pv σ.length x.2 .none (some (.str (G.N (G.nx x).1)))) (σ++[.lst (pre.map G.lk),.dp (G.sn (pre++[x]))]):=by
  refine aE (bu (i:=X.i) (σ₁:=σ++[.lst (pre.map G.lk),.dp (G.sn (pre++[x]))]) (σ₂:=σ++[.lst (pre.map G.lk),.dp (G.sn (pre++[x]))]) (vs:=[(G.st x.1).pv,.int x.2]) rfl q1.bo.ns rfl rfl ?_)
  exact (vq (d:=d + 2) q1.bo (qQ q.ok hx) je q.val).trans (by rw [q.miss hx]; rfl)
 have b2:ex (CC (d + 3)) topN uy (RW X.i nm0 t (G.st x.1).pv σ.length x.2 .none (some (.str (G.N (G.nx x).1)))) (σ++[.lst (pre.map G.lk),.dp (G.sn (pre++[x]))])=.next (RW X.i nm0 t (G.st x.1).pv σ.length x.2 .none (some (.str (G.N (G.nx x).1)))) (σ++[.lst ((pre++[x]).map G.lk),.dp (G.sn (pre++[x]))]):=by
  refine (bX (o6 (x:=.ref σ.length) (σ₁:=σ++[.lst (pre.map G.lk),.dp (G.sn (pre++[x]))]) rfl (yL (.inl rfl)) (ad3 nk (b:=.int x.2) rfl (c:=.str (G.N (G.nx x).1)) rfl) (j0 bZ (by rw [List.length_map]; (exact aC (by assumption) (by decide)))))).trans ?_
  rw [di,List.map_append]; rfl
 have q2:db G p X es (σ++[.lst ((pre++[x]).map G.lk),.dp (G.sn (pre++[x]))]):=q.more
 have b3:ex (CC (d + 3)) topN ux (RW X.i nm0 t (G.st x.1).pv σ.length x.2 .none (some (.str (G.N (G.nx x).1)))) (σ++[.lst ((pre++[x]).map G.lk),.dp (G.sn (pre++[x]))])=.next (RW X.i nm0 t (G.st x.1).pv σ.length x.2 E (some (.str (G.N (G.nx x).1)))) (σ++[.lst ((pre++[x]).map G.lk),.dp (G.sn (pre++[x]))]):=by
  refine aE ?_
  rw [iM]
  exact (ahV q2 (t:=x.2) hx2 v7).trans (by rw [<- he]; rfl)
 have t4:tst (CC (d + 3)) (.cmp (.v 7) .is (.k .none)) (RW X.i nm0 t (G.st x.1).pv σ.length x.2 E (some (.str (G.N (G.nx x).1)))) (σ++[.lst ((pre++[x]).map G.lk),.dp (G.sn (pre++[x]))])=.ok (bW E) (σ++[.lst ((pre++[x]).map G.lk),.dp (G.sn (pre++[x]))]):=rfl
 refine (aa b0).trans ((aa b1).trans ((aa b2).trans ((aa b3).trans ?_)))
 cases hE:bW E with
 | false =>
  rw [hE] at t4
  exact (aa (a:=oO) (ao t4)).trans aK
 | true =>
  rw [hE] at t4
  refine (aa (a:=oO) ((aH t4).trans ((aa (a:=qh) (aa1 rfl (eu (x:=.inst ae X.i) (σ₁:=σ++[.lst ((pre++[x]).map G.lk),.dp (G.sn (pre++[x]))]) rfl (y:=.str (G.N (G.nx x).1)) (σ₂:=σ++[.lst ((pre++[x]).map G.lk),.dp (G.sn (pre++[x]))]) rfl (z:=.int x.2) (σ₃:=σ++[.lst ((pre++[x]).map G.lk),.dp (G.sn (pre++[x]))]) rfl (wD q2 hx2)) rfl)).trans aK))).trans aK
theorem afA {ss:bR} {x:Str} {w:Int} (hw:0 <= w) (h:ah (x,w) ss=none):jE ss x w=.none:=by
 unfold jE
 rw [if_neg (Int.not_lt.mpr hw),h]
theorem aes (q:db G p X es σ) {nm0:Str} {t:Int} {E:PV} {full:List (Nat × Int)} (hE:bW E=false) (hf:full.Nodup) (hin:∀ q ∈ full,q.1 < G.m + G.r) (hlen:full.length < 4000):∀ (rest pre:List (Nat × Int)) (x:Nat × Int) (k:Nat) (pl:Option PV),full=pre++x::rest->gd G full E x rest->rest.length + 1 < k ->
  ∃ sp w pl',bc (fun ρ σ=>tst (CC (d + 3)) (.cmp (.v 7) .is (.k .none)) ρ σ) (fun ρ σ=>ex (CC (d + 3)) topN qi ρ σ) k (RW X.i nm0 t (G.st x.1).pv σ.length x.2 .none pl) (σ++[.lst (pre.map G.lk),.dp (G.sn pre)]) =
   .next (RW X.i nm0 t sp σ.length w E pl') (σ++[.lst (full.map G.lk),.dp (G.sn full)]):=by
 intro rest
 induction rest with
 | nil =>
  intro pre x k pl hfull hp hk
  obtain ⟨k,rfl⟩:=Nat.exists_eq_add_of_le' hk
  have hx:x ∈ full:=by rw [hfull]; exact List.mem_append_right _ List.mem_cons_self
  have hnd:=hf
  rw [hfull] at hnd
  obtain ⟨_,_,dis⟩:=List.nodup_append.mp hnd
  have pl1:pre.length < 5000:=by rw [hfull,List.length_append] at hlen; (grind)
  have hp:jE (G.sn full) (G.N (G.nx x).1) (G.nx x).2=E:=hp
  rw [hfull] at hp ⊢
  have st:=xY (d:=d) (nm0:=nm0) (t:=t) (pl:=pl) q (hin x hx) (fun q hq=>hin q (by rw [hfull]; exact List.mem_append_left _ hq)) (fun z=>dis x z x List.mem_cons_self rfl) pl1 hp
  rw [hE] at st
  exact ⟨_,_,_,(jM (by rfl) st).trans (pX (by
   show af.ok (bW E) _=_
   rw [hE]))⟩
 | cons y rest ih =>
  intro pre x k pl hfull hp hk
  obtain ⟨k,rfl⟩:=Nat.exists_eq_add_of_le' (Nat.lt_of_lt_of_le (Nat.zero_lt_succ _) hk)
  obtain ⟨h1,h2,h3⟩:=hp
  have hx:x ∈ full:=by rw [hfull]; exact List.mem_append_right _ List.mem_cons_self
  have hy:y ∈ full:=by rw [hfull]; exact List.mem_append_right _ (bJ _ List.mem_cons_self)
  have hfull2:full=(pre++[x])++y::rest:=by rw [hfull,List.append_assoc]; rfl
  have hnd:=hf
  rw [hfull] at hnd
  obtain ⟨_,_,dis⟩:=List.nodup_append.mp hnd
  have hnd2:=hf
  rw [hfull2] at hnd2
  obtain ⟨_,_,dis2⟩:=List.nodup_append.mp hnd2
  have pl1:pre.length < 5000:=by rw [hfull,List.length_append] at hlen; (grind)
  have inp:∀ q ∈ pre++[x],q.1 < G.m + G.r:=fun q hq=>hin q (by rw [hfull2]; exact List.mem_append_left _ hq)
  have he:jE (G.sn (pre++[x])) (G.N (G.nx x).1) (G.nx x).2=.none:=by
   rw [h1]
   exact afA h2 (aaK q.ok (hin y hy) inp fun z=>dis2 y z y List.mem_cons_self rfl)
  have st:=xY (d:=d) (nm0:=nm0) (t:=t) (pl:=pl) q (hin x hx) (fun q hq=>inp q (List.mem_append_left _ hq)) (fun z=>dis x z x List.mem_cons_self rfl) pl1 he
  rw [show bW PV.none=true from rfl,if_pos rfl,if_pos rfl,h1] at st
  obtain ⟨sp,w,pl',e⟩:=ih (pre++[x]) y k (some (.str (G.N y.1))) hfull2 h3 (by rw [List.length_cons] at hk; (grind))
  exact ⟨sp,w,pl',(jM (by rfl) st).trans e⟩
theorem akj (q:db G p X es σ) {k:Nat} {t:Int} {E:PV} {rest:List (Nat × Int)} (hk:k < G.m + G.r) (h0:0 <= t) (h1:t < G.n) (hE:bW E=false) (hf:((k,t)::rest).Nodup) (hin:∀ q ∈ (k,t)::rest,q.1 < G.m + G.r) (hlen:((k,t)::rest).length < 4000) (hp:gd G ((k,t)::rest) E (k,t) rest) :
  aG PP topN (d + 4) uf [.inst ae X.i,.str (G.N k),.int t] σ=.ok (.tup [.ref σ.length,E]) (σ++[.lst (((k,t)::rest).map G.lk),.dp (G.sn ((k,t)::rest))]):=by
 rw [a5 (fn:=ab9) rfl rfl]
 have po:=kh q.ok q.perm
 obtain ⟨sp,w,pl,e⟩:=aes (d:=d) (nm0:=G.N k) (t:=t) q hE hf hin hlen rest [] (k,t) topN none rfl hp (Nat.lt_of_le_of_lt (by rw [List.length_cons] at hlen; exact Nat.le_of_lt hlen) (by decide))
 have s0:ex (CC (d + 3)) topN sx (some (.inst ae X.i)::some (.str (G.N k))::some (.int t)::List.replicate 11 none) σ=.next (some (.inst ae X.i)::some (.str (G.N k))::some (.int t)::some (G.st k).pv::List.replicate 10 none) σ:=
  aE (bu (i:=X.i) (σ₁:=σ) (σ₂:=σ) (vs:=[.str (G.N k)]) rfl q.bo.ns rfl rfl (by
   have:=oC (d:=d + 2) q.bo (qR q.perm hk) po.names
   rw [gE] at this; exact this))
 have s1:ex (CC (d + 3)) topN sw (some (.inst ae X.i)::some (.str (G.N k))::some (.int t)::some (G.st k).pv::List.replicate 10 none) σ=.next (some (.inst ae X.i)::some (.str (G.N k))::some (.int t)::some (G.st k).pv::List.replicate 10 none) σ:=
  bX (bu (i:=X.i) (σ₁:=σ) (σ₂:=σ) (vs:=[.int t]) rfl q.bo.ns rfl rfl (eV (d:=d + 1) q.bo h0 h1))
 have s2:ex (CC (d + 3)) topN sv (some (.inst ae X.i)::some (.str (G.N k))::some (.int t)::some (G.st k).pv::List.replicate 10 none) σ=.next (some (.inst ae X.i)::some (.str (G.N k))::some (.int t)::some (G.st k).pv::List.replicate 10 none) σ:=
  ao (kc (bu (i:=X.i) (σ₁:=σ) (σ₂:=σ) (vs:=[.str (G.N k),.int t]) rfl q.bo.ns rfl rfl (jk (d:=d + 2) q.bo)))
 have s3:ex (CC (d + 3)) topN zj (some (.inst ae X.i)::some (.str (G.N k))::some (.int t)::some (G.st k).pv::List.replicate 10 none) σ=.next (some (.inst ae X.i)::some (.str (G.N k))::some (.int t)::some (G.st k).pv::List.replicate 10 none) σ:=by
  refine ao (kc (bu (i:=X.i) (σ₁:=σ) (σ₂:=σ) (vs:=[(G.st k).pv,.int t]) rfl q.bo.ns rfl rfl ?_))
  exact (yx (d:=d + 1) q.bo (qQ q.ok hk) je q.val).trans (by rw [q.unready hk])
 have s4:ex (CC (d + 3)) topN zi (some (.inst ae X.i)::some (.str (G.N k))::some (.int t)::some (G.st k).pv::List.replicate 10 none) σ=.next (some (.inst ae X.i)::some (.str (G.N k))::some (.int t)::some (G.st k).pv::some (.ref σ.length)::List.replicate 9 none) (σ++[.lst []]):=rfl
 have s5:ex (CC (d + 3)) topN zh (some (.inst ae X.i)::some (.str (G.N k))::some (.int t)::some (G.st k).pv::some (.ref σ.length)::List.replicate 9 none) (σ++[.lst []])=.next (some (.inst ae X.i)::some (.str (G.N k))::some (.int t)::some (G.st k).pv::some (.ref σ.length)::some (.ref (σ.length + 1))::List.replicate 8 none) (σ++[.lst ([].map G.lk),.dp (G.sn [])]):=by
  refine (aE (v:=.ref (σ++[MO.lst []]).length) (σ':=(σ++[.lst []])++[.dp []]) rfl).trans ?_
  rw [List.length_append,List.append_assoc]; rfl
 have s8:ex (CC (d + 3)) topN ze (RW X.i (G.N k) t (G.st k).pv σ.length t .none none) (σ++[.lst ([].map G.lk),.dp (G.sn [])])=.next (RW X.i (G.N k) t sp σ.length w E pl) (σ++[.lst (((k,t)::rest).map G.lk),.dp (G.sn ((k,t)::rest))]):=(qC rfl).trans e
 exact (congrArg aQ ((aa s0).trans ((aa s1).trans ((aa s2).trans ((aa s3).trans ((aa s4).trans ((aa s5).trans ((aa (a:=zg) (aE (v:=.int t) rfl)).trans ((aa (a:=zf) (aE (v:=.none) rfl)).trans ((aa s8).trans (ak (a:=zd) (av (fj (a:=.ref σ.length) rfl (b:=E) rfl))))))))))))).trans rfl
end
end Mine
namespace Mine
open PySem
set_option tactic.hygienic true in
theorem ag2 {a:Nat} {b:Int}:(Builtin.Range.rangeSize (b + a) b (-1)).toNat=a:=by
 unfold Builtin.Range.rangeSize
 rw [if_neg (by decide)]
 split
 ·rw [show (-(-1):Int)=1 from rfl,Int.ediv_one,show b + (a:Int) - b - 1 + 1=a by rw [Int.sub_add_cancel,Int.add_comm,Int.add_sub_cancel]]; rfl
 ·rename_i q
  cases a with
  | zero=>rfl
  | succ a=>exact absurd (Int.lt_add_of_pos_right b (Int.ofNat_lt.mpr (Nat.succ_pos a))) q
theorem agf {C:aV} {ρ:aq} {σ:ac} {xs:X} {a:Nat} {b:Int} (h:evs C xs ρ σ=.ok [.int (b + a),.int b,.int (-1)] σ) (ha:a <= 200) (hb:b=0\/b=-1):evIt C (.range3 xs) ρ σ=.ok ((List.range a).map fun (i:Nat)=>PV.int (b + a + (i:Int) * (-1)),none) σ:=by
 rw [aaq,h,aA]
 show (if (-1:Int) ≠ 0/\(b + a).natAbs <= au/\b.natAbs <= au/\(-1:Int).natAbs <= au then af.ok (aL (b + a) (-1) (Builtin.Range.rangeSize (b + a) b (-1)).toNat,none) σ else .stuck)=_
 have hb1:b.natAbs <= 1:=by rcases hb with rfl | rfl <;> decide
 rw [if_pos ⟨by decide,aC (Int.natAbs_add_le _ _) (aC (Nat.add_le_add hb1 ha) (by decide)),aC hb1 (by decide),by decide⟩,ag2]; rfl
theorem aa4 {a:Nat} {b:Int}:((List.range (a + 1)).map fun (i:Nat)=>PV.int (b + (a + 1:Nat) + (i:Int) * (-1)))=PV.int (b + a + 1)::(List.range a).map fun (i:Nat)=>PV.int (b + a + (i:Int) * (-1)):=by
 rw [List.range_succ_eq_map,List.map_cons,List.map_map]
 refine congr (congrArg List.cons ?_) (List.map_congr_left fun k zz=>?_)
 ·exact congrArg PV.int (by omega)
 ·exact congrArg PV.int (by show b + (a + 1:Nat) + ((k + 1:Nat):Int) * (-1)=_; omega)
noncomputable def dC (c k:Nat) (t:Int):List (Nat × Int):=(List.range c).map fun i=>(k - i,t)
theorem gG {c k:Nat} {t:Int}:dC (c + 1) k t=(k,t)::dC c (k - 1) t:=by
 unfold dC
 rw [List.range_succ_eq_map,List.map_cons,List.map_map]
 refine congrArg _ (List.map_congr_left fun i zz=>?_)
 show (k - (i + 1),t)=(k - 1 - i,t)
 rw [Nat.sub_sub,Nat.add_comm]
noncomputable def Rg.dw (G:Rg):Nat->List (Nat × Int)
 | 0=>[]
 | T + 1=>(0,(T:Int))::(dC (G.m - 1) (G.m - 1) T++G.dw T)
noncomputable def Rg.ri (G:Rg) (a k:Nat):Nat:=if k <= a then a - k else a + G.m - k
section
variable {G:Rg} {σ:ac} {d:Nat} {nv:PV} {lt:Bool} {j:Nat} {t:Int}
noncomputable def RK (G:Rg) (nv:PV) (a:Nat) (t:Int) (lt:Bool) (j:Nat) (b r k w:Option PV):aq:=[some nv,some (.int (G.m:Nat)),some (.int (a:Nat)),some (.int t),some (.bool lt),some (.ref j),b,r,k,w,none,none,none]
theorem qI {C:aV} {N:Nat} {ρ:aq} {τ:ac} {o x y z:X} {L:List (Nat × Int)} {k:Nat} {t:Int} (ho:ev C o ρ τ=.ok (.ref j) τ) (hj:τ[j]?=some (.lst (L.map G.lk))) (hx:ev C x ρ τ=.ok (.str (G.N k)) τ) (hy:ev C y ρ τ=.ok (.int t) τ) (hz:ev C z ρ τ=.ok (.str (G.N (G.pv k))) τ) (hl:L.length < 3000) :
  ex C N (.expr (.me .append o (.cons (.tup (.cons x (.cons y (.cons z .nil)))) .nil))) ρ τ=.next ρ (τ.set j (.lst ((L++[(k,t)]).map G.lk))):=by
 refine (bX (o6 ho (vm hj) (ad3 hx hy hz) (j0 hj (by rw [List.length_map]; (exact aC (by assumption) (by decide)))))).trans ?_
 rw [List.map_append]; rfl
theorem ge_int {a b:Nat} {τ:ac}:br .ge (.int (a:Nat)) (.int (b:Nat)) τ=.ok (decide (b <= a)) τ:=by
 show af.ok (decide ((a:Int) >= (b:Nat))) τ=_
 exact congrArg (af.ok · τ) (decide_eq_decide.mpr Int.ofNat_le)
theorem ady {a:Nat} {L:List (Nat × Int)} {fu:Nat} {b:Option PV} (ha:a < G.m):bc (fun ρ σ=>tst (CC d) (.cmp (.v 2) .ge (.v 1)) ρ σ) (fun ρ σ=>ex (CC d) topN dq ρ σ) (fu + 1) (RK G nv a t lt σ.length b none none none) (σ++[.lst (L.map G.lk)]) =
   .next (RK G nv a t lt σ.length b none none none) (σ++[.lst (L.map G.lk)]):=
 pX ((bj (x:=.int (a:Nat)) (σ₁:=σ++[.lst (L.map G.lk)]) rfl (y:=.int (G.m:Nat)) (σ₂:=σ++[.lst (L.map G.lk)]) rfl ge_int).trans (by rw [decide_eq_false (Nat.not_le_of_lt ha)]))
theorem aaS (h:aR G) {τ:ac} (hv:aT G.nms τ nv) {a fu:Nat} {L:List (Nat × Int)} {b:Option PV} (hm:G.m <= a) (ha:a < G.m + G.r) (hj:τ[j]?=some (.lst (L.map G.lk))) (hl:L.length < 3000) :
  bc (fun ρ σ=>tst (CC d) (.cmp (.v 2) .ge (.v 1)) ρ σ) (fun ρ σ=>ex (CC d) topN dq ρ σ) (fu + 1) (RK G nv a t lt j b none none none) τ =
   bc (fun ρ σ=>tst (CC d) (.cmp (.v 2) .ge (.v 1)) ρ σ) (fun ρ σ=>ex (CC d) topN dq ρ σ) fu (RK G nv (G.pv a) t lt j (some (.int (G.pv a:Nat))) none none none) (τ.set j (.lst ((L++[(a,t)]).map G.lk))):=by
 have n1:=hv.sub h.nm.len (Nat.lt_succ_of_lt (cL h ha))
 have n2:=hv.sub h.nm.len (Nat.lt_succ_of_lt (cL h (gV h ha)))
 have a1:=aC h.m1 hm
 have sub2:eA (.fl [.int ((a:Int) - 1),.int 0]) (.int (if ((a:Int) == (G.m:Nat))=true then 1 else 0)) τ=.ok (.int (G.pv a:Nat)) τ:=by
  by_cases q:a=G.m
  ·rw [q,sd h,if_pos (beq_self_eq_true _)]; rfl
  ·rw [eR (Nat.ne_of_gt a1) q,if_neg (fun z=>q (Int.ofNat.inj (eq_of_beq z)):¬ ((a:Int) == (G.m:Nat))=true),oc a1]; rfl
 have x0:ex (CC d) topN kN (RK G nv a t lt j b none none none) τ=.next (RK G nv a t lt j (some (.int (G.pv a:Nat))) none none none) τ:=
  aE (aU (x:=.fl [.int ((a:Int) - 1),.int 0]) (σ₁:=τ) rfl (cZ (d4 (x:=.int (a:Int)) (σ₁:=τ) rfl (y:=.int (G.m:Nat)) (σ₂:=τ) rfl dN) int_bool) sub2)
 have x1:=qI (C:=CC d) (N:=topN) (G:=G) (t:=t) (ρ:=RK G nv a t lt j (some (.int (G.pv a:Nat))) none none none) (o:=.v 5) (x:=.sub (.v 0) (.v 2)) (y:=.v 3) (z:=.sub (.v 0) (.v 6)) rfl hj (aU (x:=nv) (σ₁:=τ) rfl (y:=.int (a:Nat)) (σ₂:=τ) rfl n1) rfl (aU (x:=nv) (σ₁:=τ) rfl (y:=.int (G.pv a:Nat)) (σ₂:=τ) rfl n2) hl
 exact jM ((bj (x:=.int (a:Nat)) (σ₁:=τ) rfl (y:=.int (G.m:Nat)) (σ₂:=τ) rfl ge_int).trans (by rw [decide_eq_true hm])) ((aa x0).trans ((aa (a:=kM) x1).trans ((aa (a:=kL) (aE (v:=.int (G.pv a:Nat)) rfl)).trans aK)))
theorem ahn (h:aR G) (hv:aT G.nms σ nv):∀ (c:Nat) (L:List (Nat × Int)) (fu:Nat) (b:Option PV),c + 1 < fu->G.m + c < G.m + G.r->L.length + c < 3000 ->
  ∃ b',bc (fun ρ σ=>tst (CC d) (.cmp (.v 2) .ge (.v 1)) ρ σ) (fun ρ σ=>ex (CC d) topN dq ρ σ) fu (RK G nv (G.m + c) t lt σ.length b none none none) (σ++[.lst (L.map G.lk)]) =
   .next (RK G nv 0 t lt σ.length b' none none none) (σ++[.lst ((L++dC (c + 1) (G.m + c) t).map G.lk)]):=by
 intro c
 induction c with
 | zero =>
  intro L fu b hf ha hl
  obtain ⟨fu,rfl⟩:=Nat.exists_eq_add_of_le' hf
  refine ⟨some (.int ((0:Nat):Int)),(aaS h hv.app (Nat.le_refl _) ha bZ hl).trans ?_⟩
  rw [di,Nat.add_zero,sd h]
  exact ady h.m1
 | succ c ih =>
  intro L fu b hf ha hl
  obtain ⟨fu,rfl⟩:=Nat.exists_eq_add_of_le' (Nat.lt_of_le_of_lt (Nat.zero_le _) hf)
  obtain ⟨b',e⟩:=ih (L++[(G.m + (c + 1),t)]) fu (some (.int (G.m + c:Nat))) (Nat.lt_of_succ_lt_succ hf) (Nat.lt_of_succ_lt ha) (iF hl)
  refine ⟨b',(aaS h hv.app (Nat.le_add_right _ _) ha bZ (kq hl)).trans ?_⟩
  rw [di,show G.pv (G.m + (c + 1))=G.m + c from eR (Nat.succ_ne_zero _) (Nat.ne_of_gt (Nat.lt_add_of_pos_right (Nat.succ_pos c)))]
  refine e.trans ?_
  rw [List.append_assoc,gG (c:=c + 1)]; rfl
noncomputable def Rg.en (G:Rg) (a:Nat):Nat:=if a + 1 - G.m=0 then a else 0
theorem acl {a:Nat} (h:a < G.m):a + 1 - G.m=0:=Nat.sub_eq_zero_of_le h
theorem vZ {c:Nat}:G.m + c + 1 - G.m=c + 1:=Nat.add_sub_cancel_left (n:=G.m) (m:=c + 1)
theorem acg {a:Nat} (h:a < G.m):G.en a=a:=if_pos (acl h)
theorem acf {c:Nat}:G.en (G.m + c)=0:=if_neg (by rw [vZ]; exact Nat.succ_ne_zero c)
theorem ra (h:aR G) {a:Nat}:G.en a < G.m:=by
 rcases Nat.lt_or_ge a G.m with q | q
 ·rw [acg q]; exact q
 ·obtain ⟨c,rfl⟩:=Nat.exists_eq_add_of_le q
  rw [acf]; exact h.m1
theorem agD (h:aR G) {a:Nat} (ha:a < G.m + G.r):a + 1 - G.m <= 18:=aC (Nat.sub_le _ _) (aC ha (Nat.add_le_add h.m2 h.r8))
theorem mR {c k:Nat} {t:Int}:(dC c k t).length=c:=by unfold dC; rw [List.length_map,List.length_range]
theorem adx (h:aR G) (hv:aT G.nms σ nv) {a:Nat} (ha:a < G.m + G.r) :
  ∃ b',ex (CC d) topN nA (RK G nv a t lt σ.length none none none none) (σ++[.lst ([].map G.lk)])=.next (RK G nv (G.en a) t lt σ.length b' none none none) (σ++[.lst ((dC (a + 1 - G.m) a t).map G.lk)]):=by
 rcases Nat.lt_or_ge a G.m with q | q
 ·rw [acg q,acl q]
  exact ⟨none,(qC rfl).trans (ady (L:=[]) q)⟩
 ·obtain ⟨c,rfl⟩:=Nat.exists_eq_add_of_le q
  rw [acf,vZ]
  have c8:c < 8:=Nat.lt_of_lt_of_le (Nat.lt_of_add_lt_add_left ha) h.r8
  obtain ⟨b',e⟩:=ahn (d:=d) (t:=t) (lt:=lt) h hv c [] topN none (Nat.lt_of_le_of_lt c8 (by decide)) ha (Nat.lt_of_lt_of_le (Nat.add_lt_add_left c8 _) (by decide))
  exact ⟨b',(qC rfl).trans e⟩
theorem jQ {e k:Nat} (h:k <= e):G.ri e k=e - k:=if_pos h
theorem jR {e k:Nat} (h:e < k):G.ri e k=e + G.m - k:=if_neg (Nat.not_le_of_lt h)
theorem qU {a k:Nat} (ha:a < G.m) (hk:k < G.m):G.ri a k < G.m:=by
 rcases Nat.lt_or_ge a k with q | q
 ·rw [jR q]; exact Nat.sub_lt_left_of_lt_add (aC (Nat.le_of_lt hk) (Nat.le_add_left _ _)) (Nat.add_lt_add_right q _)
 ·rw [jQ q]; exact Nat.lt_of_le_of_lt (Nat.sub_le _ _) ha
theorem af6 {a k:Nat} (hk:k < G.m):(a:Int) - (k:Int)=(G.ri a k:Nat)\/(a:Int) - (k:Int)=(G.ri a k:Nat) - (G.m:Nat):=by
 rcases Nat.lt_or_ge a k with q | q
 ·rw [jR q,Int.ofNat_sub (aC (Nat.le_of_lt hk) (Nat.le_add_left _ _)),Int.natCast_add,vC,Int.add_sub_cancel]; exact .inr rfl
 ·rw [jQ q,Int.ofNat_sub q]; exact .inl rfl
theorem ais {a k:Nat} (ha:a < G.m) (hk:k < G.m):((a:Int) - (k:Int)) % (G.m:Nat)=(G.ri a k:Nat):=by
 have e:=Int.emod_eq_of_lt (Int.natCast_nonneg _) (Int.ofNat_lt.mpr (qU ha hk))
 rcases af6 hk with q | q
 ·rw [q]; exact e
 ·rw [q,Int.sub_emod_right]; exact e
theorem ajE (h:aR G) {a k:Nat} (ha:a < G.m) (hk:k < G.m):((a:Int) - (k:Int) - 1) % (G.m:Nat)=(G.pv (G.ri a k):Nat):=by
 rw [<- ac9 h (qU ha hk)]
 rcases af6 hk with q | q
 ·rw [q]
 ·rw [q,vC,Int.sub_emod_right]
theorem ahm (h:aR G) {τ:ac} {a i jr:Nat} {L:List (Nat × Int)} {b:Option PV} (hv:aT G.nms τ nv) (ha:a < G.m) (hi:i < G.m) (hj:τ[jr]?=some (.lst (L.map G.lk))) (hl:L.length < 3000) :
  ex (CC d) topN dF (RK G nv a t lt j b (some (.ref jr)) (some (.int (i:Int))) none) τ=.next (RK G nv a t lt j (some (.str (G.N (G.pv (G.ri a i))))) (some (.ref jr)) (some (.int (i:Int))) none) (τ.set jr (.lst ((L++[(G.ri a i,t)]).map G.lk))):=by
 have r1:=qU ha hi
 have n1:=hv.sub h.nm.len (wv h r1)
 have n2:=hv.sub h.nm.len (Nat.lt_succ_of_lt (cL h (gV h (Nat.lt_of_lt_of_le r1 (Nat.le_add_right _ _)))))
 have mp:(0:Int) < (G.m:Nat):=Int.ofNat_lt.mpr h.m1
 have e1:∀ {b:Option PV},ev (CC d) (.bin .sub (.v 2) (.v 8)) (RK G nv a t lt j b (some (.ref jr)) (some (.int (i:Int))) none) τ=.ok (.int ((a:Int) - (i:Int))) τ:=fun {b}=>rfl
 have x0:ex (CC d) topN jq (RK G nv a t lt j b (some (.ref jr)) (some (.int (i:Int))) none) τ=.next (RK G nv a t lt j (some (.str (G.N (G.pv (G.ri a i))))) (some (.ref jr)) (some (.int (i:Int))) none) τ:=
  aE (aU (x:=nv) (σ₁:=τ) rfl (az (az e1 (y:=.int 1) (σ₂:=τ) rfl sub_int) (y:=.int (G.m:Nat)) (σ₂:=τ) rfl (bn mp)) (by rw [ajE h ha hi]; exact n2))
 exact (aa x0).trans ((aa (a:=jp) (qI rfl hj (aU (x:=nv) (σ₁:=τ) rfl (az e1 (y:=.int (G.m:Nat)) (σ₂:=τ) rfl (bn mp)) (by rw [ais ha hi]; exact n1)) rfl rfl hl)).trans aK)
theorem aiM (h:aR G) (hv:aT G.nms σ nv) {a:Nat} (ha:a < G.m):∀ (c i:Nat) (L:List (Nat × Int)) (b k:Option PV),i + c=G.m->L.length + c < 3000 ->
  ∃ b' k',aX none (bE 8) (fun ρ σ=>ex (CC d) topN dF ρ σ) ((List.range' i c).map fun (i:Nat)=>PV.int (i:Int)) (RK G nv a t lt j b (some (.ref σ.length)) k none) (σ++[.lst (L.map G.lk)]) =
   .next (RK G nv a t lt j b' (some (.ref σ.length)) k' none) (σ++[.lst ((L++(List.range' i c).map fun i=>(G.ri a i,t)).map G.lk)]):=by
 intro c
 induction c with
 | zero=>intro i L b k _ _; refine ⟨b,k,bB.trans ?_⟩; rw [List.range'_zero,List.map_nil,List.append_nil]
 | succ c ih =>
  intro i L b k hi hl
  have x:=ahm (d:=d) (t:=t) (lt:=lt) (j:=j) (b:=b) h (hv.app (τ:=[.lst (L.map G.lk)])) ha (hi ▸ Nat.lt_add_of_pos_right (Nat.succ_pos c)) bZ (kq hl)
  rw [di] at x
  obtain ⟨b',k',e⟩:=ih (i + 1) (L++[(G.ri a i,t)]) (some (.str (G.N (G.pv (G.ri a i))))) (some (.int (i:Int))) ((Nat.succ_add_eq_add_succ i c).trans hi) (iF hl)
  refine ⟨b',k',?_⟩
  rw [List.range'_succ,List.map_cons]
  refine (bf (ρ₁:=RK G nv a t lt j b (some (.ref σ.length)) (some (.int (i:Int))) none) rfl x).trans (e.trans ?_)
  rw [List.append_assoc,List.map_cons]; rfl
theorem ahl (h:aR G) {τ:ac} {a:Nat} {L:List (Nat × Int)} {b:Option PV} (hv:aT G.nms τ nv) (ha:a + 1 < G.m) (hj:τ[j]?=some (.lst (L.map G.lk))) (hl:L.length < 3000) :
  ex (CC d) topN g8 (RK G nv (a + 1) t lt j b none none none) τ=.next (RK G nv a t lt j b none none none) (τ.set j (.lst ((L++[(a + 1,t)]).map G.lk))):=by
 have e1:∀ {τ:ac},ev (CC d) (.bin .sub (.v 2) (.k (.int 1))) (RK G nv (a + 1) t lt j b none none none) τ=.ok (.int (a:Nat)) τ:=fun {τ}=>(az (x:=.int ((a + 1:Nat):Int)) (σ₁:=τ) rfl (y:=.int 1) (σ₂:=τ) rfl sub_int).trans (by rw [rZ])
 exact (aa (a:=kH) (qI rfl hj (aU (x:=nv) (σ₁:=τ) rfl (y:=.int ((a + 1:Nat):Int)) (σ₂:=τ) rfl (hv.sub h.nm.len (wv h ha))) rfl (by rw [eR (Nat.succ_ne_zero a) (Nat.ne_of_lt ha)]; exact aU (x:=nv) (σ₁:=τ) rfl e1 (hv.sub h.nm.len (wv h (Nat.lt_of_succ_lt ha)))) hl)).trans ((aa (a:=kG) (aE e1)).trans aK)
theorem aiL (h:aR G) (hv:aT G.nms σ nv) {b:Option PV}:∀ (a:Nat) (L:List (Nat × Int)) (fu:Nat),a < G.m->a < fu->L.length + a < 3000 ->
  bc (fun ρ σ=>tst (CC d) (.cmp (.v 2) .gt (.k (.int 0))) ρ σ) (fun ρ σ=>ex (CC d) topN g8 ρ σ) fu (RK G nv a t lt σ.length b none none none) (σ++[.lst (L.map G.lk)]) =
   .next (RK G nv 0 t lt σ.length b none none none) (σ++[.lst ((L++dC a a t).map G.lk)]):=by
 intro a
 induction a with
 | zero =>
  intro L fu _ hf hl
  obtain ⟨fu,rfl⟩:=Nat.exists_eq_add_of_le' hf
  refine (pX rfl).trans ?_
  rw [show dC 0 0 t=[] from rfl,List.append_nil]
 | succ a ih =>
  intro L fu ha hf hl
  obtain ⟨fu,rfl⟩:=Nat.exists_eq_add_of_le' (Nat.lt_of_le_of_lt (Nat.zero_le _) hf)
  have x:=ahl (d:=d) (t:=t) (lt:=lt) (b:=b) h (hv.app (τ:=[.lst (L.map G.lk)])) ha bZ (kq hl)
  rw [di] at x
  refine (jM (by
   refine (bj (x:=.int ((a + 1:Nat):Int)) (σ₁:=σ++[.lst (L.map G.lk)]) rfl (y:=.int 0) (σ₂:=σ++[.lst (L.map G.lk)]) rfl gt_int).trans ?_
   rw [decide_eq_true (show ((a + 1:Nat):Int) > 0 from Int.ofNat_lt.mpr (Nat.succ_pos a))]) x).trans ?_
  refine (ih (L++[(a + 1,t)]) fu (Nat.lt_of_succ_lt ha) (Nat.lt_of_succ_lt_succ hf) (iF hl)).trans ?_
  rw [List.append_assoc,gG]; rfl
theorem ahj (h:aR G) {τ:ac} {b:Option PV} {w:Int} {a c:Nat} {L:List (Nat × Int)} (hv:aT G.nms τ nv) (hc:c + 1 < G.m) (hj:τ[j]?=some (.lst (L.map G.lk))) (hl:L.length < 3000) :
  ex (CC d) topN fR (RK G nv a t lt j b none (some (.int ((c + 1:Nat):Int))) (some (.int w))) τ=.next (RK G nv a t lt j b none (some (.int ((c + 1:Nat):Int))) (some (.int w))) (τ.set j (.lst ((L++[(c + 1,w)]).map G.lk))):=by
 have e1:ev (CC d) (.bin .sub (.v 8) (.k (.int 1))) (RK G nv a t lt j b none (some (.int ((c + 1:Nat):Int))) (some (.int w))) τ=.ok (.int (c:Nat)) τ:=(az (x:=.int ((c + 1:Nat):Int)) (σ₁:=τ) rfl (y:=.int 1) (σ₂:=τ) rfl sub_int).trans (by rw [rZ])
 exact (aa (a:=jo) (qI rfl hj (aU (x:=nv) (σ₁:=τ) rfl (y:=.int ((c + 1:Nat):Int)) (σ₂:=τ) rfl (hv.sub h.nm.len (wv h hc))) rfl (by rw [eR (Nat.succ_ne_zero c) (Nat.ne_of_lt hc)]; exact aU (x:=nv) (σ₁:=τ) rfl e1 (hv.sub h.nm.len (wv h (Nat.lt_of_succ_lt hc)))) hl)).trans aK
theorem ahk (h:aR G) (hv:aT G.nms σ nv) {b:Option PV} {w:Int} {a:Nat}:∀ (c:Nat) (L:List (Nat × Int)) (k:Option PV),c < G.m->L.length + c < 3000 ->
  ∃ k',aX none (bE 8) (fun ρ σ=>ex (CC d) topN fR ρ σ) ((List.range c).map fun (i:Nat)=>PV.int (0 + c + (i:Int) * (-1))) (RK G nv a t lt σ.length b none k (some (.int w))) (σ++[.lst (L.map G.lk)]) =
   .next (RK G nv a t lt σ.length b none k' (some (.int w))) (σ++[.lst ((L++dC c c w).map G.lk)]):=by
 intro c
 induction c with
 | zero=>intro L k _ _; refine ⟨k,bB.trans ?_⟩; rw [show dC 0 0 w=[] from rfl,List.append_nil]
 | succ c ih =>
  intro L k hc hl
  have x:=ahj (d:=d) (t:=t) (lt:=lt) (b:=b) (w:=w) (a:=a) h (hv.app (τ:=[.lst (L.map G.lk)])) hc bZ (kq hl)
  rw [di] at x
  obtain ⟨k',e⟩:=ih (L++[(c + 1,w)]) (some (.int ((c + 1:Nat):Int))) (Nat.lt_of_succ_lt hc) (iF hl)
  refine ⟨k',?_⟩
  rw [aa4]
  refine (bf (ρ₁:=RK G nv a t lt σ.length b none (some (.int ((c + 1:Nat):Int))) (some (.int w))) ?_ x).trans (e.trans ?_)
  ·rw [Int.zero_add]; rfl
  ·rw [List.append_assoc,gG]; rfl
theorem aiK (h:aR G) (hv:aT G.nms σ nv) {b:Option PV} {a:Nat}:∀ (T:Nat) (L:List (Nat × Int)) (k w:Option PV),L.length + T * G.m < 3000 ->
  ∃ k' w',aX none (bE 9) (fun ρ σ=>ex (CC d) topN lF ρ σ) ((List.range T).map fun (i:Nat)=>PV.int (-1 + T + (i:Int) * (-1))) (RK G nv a t lt σ.length b none k w) (σ++[.lst (L.map G.lk)]) =
   .next (RK G nv a t lt σ.length b none k' w') (σ++[.lst ((L++G.dw T).map G.lk)]):=by
 intro T
 induction T with
 | zero=>intro L k w _; refine ⟨k,w,bB.trans ?_⟩; rw [show G.dw 0=[] from rfl,List.append_nil]
 | succ T ih =>
  intro L k w hl
  have hm1:=h.m1
  have pm:1 + (G.m - 1)=G.m:=Nat.add_sub_cancel' hm1
  rw [Nat.succ_mul,Nat.add_comm (T * G.m),<- Nat.add_assoc] at hl
  have lm:L.length + G.m < 3000:=Nat.lt_of_le_of_lt (Nat.le_add_right _ _) hl
  have hv':aT G.nms (σ++[.lst (L.map G.lk)]) nv:=hv.app
  have x0:ex (CC d) topN kF (RK G nv a t lt σ.length b none k (some (.int (T:Int)))) (σ++[.lst (L.map G.lk)])=.next (RK G nv a t lt σ.length b none k (some (.int (T:Int)))) (σ++[.lst ((L++[(0,(T:Int))]).map G.lk)]):=
   (qI rfl bZ (aU (x:=nv) (σ₁:=σ++[.lst (L.map G.lk)]) rfl (y:=.int ((0:Nat):Int)) (σ₂:=σ++[.lst (L.map G.lk)]) rfl (hv'.sub h.nm.len (show 0 < 24 by decide))) rfl (by rw [p7]; exact aU (x:=nv) (σ₁:=σ++[.lst (L.map G.lk)]) rfl (az (x:=.int (G.m:Nat)) (σ₁:=σ++[.lst (L.map G.lk)]) rfl (y:=.int 1) (σ₂:=σ++[.lst (L.map G.lk)]) rfl sub_int) (by rw [oc hm1]; exact hv'.sub h.nm.len (wv h (Nat.sub_lt hm1 (by decide))))) (kq lm)).trans (by rw [di])
  obtain ⟨k1,e1⟩:=ahk (d:=d) (t:=t) (lt:=lt) (b:=b) (w:=(T:Int)) (a:=a) h hv (G.m - 1) (L++[(0,(T:Int))]) k (Nat.sub_lt hm1 (by decide)) (by rw [List.length_append,Nat.add_assoc]; exact pm.symm ▸ lm)
  have x1:ex (CC d) topN kE (RK G nv a t lt σ.length b none k (some (.int (T:Int)))) (σ++[.lst ((L++[(0,(T:Int))]).map G.lk)])=.next (RK G nv a t lt σ.length b none k1 (some (.int (T:Int)))) (σ++[.lst ((L++[(0,(T:Int))]++dC (G.m - 1) (G.m - 1) T).map G.lk)]):=by
   refine bP (agf (a:=G.m - 1) (b:=0) ?_ (aC (Nat.sub_le _ _) (aC h.m2 (by decide))) (.inl rfl)) e1
   rw [Int.zero_add,<- oc hm1]; rfl
  obtain ⟨k',w',e⟩:=ih (L++[(0,(T:Int))]++dC (G.m - 1) (G.m - 1) T) k1 (some (.int (T:Int))) (by rw [List.length_append,List.length_append,mR,Nat.add_assoc L.length]; exact pm.symm ▸ hl)
  refine ⟨k',w',?_⟩
  rw [aa4]
  refine (bf (ρ₁:=RK G nv a t lt σ.length b none k (some (.int (T:Int)))) ?_ ((aa x0).trans ((aa x1).trans aK))).trans (e.trans ?_)
  ·rw [Int.add_comm (-1),Int.add_assoc]; exact congrArg (fun z=>bE 9 (PV.int z) (RK G nv a t lt σ.length b none k w)) (Int.add_zero (T:Int))
  ·rw [List.append_assoc,List.append_assoc]; rfl
noncomputable def Rg.rg (G:Rg) (a:Nat) (t:Int):List (Nat × Int):=dC (a + 1 - G.m) a t++(List.range' 0 G.m).map fun i=>(G.ri (G.en a) i,t)
noncomputable def Rg.fs (G:Rg) (a:Nat) (t:Nat):List (Nat × Int):=dC (a + 1 - G.m) a t++(dC (G.en a) (G.en a) t++G.dw t)
theorem afT {τ:ac} {i j:Nat} {x y:List PV} (h1:τ[i]?=some (.lst x)) (h2:τ[j]?=some (.lst y)) (hl:x.length + y.length <= 1000):fI .add (.ref i) (.ref j) τ=.ok (.fl (x++y)) τ:=by
 have a1:be τ (.ref i)=some x:=by unfold be; dsimp only; rw [h1]
 have a2:be τ (.ref j)=some y:=by unfold be; dsimp only; rw [h2]
 show zK (.ref i) (.ref j) τ=_
 unfold zK
 dsimp only
 rw [a1]
 dsimp only
 rw [a2]
 dsimp only
 exact if_pos (aC hl (by decide))
theorem ahp {τ:ac} {i:Nat} {x:List PV} (h:τ[i]?=some (.lst x)) (hl:x.length <= 1000):cK .len (.ref i) τ=.ok (.int x.length) τ:=by
 show fA _ (.ref i) τ=_
 rw [jS (show aZ τ (.ref i)=some x by unfold aZ; dsimp only; rw [h])]
 exact if_pos (aC hl (by decide))
theorem abX (h:aR G) (hv:aT G.nms σ nv) {a:Nat} (ha:a < G.m + G.r):∃ τ,aG PP topN (d + 1) fX [nv,.int (G.m:Nat),.int (a:Nat),.int t,.bool false] σ=.ok (.tup [.fl ((G.rg a t).map G.lk),.tup [.str "ring",.int ((a + 1 - G.m:Nat):Int)]]) (σ++τ):=by
 rw [a5 (fn:=mz) rfl rfl]
 obtain ⟨b1,s1⟩:=adx (d:=d) (t:=t) (lt:=false) h hv ha
 have cl:=mR (c:=a + 1 - G.m) (k:=a) (t:=t)
 unfold Rg.rg
 generalize dC (a + 1 - G.m) a t=ch at s1 cl
 have hv1:aT G.nms (σ++[.lst (ch.map G.lk)]) nv:=hv.app
 have g1:(σ++[MO.lst (ch.map G.lk)])[σ.length]?=some (.lst (ch.map G.lk)):=bZ
 generalize hτ:σ++[MO.lst (ch.map G.lk)]=τ at s1 hv1 g1
 obtain ⟨b2,k2,e2⟩:=aiM (d:=d) (t:=t) (lt:=false) (j:=σ.length) h hv1 (ra h (a:=a)) G.m 0 [] b1 none (Nat.zero_add _) (Nat.lt_of_le_of_lt (Nat.add_le_add_left h.m2 _) (by decide))
 rw [<- j4,List.nil_append] at e2
 have s2:=bP (C:=CC d) (n:=topN) (it:=.range1 (.v 1)) (i:=8) (body:=dF) (ρ:=RK G nv (G.en a) t false σ.length b1 (some (.ref τ.length)) none none) (qT (σ:=τ++[.lst ([].map G.lk)]) (n:=G.m) rfl (aC h.m2 (by decide))) e2
 have rl:((List.range' 0 G.m).map (fun i=>(G.ri (G.en a) i,t))).length=G.m:=by rw [List.length_map,List.length_range']
 generalize (List.range' 0 G.m).map (fun i=>(G.ri (G.en a) i,t))=rw at s2 rl
 have g3:(τ++[MO.lst (rw.map G.lk)])[σ.length]?=some (.lst (ch.map G.lk)):=dL g1
 refine ⟨[.lst (ch.map G.lk),.lst (rw.map G.lk)],?_⟩
 rw [List.map_append,<- cl,<- List.length_map (f:=G.lk) (as:=ch),show σ++[MO.lst (ch.map G.lk),MO.lst (rw.map G.lk)]=τ++[MO.lst (rw.map G.lk)] by rw [<- hτ,List.append_assoc]; rfl]
 have c1:(ch.map G.lk).length <= 18:=by rw [List.length_map,cl]; exact agD h ha
 have c2:(rw.map G.lk).length <= 10:=by rw [List.length_map,rl]; exact h.m2
 exact (congrArg aQ ((aa (a:=iK) (ρ':=RK G nv a t false σ.length none none none none) (σ':=σ++[.lst ([].map G.lk)]) rfl).trans ((aa s1).trans (ak (a:=iJ) ((aH (σ':=τ) rfl).trans ((aa (a:=kK) (ρ':=RK G nv (G.en a) t false σ.length b1 (some (.ref τ.length)) none none) (σ':=τ++[.lst ([].map G.lk)]) rfl).trans ((aa (a:=kJ) s2).trans (ak (a:=kI) (av (fj (az (x:=.ref σ.length) (σ₁:=τ++[MO.lst (rw.map G.lk)]) rfl (y:=.ref τ.length) (σ₂:=τ++[MO.lst (rw.map G.lk)]) rfl (afT g3 bZ (aC (Nat.add_le_add c1 c2) (by decide)))) (fj (a:=.str "ring") rfl (cZ (x:=.ref σ.length) (σ₁:=τ++[MO.lst (rw.map G.lk)]) rfl (ahp g3 (aC c1 (by decide))))))))))))))).trans rfl
theorem rC (h:aR G) (hv:aT G.nms σ nv) {a t:Nat} (ha:a < G.m + G.r) (ht:t <= 200):aG PP topN (d + 1) fX [nv,.int (G.m:Nat),.int (a:Nat),.int (t:Nat),.bool true] σ=.ok (.tup [.ref σ.length,.tup [.str "first"]]) (σ++[.lst ((G.fs a t).map G.lk)]):=by
 have he:=ra h (a:=a)
 have he9:G.en a <= 10:=aC (Nat.le_of_lt he) h.m2
 rw [a5 (fn:=mz) rfl rfl]
 obtain ⟨b1,s1⟩:=adx (d:=d) (t:=(t:Int)) (lt:=true) h hv ha
 unfold Rg.fs
 have cl:=aC (Nat.le_of_eq (mR (c:=a + 1 - G.m) (k:=a) (t:=(t:Int)))) (agD h ha)
 generalize dC (a + 1 - G.m) a (t:Int)=ch at s1 cl
 have e3:=aiL (d:=d) (t:=(t:Int)) (lt:=true) (b:=b1) h hv (G.en a) ch topN he (Nat.lt_of_le_of_lt he9 (by decide)) (Nat.lt_of_le_of_lt (Nat.add_le_add cl he9) (by decide))
 have s3:ex (CC d) topN ny (RK G nv (G.en a) t true σ.length b1 none none none) (σ++[.lst (ch.map G.lk)])=_:=(qC rfl).trans e3
 have gl:=aC (Nat.le_of_eq (mR (c:=G.en a) (k:=G.en a) (t:=(t:Int)))) he9
 generalize dC (G.en a) (G.en a) (t:Int)=sg at s3 gl
 obtain ⟨k4,w4,e4⟩:=aiK (d:=d) (t:=(t:Int)) (lt:=true) (b:=b1) (a:=0) h hv t (ch++sg) none none (by rw [List.length_append]; exact Nat.lt_of_le_of_lt (Nat.add_le_add (Nat.add_le_add cl gl) (Nat.mul_le_mul ht h.m2)) (by decide))
 have s4:ex (CC d) topN nw (RK G nv 0 t true σ.length b1 none none none) (σ++[.lst ((ch++sg).map G.lk)])=.next (RK G nv 0 t true σ.length b1 none k4 w4) (σ++[.lst ((ch++sg++G.dw t).map G.lk)]):=by
  refine bP (agf (a:=t) (b:=-1) ?_ ht (.inr rfl)) e4
  rw [Int.add_comm]; rfl
 rw [<- List.append_assoc]
 exact (congrArg aQ ((aa (a:=iK) (ρ':=RK G nv a t true σ.length none none none none) (σ':=σ++[.lst ([].map G.lk)]) rfl).trans ((aa s1).trans ((aa (a:=iJ) (ao rfl)).trans ((aa s3).trans ((aa s4).trans (ak (a:=nu) (av (fj (a:=.ref σ.length) rfl (ig (a:=.str "first") rfl)))))))))).trans rfl
end
end Mine
namespace Mine
open PySem
section
variable {G:Rg} {full:List (Nat × Int)} {E:PV}
theorem tq {k:Nat} {t:Int} (h:G.lb k=false):G.wh k t=t:=by unfold Rg.wh; rw [if_neg (by rw [h]; decide)]
theorem xZ {k:Nat} {t:Int} (h:G.lb k=true):G.wh k t=t - 1:=by unfold Rg.wh; rw [if_pos h]
theorem gd.inn (h:aR G):∀ (l:List (Nat × Int)) (x:Nat × Int),gd G full E x l->x.1 < G.m + G.r->∀ q ∈ x::l,q.1 < G.m + G.r:=by
 intro l
 induction l with
 | nil=>intro x _ hx q hq; rw [List.mem_singleton.mp hq]; exact hx
 | cons y l ih =>
  intro x hp hx q hq
  obtain ⟨h1,_,h3⟩:=hp
  rcases List.mem_cons.mp hq with rfl | hq
  ·exact hx
  ·exact ih y h3 (by rw [<- h1]; exact gV h hx) q hq
theorem gd.ofF {f:Nat->Nat × Int} {b:Nat}:∀ (k s:Nat),s + k=b->(∀ i,s <= i->i < b->G.nx (f i)=f (i + 1)/\0 <= (f (i + 1)).2)->jE (G.sn full) (G.N (G.nx (f b)).1) (G.nx (f b)).2=E->gd G full E (f s) ((List.range' (s + 1) k).map f):=by
 intro k
 induction k with
 | zero=>intro s hs _ he; obtain rfl:s=b:=hs; exact he
 | succ k ih =>
  intro s hs hn he
  rw [List.range'_succ,List.map_cons]
  obtain ⟨h1,h2⟩:=hn s (Nat.le_refl _) (hs ▸ Nat.lt_add_of_pos_right (Nat.succ_pos k))
  exact ⟨h1,h2,ih (s + 1) ((Nat.succ_add_eq_add_succ s k).trans hs) (fun i hi hb=>hn i (by (exact Nat.le_of_lt (by assumption))) hb) he⟩
noncomputable def Rg.fi (G:Rg) (a i:Nat):Nat:=if i < a + 1 - G.m then a - i else G.ri (G.en a) (i - (a + 1 - G.m))
theorem xH {a:Nat} {t:Int}:G.rg a t=(List.range' 0 (a + 1 - G.m + G.m)).map fun i=>(G.fi a i,t):=by
 rw [<- List.range_eq_range',List.range_add,List.map_append,List.map_map]
 unfold Rg.rg dC
 rw [<- List.range_eq_range']
 refine congr (congrArg _ (List.map_congr_left fun i hi=>?_)) (List.map_congr_left fun i hi=>?_)
 ·unfold Rg.fi
  rw [if_pos (List.mem_range.mp hi)]
 ·show _=(G.fi a (a + 1 - G.m + i),t)
  unfold Rg.fi
  rw [if_neg (Nat.not_lt_of_le (Nat.le_add_right _ _)),Nat.add_sub_cancel_left]
theorem lB {a i:Nat}:G.fi a (a + 1 - G.m + i)=G.ri (G.en a) i:=(if_neg (Nat.not_lt_of_le (Nat.le_add_right _ _))).trans (by rw [Nat.add_sub_cancel_left])
theorem uw {i e:Nat}:G.fi (G.m + (i + e)) i=G.m + e:=(if_pos (by rw [vZ]; exact Nat.lt_succ_of_le (Nat.le_add_right _ _))).trans (by rw [Nat.add_left_comm,Nat.add_sub_cancel_left])
theorem acj {a i:Nat} (h:i < a + 1 - G.m):∃ e,a=G.m + (i + e):=by
 obtain ⟨c,rfl⟩:=Nat.exists_eq_add_of_le (Nat.le_of_lt_succ (Nat.lt_of_sub_pos (Nat.lt_of_le_of_lt (Nat.zero_le _) h)))
 rw [vZ] at h
 obtain ⟨e,rfl⟩:=Nat.exists_eq_add_of_le (Nat.le_of_lt_succ h)
 exact ⟨e,rfl⟩
theorem akr {e k:Nat} (he:e < G.m) (hk:k + 1 < G.m):G.pv (G.ri e k)=G.ri e (k + 1):=by
 rcases Nat.lt_trichotomy k e with q | q | q
 ·rw [jQ (Nat.le_of_lt q),jQ q,eR (Nat.sub_ne_zero_of_lt q) (Nat.ne_of_lt (Nat.lt_of_le_of_lt (Nat.sub_le _ _) he)),Nat.sub_sub]
 ·subst q
  rw [jQ (Nat.le_refl _),Nat.sub_self,p7,jR (show k < k + 1 from Nat.lt_succ_self k),Nat.add_sub_add_left]
 ·have hk2:=Nat.lt_of_succ_lt hk
  rw [jR q,jR (Nat.lt_succ_of_lt q),eR (Nat.sub_ne_zero_of_lt (Nat.lt_of_lt_of_le hk2 (Nat.le_add_left _ _))) (fun z=>Nat.lt_irrefl _ (z ▸ jR (G:=G) q ▸ qU he hk2)),Nat.sub_sub]
theorem ait {e:Nat} (he:e < G.m):G.pv (G.ri e (G.m - 1))=e:=by
 obtain ⟨m,hm⟩:=Nat.exists_eq_add_of_le' (Nat.lt_of_le_of_lt (Nat.zero_le _) he)
 have hm:G.m=m + 1:=hm
 have e1:G.m - 1=m:=by rw [hm]; rfl
 rw [e1]
 rcases Nat.lt_or_ge e m with q | q
 ·rw [jR q,hm,show e + (m + 1) - m=e + 1 by rw [Nat.add_comm m,<- Nat.add_assoc,Nat.add_sub_cancel],eR (Nat.succ_ne_zero e) (by rw [hm]; exact Nat.ne_of_lt (Nat.succ_lt_succ q))]; rfl
 ·obtain rfl:e=m:=Nat.le_antisymm (Nat.le_of_lt_succ (Nat.lt_of_lt_of_eq he hm)) q
  rw [jQ (Nat.le_refl _),Nat.sub_self,p7,e1]
theorem ajD {e k:Nat} (hk:k < G.m):G.ri e (G.ri e k)=k:=by
 rcases Nat.lt_or_ge e k with q | q
 ·rw [jR q,jR (by rw [Nat.add_sub_assoc (Nat.le_of_lt hk)]; exact Nat.lt_add_of_pos_right (Nat.sub_pos_of_lt hk))]
  exact Nat.sub_sub_self (aC (Nat.le_of_lt hk) (Nat.le_add_left _ _))
 ·rw [jQ q,jQ (Nat.sub_le _ _)]; exact Nat.sub_sub_self q
noncomputable def Rg.fb (G:Rg) (a x:Nat):Nat:=if x < G.m then a + 1 - G.m + G.ri (G.en a) x else a - x
theorem agt (h:aR G) {a i:Nat} (hi:i < a + 1 - G.m + G.m):G.fb a (G.fi a i)=i:=by
 rcases Nat.lt_or_ge i (a + 1 - G.m) with q | q
 ·obtain ⟨e,rfl⟩:=acj q
  rw [uw]
  exact (if_neg (Nat.not_lt_of_le (Nat.le_add_right _ _))).trans (by rw [Nat.add_sub_add_left,Nat.add_sub_cancel])
 ·obtain ⟨k,rfl⟩:=Nat.exists_eq_add_of_le q
  have hk:=Nat.lt_of_add_lt_add_left hi
  rw [lB]
  exact (if_pos (qU (ra h) hk)).trans (by rw [ajD hk])
theorem aj3 (h:aR G) {a i:Nat} (hi:i + 1 < a + 1 - G.m + G.m):G.pv (G.fi a i)=G.fi a (i + 1):=by
 rcases Nat.lt_or_ge i (a + 1 - G.m) with q | q
 ·obtain ⟨e,rfl⟩:=acj q
  rw [uw]
  cases e with
  | zero =>
   have e0:=lB (G:=G) (a:=G.m + (i + 0)) (i:=0)
   rw [vZ,acf] at e0
   exact (sd h).trans e0.symm
  | succ e =>
   have e1:=uw (G:=G) (i:=i + 1) (e:=e)
   rw [Nat.succ_add_eq_add_succ] at e1
   exact (eR (Nat.succ_ne_zero _) (Nat.ne_of_gt (Nat.lt_add_of_pos_right (Nat.succ_pos e)))).trans e1.symm
 ·obtain ⟨k,rfl⟩:=Nat.exists_eq_add_of_le q
  rw [lB,Nat.add_assoc,lB]
  exact akr (ra h) (Nat.lt_of_add_lt_add_left (by rw [<- Nat.add_assoc]; exact hi))
theorem ai1 (h:aR G) {a:Nat}:G.pv (G.fi a (a + 1 - G.m + G.m - 1))=G.fi a (a + 1 - G.m):=by
 rw [Nat.add_sub_assoc h.m1,lB,ait (ra h)]
 exact (lB (i:=0)).symm
theorem ai0 (h:aR G) {a i j:Nat} (hi:i < a + 1 - G.m + G.m) (hj:j < a + 1 - G.m + G.m) (e:G.fi a i=G.fi a j):i=j:=
 (agt h hi).symm.trans ((congrArg (G.fb a) e).trans (agt h hj))
theorem ai2 {a:Nat}:G.fi a 0=a:=by
 rcases Nat.lt_or_ge a G.m with q | q
 ·have e:=lB (G:=G) (a:=a) (i:=0)
  rw [acl q,acg q] at e
  exact e.trans (jQ (Nat.zero_le _))
 ·obtain ⟨c,rfl⟩:=Nat.exists_eq_add_of_le q
  have e:=uw (G:=G) (i:=0) (e:=c)
  rw [Nat.zero_add] at e; exact e
theorem aj4 (h:aR G) {a i:Nat} (ha:a < G.m + G.r) (hi:i < a + 1 - G.m + G.m):G.fi a i < G.m + G.r:=by
 rcases Nat.lt_or_ge i (a + 1 - G.m) with q | q
 ·obtain ⟨e,rfl⟩:=acj q
  rw [uw]; exact Nat.lt_of_le_of_lt (Nat.add_le_add_left (Nat.le_add_left _ _) _) ha
 ·obtain ⟨k,rfl⟩:=Nat.exists_eq_add_of_le q
  rw [lB]; exact Nat.lt_of_lt_of_le (qU (ra h) (Nat.lt_of_add_lt_add_left hi)) (Nat.le_add_right _ _)
theorem yv (h:aR G) {a:Nat} {t:Int}:(G.rg a t).Nodup:=by
 rw [xH]
 refine List.pairwise_map.mpr (List.Pairwise.imp_of_mem ?_ (List.nodup_range' (step:=1)))
 intro i j hi hj ne e
 exact ne (ai0 h (Nat.lt_of_lt_of_eq (List.mem_range'_1.mp hi).2 (Nat.zero_add _)) (Nat.lt_of_lt_of_eq (List.mem_range'_1.mp hj).2 (Nat.zero_add _)) (Prod.mk.inj e).1)
theorem ac3 (h:aR G) (hlt:G.lt=false) {a:Nat} {t:Int} (ha:a < G.m + G.r) (h0:0 <= t):∃ rest,G.rg a t=(a,t)::rest/\((a,t)::rest).Nodup/\((a,t)::rest).length < 4000/\gd G ((a,t)::rest) (.tup [.str "ring",.int ((a + 1 - G.m:Nat):Int)]) (a,t) rest:=by
 have pos:0 < a + 1 - G.m + G.m:=Nat.lt_of_lt_of_le h.m1 (Nat.le_add_left _ _)
 have len:a + 1 - G.m + G.m < 4000:=Nat.lt_of_le_of_lt (Nat.add_le_add (aC (Nat.sub_le _ _) ha) h.m2) (Nat.lt_of_le_of_lt (Nat.add_le_add_right (Nat.add_le_add h.m2 h.r8) _) (by decide))
 have nl:∀ k,G.lb k=false:=fun k=>by unfold Rg.lb; rw [hlt]; rfl
 have nx:∀ x:Nat × Int,G.nx x=(G.pv x.1,x.2):=fun x=>by unfold Rg.nx; rw [tq (nl _)]
 have e0:G.rg a t=(a,t)::(List.range' 1 (a + 1 - G.m + G.m - 1)).map fun i=>(G.fi a i,t):=by
  rw [xH]
  obtain ⟨q,hq⟩:=Nat.exists_eq_add_of_le' pos
  rw [hq,List.range'_succ,List.map_cons,ai2]; rfl
 refine ⟨_,e0,?_,?_,?_⟩
 ·rw [<- e0]; exact yv h
 ·rw [List.length_cons,List.length_map,List.length_range',Nat.sub_add_cancel pos]; exact len
 ·rw [<- e0]
  have go:=gd.ofF (G:=G) (full:=G.rg a t) (E:=.tup [.str "ring",.int ((a + 1 - G.m:Nat):Int)]) (f:=fun i=>(G.fi a i,t)) (b:=a + 1 - G.m + G.m - 1) (a + 1 - G.m + G.m - 1) 0 (Nat.zero_add _) (fun i zz hi=>⟨by rw [nx,aj3 h (Nat.add_lt_of_lt_sub hi)],h0⟩) (by
   rw [nx]
   unfold jE
   rw [if_neg (Int.not_lt.mpr h0),ai1 h]
   have inn:∀ q ∈ G.rg a t,q.1 < G.m + G.r:=fun q hq=>by
    rw [xH] at hq
    obtain ⟨i,hi,rfl⟩:=List.mem_map.mp hq
    exact aj4 h ha (Nat.lt_of_lt_of_eq (List.mem_range'_1.mp hi).2 (Nat.zero_add _))
   have at_:(G.rg a t)[a + 1 - G.m]?=some (G.fi a (a + 1 - G.m),t):=by
    rw [xH,List.getElem?_map,List.getElem?_range' (Nat.lt_add_of_pos_right h.m1),Nat.zero_add,Nat.one_mul]; rfl
   rw [agY (x:=(G.fi a (a + 1 - G.m),t)) h inn (yv h) at_])
  rw [ai2] at go
  exact go
section
variable (h:aR G) (hlt:G.lt=true)
include h hlt
theorem yO:G.lb 0=true:=by unfold Rg.lb; rw [hlt]; rfl
theorem dwP:∀ (T:Nat) (x:Nat × Int),G.pv x.1=0->x.2=T->gd G full (.tup [.str "first"]) x (G.dw T):=by
 intro T
 have hm:=h.m1
 induction T with
 | zero =>
  intro x h1 h2
  show jE _ _ _=_
  unfold Rg.nx jE
  rw [h1,h2,xZ (yO h hlt),if_pos (by decide)]
 | succ T ih =>
  have sg:∀ (c:Nat) (x:Nat × Int),c < G.m->x.2=T->G.pv x.1=c->gd G full (.tup [.str "first"]) x (dC c c T++G.dw T):=by
   intro c
   induction c with
   | zero=>intro x _ h2 h1; exact ih x h1 h2
   | succ c ih2 =>
    intro x hc h2 h1
    rw [gG]
    refine ⟨?_,Int.natCast_nonneg T,ih2 (c + 1,(T:Int)) (by (exact Nat.lt_of_succ_lt (by assumption))) rfl (by rw [eR (Nat.succ_ne_zero c) (Nat.ne_of_lt hc)]; rfl)⟩
    unfold Rg.nx
    rw [h1,h2,tq (oG (Nat.succ_ne_zero c))]
  intro x h1 h2
  refine ⟨?_,Int.natCast_nonneg T,sg (G.m - 1) (0,(T:Int)) (Nat.sub_lt hm (by decide)) rfl p7⟩
  unfold Rg.nx
  rw [h1,h2,xZ (yO h hlt),rZ]
theorem sgP {T:Nat}:∀ (c:Nat) (x:Nat × Int),c < G.m->x.2=T->G.pv x.1=c->gd G full (.tup [.str "first"]) x (dC c c T++G.dw T):=by
 intro c
 induction c with
 | zero=>intro x _ h2 h1; exact dwP h hlt T x h1 h2
 | succ c ih2 =>
  intro x hc h2 h1
  rw [gG]
  refine ⟨?_,Int.natCast_nonneg T,ih2 (c + 1,(T:Int)) (by (exact Nat.lt_of_succ_lt (by assumption))) rfl (by rw [eR (Nat.succ_ne_zero c) (Nat.ne_of_lt hc)]; rfl)⟩
  unfold Rg.nx
  rw [h1,h2,tq (oG (Nat.succ_ne_zero c))]
theorem chP {T:Nat}:∀ (c:Nat),gd G full (.tup [.str "first"]) (G.m + c,(T:Int)) (dC c (G.m + c - 1) T++G.dw T):=by
 intro c
 have hm:=h.m1
 induction c with
 | zero=>exact dwP h hlt T _ (sd h) rfl
 | succ c ih =>
  rw [gG]
  refine ⟨?_,Int.natCast_nonneg T,ih⟩
  unfold Rg.nx
  rw [show G.pv (G.m + (c + 1),(T:Int)).1=G.m + c from eR (Nat.succ_ne_zero _) (Nat.ne_of_gt (Nat.lt_add_of_pos_right (Nat.succ_pos c)))]
  exact congrArg (Prod.mk (G.m + c)) (tq (oG (Nat.ne_of_gt (Nat.lt_of_lt_of_le hm (Nat.le_add_right _ _)))))
noncomputable def uW (y x:Nat × Int):Prop:=y.2 < x.2\/y.2=x.2/\y.1 ≠ 0/\(x.1=0\/y.1 < x.1)
omit h hlt in
theorem uW.trans {x y z:Nat × Int} (a:uW z y) (b:uW y x):uW z x:=by
 rcases a with a | ⟨a1,a2,a3⟩
 ·rcases b with b | ⟨b1,_,_⟩
  ·exact .inl (Int.lt_trans a b)
  ·exact .inl (b1 ▸ a)
 ·rcases b with b | ⟨b1,b2,b3⟩
  ·exact .inl (a1 ▸ b)
  ·exact .inr ⟨a1.trans b1,a2,b3.imp_right fun q=>Nat.lt_trans (a3.resolve_left b2) q⟩
omit h hlt in
theorem uW.irr {x:Nat × Int} (a:uW x x):False:=by
 rcases a with a | ⟨_,a2,a3⟩
 ·exact Int.lt_irrefl _ a
 ·exact a3.elim a2 (Nat.lt_irrefl _)
theorem ahc {x:Nat × Int}:uW (G.nx x) x:=by
 unfold Rg.nx
 by_cases q:G.pv x.1=0
 ·rw [q,xZ (yO h hlt)]; exact .inl (Int.sub_lt_self _ (by decide))
 ·rw [tq (oG q)]
  refine .inr ⟨rfl,q,?_⟩
  by_cases z:x.1=0
  ·exact .inl z
  ·refine .inr ?_
   show G.pv x.1 < x.1
   rw [eR z fun y=>q (y ▸ sd h)]
   exact Nat.sub_lt (Nat.pos_of_ne_zero z) (by decide)
theorem gd.nodup:∀ (l:List (Nat × Int)) (x:Nat × Int),gd G full E x l->(x::l).Nodup/\∀ q ∈ l,uW q x:=by
 intro l
 induction l with
 | nil=>intro x _; exact ⟨List.nodup_cons.mpr ⟨List.not_mem_nil,List.nodup_nil⟩,fun q hq=>absurd hq List.not_mem_nil⟩
 | cons y l ih =>
  intro x hp
  obtain ⟨h1,_,h3⟩:=hp
  have ls:=ahc h hlt (x:=x)
  rw [h1] at ls
  obtain ⟨n1,n2⟩:=ih y h3
  have all:∀ q ∈ y::l,uW q x:=fun q hq=>by
   rcases List.mem_cons.mp hq with rfl | hq
   ·exact ls
   ·exact (n2 q hq).trans ls
  exact ⟨List.nodup_cons.mpr ⟨fun z=>(all x z).irr,n1⟩,all⟩
theorem ajd:∀ T,(G.dw T).length=T * G.m:=by
 intro T
 have hm:=h.m1
 induction T with
 | zero=>rw [Nat.zero_mul]; rfl
 | succ T ih =>
  show (_::(_++_)).length=_
  rw [List.length_cons,List.length_append,ih,Nat.succ_mul,mR,Nat.add_right_comm,Nat.sub_add_cancel hm,Nat.add_comm]
noncomputable def Rg.dn (G:Rg) (a t:Nat):List (Nat × Int):=if a=0 then G.dw (t + 1) else G.fs a t
theorem ab6 {a t:Nat} (ha:a < G.m + G.r) (ht:t < 200):∃ rest,G.dn a t=(a,(t:Int))::rest/\((a,(t:Int))::rest).Nodup/\((a,(t:Int))::rest).length < 4000/\∀ full,gd G full (.tup [.str "first"]) (a,(t:Int)) rest:=by
 have hm:=h.m1
 have fin:∀ c k,c <= 18->G.dn a t=(a,(t:Int))::(dC c k t++G.dw t)->(∀ full,gd G full (.tup [.str "first"]) (a,(t:Int)) (dC c k t++G.dw t))->∃ rest,G.dn a t=(a,(t:Int))::rest/\((a,(t:Int))::rest).Nodup/\((a,(t:Int))::rest).length < 4000/\∀ full,gd G full (.tup [.str "first"]) (a,(t:Int)) rest:=fun c k hc e hp =>
  ⟨_,e,(gd.nodup h hlt _ _ (hp [])).1,by
   rw [List.length_cons,List.length_append,mR,ajd h hlt]
   exact Nat.lt_of_le_of_lt (Nat.succ_le_succ (Nat.add_le_add hc (Nat.mul_le_mul (Nat.le_of_lt ht) h.m2))) (by decide),hp⟩
 have m18:∀ {k},k <= G.m->k <= 18:=fun {k} q=>aC q (aC h.m2 (by decide))
 cases a with
 | zero=>exact fin (G.m - 1) (G.m - 1) (m18 (Nat.sub_le _ _)) (if_pos rfl) fun full=>sgP h hlt (G.m - 1) _ (Nat.sub_lt hm (by decide)) rfl p7
 | succ a =>
  have e0:G.dn (a + 1) t=dC (a + 1 + 1 - G.m) (a + 1) t++(dC (G.en (a + 1)) (G.en (a + 1)) t++G.dw t):=if_neg (Nat.succ_ne_zero a)
  rcases Nat.lt_or_ge (a + 1) G.m with q | q
  ·rw [acl q,acg q,gG] at e0
   exact fin a a (m18 (Nat.le_of_lt (Nat.lt_of_succ_lt q))) e0 fun full=>sgP h hlt a _ (Nat.lt_of_succ_lt q) rfl (eR (Nat.succ_ne_zero a) (Nat.ne_of_lt q))
  ·obtain ⟨c,hc⟩:=Nat.exists_eq_add_of_le q
   rw [hc] at e0 ha fin ⊢
   rw [vZ,acf,gG] at e0
   exact fin c (G.m + c - 1) (aC (Nat.le_of_lt (Nat.lt_of_add_lt_add_left ha)) (aC h.r8 (by decide))) e0 fun full=>chP h hlt c
end
noncomputable def Rg.ld (G:Rg) (x:Nat × Int):PyData:=.tuple [.str (G.N x.1),.int x.2,.str (G.N (G.pv x.1))]
theorem aaG {σ:ac}:∀ (l:List (Nat × Int)),(l.map G.lk).mapM (toD 14 σ)=some (l.map G.ld):=by
 intro l
 induction l with
 | nil=>rfl
 | cons q l ih=>rw [List.map_cons,List.mapM_cons,ih]; rfl
theorem aja:∀ (l:List (Nat × Int)),PyData.eqvAll (l.map G.ld) (l.map G.ld)=true:=by
 intro l
 induction l with
 | nil=>rfl
 | cons q l ih =>
  rw [List.map_cons]
  show ((G.N q.1 == G.N q.1 && (q.2 == q.2 && (G.N (G.pv q.1) == G.N (G.pv q.1) && true))) && PyData.eqvAll _ _)=true
  rw [ih,beq_self_eq_true,beq_self_eq_true,beq_self_eq_true]; rfl
inductive ei (G:Rg) (l:List (Nat × Int)) (σ:ac):PV->Prop
 | fl:ei G l σ (.fl (l.map G.lk))
 | ref (j:Nat):σ[j]?=some (.lst (l.map G.lk))->ei G l σ (.ref j)
theorem ei.toD {l:List (Nat × Int)} {σ:ac} {v:PV} (h:ei G l σ v):toD 15 σ v=some (.list (l.map G.ld)):=by
 cases h with
 | fl =>
  show ((l.map G.lk).mapM (Mine.toD 14 σ)).map PyData.list=_
  rw [aaG]; rfl
 | ref j e =>
  show (match σ[j]? with
   | some (.lst xs)=>(xs.mapM (Mine.toD 14 σ)).map PyData.list
   | _=>none)=_
  rw [e]
  dsimp only
  rw [aaG]; rfl
theorem ae6 {l:List (Nat × Int)} {σ:ac} {u v E:PV} {e:PyData} (h1:ei G l σ u) (h2:ei G l σ v) (hE:toD 15 σ E=some e) (he:PyData.eqv e e=true):br .ne (.tup [u,E]) (.tup [v,E]) σ=.ok false σ:=by
 show af.ofOpt ((eqv σ (.tup [u,E]) (.tup [v,E])).map (!·)) σ=_
 have key:∀ {w:PV},ei G l σ w->toD 16 σ (.tup [w,E])=some (.tuple [.list (l.map G.ld),e]):=fun {w} hw=>by
  show (([w,E].mapM (toD 15 σ)).map PyData.tuple)=_
  rw [List.mapM_cons,hw.toD,List.mapM_cons,hE]; rfl
 unfold eqv
 rw [key h1,key h2]
 show af.ofOpt (some (!(PyData.eqvAll (l.map G.ld) (l.map G.ld) && (PyData.eqv e e && true)))) σ=_
 rw [aja,he]; rfl
end
end Mine
namespace Mine
open PySem
noncomputable def Rg.sp (G:Rg) (i:Nat) (t:Nat):Int:=(t:Int) * ((G.m:Int) - 1) + (if i < G.m then (i:Int) else (i:Int) - G.m + 1)
noncomputable def Rg.due (G:Rg) (i t:Nat):Int:=if i=23 then G.v else (G.f + G.v * G.sp i t) % 1000000
structure Jg (G:Rg) (B:cu):Prop where
 val:∀ i,i < 24->∀ (t:Nat) (v:PV),ah (G.N i,(t:Int)) B.es=some v->v=.int (G.due i t)
 giv:∀ k,k < G.m + G.r->∀ t:Int,(ah (G.N k,t) B.gs).isSome=true->bw (G.st k) t ≠ G.n->(ah (G.N k,bw (G.st k) t) B.es).isSome=true
 ok:dO B.es
section
variable {G:Rg} {p:List aj} {A B:cu} {l:List (aj × Int)}
theorem aim {k:Nat}:l7 (G.st k).rule=false:=by
 unfold Rg.st
 cases G.lb k
 ·exact (show l7 (.word "sum")=false by decide +kernel)
 ·exact (show l7 (.word "later")=false by decide +kernel)
theorem rX {k t:Nat} (h:G.lb k=true):bw (G.st k) t=((t + 1:Nat):Int):=by
 unfold bw
 rw [tH,if_pos h]; rfl
theorem u4 {k:Nat} {t:Int} (h:G.lb k=false):bw (G.st k) t=t:=by
 unfold bw
 rw [tH,if_neg (by rw [h]; decide),Int.add_zero]
theorem nX {i t:Nat} (h:i ≠ 23):G.due i t=(G.f + G.v * G.sp i t) % 1000000:=if_neg h
theorem tI {k t:Nat} (h:k < G.m):G.sp k t=(t:Int) * ((G.m:Int) - 1) + k:=congrArg (fun x=>(t:Int) * ((G.m:Int) - 1) + x) (if_pos h)
theorem af4 {c t:Nat}:G.sp (G.m + c) t=(t:Int) * ((G.m:Int) - 1) + c + 1:=by
 rw [Int.add_assoc]
 refine congrArg (fun x=>(t:Int) * ((G.m:Int) - 1) + x) ((if_neg (Nat.not_lt_of_le (Nat.le_add_right _ _))).trans ?_)
 rw [Int.natCast_add,Int.add_comm (G.m:Int),Int.add_sub_cancel]
theorem ajA (h:aR G) {k t:Nat} (hk:k ≠ 0):G.sp k t=G.sp (G.pv k) t + 1:=by
 rcases Nat.lt_or_ge k G.m with q | q
 ·obtain ⟨k,rfl⟩:=Nat.exists_eq_add_of_le' (Nat.pos_of_ne_zero hk)
  rw [eR hk (Nat.ne_of_lt q),tI q]
  exact (Int.add_assoc _ _ _).symm.trans (congrArg (· + 1) (tI (k:=k) (Nat.lt_of_succ_lt q)).symm)
 ·obtain ⟨c,rfl⟩:=Nat.exists_eq_add_of_le q
  rw [af4]
  refine congrArg (· + 1) ?_
  cases c with
  | zero=>rw [show G.pv (G.m + 0)=0 from sd h,tI h.m1]
  | succ c=>rw [show G.pv (G.m + (c + 1))=G.m + c from eR hk (Nat.ne_of_gt (Nat.lt_add_of_pos_right (Nat.succ_pos c))),af4,Int.natCast_add,<- Int.add_assoc]; rfl
theorem akq (h:aR G) {t:Nat}:G.sp 0 (t + 1)=G.sp (G.m - 1) t:=by
 rw [tI h.m1,tI (Nat.sub_lt h.m1 (by decide)),<- oc h.m1]
 show ((t:Int) + 1) * _ + 0=_
 rw [Int.add_zero,Int.add_mul,Int.one_mul]
theorem aft (h:aR G) {es:bR} {k t:Nat} (hk:k < G.m + G.r) (hlt:G.lt=true) (hv:∀ i,i < 24->∀ v,ah (G.N i,(t:Int)) es=some v->v=.int (G.due i t)) (hm:cj es (G.st k) t=none) :
  ∃ u:Nat,bw (G.st k) t=u/\dh (G.st k).rule (cw es (G.st k) t)=.int (G.due k u):=by
 have ms:=afb je hm
 have p23:=cL h (gV h hk)
 have k23:=cL h hk
 cases hb:G.lb k with
 | true =>
  refine ⟨t + 1,rX hb,?_⟩
  have k0:k=0:=by
   unfold Rg.lb at hb
   rw [Bool.and_eq_true,decide_eq_true_eq] at hb; exact hb.2
  subst k0
  have es0:G.st 0=G.sb 0 true:=by unfold Rg.st; rw [hb]
  rw [es0] at ms ⊢
  obtain ⟨a,ha⟩:=ms (G.N (G.pv 0)) List.mem_cons_self
  have e:=hv _ (Nat.lt_succ_of_lt p23) a ha
  show (ah (G.N (G.pv 0),(t:Int)) es).getD .none=_
  rw [ha,e]
  show PV.int _=PV.int _
  rw [nX (Nat.ne_of_lt p23),nX (by decide),akq h,p7]
 | false =>
  refine ⟨t,u4 hb,?_⟩
  have k0:k ≠ 0:=by
   rintro rfl
   unfold Rg.lb at hb
   rw [hlt] at hb; exact absurd hb (by decide)
  have es0:G.st k=G.sb k false:=by unfold Rg.st; rw [hb]
  rw [es0] at ms ⊢
  obtain ⟨a,ha⟩:=ms (G.N (G.pv k)) List.mem_cons_self
  obtain ⟨b,hb2⟩:=ms (G.N 23) (bJ _ List.mem_cons_self)
  have e:=hv _ (Nat.lt_succ_of_lt p23) a ha
  have e2:=hv 23 (by decide) b hb2
  show dh (.word "sum") [(ah (G.N (G.pv k),(t:Int)) es).getD .none,(ah (G.N 23,(t:Int)) es).getD .none]=_
  rw [ha,hb2,e,e2]
  show PV.int ((G.due (G.pv k) t + (G.due 23 t + 0)) % 1000000)=_
  rw [nX (Nat.ne_of_lt p23),nX (Nat.ne_of_lt k23),show G.due 23 t=G.v from if_pos rfl,ajA h k0,Int.add_zero,Int.emod_add_emod,Int.mul_add,Int.mul_one,Int.add_assoc]
theorem Jg.fire (h:aR G) (hlt:G.lt=true) (hp:p.Perm G.l) (j:Jg G B) {s:aj} {t:Int} (hs:s ∈ p) (h0:0 <= t) (h1:t < G.n) (hr:B.rdy s t=true):Jg G (B.fire G.n s t):=by
 obtain ⟨k,hk,rfl⟩:=lr.mp (hp.mem_iff.mp hs)
 obtain ⟨t,rfl⟩:=Int.eq_ofNat_of_zero_le h0
 obtain ⟨r1,r2⟩:=cu.rdy_of hr
 have k23:=cL h hk
 obtain ⟨u,hu,ev⟩:=aft h hk hlt (fun i hi v hv=>j.val i hi t v hv) r2
 have self:bw (G.st k) t ≠ G.n->ah (G.N k,bw (G.st k) t) (b7 G.n B.es (G.st k) t)=some (.int (G.due k u)):=fun hw=>by
  rw [afq aim (by rw [ev]; rfl) hw (by rw [iz]; exact List.mem_singleton_self _),ev]
 have other:∀ q:Str × Int,¬ (q.2=bw (G.st k) t/\q.1=G.N k)->ah q (b7 G.n B.es (G.st k) t)=ah q B.es:=fun q hq=>by
  refine ab4 ?_
  by_cases z:q.2=bw (G.st k) t
  ·exact .inr fun y=>hq ⟨z,by rw [iz] at y; exact List.mem_singleton.mp y⟩
  ·exact .inl z
 refine ⟨fun i hi a v hv=>?_,fun k' hk' t' hf hw=>?_,j.ok.fire (qQ h hk) r2⟩
 ·have hv:ah (G.N i,(a:Int)) (b7 G.n B.es (G.st k) t)=some v:=hv
  by_cases z:(a:Int)=bw (G.st k) t/\G.N i=G.N k
  ·by_cases hw:bw (G.st k) t=G.n
   ·have e:b7 G.n B.es (G.st k) t=B.es:=if_pos hw
    rw [e] at hv; exact j.val i hi a v hv
   ·rw [z.1,z.2,self hw] at hv
    obtain rfl:=oi hv
    obtain rfl:=ja h hi (Nat.lt_succ_of_lt k23) z.2
    obtain rfl:a=u:=by have:=z.1.trans hu; (grind)
    rfl
  ·rw [other _ z] at hv; exact j.val i hi a v hv
 ·show (ah (G.N k',bw (G.st k') t') (b7 G.n B.es (G.st k) t)).isSome=true
  have hf:(ah (G.N k',t') (B.gs++[(((G.st k).name,(t:Int)),PV.bool true)])).isSome=true:=hf
  rw [gE] at r1 hf
  rw [lX r1] at hf
  by_cases z:(G.N k',t')=(G.N k,(t:Int))
  ·obtain ⟨z1,z2⟩:=Prod.mk.inj z
   obtain rfl:=ja h (Nat.lt_succ_of_lt (cL h hk')) (Nat.lt_succ_of_lt k23) z1
   subst z2
   rw [self hw]; rfl
  ·rw [if_neg z] at hf
   exact adQ (j.giv k' hk' t' hf hw)
theorem bt.jg (h:aR G) (hlt:G.lt=true) (hp:p.Perm G.l) (f:bt p G.n A B l) (j:Jg G A):Jg G B:=by
 induction f with
 | nil=>exact j
 | snoc f hs h0 h1 hr ih=>exact ih.fire h hlt hp hs h0 h1 hr
theorem aej (h:aR G) (hlt:G.lt=true) (j:Jg G B) (hr:∀ t:Int,0 <= t->t < G.n->∀ k,k < G.m + G.r->B.rdy (G.st k) t=false)
  (h23:1 < G.m + G.r->∀ t:Nat,t < G.n->(ah (G.N 23,(t:Int)) B.es).isSome=true) (h0:(ah (G.N 0,((0:Nat):Int)) B.es).isSome=true) :
  ∀ t:Nat,t < G.n->∀ k,k < G.m + G.r->(ah (G.N k,(t:Int)) B.gs).isSome=true/\(ah (G.N k,(t:Int)) B.es).isSome=true:=by
 have hm:=h.m1
 have l0:=yO h hlt
 have fire:∀ (t:Nat),t < G.n->∀ k,k < G.m + G.r->(ah (G.N (G.pv k),(t:Int)) B.es).isSome=true->(ah (G.N k,(t:Int)) B.gs).isSome=true:=fun t ht k hk hn=>by
  rw [<- gE]
  refine abI (hr t (Int.natCast_nonneg t) (Int.ofNat_lt.mpr ht) k hk) (adn je fun x hx=>?_)
  unfold Rg.st at hx
  cases hb:G.lb k with
  | true=>rw [hb] at hx; rw [List.mem_singleton.mp hx]; exact hn
  | false =>
   rw [hb] at hx
   rcases List.mem_cons.mp hx with rfl | hx
   ·exact hn
   ·rw [List.mem_singleton.mp hx]
    have:k ≠ 0:=by rintro rfl; rw [l0] at hb; exact absurd hb (by decide)
    exact h23 (by grind) t ht
 have wn:∀ (t:Nat),t < G.n->(ah (G.N 0,(t:Int)) B.es).isSome=true->∀ k,k < G.m + G.r->(ah (G.N k,(t:Int)) B.es).isSome=true:=fun t ht a0 k=>by
  induction k using Nat.strongRecOn with
  | _ k ih =>
   intro hk
   by_cases k0:k=0
   ·rw [k0]; exact a0
   ·have lt:G.pv k < k:=by
     unfold Rg.pv
     rw [if_neg k0]
     split <;> (grind)
    have f:=fire t ht k hk (ih _ lt (by grind))
    have g:=j.giv k hk t f (by rw [u4 (oG k0)]; (grind))
    rw [u4 (oG k0)] at g; exact g
 have row:∀ t:Nat,t < G.n->(ah (G.N 0,(t:Int)) B.es).isSome=true:=fun t=>by
  induction t with
  | zero=>intro _; exact h0
  | succ t ih =>
   intro ht
   have a:=wn t (by (exact Nat.lt_of_succ_lt (by assumption))) (ih (by (exact Nat.lt_of_succ_lt (by assumption))))
   have f:=fire t (by (exact Nat.lt_of_succ_lt (by assumption))) 0 (by (exact aC (by assumption) (Nat.le_add_right _ _))) (a _ (gV h (by (exact aC (by assumption) (Nat.le_add_right _ _)))))
   have g:=j.giv 0 (by (exact aC (by assumption) (Nat.le_add_right _ _))) t f (by rw [rX l0]; (grind))
   rw [rX l0] at g; exact g
 intro t ht k hk
 have a:=wn t ht (row t ht)
 exact ⟨fire t ht k hk (a _ (gV h hk)),a k hk⟩
theorem aek (h:aR G) (hp:p.Perm G.l) (g:Gk p G.n B) (hf:∀ t:Nat,t < G.n->∀ k,k < G.m + G.r->(ah (G.N k,(t:Int)) B.gs).isSome=true):B.gs.length=(G.m + G.r) * G.n:=by
 have nn:=yF h.nm (k:=G.m + G.r) (aC (Nat.add_le_add h.m2 h.r8) (by decide))
 have pm:(B.gs.map (·.1)).Perm (((List.range (G.m + G.r)).map G.N).flatMap fun x=>(List.range G.n).map fun (t:Nat)=>(x,(t:Int))):=by
  refine (List.perm_ext_iff_of_nodup g.nodup ?_).mpr fun k=>?_
  ·unfold List.Nodup
   rw [List.pairwise_flatMap]
   refine ⟨fun x zz=>List.Pairwise.map _ (fun a b q e=>q (by have:=(Prod.mk.inj e).2; (grind))) (List.nodup_range (n:=G.n)),?_⟩
   refine nn.imp fun {a b} q x hx y hy e=>?_
   obtain ⟨i,_,rfl⟩:=List.mem_map.mp hx
   obtain ⟨j,_,rfl⟩:=List.mem_map.mp hy
   exact q (Prod.mk.inj e).1
  ·rw [List.mem_flatMap]
   constructor
   ·intro hk
    obtain ⟨s,hs,h1,h2,h3⟩:=g.inn k hk
    obtain ⟨x,t⟩:=k
    obtain ⟨t,rfl⟩:=Int.eq_ofNat_of_zero_le h2
    obtain ⟨i,hi,rfl⟩:=lr.mp (hp.mem_iff.mp hs)
    have h1:x=(G.st i).name:=h1
    rw [gE] at h1
    exact ⟨x,List.mem_map.mpr ⟨i,List.mem_range.mpr hi,h1.symm⟩,List.mem_map.mpr ⟨t,List.mem_range.mpr (Int.ofNat_lt.mp h3),rfl⟩⟩
   ·rintro ⟨x,hx,hk⟩
    obtain ⟨t,ht,rfl⟩:=List.mem_map.mp hk
    obtain ⟨i,hi,rfl⟩:=List.mem_map.mp hx
    exact qZ.mp (hf t (List.mem_range.mp ht) i (List.mem_range.mp hi))
 have:=pm.length_eq
 rw [List.length_map] at this
 rw [this,List.length_flatMap]
 have c:∀ l:List Str,(l.map fun x=>((List.range G.n).map fun (t:Nat)=>(x,(t:Int))).length).sum=l.length * G.n:=by
  intro l
  induction l with
  | nil=>rw [List.map_nil,List.length_nil,Nat.zero_mul]; rfl
  | cons a l ih=>rw [List.map_cons,List.sum_cons,ih,List.length_map,List.length_range,List.length_cons,Nat.succ_mul,Nat.add_comm]
 rw [c,List.length_map,List.length_range]
theorem bt.still {n:Nat} (h:∀ s ∈ p,∀ t:Int,A.rdy s t=false) (f:bt p n A B l):B=A/\l=[]:=by
 induction f with
 | nil=>exact ⟨rfl,rfl⟩
 | snoc f hs h0 h1 hr ih=>obtain ⟨rfl,rfl⟩:=ih; rw [h _ hs] at hr; exact absurd hr (by decide)
end
end Mine
namespace Mine
open PySem
section
variable {G:Rg} {p:List aj} {X:Ix} {es gs:bR} {os:List PV} {n:Nat} {σ:ac} {d:Nat}
theorem aj9 {x:Str} {t:Int} (b:Bo p n es gs os X σ) (h1:oy p x=true) (h0:0 <= t) (hn:t < n):aG PP topN (d + 3) oK [.inst ae X.i,.str x,.int t] σ=.ok ((ah (x,t) es).getD .none) σ:=by
 rw [a5 (fn:=uI) rfl rfl]
 have s0:ex (CC (d + 2)) topN pJ [some (.inst ae X.i),some (.str x),some (.int t)] σ=.next [some (.inst ae X.i),some (.str x),some (.int t)] σ:=bX (bu (i:=X.i) (σ₁:=σ) (σ₂:=σ) (vs:=[.str x]) rfl b.ns rfl rfl (pe b h1))
 have s1:ex (CC (d + 2)) topN pI [some (.inst ae X.i),some (.str x),some (.int t)] σ=.next [some (.inst ae X.i),some (.str x),some (.int t)] σ:=bX (bu (i:=X.i) (σ₁:=σ) (σ₂:=σ) (vs:=[.int t]) rfl b.ns rfl rfl (eV b h0 hn))
 exact (congrArg aQ ((aa s0).trans ((aa s1).trans (ak (a:=pH) (av (o6 (cE (i:=X.i) (σ₁:=σ) (v:=.ref X.h) rfl b.ns rfl) (adT b.hr) (y:=.tup [.str x,.int t]) (σ₂:=σ) rfl (adN b.hr))))))).trans rfl
theorem afP {x:Str} {t:Int} {v:PV} {σ':ac} (e:aG PP topN (d + 4) uf [.inst ae X.i,.str x,.int t] σ=.ok v σ'):aG PP topN (d + 5) mj [.inst ae X.i,.str x,.int t] σ=.ok v σ':=by
 rw [a5 (fn:=mA) rfl rfl]
 have s0:ex (CC (d + 4)) topN iL [some (.inst ae X.i),some (.str x),some (.int t),none,none,none,none] σ=.ret v [some (.inst ae X.i),some (.str x),some (.int t),none,none,none,none] σ':=
  ahP (ak (av (eu (x:=.inst ae X.i) (σ₁:=σ) rfl (y:=.str x) (σ₂:=σ) rfl (z:=.int t) (σ₃:=σ) rfl e))) (fun zz zz zz z=>by contradiction)
 exact (congrArg aQ (ak s0)).trans rfl
theorem acD (h:aR G) (hp:p.Perm G.l) (b:Bo p G.n es gs os X σ) {k:Nat} {t:Int} (hk:k < G.m + G.r) (h0:0 <= t) (h1:t < G.n) (hg:(ah (G.N k,t) gs).isSome=true):aG PP topN (d + 4) uf [.inst ae X.i,.str (G.N k),.int t] σ=.exc gC σ:=by
 rw [a5 (fn:=ab9) rfl rfl]
 have s0:ex (CC (d + 3)) topN sx (some (.inst ae X.i)::some (.str (G.N k))::some (.int t)::List.replicate 11 none) σ=.next (some (.inst ae X.i)::some (.str (G.N k))::some (.int t)::some (G.st k).pv::List.replicate 10 none) σ:=
  aE (bu (i:=X.i) (σ₁:=σ) (σ₂:=σ) (vs:=[.str (G.N k)]) rfl b.ns rfl rfl (by
   have:=oC (d:=d + 2) b (qR hp hk) (kh h hp).names
   rw [gE] at this; exact this))
 have s1:ex (CC (d + 3)) topN sw (some (.inst ae X.i)::some (.str (G.N k))::some (.int t)::some (G.st k).pv::List.replicate 10 none) σ=.next (some (.inst ae X.i)::some (.str (G.N k))::some (.int t)::some (G.st k).pv::List.replicate 10 none) σ:=
  bX (bu (i:=X.i) (σ₁:=σ) (σ₂:=σ) (vs:=[.int t]) rfl b.ns rfl rfl (eV (d:=d + 1) b h0 h1))
 have t2:tst (CC (d + 3)) (.meth ae bx "has_fired" (.v 0) (.cons (.v 1) (.cons (.v 2) .nil))) (some (.inst ae X.i)::some (.str (G.N k))::some (.int t)::some (G.st k).pv::List.replicate 10 none) σ=.ok true σ:=by
  rw [<- hg]
  exact kc (bu (i:=X.i) (σ₁:=σ) (σ₂:=σ) (vs:=[.str (G.N k),.int t]) rfl b.ns rfl rfl (jk (d:=d + 2) b))
 exact (congrArg aQ ((aa s0).trans ((aa s1).trans (zw (a:=sv) ((aH t2).trans (zw (afx rfl))))))).trans rfl
theorem aaA {x:Str} {t:Int} (e:aG PP topN (d + 4) uf [.inst ae X.i,.str x,.int t] σ=.exc gC σ):aG PP topN (d + 5) mj [.inst ae X.i,.str x,.int t] σ=.ok (.str "Fired") σ:=by
 rw [a5 (fn:=mA) rfl rfl]
 have y0:ex (CC (d + 4)) topN (.cons kO .nil) [some (.inst ae X.i),some (.str x),some (.int t),none,none,none,none] σ=.exc gC [some (.inst ae X.i),some (.str x),some (.int t),none,none,none,none] σ:=
  zw (ahQ (eu (x:=.inst ae X.i) (σ₁:=σ) rfl (y:=.str x) (σ₂:=σ) rfl (z:=.int t) (σ₃:=σ) rfl e))
 have hh:ex (CC (d + 4)).inH topN (.cons d3 .nil) [some (.inst ae X.i),some (.str x),some (.int t),some (.exc gC),none,none,none] σ=.ret (.str "Fired") [some (.inst ae X.i),some (.str x),some (.int t),some (.exc gC),none,none,none] σ:=
  ak (av (bD (x:=.exc gC) (σ₁:=σ) rfl (show cM PP topN 1 (d + 3 + 1) ug [.exc gC] σ=.ok (.str "Fired") σ from rfl)))
 have s0:ex (CC (d + 4)) topN iL [some (.inst ae X.i),some (.str x),some (.int t),none,none,none,none] σ=.ret (.str "Fired") (List.replicate 7 none) σ:=by
  refine (ahO (h:=.cons d3 .nil) y0 (by decide) (Nat.le_of_ble_eq_true rfl) rfl).trans ?_
  show nY (ex (CC (d + 4)).inH topN (.cons d3 .nil) [some (.inst ae X.i),some (.str x),some (.int t),some (.exc gC),none,none,none] σ)=_
  rw [hh]; rfl
 exact (congrArg aQ (ak s0)).trans rfl
structure xU (G:Rg) (p:List aj) (X:Ix) (nv:PV) (es gs:bR) (os:List PV) (σ:ac):Prop where
 ok:aR G
 perm:p.Perm G.l
 bo:Bo p G.n es gs os X σ
 nv:aT G.nms σ nv
 at_:∀ t:Nat,t < G.n->∀ k,k < G.m + G.r->ah (G.N k,(t:Int)) es=some (.int (G.due k t))
theorem af7 (hp:p.Perm G.l) {k:Nat} (hk:k < G.m + G.r):oy p (G.N k)=true:=by
 unfold oy
 rw [decide_eq_true (List.mem_flatMap.mpr ⟨G.st k,qR hp hk,by rw [iz]; exact List.mem_singleton_self _⟩)]; rfl
noncomputable def RA (G:Rg) (X:Ix) (nv:PV) (t k s:Option PV):aq:=[some (.inst ae X.i),some nv,some (.int (G.m:Nat)),some (.int (G.r:Nat)),some (.int (G.n:Nat)),some (.int G.f),some (.int G.v),t,k,s,none,none]
theorem ahM {nv:PV} (q:xU G p X nv es gs os σ) {t:Nat} (ht:t < G.n):∀ (c a:Nat) (y z:Option PV),a + c=G.m + G.r ->
  ∃ y' z',aX none (bE 8) (fun ρ σ=>ex (CC (d + 3)) topN gK ρ σ) ((List.range' a c).map fun (i:Nat)=>PV.int (i:Int)) (RA G X nv (some (.int (t:Int))) y z) σ=.next (RA G X nv (some (.int (t:Int))) y' z') σ:=by
 intro c
 induction c with
 | zero=>intro a y z _; exact ⟨y,z,bB⟩
 | succ c ih =>
  intro a y z ha
  have h:=q.ok
  have hm1:=h.m1
  have hm2:=h.m2
  have hn2:=h.n2
  have hak:a < G.m + G.r:=by grind
  have v0:=h.v0
  have n1:=q.nv.sub h.nm.len (Nat.lt_succ_of_lt (cL h hak))
  have sub2:eA (.fl [.int (a:Int),.int ((a:Int) - (G.m:Nat) + 1)]) (.int (if decide ((a:Int) >= (G.m:Nat))=true then 1 else 0)) σ=.ok (.int (if a < G.m then (a:Int) else (a:Int) - G.m + 1)) σ:=by
   by_cases z:a < G.m
   ·rw [if_pos z,decide_eq_false (by grind)]; rfl
   ·rw [if_neg z,decide_eq_true (by grind)]; rfl
  have b0:ex (CC (d + 3)) topN f8 (RA G X nv (some (.int (t:Int))) (some (.int (a:Int))) z) σ=.next (RA G X nv (some (.int (t:Int))) (some (.int (a:Int))) (some (.int (G.sp a t)))) σ:=
   aE (az (az (x:=.int (t:Int)) (σ₁:=σ) rfl (az (x:=.int (G.m:Nat)) (σ₁:=σ) rfl (y:=.int 1) (σ₂:=σ) rfl sub_int) (mul_int (.inl (by grind)))) (aU (x:=.fl [.int (a:Int),.int ((a:Int) - (G.m:Nat) + 1)]) (σ₁:=σ) rfl (cZ (d4 (x:=.int (a:Int)) (σ₁:=σ) rfl (y:=.int (G.m:Nat)) (σ₂:=σ) rfl (q:=decide ((a:Int) >= (G.m:Nat))) (σ₃:=σ) rfl) int_bool) sub2) add_int)
  have b1:ex (CC (d + 3)) topN fZ (RA G X nv (some (.int (t:Int))) (some (.int (a:Int))) (some (.int (G.sp a t)))) σ=.next (RA G X nv (some (.int (t:Int))) (some (.int (a:Int))) (some (.int (G.sp a t)))) σ:=by
   have e1:ev (CC (d + 3)) (.meth ae oK "at" (.v 0) (.cons (.sub (.v 1) (.v 8)) (.cons (.v 7) .nil))) (RA G X nv (some (.int (t:Int))) (some (.int (a:Int))) (some (.int (G.sp a t)))) σ=.ok (.int (G.due a t)) σ:=
    bu (i:=X.i) (σ₁:=σ) (σ₂:=σ) (vs:=[.str (G.N a),.int (t:Int)]) rfl q.bo.ns rfl (aJ (aU (x:=nv) (σ₁:=σ) rfl (y:=.int (a:Nat)) (σ₂:=σ) rfl n1) (aJ (x:=.int (t:Int)) (σ₁:=σ) rfl bC)) ((aj9 (d:=d) q.bo (af7 q.perm hak) (Int.natCast_nonneg t) (Int.ofNat_lt.mpr ht)).trans (by rw [q.at_ t ht a hak]; rfl))
   rw [nX (Nat.ne_of_lt (cL h hak))] at e1
   exact ao ((bj e1 (az (az (x:=.int G.f) (σ₁:=σ) rfl (az (x:=.int G.v) (σ₁:=σ) rfl (y:=.int (G.sp a t)) (σ₂:=σ) rfl (mul_int (.inl (by grind)))) add_int) (y:=.int 1000000) (σ₂:=σ) rfl (bn (by decide))) yH).trans (by rw [beq_self_eq_true]; rfl))
  obtain ⟨y',z',e⟩:=ih (a + 1) (some (.int (a:Int))) (some (.int (G.sp a t))) (by grind)
  refine ⟨y',z',?_⟩
  rw [List.range'_succ,List.map_cons]
  exact (bf (ρ₁:=RA G X nv (some (.int (t:Int))) (some (.int (a:Int))) z) rfl ((aa b0).trans ((aa b1).trans aK))).trans e
theorem ahL {nv:PV} (q:xU G p X nv es gs os σ):∀ (c a:Nat) (x y z:Option PV),a + c=G.n ->
  ∃ x' y' z',aX none (bE 7) (fun ρ σ=>ex (CC (d + 3)) topN io ρ σ) ((List.range' a c).map fun (i:Nat)=>PV.int (i:Int)) (RA G X nv x y z) σ=.next (RA G X nv x' y' z') σ:=by
 intro c
 induction c with
 | zero=>intro a x y z _; exact ⟨x,y,z,bB⟩
 | succ c ih =>
  intro a x y z ha
  have h:=q.ok
  have hm2:=h.m2
  have hr8:=h.r8
  obtain ⟨y1,z1,e1⟩:=ahM (d:=d) (t:=a) q (by grind) (G.m + G.r) 0 y z (Nat.zero_add _)
  rw [<- j4] at e1
  have it:evIt (CC (d + 3)) (.range1 (.bin .add (.v 2) (.v 3))) (RA G X nv (some (.int (a:Int))) y z) σ=.ok (aL 0 1 (G.m + G.r),none) σ:=qT (az (x:=.int (G.m:Nat)) (σ₁:=σ) rfl (y:=.int (G.r:Nat)) (σ₂:=σ) rfl (add_int.trans (by rw [<- Int.natCast_add]))) (by grind)
  obtain ⟨x',y',z',e⟩:=ih (a + 1) (some (.int (a:Int))) y1 z1 (by grind)
  refine ⟨x',y',z',?_⟩
  rw [List.range'_succ,List.map_cons]
  exact (bf (ρ₁:=RA G X nv (some (.int (a:Int))) y z) rfl ((aa (a:=g9) (bP it e1)).trans aK)).trans e
theorem acs {nv:PV} (q:xU G p X nv es gs os σ):aG PP topN (d + 4) lv [.inst ae X.i,nv,.int (G.m:Nat),.int (G.r:Nat),.int (G.n:Nat),.int G.f,.int G.v] σ=.ok (.bool true) σ:=by
 rw [a5 (fn:=lG) rfl rfl]
 obtain ⟨x,y,z,e⟩:=ahL (d:=d) q G.n 0 none none none (Nat.zero_add _)
 rw [<- j4] at e
 exact (congrArg aQ ((aa (a:=jt) (bP (ρ:=RA G X nv none none none) (qT (n:=G.n) rfl (aC q.ok.n2 (by decide))) e)).trans (ak (a:=js) (av rfl)))).trans rfl
end
end Mine
namespace Mine
open PySem
theorem ah2 {κ:Type} [DecidableEq κ] {k:κ} {v:PV} {es:List (κ × PV)} (h:ah k es=some v):(k,v) ∈ es:=by
 unfold ah at h
 obtain ⟨e,he,rfl⟩:=Option.map_eq_some_iff.mp h
 have:=List.find?_some he
 rw [decide_eq_true_eq] at this
 rw [<- this]; exact List.mem_of_find?_eq_some he
noncomputable def Rg.cd (G:Rg):Bool:=decide (1 < G.m + G.r) || !G.lt
noncomputable def Rg.e0 (G:Rg) (a:Nat):bR:=if G.cd=true then (List.range a).map fun (t:Nat)=>((G.N 23,(t:Int)),.int G.v) else []
section
variable {G:Rg} {p:List aj}
theorem xQ {a:Nat} {k:Str × Int} {v:PV} (h:ah k (G.e0 a)=some v):k.1=G.N 23/\v=.int G.v/\k.2 < a:=by
 have hm:=ah2 h
 unfold Rg.e0 at hm
 split at hm
 ·obtain ⟨t,ht,e⟩:=List.mem_map.mp hm
  obtain ⟨e1,e2⟩:=Prod.mk.inj e
  rw [<- e1]
  exact ⟨rfl,e2.symm,Int.ofNat_lt.mpr (List.mem_range.mp ht)⟩
 ·exact absurd hm List.not_mem_nil
theorem agB (h:aR G) {a k:Nat} {t:Int} (hk:k < 23):ah (G.N k,t) (G.e0 a)=none:=by
 cases e:ah (G.N k,t) (G.e0 a) with
 | none=>rfl
 | some v=>exact absurd (ja h (Nat.lt_succ_of_lt hk) (by decide) (xQ e).1) (Nat.ne_of_lt hk)
theorem ajb {a:Nat}:ah (G.N 23,(a:Int)) (G.e0 a)=none:=by
 cases e:ah (G.N 23,(a:Int)) (G.e0 a) with
 | none=>rfl
 | some v=>exact absurd (xQ e).2.2 (Int.lt_irrefl _)
theorem zB (h:aR G) {a:Nat}:dO (G.e0 a):=fun k v e=>⟨G.v,(xQ e).2.1,h.v0⟩
theorem zC {a:Nat}:(G.e0 a).length <= a:=by
 unfold Rg.e0
 split
 ·rw [List.length_map,List.length_range]; exact Nat.le_refl _
 ·exact Nat.zero_le _
theorem ahW {a:Nat} (hc:G.cd=true):G.e0 (a + 1)=G.e0 a++[((G.N 23,(a:Int)),.int G.v)]:=by
 unfold Rg.e0
 rw [if_pos hc,if_pos hc,List.range_succ,List.map_append]; rfl
theorem ajc {a t:Nat} (hc:G.cd=true) (ht:t < a):(ah (G.N 23,(t:Int)) (G.e0 a)).isSome=true:=by
 rw [qZ]
 unfold Rg.e0
 rw [if_pos hc,List.map_map]
 exact List.mem_map.mpr ⟨t,List.mem_range.mpr ht,rfl⟩
theorem yG (h:aR G) (hp:p.Perm G.l):G.N 23 ∉ p.flatMap (·.gives):=fun z=>by
 rw [(hp.flatMap_right _).mem_iff,aaV] at z
 obtain ⟨k,hk,e⟩:=List.mem_map.mp z
 have:=cL h (List.mem_range.mp hk)
 exact absurd (ja h (Nat.lt_succ_of_lt this) (by decide) e) (Nat.ne_of_lt this)
theorem zE (h:aR G) (hp:p.Perm G.l) {j:Int}:fm p (G.N 23) j=false:=aaX fun s hs hx=>absurd (List.mem_flatMap.mpr ⟨s,hs,hx⟩) (yG h hp)
theorem aa5 (h:aR G) (hp:p.Perm G.l) (hlt:G.lt=true):fm p (G.N 0) 0=false:=aaX fun s hs hx=>by
 have hm:=h.m1
 obtain ⟨k,hk,rfl⟩:=lr.mp (hp.mem_iff.mp hs)
 rw [iz] at hx
 have:=ja h (by decide) (Nat.lt_succ_of_lt (cL h hk)) (List.mem_singleton.mp hx)
 subst this
 rw [tH]
 exact ⟨yO h hlt,Int.le_refl _⟩
theorem aiv (h:aR G) (hp:p.Perm G.l) (hc:G.cd=true):oy p (G.N 23)=true:=by
 have hm:=h.m1
 obtain ⟨k,hk,hb⟩:∃ k,k < G.m + G.r/\G.lb k=false:=by
  unfold Rg.cd at hc
  cases hlt:G.lt with
  | false=>exact ⟨0,by (exact aC (by assumption) (Nat.le_add_right _ _)),by unfold Rg.lb; rw [hlt]; rfl⟩
  | true =>
   rw [hlt,Bool.not_true,Bool.or_false,decide_eq_true_eq] at hc
   exact ⟨1,hc,oG (by decide)⟩
 have inn:G.N 23 ∈ (G.st k).needs:=by
  unfold Rg.st
  rw [hb]; exact bJ _ List.mem_cons_self
 unfold oy
 rw [decide_eq_true (ae1.mpr ⟨List.mem_flatMap.mpr ⟨_,qR hp hk,inn⟩,yG h hp⟩),Bool.or_true]
end
structure Cl where
 l:List Int
 nv:PV
 G:Rg
 st:Nat
 tr:Int
 X:Ix
 p:List aj
noncomputable def Cl.R (c:Cl) (t g ce a du:Option PV):aq:=some (.fl (c.l.map .int))::some c.nv::some (.int (c.G.m:Nat))::some (.int (c.G.r:Nat))::some (.bool c.G.lt)::some (.int (c.G.n:Nat))::some (.ref c.st)::some (.int c.tr)::some (.inst ae c.X.i)::some (.int c.G.v)::some (.int c.G.f)::t::g::ce::a::du::List.replicate 13 none
structure k7 (c:Cl):Prop where
 l:c.l.length <= 63
 ok:aR c.G
 perm:c.p.Perm c.G.l
structure La (c:Cl) (B:cu) (σ:ac):Prop where
 bo:pL c.p c.G.n B c.X σ
 nv:∀ σ',c7 c.X σ σ'->aT c.G.nms σ' c.nv
theorem La.go {c:Cl} {B B':cu} {σ σ':ac} (h:La c B σ) (b:pL c.p c.G.n B' c.X σ') (k:c7 c.X σ σ'):La c B' σ':=⟨b,fun ez k'=>h.nv ez (k.trans k')⟩
section
variable {c:Cl}
theorem aiu (H:k7 c):∀ (k a:Nat) (σ:ac) (z:Option PV),a + k=c.G.n->La c ⟨c.G.e0 a,[],[]⟩ σ ->
  ∃ z' σ',aX none (bE 11) (fun ρ σ=>ex (CC 19) topN oV ρ σ) ((List.range' a k).map fun (i:Nat)=>PV.int (i:Int)) (c.R z none none none none) σ=.next (c.R z' none none none none) σ'/\La c ⟨c.G.e0 c.G.n,[],[]⟩ σ':=by
 intro k
 induction k with
 | zero=>intro a σ z ha h; obtain rfl:a=c.G.n:=ha; exact ⟨z,σ,bB,h⟩
 | succ k ih =>
  intro a σ z ha h
  have ok:=H.ok
  have hn2:=ok.n2
  have tt:tst (CC 19) (.or (.cons (.cmp (.bin .add (.v 2) (.v 3)) .gt (.k (.int 1))) (.cons (.not (.v 4)) .nil))) (c.R (some (.int (a:Int))) none none none none) σ=.ok c.G.cd σ:=by
   have:decide ((c.G.m:Int) + (c.G.r:Int) > 1)=decide (1 < c.G.m + c.G.r):=by
    by_cases z:1 < c.G.m + c.G.r
    ·rw [decide_eq_true z,decide_eq_true (by (exact Int.ofNat_lt.mpr (by assumption)))]
    ·rw [decide_eq_false z,decide_eq_false (by (exact fun q=>(by assumption:¬ _) (Int.ofNat_lt.mp q)))]
   unfold Rg.cd
   rw [<- this]
   exact n8 (tE (bj (az (x:=.int (c.G.m:Nat)) (σ₁:=σ) rfl (y:=.int (c.G.r:Nat)) (σ₂:=σ) rfl add_int) (y:=.int 1) (σ₂:=σ) rfl gt_int) fun zz=>ka (dE rfl))
  have fin:∀ σ',ex (CC 19) topN rJ (c.R (some (.int (a:Int))) none none none none) σ=.next (c.R (some (.int (a:Int))) none none none none) σ'->La c ⟨c.G.e0 (a + 1),[],[]⟩ σ'->∃ z' σ',aX none (bE 11) (fun ρ σ=>ex (CC 19) topN oV ρ σ) ((List.range' a (k + 1)).map fun (i:Nat)=>PV.int (i:Int)) (c.R z none none none none) σ=.next (c.R z' none none none none) σ'/\La c ⟨c.G.e0 c.G.n,[],[]⟩ σ':=fun σ1 e h1=>by
   obtain ⟨z',σ',e2,h2⟩:=ih (a + 1) σ1 (some (.int (a:Int))) (by grind) h1
   refine ⟨z',σ',?_,h2⟩
   rw [List.range'_succ,List.map_cons]
   exact (bf (ρ₁:=c.R (some (.int (a:Int))) none none none none) rfl ((aa e).trans aK)).trans e2
  cases hc:c.G.cd with
  | false =>
   rw [hc] at tt
   refine fin σ (ao tt) ?_
   have:c.G.e0 (a + 1)=c.G.e0 a:=by unfold Rg.e0; rw [hc]; rfl
   rw [this]; exact h
  | true =>
   rw [hc] at tt
   have po:=adb (d:=15) (x:=c.G.N 23) (j:=(a:Int)) (i:=c.G.v) (kh ok H.perm) h.bo (aiv ok H.perm hc) (Int.natCast_nonneg a) (by grind) (zE ok H.perm) ok.v0 ajb (by have:=zC (G:=c.G) (a:=a); show (c.G.e0 a).length < _; grind)
   have n3:=(h.nv σ .refl).sub ok.nm.len (show 23 < 24 by decide)
   refine fin _ ((aH tt).trans ((aa (a:=pA) (bX (bu (i:=c.X.i) (σ₁:=σ) (σ₂:=σ) (vs:=[.str (c.G.N 23),.int (a:Int),.int c.G.v]) rfl h.bo.ns rfl (aJ (aU (x:=c.nv) (σ₁:=σ) rfl (y:=.int ((23:Nat):Int)) (σ₂:=σ) rfl n3) (aJ (x:=.int (a:Int)) (σ₁:=σ) rfl (aJ (x:=.int c.G.v) (σ₁:=σ) rfl bC))) po))).trans aK)) ?_
   rw [ahW hc]
   exact h.go h.bo.here (.set (.inl rfl))
end
end Mine
namespace Mine
open PySem
theorem ei.app {G:Rg} {l:List (Nat × Int)} {σ τ:ac} {v:PV} (h:ei G l σ v):ei G l (σ++τ) v:=by
 cases h with
 | fl=>exact .fl
 | ref j e=>exact .ref j (dL e)
theorem vY {C:aV} {ρ:aq} {σ σ₁ σ₂ σ₃ σ₄ σ₅:ac} {a b c e g:X} {x y z u w:PV} {f:Nat} {v:af PV} (h1:ev C a ρ σ=.ok x σ₁) (h2:ev C b ρ σ₁=.ok y σ₂) (h3:ev C c ρ σ₂=.ok z σ₃) (h4:ev C e ρ σ₃=.ok u σ₄) (h5:ev C g ρ σ₄=.ok w σ₅) (h:C.call f [x,y,z,u,w] σ₅=v):ev C (.call f (.cons a (.cons b (.cons c (.cons e (.cons g .nil)))))) ρ σ=v:=by
 rw [iM,aJ h1 (aJ h2 (aJ h3 (aJ h4 (aJ h5 bC)))),aA]; exact h
structure xT (E:PV) (e:PyData):Prop where
 no:bW E=false
 d:∀ σ,toD 15 σ E=some e
 eq:PyData.eqv e e=true
theorem wN:xT (.tup [.str "first"]) (.tuple [.str "first"]):=⟨rfl,fun zz=>rfl,by decide +kernel⟩
theorem afz {i:Int}:xT (.tup [.str "ring",.int i]) (.tuple [.str "ring",.int i]):=⟨rfl,fun zz=>rfl,by
 show ((("ring" : Str) == "ring") && ((i == i) && true))=true
 rw [beq_self_eq_true,beq_self_eq_true]; rfl⟩
section
variable {c:Cl} {es gs:bR} {os:List PV} {σ:ac}
theorem aeR (H:k7 c) (q:db c.G c.p c.X es σ) (nv:aT c.G.nms σ c.nv) {a t:Nat} {ce:Option PV} (ha:a < c.G.m + c.G.r) (ht:t < c.G.n) {u E:PV} {e:PyData} {rest:List (Nat × Int)} (hL:ei c.G ((a,(t:Int))::rest) σ u) (hE:xT E e) (hn:((a,(t:Int))::rest).Nodup) (hl:((a,(t:Int))::rest).length < 4000) (hp:gd c.G ((a,(t:Int))::rest) E (a,(t:Int)) rest) :
  ∃ τ,ex (CC 19) topN mu (c.R (some (.int (t:Int))) (some (.bool false)) ce (some (.int (a:Int))) (some (.tup [u,E]))) σ=.next (c.R (some (.int (t:Int))) (some (.bool false)) ce (some (.int (a:Int))) (some (.tup [u,E]))) (σ++τ):=by
 have w:=afP (akj (d:=14) q ha (Int.natCast_nonneg t) (Int.ofNat_lt.mpr ht) hE.no hn (hp.inn q.ok rest _ ha) hl hp)
 have n1:=nv.sub q.ok.nm.len (Nat.lt_succ_of_lt (cL q.ok ha))
 refine ⟨[.lst (((a,(t:Int))::rest).map c.G.lk),.dp (c.G.sn ((a,(t:Int))::rest))],ao (bj (eu (x:=.inst ae c.X.i) (σ₁:=σ) rfl (aU (x:=c.nv) (σ₁:=σ) rfl (y:=.int (a:Nat)) (σ₂:=σ) rfl n1) (z:=.int (t:Int)) (σ₃:=σ) rfl w) (y:=.tup [u,E]) rfl ?_)⟩
 exact ae6 (.ref _ bZ) hL.app (hE.d _) hE.eq
theorem aeP (H:k7 c) (q:db c.G c.p c.X es σ) (nv:aT c.G.nms σ c.nv) {ce:Int} {t a du:Option PV}:∃ t' a' du' τ,ex (CC 19) topN fF (c.R t (some (.bool false)) (some (.int ce)) a du) σ=.next (c.R t' (some (.bool false)) (some (.int ce)) a' du') (σ++τ):=by
 have ok:=H.ok
 have hm1:=ok.m1
 have hn1:=ok.n1
 have hn2:=ok.n2
 obtain ⟨i,hi⟩:=Int.eq_ofNat_of_zero_le (Int.emod_nonneg ce (show ((c.G.m + c.G.r:Nat):Int) ≠ 0 by grind))
 have il:i < c.G.m + c.G.r:=by have:=Int.emod_lt_of_pos ce (show (0:Int) < ((c.G.m + c.G.r:Nat):Int) by grind); grind
 obtain ⟨s,hs⟩:=Int.eq_ofNat_of_zero_le (Int.emod_nonneg (ce / 20) (show ((c.G.n:Nat):Int) ≠ 0 by (exact Int.ofNat_ne_zero.mpr (Nat.ne_of_gt (by assumption)))))
 have sl:s < c.G.n:=by have:=Int.emod_lt_of_pos (ce / 20) (show (0:Int) < ((c.G.n:Nat):Int) by (exact Int.ofNat_lt.mpr (by assumption))); (grind)
 have b0:ex (CC 19) topN my (c.R t (some (.bool false)) (some (.int ce)) a du) σ=.next (c.R t (some (.bool false)) (some (.int ce)) (some (.int (i:Int))) du) σ:=by
  refine aE (az (x:=.int ce) (σ₁:=σ) rfl (az (x:=.int (c.G.m:Nat)) (σ₁:=σ) rfl (y:=.int (c.G.r:Nat)) (σ₂:=σ) rfl add_int) ((bn (by grind)).trans ?_))
  rw [<- Int.natCast_add,hi]
 have b1:ex (CC 19) topN mx (c.R t (some (.bool false)) (some (.int ce)) (some (.int (i:Int))) du) σ=.next (c.R (some (.int (s:Int))) (some (.bool false)) (some (.int ce)) (some (.int (i:Int))) du) σ:=by
  refine aE (az (az (x:=.int ce) (σ₁:=σ) rfl (y:=.int 20) (σ₂:=σ) rfl (eZ (by decide) (by decide))) (y:=.int (c.G.n:Nat)) (σ₂:=σ) rfl ((bn (by (exact Int.ofNat_lt.mpr (by assumption)))).trans ?_))
  rw [hs]
 have b2:ex (CC 19) topN mw (c.R (some (.int (s:Int))) (some (.bool false)) (some (.int ce)) (some (.int (i:Int))) du) σ=.next (c.R (some (.int (s:Int))) (some (.bool false)) (some (.int ce)) (some (.int (i:Int))) (some (.str "Fired"))) σ:=rfl
 have fin:∀ (D u E:PV) (e:PyData) (rest:List (Nat × Int)) (υ:ac),ex (CC 19) topN mv (c.R (some (.int (s:Int))) (some (.bool false)) (some (.int ce)) (some (.int (i:Int))) (some (.str "Fired"))) σ=.next (c.R (some (.int (s:Int))) (some (.bool false)) (some (.int ce)) (some (.int (i:Int))) (some (.tup [u,E]))) (σ++υ)->ei c.G ((i,(s:Int))::rest) (σ++υ) u->xT E e->((i,(s:Int))::rest).Nodup->((i,(s:Int))::rest).length < 4000->gd c.G ((i,(s:Int))::rest) E (i,(s:Int)) rest ->
   ∃ t' a' du' τ,ex (CC 19) topN fF (c.R t (some (.bool false)) (some (.int ce)) a du) σ=.next (c.R t' (some (.bool false)) (some (.int ce)) a' du') (σ++τ):=fun D u E e rest υ b3 hL hE hn hl hp=>by
  obtain ⟨τ,b4⟩:=aeR (ce:=some (.int ce)) H q.more nv.app il sl hL hE hn hl hp
  rw [List.append_assoc] at b4
  exact ⟨_,_,_,_,(aa b0).trans ((aa b1).trans ((aa b2).trans ((aa b3).trans ((aa b4).trans aK))))⟩
 have t3:tst (CC 19) (.not (.v 12)) (c.R (some (.int (s:Int))) (some (.bool false)) (some (.int ce)) (some (.int (i:Int))) (some (.str "Fired"))) σ=.ok true σ:=rfl
 have t31:∀ {du:Option PV} {σ:ac},tst (CC 19) (.and (.cons (.v 4) (.cons (.cmp (.v 14) .eq (.k (.int 0))) .nil))) (c.R (some (.int (s:Int))) (some (.bool false)) (some (.int ce)) (some (.int (i:Int))) du) σ=.ok (c.G.lt && ((i:Int) == 0)) σ:=fun {du σ} =>
  tF (u9 rfl fun zz=>qP (bj (x:=.int (i:Int)) (σ₁:=σ) rfl (y:=.int 0) (σ₂:=σ) rfl dN))
 cases hlt:c.G.lt with
 | false =>
  rw [hlt,Bool.false_and] at t31
  obtain ⟨υ,e1⟩:=abX (d:=18) (t:=(s:Int)) ok nv il
  obtain ⟨rest,r1,r2,r3,r4⟩:=ac3 ok hlt il (Int.natCast_nonneg s)
  refine fin .none _ _ _ rest υ ((aH t3).trans ((aa (a:=jC) (aE (vY (x:=c.nv) (σ₁:=σ) rfl (y:=.int (c.G.m:Nat)) (σ₂:=σ) rfl (z:=.int (i:Nat)) (σ₃:=σ) rfl (u:=.int (s:Int)) (σ₄:=σ) rfl (w:=.bool false) (σ₅:=σ) ?_ e1))).trans ((aa (a:=gm) (ao t31)).trans aK))) ?_ afz r2 r3 r4
  ·rw [<- hlt]; rfl
  ·rw [r1]; exact .fl
 | true =>
  rw [hlt,Bool.true_and] at t31
  have e1:=rC (d:=18) (t:=s) ok nv il (by grind)
  obtain ⟨rest,r1,r2,r3,r4⟩:=ab6 ok hlt il (Nat.lt_of_lt_of_le sl hn2)
  have s30:ex (CC 19) topN jC (c.R (some (.int (s:Int))) (some (.bool false)) (some (.int ce)) (some (.int (i:Int))) (some (.str "Fired"))) σ=.next (c.R (some (.int (s:Int))) (some (.bool false)) (some (.int ce)) (some (.int (i:Int))) (some (.tup [.ref σ.length,.tup [.str "first"]]))) (σ++[.lst ((c.G.fs i s).map c.G.lk)]):=
   aE (vY (x:=c.nv) (σ₁:=σ) rfl (y:=.int (c.G.m:Nat)) (σ₂:=σ) rfl (z:=.int (i:Nat)) (σ₃:=σ) rfl (u:=.int (s:Int)) (σ₄:=σ) rfl (w:=.bool true) (σ₅:=σ) (by rw [<- hlt]; rfl) e1)
  by_cases i0:i=0
  ·subst i0
   have e2:=rC (d:=18) (a:=0) (t:=s + 1) ok (nv.app (τ:=[.lst ((c.G.fs 0 s).map c.G.lk)])) il (by (exact Nat.lt_of_lt_of_le (by assumption) (by assumption)))
   have fs0:c.G.fs 0 (s + 1)=c.G.dn 0 s:=by
    unfold Rg.fs Rg.dn Rg.en
    rw [show 0 + 1 - c.G.m=0 by grind]; rfl
   rw [fs0,r1] at e2
   refine fin .none _ _ _ rest [.lst ((c.G.fs 0 s).map c.G.lk),.lst (((0,(s:Int))::rest).map c.G.lk)] ((aH t3).trans ((aa s30).trans ((aa (a:=gm) ((aH t31).trans ((aa (a:=lD) (σ':=σ++[.lst ((c.G.fs 0 s).map c.G.lk),.lst (((0,(s:Int))::rest).map c.G.lk)]) (ρ':=c.R (some (.int (s:Int))) (some (.bool false)) (some (.int ce)) (some (.int ((0:Nat):Int))) (some (.tup [.ref (σ.length + 1),.tup [.str "first"]]))) ?_).trans aK))).trans aK))) (.ref _ v7) wN r2 r3 (r4 _)
   rw [List.length_append,List.append_assoc] at e2
   have e3:ev (CC 19) (.call fX (.cons (.v 1) (.cons (.v 2) (.cons (.k (.int 0)) (.cons (.bin .add (.v 11) (.k (.int 1))) (.cons (.k (.bool true)) .nil)))))) (c.R (some (.int (s:Int))) (some (.bool false)) (some (.int ce)) (some (.int ((0:Nat):Int))) (some (.tup [.ref σ.length,.tup [.str "first"]]))) (σ++[MO.lst ((c.G.fs 0 s).map c.G.lk)])=.ok (.tup [.ref (σ.length + 1),.tup [.str "first"]]) (σ++[MO.lst ((c.G.fs 0 s).map c.G.lk),MO.lst (((0,(s:Int))::rest).map c.G.lk)]):=
    vY (x:=c.nv) (σ₁:=σ++[MO.lst ((c.G.fs 0 s).map c.G.lk)]) rfl (y:=.int (c.G.m:Nat)) (σ₂:=σ++[MO.lst ((c.G.fs 0 s).map c.G.lk)]) rfl (z:=.int ((0:Nat):Int)) (σ₃:=σ++[MO.lst ((c.G.fs 0 s).map c.G.lk)]) rfl (u:=.int ((s + 1:Nat):Int)) (σ₄:=σ++[MO.lst ((c.G.fs 0 s).map c.G.lk)]) rfl (w:=.bool true) (σ₅:=σ++[MO.lst ((c.G.fs 0 s).map c.G.lk)]) rfl e2
   exact aE (rb (vs:=[.ref (σ.length + 1),.tup [.str "first"]]) (aJ (aU e3 (y:=.int 0) (σ₂:=σ++[MO.lst ((c.G.fs 0 s).map c.G.lk),MO.lst (((0,(s:Int))::rest).map c.G.lk)]) rfl rfl) (aJ (x:=.tup [.str "first"]) (σ₁:=σ++[MO.lst ((c.G.fs 0 s).map c.G.lk),MO.lst (((0,(s:Int))::rest).map c.G.lk)]) rfl bC)) (show (2:Nat) <= au by decide))
  ·have z:(((i:Int) == 0):Bool)=false:=by rw [beq_eq_false_iff_ne]; (grind)
   rw [z] at t31
   have dn:c.G.fs i s=c.G.dn i s:=(if_neg i0).symm
   rw [dn,r1] at s30
   exact fin .none _ _ _ rest _ ((aH t3).trans ((aa s30).trans ((aa (a:=gm) (ao t31)).trans aK))) (.ref _ bZ) wN r2 r3 (r4 _)
theorem aeQ (H:k7 c) (b:Bo c.p c.G.n es gs os c.X σ) (nv:aT c.G.nms σ c.nv) (hg:∀ t:Nat,t < c.G.n->∀ k,k < c.G.m + c.G.r->(ah (c.G.N k,(t:Int)) gs).isSome=true) {ce:Int} {t a du:Option PV}:∃ t' a' du',ex (CC 19) topN fF (c.R t (some (.bool true)) (some (.int ce)) a du) σ=.next (c.R t' (some (.bool true)) (some (.int ce)) a' du') σ:=by
 have ok:=H.ok
 have hm1:=ok.m1
 have hn1:=ok.n1
 obtain ⟨i,hi⟩:=Int.eq_ofNat_of_zero_le (Int.emod_nonneg ce (show ((c.G.m + c.G.r:Nat):Int) ≠ 0 by grind))
 have il:i < c.G.m + c.G.r:=by have:=Int.emod_lt_of_pos ce (show (0:Int) < ((c.G.m + c.G.r:Nat):Int) by grind); grind
 obtain ⟨s,hs⟩:=Int.eq_ofNat_of_zero_le (Int.emod_nonneg (ce / 20) (show ((c.G.n:Nat):Int) ≠ 0 by (exact Int.ofNat_ne_zero.mpr (Nat.ne_of_gt (by assumption)))))
 have sl:s < c.G.n:=by have:=Int.emod_lt_of_pos (ce / 20) (show (0:Int) < ((c.G.n:Nat):Int) by (exact Int.ofNat_lt.mpr (by assumption))); (grind)
 have b0:ex (CC 19) topN my (c.R t (some (.bool true)) (some (.int ce)) a du) σ=.next (c.R t (some (.bool true)) (some (.int ce)) (some (.int (i:Int))) du) σ:=by
  refine aE (az (x:=.int ce) (σ₁:=σ) rfl (az (x:=.int (c.G.m:Nat)) (σ₁:=σ) rfl (y:=.int (c.G.r:Nat)) (σ₂:=σ) rfl add_int) ((bn (by grind)).trans ?_))
  rw [<- Int.natCast_add,hi]
 have b1:ex (CC 19) topN mx (c.R t (some (.bool true)) (some (.int ce)) (some (.int (i:Int))) du) σ=.next (c.R (some (.int (s:Int))) (some (.bool true)) (some (.int ce)) (some (.int (i:Int))) du) σ:=by
  refine aE (az (az (x:=.int ce) (σ₁:=σ) rfl (y:=.int 20) (σ₂:=σ) rfl (eZ (by decide) (by decide))) (y:=.int (c.G.n:Nat)) (σ₂:=σ) rfl ((bn (by (exact Int.ofNat_lt.mpr (by assumption)))).trans ?_))
  rw [hs]
 have w:=aaA (acD (d:=14) ok H.perm b il (Int.natCast_nonneg s) (Int.ofNat_lt.mpr sl) (hg s sl i il))
 have n1:=nv.sub ok.nm.len (Nat.lt_succ_of_lt (cL ok il))
 have b4:ex (CC 19) topN mu (c.R (some (.int (s:Int))) (some (.bool true)) (some (.int ce)) (some (.int (i:Int))) (some (.str "Fired"))) σ=.next (c.R (some (.int (s:Int))) (some (.bool true)) (some (.int ce)) (some (.int (i:Int))) (some (.str "Fired"))) σ:=
  ao (bj (eu (x:=.inst ae c.X.i) (σ₁:=σ) rfl (aU (x:=c.nv) (σ₁:=σ) rfl (y:=.int (i:Nat)) (σ₂:=σ) rfl n1) (z:=.int (s:Int)) (σ₃:=σ) rfl w) (y:=.str "Fired") (σ₂:=σ) rfl rfl)
 exact ⟨_,_,_,(aa b0).trans ((aa b1).trans ((aa (a:=mw) (aE (v:=.str "Fired") rfl)).trans ((aa (a:=mv) (ao rfl)).trans ((aa b4).trans aK))))⟩
theorem ac1 (H:k7 c):∀ (cs:List Int) (σ:ac) (t ce a du:Option PV),db c.G c.p c.X es σ->aT c.G.nms σ c.nv ->
  ∃ t' ce' a' du' σ',aX none (bE 13) (fun ρ σ=>ex (CC 19) topN fF ρ σ) (cs.map .int) (c.R t (some (.bool false)) ce a du) σ=.next (c.R t' (some (.bool false)) ce' a' du') σ':=by
 intro cs
 induction cs with
 | nil=>intro σ t ce a du _ _; exact ⟨t,ce,a,du,σ,bB⟩
 | cons x cs ih =>
  intro σ t ce a du q nv
  obtain ⟨t1,a1,du1,τ,e1⟩:=aeP (ce:=x) (t:=t) (a:=a) (du:=du) H q nv
  obtain ⟨t',ce',a',du',σ',e⟩:=ih (σ++τ) t1 (some (.int x)) a1 du1 q.more nv.app
  exact ⟨t',ce',a',du',σ',(bf (ρ₁:=c.R t (some (.bool false)) (some (.int x)) a du) rfl e1).trans e⟩
theorem ac2 (H:k7 c) (b:Bo c.p c.G.n es gs os c.X σ) (nv:aT c.G.nms σ c.nv) (hg:∀ t:Nat,t < c.G.n->∀ k,k < c.G.m + c.G.r->(ah (c.G.N k,(t:Int)) gs).isSome=true):∀ (cs:List Int) (t ce a du:Option PV),
  ∃ t' ce' a' du',aX none (bE 13) (fun ρ σ=>ex (CC 19) topN fF ρ σ) (cs.map .int) (c.R t (some (.bool true)) ce a du) σ=.next (c.R t' (some (.bool true)) ce' a' du') σ:=by
 intro cs
 induction cs with
 | nil=>intro t ce a du; exact ⟨t,ce,a,du,bB⟩
 | cons x cs ih =>
  intro t ce a du
  obtain ⟨t1,a1,du1,e1⟩:=aeQ (ce:=x) (t:=t) (a:=a) (du:=du) H b nv hg
  obtain ⟨t',ce',a',du',e⟩:=ih t1 (some (.int x)) a1 du1
  exact ⟨t',ce',a',du',(bf (ρ₁:=c.R t (some (.bool true)) (some (.int x)) a du) rfl e1).trans e⟩
end
end Mine
namespace Mine
open PySem
theorem aaa {α:Type} {xs:List α} {a:Nat} (h:a <= xs.length):bN xs (some (a:Int)) none=xs.drop a:=by
 have e:clipAt xs.length (a:Int)=a:=(clipAt_nat _ _).trans (Nat.min_eq_left h)
 unfold bN
 simp only [Option.elim,e]
 exact List.take_of_length_le (by simp)
theorem acV {α:Type} {xs:List α} {b:Nat} (h:b <= xs.length):bN xs none (some (b:Int))=xs.take b:=by
 have e:clipAt xs.length (b:Int)=b:=(clipAt_nat _ _).trans (Nat.min_eq_left h)
 unfold bN
 simp only [Option.elim,e,Nat.sub_zero,List.drop_zero]
theorem ae7 (c:Int):∃ (names:List Str) (nv:PV) (σ:ac),fM names/\aG PP topN 19 em [.int c] []=.ok nv σ/\aT names σ nv:=by
 obtain ⟨names,h1,h2,h3,_,h4⟩:=h14 c
 rcases h4 with h4 | h4
 ·exact ⟨names,_,_,⟨h1,h2,h3⟩,h4 18,.fl⟩
 ·exact ⟨names,_,_,⟨h1,h2,h3⟩,h4 18,.ref 0 rfl⟩
theorem tU {c k:Int} (hk:0 < k):∃ m:Nat,(m:Int)=c % k/\(m:Int) < k:=by
 obtain ⟨m,hm⟩:=Int.eq_ofNat_of_zero_le (Int.emod_nonneg c (Int.ne_of_gt hk))
 exact ⟨m,hm.symm,by rw [<- hm]; exact Int.emod_lt_of_pos c hk⟩
section
variable {l:List Int} {σ:ac}
theorem cell_ {ρ:aq} (hl:l.length <= 63) (k:Nat) (h:ev (CC 19) (.v 0) ρ σ=.ok (.fl (l.map .int)) σ):ev (CC 19) (.call a9 (.cons (.v 0) (.cons (.k (.int ((k:Nat):Int))) .nil))) ρ σ=.ok (.int (l.getD k 0)) σ:=fG h (y:=.int ((k:Nat):Int)) (σ₂:=σ) rfl (h12 (d:=18) hl)
theorem ag7 {r:Nat} {ss:List aj} {c:Int} (hs:σ[r]?=some (.lst (ss.map aj.pv))) (h1:1 <= ss.length) (h2:ss.length <= 100) :
  ∃ p:List aj,p.Perm ss/\∀ {ρ:aq},ev (CC 19) (.v 6) ρ σ=.ok (.ref r) σ->ev (CC 19) (.v 7) ρ σ=.ok (.int (c % (ss.length:Nat))) σ->ev (CC 19) (.b1 .tuple (.bin .add (.slice (.v 6) (.v 7) (.k .none)) (.slice (.v 6) (.k .none) (.v 7)))) ρ σ=.ok (aW p) σ:=by
 obtain ⟨k,hk,n1⟩:=tU (c:=c) (k:=(ss.length:Nat)) (Int.ofNat_lt.mpr h1)
 have kl:k <= ss.length:=Nat.le_of_lt (Int.ofNat_lt.mp n1)
 refine ⟨ss.drop k++ss.take k,List.perm_append_comm.trans (by rw [List.take_append_drop]),fun {ρ} h5 h6=>?_⟩
 rw [<- hk] at h6
 have lm:∀ {xs:List aj},xs.length <= ss.length->(xs.map aj.pv).length <= 100:=fun {xs} hx=>by rw [List.length_map]; exact aC hx h2
 have as:be σ (.ref r)=some (ss.map aj.pv):=by unfold be; dsimp only; rw [hs]
 have sl:∀ {lo hi:PV} {a b:Option Int},eS lo=some a->eS hi=some b->eQ (.ref r) lo hi σ=.ok (.fl (bN (ss.map aj.pv) a b)) σ:=fun {lo hi a b} e1 e2=>by
  refine yo e1 e2 ?_
  show (be σ (.ref r)).bind (fun xs=>if xs.length <= au then some (PV.fl (bN xs a b)) else none)=_
  rw [as]
  exact if_pos (aC (lm (Nat.le_refl _)) (by decide))
 have e1:ev (CC 19) (.slice (.v 6) (.v 7) (.k .none)) ρ σ=.ok (.fl ((ss.drop k).map aj.pv)) σ:=by
  refine (vX h5 h6 (z:=.none) (σ₃:=σ) rfl (sl (a:=some (k:Int)) (b:=none) rfl rfl)).trans ?_
  rw [aaa (by rw [List.length_map]; exact kl),List.map_drop]
 have e2:ev (CC 19) (.slice (.v 6) (.k .none) (.v 7)) ρ σ=.ok (.fl ((ss.take k).map aj.pv)) σ:=by
  refine (vX h5 (y:=.none) (σ₂:=σ) rfl h6 (sl (a:=none) (b:=some (k:Int)) rfl rfl)).trans ?_
  rw [acV (by rw [List.length_map]; exact kl),List.map_take]
 have l1:(ss.drop k).length <= ss.length:=by rw [List.length_drop]; exact Nat.sub_le _ _
 have l2:(ss.take k).length <= ss.length:=List.length_take_le' _ _
 refine cZ (az e1 e2 (aep (aC (Nat.add_le_add (lm l1) (lm l2)) (by decide)))) ?_
 rw [<- List.map_append]
 exact aeu (by rw [List.map_append,List.length_append]; exact aC (Nat.add_le_add (lm l1) (lm l2)) (by decide))
end
section
variable {c:Cl} {σ:ac}
theorem aea (H:k7 c) {t g ce a du:Option PV}:∃ cs:List Int,evIt (CC 19) (.bin .add (.slice (.v 0) (.k (.int 7)) (.k (.int 11))) (.lst true (.cons (.k (.int 0)) (.cons (.k (.int 8)) .nil)))) (c.R t g ce a du) σ=.ok (cs.map .int,none) σ:=by
 have hl:=H.l
 obtain ⟨cs,e,el⟩:∃ cs:List Int,bN (c.l.map PV.int) (some 7) (some 11)=cs.map .int/\cs.length <= c.l.length:=by
  unfold bN
  rw [<- List.map_drop,<- List.map_take]
  exact ⟨_,rfl,aC (List.length_take_le' _ _) (by rw [List.length_drop]; exact Nat.sub_le _ _)⟩
 refine ⟨cs++[0,8],?_⟩
 have e1:ev (CC 19) (.bin .add (.slice (.v 0) (.k (.int 7)) (.k (.int 11))) (.lst true (.cons (.k (.int 0)) (.cons (.k (.int 8)) .nil)))) (c.R t g ce a du) σ=.ok (.fl ((cs++[0,8]).map .int)) σ:=by
  refine az ((vX (x:=.fl (c.l.map .int)) (σ₁:=σ) rfl (y:=.int 7) (σ₂:=σ) rfl (z:=.int 11) (σ₃:=σ) rfl (ajB (a:=some 7) (b:=some 11) rfl rfl (by rw [List.length_map,bV]; (exact aC (by assumption) (by decide))))).trans (by rw [e])) (y:=.fl [.int 0,.int 8]) (σ₂:=σ) rfl ((aep ?_).trans ?_)
  ·rw [List.length_map,bV]; show _ + 2 <= _; (grind)
  ·rw [List.map_append]; rfl
 show (ev (CC 19) (.bin .add (.slice (.v 0) (.k (.int 7)) (.k (.int 11))) (.lst true (.cons (.k (.int 0)) (.cons (.k (.int 8)) .nil)))) (c.R t g ce a du) σ).bind rD=_
 rw [e1]; rfl
theorem agR (H:k7 c) (h:La c ⟨c.G.e0 c.G.n,[],[]⟩ σ) {t:Option PV}:∃ ρ' σ',ex (CC 19) topN (.cons dU (.cons dT (.cons dS (.cons dR (.cons ff .nil))))) (c.R t (some (.bool false)) none none none) σ=.ret (.bool true) ρ' σ':=by
 have ok:=H.ok
 have hn2:=ok.n2
 have hm2:=ok.m2
 have hr8:=ok.r8
 have el:=zC (G:=c.G) (a:=c.G.n)
 have quiet:∀ {σ},Bo c.p c.G.n (c.G.e0 c.G.n) [] [] c.X σ->db c.G c.p c.X (c.G.e0 c.G.n) σ:=fun {σ} b=>⟨ok,H.perm,b,fun k hk t=>agB ok (cL ok hk),zB ok⟩
 obtain ⟨B',l,σ1,e,b1,k1,fs,_,_⟩:=air (d:=13) (kh ok H.perm) (fun s hs=>by obtain ⟨k,hk,rfl⟩:=lr.mp (H.perm.mem_iff.mp hs); exact je) hn2 h.bo (zB ok) (z:=1000) ⟨by show (c.G.e0 c.G.n).length <= _; (grind),Nat.zero_le _,Nat.zero_le _⟩ (by decide)
 obtain ⟨rfl,rfl⟩:=fs.still fun s hs t=>by
  obtain ⟨k,hk,rfl⟩:=lr.mp (H.perm.mem_iff.mp hs)
  exact (quiet h.bo).unready hk
 have s14:ex (CC 19) topN dT (c.R t (some (.bool false)) none none none) σ=.next (c.R t (some (.bool false)) none none none) σ1:=by
  refine ao ((bj (bD (x:=.inst ae c.X.i) (σ₁:=σ) rfl e) (az (az (az (x:=.int (c.G.m:Nat)) (σ₁:=σ1) rfl (y:=.int (c.G.r:Nat)) (σ₂:=σ1) rfl add_int) (y:=.int (c.G.n:Nat)) (σ₂:=σ1) rfl (mul_int (.inr (by (exact Nat.lt_of_le_of_lt (by assumption) (by decide)))))) (y:=.int 0) (σ₂:=σ1) rfl (mul_int (.inr (by decide)))) yH).trans ?_)
  rw [Int.mul_zero]; rfl
 obtain ⟨cs,it⟩:=aea (σ:=σ1) (t:=t) (g:=some (.bool false)) (ce:=none) (a:=none) (du:=none) H
 obtain ⟨t',ce',a',du',σ2,e2⟩:=ac1 (es:=c.G.e0 c.G.n) H cs σ1 t none none none (quiet b1) (h.nv σ1 k1)
 exact ⟨_,_,(aa (a:=dU) (ao rfl)).trans ((aa s14).trans ((aa (a:=dS) (bP it e2)).trans (ak (a:=dR) ((aH rfl).trans (ak (a:=rH) (av rfl))))))⟩
theorem agS (H:k7 c) (hlt:c.G.lt=true) (h:La c ⟨c.G.e0 c.G.n,[],[]⟩ σ) {t:Option PV}:∃ ρ' σ',ex (CC 19) topN (.cons dU (.cons dT (.cons dS (.cons dR (.cons ff .nil))))) (c.R t (some (.bool true)) none none none) σ=.ret (.bool true) ρ' σ':=by
 have ok:=H.ok
 have hm1:=ok.m1
 have hn1:=ok.n1
 have hn2:=ok.n2
 have hm2:=ok.m2
 have hr8:=ok.r8
 have el:=zC (G:=c.G) (a:=c.G.n)
 have po:=kh ok H.perm
 have z0':c.G.N 0 ≠ c.G.N 23:=fun z=>absurd (ja ok (by decide) (by decide) z) (by decide)
 have a0:ah (c.G.N 0,((0:Nat):Int)) (c.G.e0 c.G.n)=none:=agB ok (by decide)
 have pt:=adb (d:=15) (x:=c.G.N 0) (j:=((0:Nat):Int)) (i:=c.G.f) po h.bo (af7 H.perm (by (exact aC (by assumption) (Nat.le_add_right _ _)))) (Int.le_refl _) (by (exact Int.ofNat_lt.mpr (by assumption))) (aa5 ok H.perm hlt) ok.f0 a0 (by show (c.G.e0 c.G.n).length < _; (grind))
 have n0:=(h.nv σ .refl).sub ok.nm.len (show 0 < 24 by decide)
 have s13:ex (CC 19) topN dU (c.R t (some (.bool true)) none none none) σ=.next (c.R t (some (.bool true)) none none none) (σ.set c.X.h (.dp (c.G.e0 c.G.n++[((c.G.N 0,((0:Nat):Int)),.int c.G.f)]))):=
  (aH rfl).trans ((aa (a:=rI) (bX (bu (i:=c.X.i) (σ₁:=σ) (σ₂:=σ) (vs:=[.str (c.G.N 0),.int ((0:Nat):Int),.int c.G.f]) rfl h.bo.ns rfl (aJ (aU (x:=c.nv) (σ₁:=σ) rfl (y:=.int ((0:Nat):Int)) (σ₂:=σ) rfl n0) (aJ (x:=.int ((0:Nat):Int)) (σ₁:=σ) rfl (aJ (x:=.int c.G.f) (σ₁:=σ) rfl bC))) pt))).trans aK)
 have h1:La c ⟨c.G.e0 c.G.n++[((c.G.N 0,((0:Nat):Int)),.int c.G.f)],[],[]⟩ (σ.set c.X.h (.dp (c.G.e0 c.G.n++[((c.G.N 0,((0:Nat):Int)),.int c.G.f)]))):=h.go h.bo.here (.set (.inl rfl))
 generalize σ.set c.X.h (.dp (c.G.e0 c.G.n++[((c.G.N 0,((0:Nat):Int)),.int c.G.f)]))=σ0 at s13 h1
 have key:∀ k,ah k (c.G.e0 c.G.n++[((c.G.N 0,((0:Nat):Int)),PV.int c.G.f)])=if k=(c.G.N 0,((0:Nat):Int)) then some (.int c.G.f) else ah k (c.G.e0 c.G.n):=fun k=>lX a0
 have due0:c.G.due 0 0=c.G.f:=by
  rw [nX (by decide)]
  unfold Rg.sp
  rw [if_pos (by (assumption))]
  show (c.G.f + c.G.v * (0 * ((c.G.m:Int) - 1) + 0)) % 1000000=_
  rw [Int.zero_mul,Int.add_zero,Int.mul_zero,Int.add_zero]
  exact Int.emod_eq_of_lt ok.f0.1 (by have:=ok.f0.2; (grind))
 have jg:Jg c.G ⟨c.G.e0 c.G.n++[((c.G.N 0,((0:Nat):Int)),.int c.G.f)],[],[]⟩:=by
  refine ⟨fun i hi t v hv=>?_,(fun k hk t hf=>nomatch hf),fun k v hv=>?_⟩
  ·have hv:ah (c.G.N i,(t:Int)) (c.G.e0 c.G.n++[((c.G.N 0,((0:Nat):Int)),PV.int c.G.f)])=some v:=hv
   rw [key] at hv
   by_cases z:(c.G.N i,(t:Int))=(c.G.N 0,((0:Nat):Int))
   ·rw [if_pos z] at hv
    obtain rfl:=oi hv
    obtain ⟨z1,z2⟩:=Prod.mk.inj z
    obtain rfl:=ja ok hi (by decide) z1
    obtain rfl:t=0:=by grind
    rw [due0]
   ·rw [if_neg z] at hv
    obtain ⟨q1,q2,_⟩:=xQ hv
    obtain rfl:=ja ok hi (by decide) q1
    rw [q2]; rfl
  ·have hv:ah k (c.G.e0 c.G.n++[((c.G.N 0,((0:Nat):Int)),PV.int c.G.f)])=some v:=hv
   rw [key] at hv
   by_cases z:k=(c.G.N 0,((0:Nat):Int))
   ·rw [if_pos z] at hv
    obtain rfl:=oi hv
    exact ⟨_,rfl,ok.f0⟩
   ·rw [if_neg z] at hv; exact zB ok k v hv
 obtain ⟨B',l,σ1,e,b1,k1,fs,_,nr⟩:=air (d:=13) po (fun s hs=>by obtain ⟨k,hk,rfl⟩:=lr.mp (H.perm.mem_iff.mp hs); exact je) hn2 h1.bo jg.ok (z:=1000) ⟨by show (c.G.e0 c.G.n++_).length <= _; rw [List.length_append]; show _ + 1 <= _; (grind),Nat.zero_le _,Nat.zero_le _⟩ (by decide)
 have jb:=fs.jg ok hlt H.perm jg
 have gk:Gk c.p c.G.n B':=fs.gk ⟨List.nodup_nil,(fun k hk=>absurd hk List.not_mem_nil),rfl⟩
 have cnt:B'.gs.length=0 + l.length:=fs.count
 have free:∀ {x:Str} {j:Int},fm c.p x j=false->ah (x,j) B'.es=ah (x,j) (c.G.e0 c.G.n++[((c.G.N 0,((0:Nat):Int)),PV.int c.G.f)]):=fun {x j} hb=>fs.free po hb
 have all:=aej ok hlt jb (fun t h0 h1 k hk=>nr t h0 h1 _ (qR H.perm hk)) (fun h1 t ht=>by
  rw [free (zE ok H.perm),key,if_neg fun z=>z0' (Prod.mk.inj z).1.symm]
  exact ajc (by unfold Rg.cd; rw [decide_eq_true h1]; rfl) ht) (by
  have fr:ah (c.G.N 0,((0:Nat):Int)) B'.es=_:=free (aa5 ok H.perm hlt)
  rw [fr,key,if_pos rfl]; rfl)
 have len:=aek ok H.perm gk fun t ht k hk=>(all t ht k hk).1
 have s14:ex (CC 19) topN dT (c.R t (some (.bool true)) none none none) σ0=.next (c.R t (some (.bool true)) none none none) σ1:=by
  refine ao ((bj (bD (x:=.inst ae c.X.i) (σ₁:=σ0) rfl e) (az (az (az (x:=.int (c.G.m:Nat)) (σ₁:=σ1) rfl (y:=.int (c.G.r:Nat)) (σ₂:=σ1) rfl add_int) (y:=.int (c.G.n:Nat)) (σ₂:=σ1) rfl (mul_int (.inr (by (exact Nat.lt_of_le_of_lt (by assumption) (by decide)))))) (y:=.int 1) (σ₂:=σ1) rfl (mul_int (.inr (by decide)))) yH).trans ?_)
  rw [Int.mul_one,<- Int.natCast_add,<- Int.natCast_mul,<- len,cnt,Nat.zero_add,beq_self_eq_true]; rfl
 obtain ⟨cs,it⟩:=aea (σ:=σ1) (t:=t) (g:=some (.bool true)) (ce:=none) (a:=none) (du:=none) H
 obtain ⟨t',ce',a',du',e2⟩:=ac2 H b1 (h1.nv σ1 k1) (fun t ht k hk=>(all t ht k hk).1) cs t none none none
 have fin:xU c.G c.p c.X c.nv B'.es B'.gs B'.os σ1:=⟨ok,H.perm,b1,h1.nv σ1 k1,fun t ht k hk=>by
  obtain ⟨v,hv⟩:=Option.isSome_iff_exists.mp (all t ht k hk).2
  rw [hv,jb.val k (Nat.lt_succ_of_lt (cL ok hk)) t v hv]⟩
 have s17:ex (CC 19) topN ff (c.R t' (some (.bool true)) ce' a' du') σ1=.ret (.bool true) (c.R t' (some (.bool true)) ce' a' du') σ1:=by
  refine av ?_
  rw [iM,aJ (x:=.inst ae c.X.i) (σ₁:=σ1) rfl (aJ (x:=c.nv) (σ₁:=σ1) rfl (aJ (x:=.int (c.G.m:Nat)) (σ₁:=σ1) rfl (aJ (x:=.int (c.G.r:Nat)) (σ₁:=σ1) rfl (aJ (x:=.int (c.G.n:Nat)) (σ₁:=σ1) rfl (aJ (x:=.int c.G.f) (σ₁:=σ1) rfl (aJ (x:=.int c.G.v) (σ₁:=σ1) rfl bC)))))),aA]
  exact acs (d:=15) fin
 exact ⟨_,_,(aa s13).trans ((aa s14).trans ((aa (a:=dS) (bP it e2)).trans ((aa (a:=dR) (ao rfl)).trans (ak s17))))⟩
end
structure Pk (l:List Int) (nv:PV) (σ:ac) (G:Rg):Prop where
 ok:aR G
 nm:aG PP topN 19 em [.int (l.getD 0 0)] []=.ok nv σ
 nv:aT G.nms σ nv
 m:1 + l.getD 1 0 % 10=(G.m:Nat)
 r:l.getD 1 0 / 10 % 9=(G.r:Nat)
 lt:decide (l.getD 2 0 % 3 > 0)=G.lt
 n:(if (l.getD 3 0 / 40 % 10 == 1)=true then 200 else 1 + l.getD 3 0 % 40)=(G.n:Int)
 v:∀ {τ:ac},aG PP topN 19 ek [.int (l.getD 5 0)] τ=.ok (.int G.v) τ
 f:∀ {τ:ac},aG PP topN 19 ek [.int (l.getD 6 0)] τ=.ok (.int G.f) τ
theorem ajF {l:List Int}:∃ nv σ G,Pk l nv σ G:=by
 obtain ⟨names,nv,σ,nok,cn,nv1⟩:=ae7 (l.getD 0 0)
 obtain ⟨m,hm,hm'⟩:=tU (c:=l.getD 1 0) (k:=10) (by decide)
 obtain ⟨r,hr,hr'⟩:=tU (c:=l.getD 1 0 / 10) (k:=9) (by decide)
 obtain ⟨n0,hn,hn'⟩:=tU (c:=l.getD 3 0) (k:=40) (by decide)
 obtain ⟨v,v0,v1,hv⟩:=h15 (p:=l.getD 5 0)
 obtain ⟨f,f0,f1,hf⟩:=h15 (p:=l.getD 6 0)
 obtain ⟨n,hn1,hn2,e5⟩:∃ n:Nat,1 <= n/\n <= 200/\(if (l.getD 3 0 / 40 % 10 == 1)=true then 200 else 1 + l.getD 3 0 % 40)=(n:Int):=by
  rw [<- hn]
  by_cases q:(l.getD 3 0 / 40 % 10 == 1)=true
  ·exact ⟨200,by decide,by decide,if_pos q⟩
  ·exact ⟨n0 + 1,Nat.le_add_left _ _,aC (Int.ofNat_lt.mp hn') (by decide),(if_neg q).trans (Int.add_comm _ _)⟩
 exact ⟨nv,σ,⟨names,m + 1,r,_,n,v,f⟩,⟨nok,Nat.le_add_left _ _,Int.ofNat_lt.mp hm',Nat.le_of_lt_succ (Int.ofNat_lt.mp hr'),hn1,hn2,⟨v0,v1⟩,⟨f0,f1⟩⟩,cn,nv1,by rw [<- hm]; exact Int.add_comm _ _,hr.symm,rfl,e5,hv (d:=18),hf (d:=18)⟩
noncomputable def Cl.P (c:Cl) (k:Nat):aq:=(c.R none none none none none).take k++List.replicate (29 - k) none
section
variable {c:Cl} {σ:ac}
theorem jZ {ρ:aq} (hl:c.l.length <= 63) (k:Nat) (h:ρ.head?=some (some (.fl (c.l.map .int)))):ev (CC 19) (.call a9 (.cons (.v 0) (.cons (.k (.int ((k:Nat):Int))) .nil))) ρ σ=.ok (.int (c.l.getD k 0)) σ:=cell_ hl k (by
 cases ρ with
 | nil=>exact nomatch h
 | cons x ρ=>obtain rfl:=oi h; rfl)
theorem hd5 (hl:c.l.length <= 63) (k:Pk c.l c.nv σ c.G) {r:S}:ex (CC 19) topN (.cons sG (.cons sF (.cons sE (.cons sD (.cons oU (.cons sC r)))))) (c.P 1) []=ex (CC 19) topN r (c.P 6) σ:=by
 have e0:ex (CC 19) topN sG (c.P 1) []=.next (c.P 2) σ:=aE (bD (jZ hl 0 rfl) k.nm)
 have e1:ex (CC 19) topN sF (c.P 2) σ=.next (c.P 3) σ:=(aE (az (x:=.int 1) (σ₁:=σ) rfl (az (jZ hl 1 rfl) (y:=.int 10) (σ₂:=σ) rfl (bn (by decide))) add_int)).trans (by rw [k.m]; rfl)
 have e2:ex (CC 19) topN sE (c.P 3) σ=.next (c.P 4) σ:=(aE (fdm (by decide) (by decide) (by decide) (jZ hl 1 rfl))).trans (by rw [k.r]; rfl)
 have e3:ex (CC 19) topN sD (c.P 4) σ=.next (c.P 5) σ:=(aE (d4 (az (jZ hl 2 rfl) (y:=.int 3) (σ₂:=σ) rfl (bn (by decide))) (y:=.int 0) (σ₂:=σ) rfl gt_int)).trans (by rw [k.lt]; rfl)
 have e4:ex (CC 19) topN oU (c.P 5) σ=.next ((c.P 5).set 5 (some (.int (1 + c.l.getD 3 0 % 40)))) σ:=aE (az (x:=.int 1) (σ₁:=σ) rfl (az (jZ hl 3 rfl) (y:=.int 40) (σ₂:=σ) rfl (bn (by decide))) add_int)
 have e5:ex (CC 19) topN sC ((c.P 5).set 5 (some (.int (1 + c.l.getD 3 0 % 40)))) σ=.next (c.P 6) σ:=by
  have tt:tst (CC 19) (.cmp (.bin .mod (.bin .fdiv (.call a9 (.cons (.v 0) (.cons (.k (.int ((3:Nat):Int))) .nil))) (.k (.int 40))) (.k (.int 10))) .eq (.k (.int 1))) ((c.P 5).set 5 (some (.int (1 + c.l.getD 3 0 % 40)))) σ=.ok (c.l.getD 3 0 / 40 % 10 == 1) σ:=
   bj (fdm (by decide) (by decide) (by decide) (jZ hl 3 rfl)) (y:=.int 1) (σ₂:=σ) rfl dN
  have kn:=k.n
  cases hq:(c.l.getD 3 0 / 40 % 10 == 1) with
  | false=>rw [hq] at tt kn; exact (ao tt).trans (by rw [show 1 + c.l.getD 3 0 % 40=(c.G.n:Int) from kn]; rfl)
  | true=>rw [hq] at tt kn; exact (aH tt).trans ((aa (a:=uE) (aE (v:=.int 200) rfl)).trans (aK.trans (by rw [show (200:Int)=(c.G.n:Int) from kn]; rfl)))
 exact (aa e0).trans ((aa e1).trans ((aa e2).trans ((aa e3).trans ((aa (a:=oU) e4).trans (aa e5)))))
theorem aky (hl:c.l.length <= 63) {σ1 σ2 υ:ac} (k:Pk c.l c.nv σ1 c.G) (hst:c.st=σ1.length) (h2:σ2=σ1++[.lst (c.G.l.map aj.pv)]) (htr:c.l.getD 4 0 % (c.G.l.length:Nat)=c.tr) (hi:c.X.i=σ2.length)
  (ep:∀ {ρ:aq},ev (CC 19) (.v 6) ρ σ2=.ok (.ref σ1.length) σ2->ev (CC 19) (.v 7) ρ σ2=.ok (.int (c.l.getD 4 0 % (c.G.l.length:Nat))) σ2->ev (CC 19) (.b1 .tuple (.bin .add (.slice (.v 6) (.v 7) (.k .none)) (.slice (.v 6) (.k .none) (.v 7)))) ρ σ2=.ok (aW c.p) σ2)
  (ib:aG PP topN 19 d0 [.inst ae σ2.length,aW c.p,.int c.G.n] (σ2++[.ns []])=.ok .none (σ2++υ)) {r:S}:ex (CC 19) topN (.cons oS (.cons oR (.cons oQ (.cons oP (.cons lE r))))) (c.P 6) σ1=ex (CC 19) topN r (c.R none none none none none) (σ2++υ):=by
 have ok:=k.ok
 have ll:=t9 (G:=c.G)
 have pos:1 <= c.G.l.length:=by rw [ll]; exact aC ok.m1 (Nat.le_add_right _ _)
 have big:c.G.l.length <= 100:=by rw [ll]; exact aC (Nat.add_le_add ok.m2 ok.r8) (by decide)
 have e6:ex (CC 19) topN oS (c.P 6) σ1=.next (c.P 7) σ2:=by
  refine (aE (v:=.ref σ1.length) (σ':=σ2) ?_).trans (by rw [<- hst]; rfl)
  rw [iM,aJ (x:=c.nv) (σ₁:=σ1) rfl (aJ (x:=.int (c.G.m:Nat)) (σ₁:=σ1) rfl (aJ (x:=.int (c.G.r:Nat)) (σ₁:=σ1) rfl (aJ (x:=.bool c.G.lt) (σ₁:=σ1) rfl bC))),aA,h2]
  exact abZ (d:=18) ok k.nv
 have at6:σ2[c.st]?=some (.lst (c.G.l.map aj.pv)):=by rw [h2,hst]; exact bZ
 have ln:cK .len (.ref c.st) σ2=.ok (.int (c.G.l.length:Nat)) σ2:=by
  show fA (fun xs=>if xs.length <= au then af.ok (PV.int xs.length) σ2 else .stuck) (.ref c.st) σ2=_
  rw [jS (show aZ σ2 (.ref c.st)=some (c.G.l.map aj.pv) by unfold aZ; dsimp only; rw [at6]),List.length_map]
  exact if_pos (aC big (by decide))
 have e7:ex (CC 19) topN oR (c.P 7) σ2=.next (c.P 8) σ2:=
  (aE (az (jZ hl 4 rfl) (cZ (x:=.ref c.st) (σ₁:=σ2) rfl ln) (bn (Int.ofNat_lt.mpr pos)))).trans (by rw [htr]; rfl)
 have e8:ex (CC 19) topN oQ (c.P 8) σ2=.next (c.P 9) (σ2++υ):=by
  refine (aE (v:=.inst ae σ2.length) (σ':=σ2++υ) ?_).trans (by rw [<- hi]; rfl)
  have ib':(CC 19).call d0 (.inst ae σ2.length::[aW c.p,.int c.G.n]) (σ2++[.ns []])=.ok .none (σ2++υ):=ib
  rw [ad0,aJ (ep (by rw [<- hst]; rfl) (by rw [htr]; rfl)) (aJ (x:=.int (c.G.n:Nat)) (σ₁:=σ2) rfl bC),aA]
  unfold oB
  rw [ib']; rfl
 have e9:ex (CC 19) topN oP (c.P 9) (σ2++υ)=.next (c.P 10) (σ2++υ):=aE (bD (jZ hl 5 rfl) k.v)
 have e10:ex (CC 19) topN lE (c.P 10) (σ2++υ)=.next (c.R none none none none none) (σ2++υ):=aE (bD (jZ hl 6 rfl) k.f)
 exact (aa e6).trans ((aa e7).trans ((aa e8).trans ((aa e9).trans (aa e10))))
theorem ajz (H:k7 c) (la:La c ⟨c.G.e0 0,[],[]⟩ σ):∃ ρ' σ',ex (CC 19) topN (.cons jn (.cons jm (.cons dU (.cons dT (.cons dS (.cons dR (.cons ff .nil))))))) (c.R none none none none none) σ=.ret (.bool true) ρ' σ':=by
 obtain ⟨z,σ4,e11,la4⟩:=aiu H c.G.n 0 σ none (Nat.zero_add _) la
 rw [<- j4] at e11
 have s11:ex (CC 19) topN jn (c.R none none none none none) σ=.next (c.R z none none none none) σ4:=bP (qT (n:=c.G.n) rfl (aC H.ok.n2 (by decide))) e11
 have s12:ex (CC 19) topN jm (c.R z none none none none) σ4=.next (c.R z (some (.bool (c.G.lt && (c.l.getD 2 0 / 3 % 2 == 1)))) none none none) σ4:=
  aE (jX (nW (q:=c.G.lt) rfl fun zz=>gN (d4 (fdm (by decide) (by decide) (by decide) (cell_ H.l 2 rfl)) (y:=.int 1) (σ₂:=σ4) rfl dN)))
 cases hg:(c.G.lt && (c.l.getD 2 0 / 3 % 2 == 1)) with
 | false =>
  rw [hg] at s12
  obtain ⟨ρ',σ',e⟩:=agR (t:=z) H la4
  exact ⟨ρ',σ',(aa s11).trans ((aa s12).trans e)⟩
 | true =>
  rw [hg] at s12
  obtain ⟨ρ',σ',e⟩:=agS (t:=z) H (bY hg).1 la4
  exact ⟨ρ',σ',(aa s11).trans ((aa s12).trans e)⟩
end
theorem runX {l:List Int} (hl:l.length <= 63):∃ σ,aG PP topN 20 ajQ [.fl (l.map .int)] []=.ok (.bool true) σ:=by
 obtain ⟨nv,σ1,G,k⟩:=ajF (l:=l)
 have ok:=k.ok
 have nv2:aT G.nms (σ1++[.lst (G.l.map aj.pv)]) nv:=k.nv.app
 obtain ⟨p,hp,ep⟩:=ag7 (σ:=σ1++[.lst (G.l.map aj.pv)]) (c:=l.getD 4 0) (ss:=G.l) (r:=σ1.length) bZ (by rw [t9]; exact aC ok.m1 (Nat.le_add_right _ _)) (by rw [t9]; exact aC (Nat.add_le_add ok.m2 ok.r8) (by decide))
 generalize h2:σ1++[MO.lst (G.l.map aj.pv)]=σ2 at nv2 ep
 obtain ⟨υ,g,o,hr,gn,od,ib,bd,q1,q2,q3,lts,g1,g2⟩:=afn (d:=14) (σ:=σ2) (kh ok hp) ok.n1 ok.n2
 have hc:∃ c:Cl,c=⟨l,nv,G,σ1.length,l.getD 4 0 % (G.l.length:Nat),⟨σ2.length,g,o,hr,gn,od⟩,p⟩:=⟨_,rfl⟩
 have la:La ⟨l,nv,G,σ1.length,l.getD 4 0 % (G.l.length:Nat),⟨σ2.length,g,o,hr,gn,od⟩,p⟩ ⟨G.e0 0,[],[]⟩ (σ2++υ):=by
  refine ⟨?_,fun σ' k=>?_⟩
  ·have:G.e0 0=[]:=by unfold Rg.e0; split <;> rfl
   rw [this]
   exact ⟨bd.ns,bd.gv,bd.ot,bd.hr,g1,g2,⟨lts.1,lts.2.1,lts.2.2.1,lts.2.2.2.1,lts.2.2.2.2⟩⟩
  ·cases nv2 with
   | fl=>exact .fl
   | ref j e =>
    have jl:=(eY e).1
    obtain ⟨l1,l2,l3,l4,l5⟩:=lts
    have h3:=Nat.lt_trans jl (Nat.lt_trans l1 (Nat.lt_trans l2 l3))
    exact .ref j (k.at_ j _ (Nat.ne_of_lt h3) (Nat.ne_of_lt (Nat.lt_trans h3 l4)) (Nat.ne_of_lt (Nat.lt_trans h3 (Nat.lt_trans l4 l5))) (dL e))
 obtain ⟨c,hc⟩:=hc
 rw [<- hc] at la
 have cl:c.l=l:=by rw [hc]
 have H:k7 c:=by rw [hc]; exact ⟨hl,ok,hp⟩
 obtain ⟨ρ',σ',e⟩:=ajz H (by rw [hc] at la ⊢; exact la)
 refine ⟨σ',?_⟩
 rw [a5 (d:=19) (fn:=agw) rfl rfl]
 have h5:=hd5 (c:=c) (σ:=σ1) (r:=.cons oS (.cons oR (.cons oQ (.cons oP (.cons lE (.cons jn (.cons jm (.cons dU (.cons dT (.cons dS (.cons dR (.cons ff .nil)))))))))))) H.l (by rw [hc]; exact k)
 have h10:=aky (c:=c) (σ1:=σ1) (σ2:=σ2) (υ:=υ) (r:=.cons jn (.cons jm (.cons dU (.cons dT (.cons dS (.cons dR (.cons ff .nil))))))) H.l (by rw [hc]; exact k) (by rw [hc]) (by rw [hc,h2]) (by rw [hc]) (by rw [hc]) (by rw [hc]; exact ep) (by rw [hc]; exact ib)
 have body:=h5.trans (h10.trans e)
 rw [<- cl]
 exact (congrArg aQ body).trans rfl
end Mine
namespace Mine
open PySem PySem.W PyProof.Rows
set_option tactic.hygienic true
noncomputable abbrev xK (w:World) (os:OsState):Option Shared:=ua PySem.Challenge.pw_uf020019_11 w os topN
set_option maxRecDepth 1000000 in
set_option maxHeartbeats 80000000 in
theorem ajL:∀ w os,(xK w os).map (fun s=>(PySem.W.Fast.tw4187177175401517315 (viewOf PySem.Challenge.pw_uf020019_11) [] (importedModules PySem.Challenge.pw_uf020019_11.main.body) (fun s=>xlAt (viewOf PySem.Challenge.pw_uf020019_11) [] s && recOk (RowW.records (OpenRow.toRowW PySem.Challenge.rw_uf020019_11.row)) s) true s))=some (openGood (viewOf PySem.Challenge.pw_uf020019_11) []):=fun w os=>by kernel_rfl
set_option maxRecDepth 1000000 in
set_option maxHeartbeats 80000000 in
theorem ajK:∀ w os,(xK w os).map (fun s=>(tD s.heap (cG s.heap) TT,uL (cG s.heap) TT.cst,qG (cG s.heap) TT.bins))=some (true,true,true):=fun w os=>by kernel_rfl
set_option maxRecDepth 1000000 in
set_option maxHeartbeats 80000000 in
theorem ajJ:∀ w os,(xK w os).map (xP TT (List.take 22))=some (some (PP.fns.take 22)):=fun w os=>by kernel_rfl
set_option maxRecDepth 1000000 in
set_option maxHeartbeats 80000000 in
theorem ajI:∀ w os,(xK w os).map (xP TT (List.drop 22))=some (some (PP.fns.drop 22)):=fun w os=>by kernel_rfl
theorem ag5 {α β γ δ ε:Type} {o:Option α} {f:α->β} {a:α->γ} {b:α->δ} {c:α->ε} {ζ:Type} {e:α->ζ} {x:β} {y:γ × δ × ε} {z:ζ} (h1:o.map f=some x) (h2:o.map (fun s=>(a s,b s,c s))=some y) (h3:o.map e=some z):o.map (fun s=>(f s,a s,b s,c s,e s))=some (x,y.1,y.2.1,y.2.2,z):=by
 cases o with
 | none=>exact nomatch h1
 | some s =>
  obtain rfl:=oi h1
  obtain rfl:=oi h2
  obtain rfl:=oi h3
  rfl
theorem aiP:∀ w os,(ua PySem.Challenge.pw_uf020019_11 w os topN).map (fun s=>(PySem.W.Fast.tw4187177175401517315 (viewOf PySem.Challenge.pw_uf020019_11) [] (importedModules PySem.Challenge.pw_uf020019_11.main.body) (fun s=>xlAt (viewOf PySem.Challenge.pw_uf020019_11) [] s && recOk (RowW.records (OpenRow.toRowW PySem.Challenge.rw_uf020019_11.row)) s) true s,Hook.obs (topHook TT 40 30 PP.fns) s))=some (openGood (viewOf PySem.Challenge.pw_uf020019_11) [],Hook.val (topHook TT 40 30 PP.fns) w):=fun w os =>
 ag5 (ajL w os) (ajK w os) ((ahJ (ajJ w os) (ajI w os)).trans (congrArg (fun l=>some (some l)) (List.take_append_drop 22 PP.fns)))
theorem leftX:LeftO PySem.Challenge.pw_uf020019_11 (viewOf PySem.Challenge.pw_uf020019_11) [] (fun s=>xlAt (viewOf PySem.Challenge.pw_uf020019_11) [] s && recOk (RowW.records (OpenRow.toRowW PySem.Challenge.rw_uf020019_11.row)) s) (Hook.obs (topHook TT 40 30 PP.fns)) (Hook.val (topHook TT 40 30 PP.fns)) topN:=
 ahq (by kernel_rfl) (by rfl) (fun s=>by kernel_rfl) aiP
end Mine
set_option tactic.hygienic true
open PySem PySem.W PyProof.Rows
set_option maxRecDepth 100000 in
set_option maxHeartbeats 8000000 in
theorem PySem.Challenge.cw_uf020019_11_holds : PySem.Challenge.rw_uf020019_11.Holds := by
 w_on
 refine holds_law (by decide +kernel) fun said=>?_
 refine holds_open (q:=Mine.viewOf PySem.Challenge.pw_uf020019_11) (loose:=[]) (Xt:=fun s=>xlAt (Mine.viewOf PySem.Challenge.pw_uf020019_11) [] s && recOk (RowW.records (OpenRow.toRowW PySem.Challenge.rw_uf020019_11.row)) s)
  (XP:=XL (Mine.viewOf PySem.Challenge.pw_uf020019_11) []) (Yf:=Hook.obs (Mine.topHook Mine.TT 40 30 Mine.PP.fns)) (Ya:=Hook.val (Mine.topHook Mine.TT 40 30 Mine.PP.fns)) (YP:=Hook.says (Mine.topHook Mine.TT 40 30 Mine.PP.fns)) (N:=Mine.topN)
  Mine.leftX (Hook.of (Mine.topHook Mine.TT 40 30 Mine.PP.fns)) (Hook.keeps (Mine.topHook Mine.TT 40 30 Mine.PP.fns)) (fun s e=>xl_of s (Bool.and_eq_true_iff.mp e).1) XL.keeps (by rfl) (by rfl) (by rfl) (fun s e=>recFacts_of (Bool.and_eq_true_iff.mp e).2)
  (by rfl) (by first | assumption | decide +kernel) (by decide +kernel) ⟨rfl,rfl,rfl,rfl,rfl,by decide +kernel⟩ ?hw ?hc
 (case hw=>w_witness2)
 intro w dJ s₁ mg mb G Y fa o pm cd doc dV kV ho hd hcd hD hmg hg args vals as hpre hlay hrd hwl hlo
 obtain ⟨K,aP,KX,aff,k0,k1,k2,k3⟩:=Mine.Says.ex Y
 refine Ground.open G ?_
 intro T B D TE TW
 clear hd hcd hD ho TE TW D B Y
 have hmg':mg (PySem.Str.ofString "law")=some (.ref fa):=hmg
 clear hmg
 wrow_args hpre hlay hrd hwl hlo
 rename_i xs q1 q2 q3 q4 q5 q6 q7 a q8 q9 q10 q11 W q12 q13 q14 hc q15
 obtain ⟨σ,hrun⟩:=Mine.runX (l:=xs) (by omega)
 have p:Mine.PrgOk ⟨⟨s₁.heap,[],PySem.Challenge.rw_uf020019_11.row.prog,w⟩,mg,mb,Mine.TT.repl,false⟩ Mine.TT Mine.PP:=
  Mine.prgOk (n1:=40) (n2:=30) (topRead_of T) KX aff k0 k1 k2 k3 fun q=>q
 refine Mine.law_end p (f:=28) rfl hmg' (by decide) rfl W hrun fun s' hk ho hg'=>?_
 refine GoodW.toG ⟨.inl ⟨_,_,[],rfl,fun cls=>rfl,.bool true,?_,fun _=>⟨List.nodup_nil,fun a h=>by simp at h⟩⟩,hk,ho,hg'.trans hg⟩
 first | rfl | wrow_post
