import PyProof.Rows.All
import Wide.All
import OpenK.AllK
import PySem.Challenge.RW_uf020019_06
set_option autoImplicit false
set_option backward.match.sparseCases false
set_option linter.all false
set_option Elab.async false
set_option genInjectivity false
set_option genSizeOf false
set_option bootstrap.genMatcherCode false
set_option tactic.hygienic false
local macro_rules
 | `(#v[])=>`(.nil)
 | `(#v[$x])=>`(.cons $x .nil)
 | `(#v[$x,$xs,*])=>`(.cons $x #v[$xs,*])
local macro_rules
 |`(def $i:declId $s:optDeclSig $v:declVal)=>`(noncomputable def $i $s:optDeclSig $v:declVal)
local macro_rules
 |`($f $x*<&>$b)=>`(($f $x* ..).symm▸$b)
 |`($a<&>$b)=>`(($a ..).symm▸$b)
 |`($f $x*<$>$b)=>`(($f $x* ..)▸$b)
 |`($a<$>$b)=>`(($a ..)▸$b)
local macro_rules
 |`(⋯)=>`(by decide)
namespace Mine
open PySem PyProof.Rows
variable {n m i lo r hint j n1 n2 tk mask c0 gl:Nat}{x y aa:Value}{A:Around}{E Q:Value->Shared->Prop}{s s' s₁ s₀:Shared}{P a6:Prop}{o:Obj}{fr own:List Addr}{h' h h₀:Heap}{a5 q led en:Bool}{ks:List (Option Expr)}{key:Keyed}{t:Int}{cP:List (Option Nat)}{elt e jY target aO:Expr}{ts args ifs:List Expr}{st:SortSt}{g:Str}{l:List Int}{body b0:List Stmt}{fu:Array Keyed}{z D I TI bO i1 i2:Addr}{ld on:List Keyed}{vs us:List Value}{fI:Value->Str×Int}{pos gL pp gG oX:Pos}{G b7 bk cS:List Str}{gd:Nat->Heap->Prop}{N:List (Str×NameKind)}{env:Env}{cells:List (Str×Addr)}{scope:Scope}{hh:CmpOp}{gens:List Comprehension}{jI:Str->Option NameKind}{fd:FuncData}{life:Life}
def be:=@List.mem_cons_self
def aK:=@wpAny_bind
def a9:=@List.length_map
def aC:=@if_pos
def cM:=@List.getElem?_eq_getElem
def cI:=@Heap.get?_push_of_some
def bh:=@wpAny_pure
def cD:=@List.length_append
def cN:=@List.append_assoc
def bY:=@List.mem_cons
def aV:=@if_neg
def de:=@Nat.lt_of_lt_of_le
def bJ:=@Nat.le_refl
def di:=@List.mem_singleton
def b4:=@Nat.le_of_lt
def b9:=@Nat.lt_trans
def d0:=@List.mem_of_getElem?
def dW:=@Nat.lt_of_le_of_lt
def c6:=@decide_eq_true
def dD:=@List.length_cons
def dt:=@List.mem_append
def dM:=@List.not_mem_nil
def ea:=@Int.natCast_nonneg
def ew:=@Heap.get?_push_size
def fZ:=@List.getElem?_append_left
def gh:=@List.getElem?_append_right
def fb:=@List.mem_append_right
def c7:=@List.mem_map
def hJ:=@List.eq_nil_of_length_eq_zero
def cu:=@wpAny_mono
def el:=@Nat.le_add_right
def du:=@Nat.ne_of_gt
def ed:=@decide_eq_false
def dX:=@List.map_cons
def eY:=@List.size_toArray
def fc:=@List.getElem?_map
def fP:=@Array.length_toList
def bZ:=@Or.elim
def d1:=@Nat.zero_add
def hL:=@List.take_append_drop
def gj:=@Int.emod_lt_of_pos
def eo:=@Heap.lt_size
def f0:=@of_decide_eq_true
def fq:=@Int.emod_nonneg
def hM:=@List.pairwise_append
def fC:=@List.map_append
def fD:=@List.append_nil
def ep:=@Nat.zero_le
def hX:=@List.mem_append_left
def eK:=@Int.ofNat_lt
def eZ:=@Nat.ne_of_lt
def jw:=@Int.eq_ofNat_of_zero_le
def gV:=@List.length_take
def gW:=@List.getElem_mem
def fQ:=@wpAny_holding
def ft:=@Nat.succ_pos
def hN:=@List.all_eq_true
def gX:=@Nat.min_eq_left
def fE:=@List.map_map
def ka:=@Nat.add_sub_cancel_left
def e0:=@Nat.not_lt
def kb:=@Array.getElem?_toList
def ic:=@Nat.lt_succ_self
def ie:=@List.isEmpty_iff
def i4:=@Nat.add_right_comm
def hY:=@List.nodup_cons
def ey:=@Eq.trans
def jx:=@Nat.pos_of_ne_zero
def gE:=@Int.le_trans
def kc:=@Array.toList_append
def jy:=@Nat.lt_of_succ_lt
def jz:=@List.nodup_append
def jA:=@List.flatMap_cons
def nc:=@List.getD_eq_getElem?_getD
def kK:=@Nat.add_le_add_left
def i5:=@List.foldl_cons
def iJ:=@Nat.add_assoc
def nf:=@Nat.lt_add_of_pos_right
def kL:=@Int.toNat_natCast
def ig:=@Int.ofNat_le
def oj:=@Option.isNone_iff_eq_none
def lz:=@of_decide_eq_false
def i6:=@Nat.lt_irrefl
def kM:=@Bool.and_eq_true
def mq:=@beq_eq_false_iff_ne
def lA:=@Nat.le_of_lt_succ
def ms:=@wpAny_Call_Name_kw
def mu:=@Nat.lt_of_le_of_ne
def i7:=@Nat.le_of_eq
def kN:=@Nat.le_add_left
def ng:=@List.range_eq_range'
def kO:=@List.length_nil
def ol:=@Option.map_eq_some_iff
def lB:=@List.mem_flatMap
def nh:=@Nat.mul_le_mul_left
def om:=@List.perm_append_comm
theorem oi{U:Type _}{a b:U}(h:some a=some b):a=b:=Option.some.inj h
theorem aE{k:Nat}(h:n<=m)(L:m<=k):n<=k:=Nat.le_trans h L
theorem bx{U:Type _}{a:U}(y:U){l:List U}(h:a∈l):a∈y::l:=List.mem_cons_of_mem y h
theorem dE{x y:Bool}(h:(x&&y)=true):x=true/\y=true:=Bool.and_eq_true_iff.mp h
theorem dv{U:Type _}{l:List U}{a:U}(h:l[i]?=some a):∃h:i<l.length,l[i]=a:=List.getElem?_eq_some_iff.mp h
theorem aI{A:Sort _}{p1 p2:A->Prop}(a:A)(J:p1 a)(L:p2 a):∃a,p1 a/\p2 a:=⟨a,J,L⟩
theorem b3{A:Sort _}{p1 p2 a6:A->Prop}(a:A)(J:p1 a)(L:p2 a)(au:a6 a):∃a,p1 a/\p2 a/\a6 a:=⟨a,J,L,au⟩
theorem pu{A:Sort _}{p1 p2 a6 bD:A->Prop}(a:A)(J:p1 a)(L:p2 a)(au:a6 a)(aQ:bD a):∃a,p1 a/\p2 a/\a6 a/\bD a:=⟨a,J,L,au,aQ⟩
theorem DR{A:Sort _}{p1 p2 a6 bD cJ:A->Prop}(a:A)(J:p1 a)(L:p2 a)(au:a6 a)(aQ:bD a)(dk:cJ a):∃a,p1 a/\p2 a/\a6 a/\bD a/\cJ a:=⟨a,J,L,au,aQ,dk⟩
theorem eQ{A B:Type}{p1:A->B->Prop}(a:A)(b:B)(J:p1 a b):∃a,∃b,p1 a b:=⟨a,b,J⟩
theorem fF{A B:Type}{p1 p2:A->B->Prop}(a:A)(b:B)(J:p1 a b)(L:p2 a b):∃a,∃b,p1 a b/\p2 a b:=⟨a,b,J,L⟩
theorem jF{A B:Type}{p1 p2 a6:A->B->Prop}(a:A)(b:B)(J:p1 a b)(L:p2 a b)(au:a6 a b):∃a,∃b,p1 a b/\p2 a b/\a6 a b:=⟨a,b,J,L,au⟩
theorem kh{A B:Type}{p1 p2 a6 bD:A->B->Prop}(a:A)(b:B)(J:p1 a b)(L:p2 a b)(au:a6 a b)(aQ:bD a b):∃a,∃b,p1 a b/\p2 a b/\a6 a b/\bD a b:=⟨a,b,J,L,au,aQ⟩
theorem NY{A B:Type}{p1 p2 a6 bD cJ:A->B->Prop}(a:A)(b:B)(J:p1 a b)(L:p2 a b)(au:a6 a b)(aQ:bD a b)(dk:cJ a b):∃a,∃b,p1 a b/\p2 a b/\a6 a b/\bD a b/\cJ a b:=⟨a,b,J,L,au,aQ,dk⟩
theorem DS{A B:Type}{p1 p2 a6 bD cJ jQ:A->B->Prop}(a:A)(b:B)(J:p1 a b)(L:p2 a b)(au:a6 a b)(aQ:bD a b)(dk:cJ a b)(g6:jQ a b):∃a,∃b,p1 a b/\p2 a b/\a6 a b/\bD a b/\cJ a b/\jQ a b:=⟨a,b,J,L,au,aQ,dk,g6⟩
theorem ri{A B C:Type}{p1:A->B->C->Prop}(a:A)(b:B)(c:C)(J:p1 a b c):∃a,∃b,∃c,p1 a b c:=⟨a,b,c,J⟩
theorem oz{A B C:Type}{p1 p2:A->B->C->Prop}(a:A)(b:B)(c:C)(J:p1 a b c)(L:p2 a b c):∃a,∃b,∃c,p1 a b c/\p2 a b c:=⟨a,b,c,J,L⟩
theorem mC{A B C:Type}{p1 p2 a6:A->B->C->Prop}(a:A)(b:B)(c:C)(J:p1 a b c)(L:p2 a b c)(au:a6 a b c):∃a,∃b,∃c,p1 a b c/\p2 a b c/\a6 a b c:=⟨a,b,c,J,L,au⟩
theorem lI{A B C:Type}{p1 p2 a6 bD:A->B->C->Prop}(a:A)(b:B)(c:C)(J:p1 a b c)(L:p2 a b c)(au:a6 a b c)(aQ:bD a b c):∃a,∃b,∃c,p1 a b c/\p2 a b c/\a6 a b c/\bD a b c:=⟨a,b,c,J,L,au,aQ⟩
theorem DT{A B C:Type}{p1 p2 a6 bD cJ:A->B->C->Prop}(a:A)(b:B)(c:C)(J:p1 a b c)(L:p2 a b c)(au:a6 a b c)(aQ:bD a b c)(dk:cJ a b c):∃a,∃b,∃c,p1 a b c/\p2 a b c/\a6 a b c/\bD a b c/\cJ a b c:=⟨a,b,c,J,L,au,aQ,dk⟩
theorem DU{A B C:Type}{p1 p2 a6 bD cJ jQ:A->B->C->Prop}(a:A)(b:B)(c:C)(J:p1 a b c)(L:p2 a b c)(au:a6 a b c)(aQ:bD a b c)(dk:cJ a b c)(g6:jQ a b c):∃a,∃b,∃c,p1 a b c/\p2 a b c/\a6 a b c/\bD a b c/\cJ a b c/\jQ a b c:=⟨a,b,c,J,L,au,aQ,dk,g6⟩
theorem sZ{A B C D:Type}{p1 p2:A->B->C->D->Prop}(a:A)(b:B)(c:C)(d:D)(J:p1 a b c d)(L:p2 a b c d):∃a,∃b,∃c,∃d,p1 a b c d/\p2 a b c d:=⟨a,b,c,d,J,L⟩
theorem oA{A B C D:Type}{p1 p2 a6:A->B->C->D->Prop}(a:A)(b:B)(c:C)(d:D)(J:p1 a b c d)(L:p2 a b c d)(au:a6 a b c d):∃a,∃b,∃c,∃d,p1 a b c d/\p2 a b c d/\a6 a b c d:=⟨a,b,c,d,J,L,au⟩
theorem DV{A B C D:Type}{p1 p2 a6 bD:A->B->C->D->Prop}(a:A)(b:B)(c:C)(d:D)(J:p1 a b c d)(L:p2 a b c d)(au:a6 a b c d)(aQ:bD a b c d):∃a,∃b,∃c,∃d,p1 a b c d/\p2 a b c d/\a6 a b c d/\bD a b c d:=⟨a,b,c,d,J,L,au,aQ⟩
theorem NZ{A B C D:Type}{p1 p2 a6 bD cJ:A->B->C->D->Prop}(a:A)(b:B)(c:C)(d:D)(J:p1 a b c d)(L:p2 a b c d)(au:a6 a b c d)(aQ:bD a b c d)(dk:cJ a b c d):∃a,∃b,∃c,∃d,p1 a b c d/\p2 a b c d/\a6 a b c d/\bD a b c d/\cJ a b c d:=⟨a,b,c,d,J,L,au,aQ,dk⟩
theorem ym{A B C D E:Type}{p1 p2 a6:A->B->C->D->E->Prop}(a:A)(b:B)(c:C)(d:D)(e:E)(J:p1 a b c d e)(L:p2 a b c d e)(au:a6 a b c d e):∃a,∃b,∃c,∃d,∃e,p1 a b c d e/\p2 a b c d e/\a6 a b c d e:=⟨a,b,c,d,e,J,L,au⟩
theorem DW{A B C D E:Type}{p1 p2 a6 bD:A->B->C->D->E->Prop}(a:A)(b:B)(c:C)(d:D)(e:E)(J:p1 a b c d e)(L:p2 a b c d e)(au:a6 a b c d e)(aQ:bD a b c d e):∃a,∃b,∃c,∃d,∃e,p1 a b c d e/\p2 a b c d e/\a6 a b c d e/\bD a b c d e:=⟨a,b,c,d,e,J,L,au,aQ⟩
theorem N0{A B C D E:Type}{p1 p2 a6 bD cJ:A->B->C->D->E->Prop}(a:A)(b:B)(c:C)(d:D)(e:E)(J:p1 a b c d e)(L:p2 a b c d e)(au:a6 a b c d e)(aQ:bD a b c d e)(dk:cJ a b c d e):∃a,∃b,∃c,∃d,∃e,p1 a b c d e/\p2 a b c d e/\a6 a b c d e/\bD a b c d e/\cJ a b c d e:=⟨a,b,c,d,e,J,L,au,aQ,dk⟩
theorem N1{A B C D E F:Type}{p1 p2:A->B->C->D->E->F->Prop}(a:A)(b:B)(c:C)(d:D)(e:E)(f:F)(J:p1 a b c d e f)(L:p2 a b c d e f):∃a,∃b,∃c,∃d,∃e,∃f,p1 a b c d e f/\p2 a b c d e f:=⟨a,b,c,d,e,f,J,L⟩
theorem N2{A B C D E F G:Type}{p1 p2 a6 bD cJ:A->B->C->D->E->F->G->Prop}(a:A)(b:B)(c:C)(d:D)(e:E)(f:F)(g:G)(J:p1 a b c d e f g)(L:p2 a b c d e f g)(au:a6 a b c d e f g)(aQ:bD a b c d e f g)(dk:cJ a b c d e f g):∃a,∃b,∃c,∃d,∃e,∃f,∃g,p1 a b c d e f g/\p2 a b c d e f g/\a6 a b c d e f g/\bD a b c d e f g/\cJ a b c d e f g:=⟨a,b,c,d,e,f,g,J,L,au,aQ,dk⟩
theorem df{U β:Type}{M:Model}{m:Sem U}{f:U->Sem β}{Q:β->Shared->Prop}{v:U}(h:∀iI:U->Shared->Prop,iI v s'->wpAny M A m iI E s)(k:wpAny M A (f v) Q E s'):wpAny M A (m >>= f) Q E s:=aK (h _ k)
theorem aN{p1 p2:Prop}(h:p1/\p2)(k:p1->p2->P):P:=k h.1 h.2
theorem d6{p1 p2:Prop}(h:p1/\p2/\a6)(k:p1->p2->a6->P):P:=k h.1 h.2.1 h.2.2
theorem ve{p1 p2 bD cJ:Prop}(h:p1/\p2/\a6/\bD/\cJ)(k:p1->p2->a6->bD->cJ->P):P:=k h.1 h.2.1 h.2.2.1 h.2.2.2.1 h.2.2.2.2
theorem DP{p1 p2 bD cJ jQ:Prop}(h:p1/\p2/\a6/\bD/\cJ/\jQ)(k:p1->p2->a6->bD->cJ->jQ->P):P:=k h.1 h.2.1 h.2.2.1 h.2.2.2.1 h.2.2.2.2.1 h.2.2.2.2.2
theorem aF{A:Sort _}{p1:A->Prop}(h:∃a,p1 a)(k:∀a,p1 a->P):P:=h.elim fun a h=>k a h
theorem ay{A:Sort _}{p1 p2:A->Prop}(h:∃a,p1 a/\p2 a)(k:∀a,p1 a->p2 a->P):P:=h.elim fun a h=>k a h.1 h.2
theorem bw{A:Sort _}{p1 p2 a6:A->Prop}(h:∃a,p1 a/\p2 a/\a6 a)(k:∀a,p1 a->p2 a->a6 a->P):P:=h.elim fun a h=>k a h.1 h.2.1 h.2.2
theorem oy{A:Sort _}{p1 p2 a6 bD:A->Prop}(h:∃a,p1 a/\p2 a/\a6 a/\bD a)(k:∀a,p1 a->p2 a->a6 a->bD a->P):P:=h.elim fun a h=>k a h.1 h.2.1 h.2.2.1 h.2.2.2
theorem NR{A:Sort _}{p1 p2 a6 bD cJ:A->Prop}(h:∃a,p1 a/\p2 a/\a6 a/\bD a/\cJ a)(k:∀a,p1 a->p2 a->a6 a->bD a->cJ a->P):P:=h.elim fun a h=>k a h.1 h.2.1 h.2.2.1 h.2.2.2.1 h.2.2.2.2
theorem eM{A B:Type}{p1:A->B->Prop}(h:∃a,∃b,p1 a b)(k:∀a b,p1 a b->P):P:=h.elim fun a h=>h.elim fun b h=>k a b h
theorem cG{A B:Type}{p1 p2:A->B->Prop}(h:∃a,∃b,p1 a b/\p2 a b)(k:∀a b,p1 a b->p2 a b->P):P:=h.elim fun a h=>h.elim fun b h=>k a b h.1 h.2
theorem gH{A B:Type}{p1 p2 a6:A->B->Prop}(h:∃a,∃b,p1 a b/\p2 a b/\a6 a b)(k:∀a b,p1 a b->p2 a b->a6 a b->P):P:=h.elim fun a h=>h.elim fun b h=>k a b h.1 h.2.1 h.2.2
theorem ik{A B:Type}{p1 p2 a6 bD:A->B->Prop}(h:∃a,∃b,p1 a b/\p2 a b/\a6 a b/\bD a b)(k:∀a b,p1 a b->p2 a b->a6 a b->bD a b->P):P:=h.elim fun a h=>h.elim fun b h=>k a b h.1 h.2.1 h.2.2.1 h.2.2.2
theorem NS{A B:Type}{p1 p2 a6 bD cJ:A->B->Prop}(h:∃a,∃b,p1 a b/\p2 a b/\a6 a b/\bD a b/\cJ a b)(k:∀a b,p1 a b->p2 a b->a6 a b->bD a b->cJ a b->P):P:=h.elim fun a h=>h.elim fun b h=>k a b h.1 h.2.1 h.2.2.1 h.2.2.2.1 h.2.2.2.2
theorem lG{A B C:Type}{p1:A->B->C->Prop}(h:∃a,∃b,∃c,p1 a b c)(k:∀a b c,p1 a b c->P):P:=h.elim fun a h=>h.elim fun b h=>h.elim fun c h=>k a b c h
theorem jc{A B C:Type}{p1 p2:A->B->C->Prop}(h:∃a,∃b,∃c,p1 a b c/\p2 a b c)(k:∀a b c,p1 a b c->p2 a b c->P):P:=h.elim fun a h=>h.elim fun b h=>h.elim fun c h=>k a b c h.1 h.2
theorem kR{A B C:Type}{p1 p2 a6:A->B->C->Prop}(h:∃a,∃b,∃c,p1 a b c/\p2 a b c/\a6 a b c)(k:∀a b c,p1 a b c->p2 a b c->a6 a b c->P):P:=h.elim fun a h=>h.elim fun b h=>h.elim fun c h=>k a b c h.1 h.2.1 h.2.2
theorem kS{A B C:Type}{p1 p2 a6 bD:A->B->C->Prop}(h:∃a,∃b,∃c,p1 a b c/\p2 a b c/\a6 a b c/\bD a b c)(k:∀a b c,p1 a b c->p2 a b c->a6 a b c->bD a b c->P):P:=h.elim fun a h=>h.elim fun b h=>h.elim fun c h=>k a b c h.1 h.2.1 h.2.2.1 h.2.2.2
theorem sY{A B C:Type}{p1 p2 a6 bD cJ:A->B->C->Prop}(h:∃a,∃b,∃c,p1 a b c/\p2 a b c/\a6 a b c/\bD a b c/\cJ a b c)(k:∀a b c,p1 a b c->p2 a b c->a6 a b c->bD a b c->cJ a b c->P):P:=h.elim fun a h=>h.elim fun b h=>h.elim fun c h=>k a b c h.1 h.2.1 h.2.2.1 h.2.2.2.1 h.2.2.2.2
theorem NT{A B C:Type}{p1 p2 a6 bD cJ jQ:A->B->C->Prop}(h:∃a,∃b,∃c,p1 a b c/\p2 a b c/\a6 a b c/\bD a b c/\cJ a b c/\jQ a b c)(k:∀a b c,p1 a b c->p2 a b c->a6 a b c->bD a b c->cJ a b c->jQ a b c->P):P:=h.elim fun a h=>h.elim fun b h=>h.elim fun c h=>k a b c h.1 h.2.1 h.2.2.1 h.2.2.2.1 h.2.2.2.2.1 h.2.2.2.2.2
theorem lH{A B C D:Type}{p1 p2:A->B->C->D->Prop}(h:∃a,∃b,∃c,∃d,p1 a b c d/\p2 a b c d)(k:∀a b c d,p1 a b c d->p2 a b c d->P):P:=h.elim fun a h=>h.elim fun b h=>h.elim fun c h=>h.elim fun d h=>k a b c d h.1 h.2
theorem rg{A B C D:Type}{p1 p2 a6:A->B->C->D->Prop}(h:∃a,∃b,∃c,∃d,p1 a b c d/\p2 a b c d/\a6 a b c d)(k:∀a b c d,p1 a b c d->p2 a b c d->a6 a b c d->P):P:=h.elim fun a h=>h.elim fun b h=>h.elim fun c h=>h.elim fun d h=>k a b c d h.1 h.2.1 h.2.2
theorem yk{A B C D:Type}{p1 p2 a6 bD:A->B->C->D->Prop}(h:∃a,∃b,∃c,∃d,p1 a b c d/\p2 a b c d/\a6 a b c d/\bD a b c d)(k:∀a b c d,p1 a b c d->p2 a b c d->a6 a b c d->bD a b c d->P):P:=h.elim fun a h=>h.elim fun b h=>h.elim fun c h=>h.elim fun d h=>k a b c d h.1 h.2.1 h.2.2.1 h.2.2.2
theorem NU{A B C D:Type}{p1 p2 a6 bD cJ:A->B->C->D->Prop}(h:∃a,∃b,∃c,∃d,p1 a b c d/\p2 a b c d/\a6 a b c d/\bD a b c d/\cJ a b c d)(k:∀a b c d,p1 a b c d->p2 a b c d->a6 a b c d->bD a b c d->cJ a b c d->P):P:=h.elim fun a h=>h.elim fun b h=>h.elim fun c h=>h.elim fun d h=>k a b c d h.1 h.2.1 h.2.2.1 h.2.2.2.1 h.2.2.2.2
theorem NV{A B C D:Type}{p1 p2 a6 bD cJ jQ JJ JK:A->B->C->D->Prop}(h:∃a,∃b,∃c,∃d,p1 a b c d/\p2 a b c d/\a6 a b c d/\bD a b c d/\cJ a b c d/\jQ a b c d/\JJ a b c d/\JK a b c d)(k:∀a b c d,p1 a b c d->p2 a b c d->a6 a b c d->bD a b c d->cJ a b c d->jQ a b c d->JJ a b c d->JK a b c d->P):P:=h.elim fun a h=>h.elim fun b h=>h.elim fun c h=>h.elim fun d h=>k a b c d h.1 h.2.1 h.2.2.1 h.2.2.2.1 h.2.2.2.2.1 h.2.2.2.2.2.1 h.2.2.2.2.2.2.1 h.2.2.2.2.2.2.2
theorem NW{A B C D E:Type}{p1 p2 a6:A->B->C->D->E->Prop}(h:∃a,∃b,∃c,∃d,∃e,p1 a b c d e/\p2 a b c d e/\a6 a b c d e)(k:∀a b c d e,p1 a b c d e->p2 a b c d e->a6 a b c d e->P):P:=h.elim fun a h=>h.elim fun b h=>h.elim fun c h=>h.elim fun d h=>h.elim fun e h=>k a b c d e h.1 h.2.1 h.2.2
theorem NX{A B C D E:Type}{p1 p2 a6 bD cJ:A->B->C->D->E->Prop}(h:∃a,∃b,∃c,∃d,∃e,p1 a b c d e/\p2 a b c d e/\a6 a b c d e/\bD a b c d e/\cJ a b c d e)(k:∀a b c d e,p1 a b c d e->p2 a b c d e->a6 a b c d e->bD a b c d e->cJ a b c d e->P):P:=h.elim fun a h=>h.elim fun b h=>h.elim fun c h=>h.elim fun d h=>h.elim fun e h=>k a b c d e h.1 h.2.1 h.2.2.1 h.2.2.2.1 h.2.2.2.2
section
open Classical
inductive H where
 | none | bool (b:Bool) | int (i:Int) | str (s:Str)
 | tup (Y:List H) | fl (Y:List H) | ref (i:Nat)
 | exc (c:Nat)
 | inst (c i:Nat)
inductive aX where
 | lst (Y:List H)
 | ds (Z:List (Str×H))
 | dp (Z:List ((Str×Int)×H))
 | ns (fs:List (Str×H))
 | tp
 | no
noncomputable abbrev ab:=List aX
noncomputable abbrev aB:=List (Option H)
inductive aj(U:Type) where
 | ok (a:U) (S:ab)
 | exc (i:Nat) (S:ab)
 | stuck
def aj.bind{U β:Type}:aj U->(U->ab->aj β)->aj β
 | .ok a S,f=>f a S
 | .exc i S,_=>.exc i S
 | .stuck,_=>.stuck
def aj.ofOpt{U:Type}:Option U->ab->aj U
 | some a,S=>.ok a S
 | none,_=>.stuck
inductive n8 where | add | sub | mul | mod | fdiv | pow
inductive iY where | eq | ne | lt | le | gt | ge | is | isNot | isin | notin
inductive oc where | int | str | bool | tuple
 | list
inductive c5 where | len | list (a5:Bool) | tuple | all | int | str | lenset
 | sum
 | min | max
 | sorted
 | dict
inductive iE where | append | extend
 | pop
 | get
set_option genCtorIdx false
inductive X where
 | nil | cons (a r:X)
 | k (v:H)
 | v (i:Nat)
 | and (Y:X) | or (Y:X) | not (a:X) | neg (a:X)
 | bin (o:n8) (a b:X)
 | cmp (a:X) (o:iY) (b:X)
 | cmp2 (a:X) (o:iY) (b:X) (bN:iY) (c:X)
 | lst (a5:Bool) (Y:X)
 | tup (Y:X)
 | fdget (ks:List Str) (vals:List H) (key dflt:X)
 | comp (a5:Bool) (t:Nat) (cP:List (Option Nat)) (elt:X) (cond:X) (it:X)
 | compT (a5:Bool) (ts:List Nat) (cP:List (Option Nat)) (elt:X) (it:X)
 | range1 (a:X)
 | call (f:Nat) (args:X)
 | b1 (b:c5) (a:X)
 | min2 (a b:X)
 | isinst (a:X) (t:oc)
 | me (m:iE) (o:X) (args:X)
 | sub (o i:X)
 | slice (o lo hi:X)
 | rev (o:X)
 | enum (a:X)
 | zip (Y:X)
 | dnew (pk:Bool)
 | attr (c:Nat) (o:X) (n:Str)
 | meth (c f:Nat) (n:Str) (o args:X)
 | new (c f:Nat) (args:X)
noncomputable abbrev ai(n:Int):X:=.k (.int n)
noncomputable abbrev ag(i:Int):Option H:=some (.int i)
noncomputable abbrev aT(i:Nat):Option H:=some (.ref i)
noncomputable abbrev bA(s:Str):Option H:=some (.str s)
def aL:Nat:=1000000
def cY(S:ab):H->Option (List H)
 | .fl Y=>some Y
 | .ref i=>match S[i]? with
  | some (.lst Y)=>some Y
  | _=>none
 | _=>none
def eB(S:ab):H->Option (List H)
 | .fl Y=>some Y
 | .tup Y=>some Y
 | .ref i=>match S[i]? with
  | some (.lst Y)=>some Y
  | _=>none
 | _=>none
def wT(s:Str):List H:=s.cps.toList.map fun n=>.str ⟨#[n]⟩
def items(S:ab):H->Option (List H)
 | .str s=>some (wT s)
 | .fl Y=>some Y
 | .tup Y=>some Y
 | .ref i=>match S[i]? with
  | some (.lst Y)=>some Y
  | _=>none
 | _=>none
def dA:Nat->ab->H->Option PyData
 | 0,_,_=>none
 | n+1,S,.tup Y=>(Y.mapM (dA n S)).map .tuple
 | n+1,S,.fl Y=>(Y.mapM (dA n S)).map .list
 | n+1,S,.ref i=>match S[i]? with
  | some (.lst Y)=>(Y.mapM (dA n S)).map .list
  | _=>none
 | _+1,_,.none=>some .none
 | _+1,_,.bool b=>some (.bool b)
 | _+1,_,.int i=>some (.int i)
 | _+1,_,.str s=>some (.str s)
 | _+1,_,.exc _=>none
 | _+1,_,.inst _ _=>none
def eqv(S:ab)(a b:H):Option Bool:=
 match dA 16 S a,dA 16 S b with
 | some x,some y=>some (PyData.eqv x y)
 | _,_=>none
def jM(S:ab)(x:H)(Y:List H):Option Bool:=
 match dA 16 S x,Y.mapM (dA 16 S)with
 | some d,some ds=>some (ds.any fun y=>PyData.eqv y d)
 | _,_=>none
def aD{κ:Type}[DecidableEq κ](k:κ)(Z:List (κ×H)):Option H:=(Z.find? fun e=>decide (e.1=k)).map (·.2)
def ee{κ:Type}[DecidableEq κ](k:κ)(v:H)(Z:List (κ×H)):List (κ×H):=
 if(Z.any fun e=>decide (e.1=k))then Z.map (fun e=>if e.1=k then(e.1,v)else e)else Z++[(k,v)]
def IE:(p:H)->Option { k:Str×Int // p=.tup [.str k.1,.int k.2] }
 | .tup [.str x,.int i]=>some ⟨(x,i),rfl⟩
 | _=>none
def fy(p:H):Option (Str×Int):=(IE p).map (·.1)
theorem Jt{U:Type}{a:U}(h:none=some a):P:=nomatch h
theorem p9{U:Type}{P:U->Prop}{o:Option { a // P a }}{a:U}(h:o.map (·.1)=some a):P a:=by
 cases o with
 | none=>exact nomatch h
 | some q=>refine oi h<$>?_;exact q.2
def jU(k:Str):List (Str×H)->Option H
 | []=>none
 | (x,v)::r=>if x=k then some v else jU k r
def fW(i:Int)(n:Nat):Option Nat:=
 if 0<=i then(if i.toNat<n then some i.toNat else none)
 else if 0<=i+n then some (i+n).toNat else none
def io(o:Obj):Prop:=∃Z n,o.data=.dict Z n
def ly(o:Obj):Prop:=(∃Y n,o.data=.seq Y n)\/(∃C vs,o.cls=.ref C/\o.data=.fields vs)\/∃C,o.cls=.ref C/\o.data=.plain
theorem ly.seq{c:Value}{d:Option Addr}{Y:Array Value}{eC:Array (Option Value)}:ly { cls:=c,dict:=d,data:=.seq Y n,slots:=eC }:=.inl (eQ Y n rfl)
theorem io.notSolid(d:io o):¬ly o:=by
 refine eM d fun Z n d=>?_
 rintro(⟨Y,m,e⟩ | ⟨C,vs,_,e⟩ | ⟨C,_,e⟩) <;> rw[d]at e <;> contradiction
def j7(fr:List Addr)(h':Heap)(b:Addr)(o:Obj):Prop:=h'.get? b=some o\/(b∈fr/\io o/\∃eC,h'.get? b=some { o with slots:=eC })
theorem j7.trans{lJ:Heap}{b:Addr}(x:j7 fr h' b o)(y:∀a8,h'.get? b=some a8->j7 fr lJ b a8):j7 fr lJ b o:=by
 rcases x with x | ⟨f,d,eC,x⟩
 ·rcases y o x with y | ⟨f,d,eC,y⟩
  ·exact .inl y
  ·exact .inr ⟨f,d,eC,y⟩
 ·rcases y _ x with y | ⟨_,_,Wd,y⟩
  ·exact .inr ⟨f,d,eC,y⟩
  ·exact .inr ⟨f,d,Wd,y⟩
theorem j7.ns{b:Addr}{m:Str->Option Value}(n:h.Ns b m)(e:h.get? b=some o)(x:j7 fr h' b o):h'.Ns b m:=by
 refine jc n fun a8 Z c0 aP r=>?_;rw[e]at aP;obtain rfl:=oi aP
 rcases x with x | ⟨_,d,eC,x⟩
 ·exact oz o Z c0 x r
 ·exact oz _ Z c0 x r
theorem j7.same{b:Addr}(x:j7 fr h' b o)(n:¬io o):h'.get? b=some o:=by
 exact bZ x (fun x=>x) (fun hr=>d6 hr fun u d u=>absurd d n)
theorem j7.not{b:Addr}(x:j7 fr h' b o)(n:b∉fr):h'.get? b=some o:=by
 exact bZ x (fun x=>x) (fun hr=>aN hr fun f u=>absurd f n)
structure aw where
 ix:List Addr
 hid:List Addr
 fr:List Addr
def aw.all(U:aw):List Addr:=U.ix++U.hid
inductive am(h:Heap)(U:aw):H->Value->Prop where
 | none:am h U .none .none
 | bool (b:Bool):am h U (.bool b) (.bool b)
 | int (i:Int) (t:Tok):am h U (.int i) (.int i t)
 | str (s:Str) (t:Tok):PyData.strOk s=true->am h U (.str s) (.str s t)
 | tup {Y:List H} {a:Addr} {items:Array Value} {n:Nat}:h.get? a=some { cls:=.type "tuple",data:=.seq items n }->a∉U.all->Y.length=items.size ->
   (∀(i:Nat) (x:H) (v:Value),Y[i]?=some x->items[i]?=some v->am h U x v)->am h U (.tup Y) (.ref a)
 | fl {Y:List H} {a:Addr} {items:Array Value} {n:Nat}:h.get? a=some { cls:=.type "list",data:=.seq items n }->a∉U.all->Y.length=items.size ->
   (∀(i:Nat) (x:H) (v:Value),Y[i]?=some x->items[i]?=some v->am h U x v)->am h U (.fl Y) (.ref a)
 | ref {i:Nat} {a:Addr}:U.ix[i]?=some a->am h U (.ref i) (.ref a)
 | exc {c:Nat} {a:Addr} {o:Obj} {vs:Array Value}:h.get? a=some o->o.cls=.ref c->o.data=.fields vs->a∉U.all->am h U (.exc c) (.ref a)
 | inst {c i:Nat} {a D:Addr}:h.get? a=some { cls:=.ref c,dict:=some D,data:=.plain }->a∉U.all->U.ix[i]?=some D->am h U (.inst c i) (.ref a)
structure a4(F:List Addr)(U:aw)(h:Heap)(α':aw)(h':Heap):Prop where
 hid:α'.hid=U.hid
 pre:∃β,α'.ix=U.ix++β/\∀x∈β,h.get? x=none/\x∉F
 seqs:∀b o,b∉U.ix->h.get? b=some o->ly o->h'.get? b=some o
 rest:∀b o,b∉U.ix->b∉F->h.get? b=some o->j7 U.fr h' b o
 alive:∀b o,b∉F->h.get? b=some o->∃a8,h'.get? b=some a8
 fre:α'.fr=U.fr
theorem a4.refl{F U h}:a4 F U h U h:=
 ⟨rfl,(aI ([]) (by simp) (fun u hx=>(nomatch hx))),fun u u u e u=>e,fun u u u u e=>.inl e,fun u o u e=>⟨o,e⟩,rfl⟩
theorem a4.keeps{F U h h'}(k:∀b o,h.get? b=some o->h'.get? b=some o):a4 F U h U h':=
 ⟨rfl,(aI ([]) (by simp) (fun u hx=>(nomatch hx))),fun b o u e u=>k b o e,fun b o u u e=>.inl (k b o e),fun b o u e=>⟨o,k b o e⟩,rfl⟩
theorem a4.notMem{F U h α' h'}(x:a4 F U h α' h'){b:Addr}(hb:b∉U.ix)(e:h.get? b=some o):b∉α'.ix:=by
 refine ay x.pre fun β q a7=>q<&>?_;intro hm
 rcases dt.mp hm with q | q
 ·exact hb q
 ·rw[(a7 b q).1]at e;contradiction
theorem aw.not_ix{U:aw}{b:Addr}(h:b∉U.all):b∉U.ix:=fun q=>h (hX _ q)
theorem a4.notAll{F U h α' h'}(x:a4 F U h α' h'){b:Addr}(hb:b∉U.all)(e:h.get? b=some o):b∉α'.all:=by
 intro hm
 rcases dt.mp hm with q | q
 ·exact x.notMem (aw.not_ix hb) e q
 ·rw[x.hid]at q;exact hb (fb _ q)
theorem a4.mono{F xx U h α' h'}(x:a4 F U h α' h')(bW:∀b∈F,b∈xx)(al:∀b∈xx,∃o,h.get? b=some o):a4 xx U h α' h':=by
 refine ay x.pre fun β e a7=>?_
 exact⟨x.hid,(aI β e (fun y aG=>⟨(a7 y aG).1,fun q=>by refine aF (al y q) fun o ho=>?_;rw[(a7 y aG).1]at ho;cases ho⟩)),x.seqs,fun b o hb Qn e=>x.rest b o hb (fun q=>Qn (bW b q)) e,
  fun b o hb e=>x.alive b o (fun q=>hb (bW b q)) e,x.fre⟩
theorem a4.trans{F U h α' h' ky lJ}(x:a4 F U h α' h')(y:a4 F α' h' ky lJ):a4 F U h ky lJ:=by
 refine ay x.pre fun β q1 a7=>ay y.pre fun γ q2 hg=>⟨y.hid.trans x.hid,(aI (β++γ) (q2<&>q1<&>cN<&>rfl) (fun a ha=>?_)),fun b o hb e hs=>?_,fun b o hb bW e=>?_,fun b o hb e=>?_,y.fre.trans x.fre⟩
 ·rcases dt.mp ha with q | q
  ·exact a7 a q
  ·refine⟨?_,(hg a q).2⟩
   cases hq:h.get? a with
   | none=>rfl
   | some o =>
    refine aF (x.alive a o (hg a q).2 hq) fun a8 zW=>?_;rw[(hg a q).1]at zW;contradiction
 ·exact y.seqs b o (x.notMem hb e) (x.seqs b o hb e hs) hs
 ·exact(x.rest b o hb bW e).trans fun a8 aP=>x.fre▸y.rest b a8 (x.notMem hb e) bW aP
 ·exact aF (x.alive b o hb e) fun a8 aP=>y.alive b a8 hb aP
theorem a4.drop{F own U h α' h' ky lJ}(x:a4 [] U h α' h')(hown:∀b∈own,h.get? b=none)(al:∀b∈F,∃o,h.get? b=some o)(y:a4 (own++F) α' h' ky lJ):a4 F U h ky lJ:=by
 refine ay x.pre fun β q1 a7=>ay y.pre fun γ q2 hg=>?_
 have no:∀b o,h.get? b=some o->b∉own:=fun b o e q=>by rw[hown b q]at e;contradiction
 refine⟨y.hid.trans x.hid,(aI (β++γ) (q2<&>q1<&>cN<&>rfl) (fun a ha=>?_)),fun b o hb e hs=>?_,fun b o hb bW e=>?_,fun b o hb e=>?_,y.fre.trans x.fre⟩
 ·rcases dt.mp ha with q | q
  ·refine⟨(a7 a q).1,fun Bf=>(aF (al a Bf) fun o ho=>?_)⟩;rw[(a7 a q).1]at ho;contradiction
  ·refine⟨?_,fun Bf=>(hg a q).2 (fb _ Bf)⟩
   cases hq:h.get? a with
   | none=>rfl
   | some o =>
    refine aF (x.alive a o (dM) hq) fun a8 zW=>?_;rw[(hg a q).1]at zW;contradiction
 ·exact y.seqs b o (x.notMem hb e) (x.seqs b o hb e hs) hs
 ·exact(x.rest b o hb (dM) e).trans fun a8 aP=>x.fre▸y.rest b a8 (x.notMem hb e) (fun q=>by
   rcases dt.mp q with q | q
   ·exact no b o e q
   ·exact bW q) aP
 ·refine aF (x.alive b o (dM) e) fun a8 aP=>?_
  exact y.alive b a8 (fun q=>by
   rcases dt.mp q with q | q
   ·exact no b o e q
   ·exact hb q) aP
theorem a4.get{F U h α' h'}(x:a4 F U h α' h'){a:Addr}(e:U.ix[i]?=some a):α'.ix[i]?=some a:=by
 exact ay x.pre fun β q u=>q<&>fZ (dv e).1<&>e
section
variable {U:aw}{v:Value}
theorem am.noneE(r:am h U .none v):v=.none:=by cases r;rfl
theorem am.boolE{b:Bool}(r:am h U (.bool b) v):v=.bool b:=by cases r;rfl
theorem am.intE{i:Int}(r:am h U (.int i) v):∃t,v=.int i t:=by cases r;exact⟨_,rfl⟩
theorem am.strE{x:Str}(r:am h U (.str x) v):∃t,v=.str x t/\PyData.strOk x=true:=by
 cases r with
 | str _ t h=>exact aI _ rfl h
theorem am.refE(r:am h U (.ref i) v):∃a,v=.ref a/\U.ix[i]?=some a:=by
 cases r with
 | ref e=>exact aI _ rfl e
end
theorem am.ext{F U h α' h'}(x:a4 F U h α' h'){p:H}{v:Value}(r:am h U p v):am h' α' p v:=by
 induction r with
 | none=>exact .none
 | bool b=>exact .bool b
 | int i t=>exact .int i t
 | str s t hs=>exact .str s t hs
 | tup e hn hl _ af=>exact .tup (x.seqs _ _ (aw.not_ix hn) e .seq) (x.notAll hn e) hl af
 | fl e hn hl _ af=>exact .fl (x.seqs _ _ (aw.not_ix hn) e .seq) (x.notAll hn e) hl af
 | ref e=>exact .ref (x.get e)
 | exc e hc hd hn=>exact .exc (x.seqs _ _ (aw.not_ix hn) e (.inr (.inl (fF _ _ hc hd)))) hc hd (x.notAll hn e)
 | inst e hn hi=>exact .inst (x.seqs _ _ (aw.not_ix hn) e (.inr (.inr (aI _ rfl rfl)))) (x.notAll hn e) (x.get hi)
def bp(h:Heap)(U:aw)(Y:List H)(vs:List Value):Prop:=
 Y.length=vs.length/\∀(i:Nat) (x:H) (v:Value),Y[i]?=some x->vs[i]?=some v->am h U x v
theorem bp.nil{h U}:bp h U [] []:=⟨rfl,fun u u u e=>(nomatch e)⟩
theorem bp.cons{h U x Y v vs}(a:am h U x v)(b:bp h U Y vs):bp h U (x::Y) (v::vs):=by
 refine⟨by simp[b.1],fun i y w V ah=>?_⟩
 cases i with
 | zero=>simp at V ah;subst V ah;exact a
 | succ i=>simp at V ah;exact b.2 i y w V ah
theorem bp.ext{F U h α' h'}(x:a4 F U h α' h'){p:List H}{v:List Value}(r:bp h U p v):bp h' α' p v:=
 ⟨r.1,fun i a b V ah=>(r.2 i a b V ah).ext x⟩
theorem bp.inv_cons{h U x Y vs}(r:bp h U (x::Y) vs):∃v xd,vs=v::xd/\am h U x v/\bp h U Y xd:=by
 cases vs with
 | nil=>simp[bp]at r
 | cons v xd=>exact kh v xd rfl (r.2 0 x v (by rfl) (by rfl)) (by have:=r.1;simp at this;exact this) (fun i a b V ah=>r.2 (i+1) a b (by simpa using V) (by simpa using ah))
theorem bp.append{h U Y vs ys ws}(a:bp h U Y vs)(b:bp h U ys ws):bp h U (Y++ys) (vs++ws):=by
 refine⟨by simp[a.1,b.1],fun i y w V ah=>?_⟩;by_cases hi:i<Y.length
 ·rw[fZ hi]at V;rw[fZ (a.1▸hi)]at ah;exact a.2 i y w V ah
 ·rw[gh (by omega)]at V;rw[gh (by refine a.1▸?_;omega),<- a.1]at ah;exact b.2 _ y w V ah
theorem am.tupI{U:aw}{Y:List H}{a:Addr}{items:List Value}(e:h.get? a=some { cls:=.type "tuple",data:=.seq items.toArray n })(hn:a∉U.all)(r:bp h U Y items):am h U (.tup Y) (.ref a):=
 .tup e hn (by simpa using r.1) fun i x v V ah=>r.2 i x v V (by simpa using ah)
theorem am.flI{U:aw}{Y:List H}{a:Addr}{items:List Value}(e:h.get? a=some { cls:=.type "list",data:=.seq items.toArray n })(hn:a∉U.all)(r:bp h U Y items):am h U (.fl Y) (.ref a):=
 .fl e hn (by simpa using r.1) fun i x v V ah=>r.2 i x v V (by simpa using ah)
inductive SeqAt(T:String)(h:Heap)(U:aw)(Y:List H)(v:Value):Prop
 | mk (a:Addr) (items:List Value) (n:Nat) (e:v=.ref a) (ba:h.get? a=some { cls:=.type T,data:=.seq (List.toArray items) n }) (hn:a∉U.all) (vs:bp h U Y items):SeqAt T h U Y v
theorem am.tupE{U:aw}{Y:List H}{v:Value}(r:am h U (.tup Y) v):SeqAt "tuple" h U Y v:=by
 cases r with
 | tup e hn hl hr=>exact⟨_,_,_,rfl,by simpa using e,hn,by simpa using hl,fun i x v V ah=>hr i x v V (by simpa using ah)⟩
theorem am.flE{U:aw}{Y:List H}{v:Value}(r:am h U (.fl Y) v):SeqAt "list" h U Y v:=by
 cases r with
 | fl e hn hl hr=>exact⟨_,_,_,rfl,by simpa using e,hn,by simpa using hl,fun i x v V ah=>hr i x v V (by simpa using ah)⟩
structure bG where
 calls:Nat->Nat->List H->ab->aj H
 md:Nat
noncomputable abbrev bG.call(C:bG):Nat->List H->ab->aj H:=C.calls C.md
def bG.hd(C:bG):Bool:=C.md != 0
def hT(w:Option (Nat×aX))(S:ab):Prop:=
 match w with
 | none=>True
 | some (i,m)=>S[i]?=some m
def x8:Option H->List H->List H
 | some v,ys=>v::ys
 | none,ys=>ys
def dY(w:Option (Nat×aX))(f:H->ab->aj (Option H)):List H->ab->aj (List H)
 | [],S=>if hT w S then .ok [] S else .stuck
 | x::Y,S=>if hT w S then(f x S).bind fun y S=>(dY w f Y S).bind fun ys S=>.ok (x8 y ys) S else .stuck
def h3(n:Nat)(c:aj (List H))(f:List H->ab->aj H):aj H:=
 match c with
 | .ok ys S=>f ys S
 | _=>.stuck
def o2(S:ab):H->Option (Nat×aX)
 | .ref i=>match S[i]? with
  | some (.lst Y)=>some (i,.lst Y)
  | _=>none
 | _=>none
def eO(a5:Bool)(Y:List H)(S:ab):aj H:=
 if Y.length<=aL then(if a5 then .ok (.fl Y) S else .ok (.ref S.length) (S++[.lst Y]))else .stuck
def cR(a c:Int)(n:Nat):List H:=(List.range n).map fun(i:Nat)=>.int (a+(i:Int)*c)
def rX(a b:Int):Bool:=decide (a.natAbs<2 ^ 60\/b.natAbs<2 ^ 60)
def sO(f:Int->Int->aj H)(a b:H):aj H:=
 match a with
 | .int x=>match b with
  | .int y=>f x y
  | _=>.stuck
 | _=>.stuck
def xP(a b:H)(S:ab):aj H:=
 match a with
 | .int x=>match b with
  | .int y=>.ok (.int (x+y)) S
  | _=>.stuck
 | .str x=>match b with
  | .str y=>if x.length+y.length<=aL then .ok (.str (x++y)) S else .stuck
  | _=>.stuck
 | .tup x=>match b with
  | .tup y=>if x.length+y.length<=aL then .ok (.tup (x++y)) S else .stuck
  | _=>.stuck
 | a=>match cY S a with
  | some x=>match cY S b with
   | some y=>if x.length+y.length<=aL then .ok (.fl (x++y)) S else .stuck
   | none=>.stuck
  | none=>.stuck
def Jj(a b:H)(S:ab):aj H:=
 match b with
 | .int y=>match a with
  | .int x=>if rX x y then .ok (.int (x*y)) S else .stuck
  | .str x=>if x.length<=100/\0<=y/\y<=100 then .ok (.str (Txt.mul x y)) S else .stuck
  | _=>.stuck
 | _=>.stuck
def kQ(o:n8)(a b:H)(S:ab):aj H:=
 match o with
 | .add=>xP a b S
 | .sub=>sO (fun x y=>.ok (.int (x-y)) S) a b
 | .mul=>Jj a b S
 | .mod=>sO (fun x y=>if 0<y then .ok (.int (x%y)) S else .stuck) a b
 | .fdiv=>sO (fun x y=>if 0<y/\y<1073741824 then .ok (.int (x/y)) S else .stuck) a b
 | .pow=>sO (fun x n=>if 0<=n/\n<=100/\x=10 then .ok (.int (x ^ n.toNat)) S else .stuck) a b
def t3(f:Int->Int->Bool)(a b:H)(S:ab):aj Bool:=
 match a with
 | .int x=>match b with
  | .int y=>.ok (f x y) S
  | _=>.stuck
 | _=>.stuck
def jj:H->Bool
 | .none=>true
 | _=>false
def Ar(f:Bool->Bool)(a b:H)(S:ab):aj Bool:=
 match b with
 | .none=>.ok (f (jj a)) S
 | .bool y=>match a with
  | .bool x=>.ok (f (decide (x=y))) S
  | _=>.stuck
 | _=>.stuck
def fH(a b:H)(S:ab):Option Bool:=
 match b with
 | .str y=>match a with
  | .str x=>match x.cps.toList with
   | [c]=>some (y.cps.toList.contains c)
   | _=>none
  | _=>none
 | .tup Y=>jM S a Y
 | .fl Y=>jM S a Y
 | .ref r=>match S[r]? with
  | some (.lst Y)=>jM S a Y
  | some (.ds Z)=>match a with
   | .str k=>some (aD k Z).isSome
   | _=>none
  | some (.dp Z)=>(fy a).map fun k=>(aD k Z).isSome
  | _=>none
 | _=>none
def d2(o:iY)(a b:H)(S:ab):aj Bool:=
 match o with
 | .eq=>aj.ofOpt (eqv S a b) S
 | .ne=>aj.ofOpt ((eqv S a b).map (!·)) S
 | .lt=>t3 (fun x y=>decide (x<y)) a b S
 | .le=>t3 (fun x y=>decide (x<=y)) a b S
 | .gt=>t3 (fun x y=>decide (x > y)) a b S
 | .ge=>t3 (fun x y=>decide (x>=y)) a b S
 | .is=>Ar id a b S
 | .isNot=>Ar (!·) a b S
 | .isin=>aj.ofOpt (fH a b S) S
 | .notin=>aj.ofOpt ((fH a b S).map (!·)) S
def gF:List H->Option (List Int)
 | []=>some []
 | .int i::r=>(gF r).map (i::·)
 | _::_=>none
def op:List H->Option (List Bool)
 | []=>some []
 | .bool b::r=>(op r).map (b::·)
 | _::_=>none
def ni:List H->Option (List Str)
 | []=>some []
 | .str s::r=>(ni r).map (s::·)
 | _::_=>none
def ow(l:List Str):List Str:=l.foldl (fun a x=>if a.any (· == x)then a else a++[x]) []
def eI(l:List Int):List Int:=l.mergeSort (fun a b=>decide (a<=b))
def iq(a b:Str×Int):Bool:=if a.1=b.1 then decide (a.2<b.2)else decide (a.1.cps.toList<b.1.cps.toList)
def mn(l:List (Str×Int)):Prop:=l.Pairwise fun a b=>iq b a=false
def nO(l:List (Str×Int)):List (Str×Int):=Classical.epsilon fun r=>r.Perm l/\mn r
def we(k:Str×Int):H:=.tup [.str k.1,.int k.2]
def nP(Y:List H):Option (List H):=
 match gF Y with
 | some l=>if l.length<64 then some ((eI l).map .int)else none
 | none=>(Y.mapM fy).bind fun ks=>if ks.length<128/\ks.Nodup then some ((nO ks).map we)else none
def kq(f:List H->aj H)(a:H)(S:ab):aj H:=
 match eB S a with
 | some Y=>f Y
 | none=>.stuck
def fm{U:Type}(g:List H->Option U)(f:U->aj H)(a:H)(S:ab):aj H:=
 match(cY S a).bind g with
 | some l=>f l
 | none=>.stuck
def SI(a:H)(S:ab):aj H:=
 match a with
 | .str s=>if s.length<=aL then .ok (.int s.length) S else .stuck
 | a=>kq (fun Y=>if Y.length<=aL then .ok (.int Y.length) S else .stuck) a S
def Rz(a:H)(S:ab):aj H:=
 match a with
 | .bool b=>.ok (.int (if b then 1 else 0)) S
 | _=>.stuck
def WU(a:H)(S:ab):aj H:=
 match a with
 | .str s=>.ok (.str s) S
 | .int i=>if 0<=i/\i<1000000000 then .ok (.str (Str.ofString (toString i))) S else .stuck
 | _=>.stuck
def r6:H->Option ((Str×Int)×H)
 | .tup [k,v]=>(fy k).map (·,v)
 | _=>none
def t7(Y:List H):Option (List ((Str×Int)×H)):=(Y.mapM r6).bind fun l=>if l.length<=1000 then some l else none
def p6(Y:List H):Option Nat:=
 match ni Y with
 | some l=>if l.length<=1000 then some (ow l).length else none
 | none=>(Y.mapM fy).bind fun ks=>if ks.length<128/\ks.Nodup then some ks.length else none
def p7(S:ab)(Y:Option (List H)):aj H:=
 match Y.bind p6 with
 | some n=>.ok (.int n) S
 | none=>.stuck
def dN(b:c5)(a:H)(S:ab):aj H:=
 match b with
 | .dict=>fm t7 (fun l=>.ok (.ref S.length) (S++[.dp (l.foldl (fun Z e=>ee e.1 e.2 Z) [])])) a S
 | .len=>SI a S
 | .list a5=>kq (fun Y=>eO a5 Y S) a S
 | .tuple=>kq (fun Y=>if Y.length<=aL then .ok (.tup Y) S else .stuck) a S
 | .sum=>fm gF (fun l=>if l.length<=1000/\l.all (fun x=>decide (x.natAbs<2 ^ 40))then .ok (.int l.sum) S else .stuck) a S
 | .min=>fm gF (fun l=>match l with
  | x::l=>.ok (.int (l.foldl min x)) S
  | []=>.stuck) a S
 | .max=>fm gF (fun l=>match l with
  | x::l=>.ok (.int (l.foldl max x)) S
  | []=>.stuck) a S
 | .sorted=>fm nP (fun l=>.ok (.fl l) S) a S
 | .all=>fm op (fun l=>.ok (.bool (l.all id)) S) a S
 | .int=>Rz a S
 | .str=>WU a S
 | .lenset=>p7 S (eB S a)
def vP:c5->Bool
 | .all | .lenset=>true
 | .sum=>true
 | .min | .max=>true
 | .dict=>true
 | _=>false
def jB(hd:Bool)(b:c5)(a:H)(S:ab):aj H:=bif hd&&vP b then .stuck else dN b a S
def oN(a:H)(t:oc)(S:ab):aj Bool:=
 match t with
 | .int=>match a with
  | .int _=>.ok true S
  | .bool _=>.ok true S
  | .none=>.ok false S
  | .str _=>.ok false S
  | _=>.stuck
 | .bool=>match a with
  | .bool _=>.ok true S
  | .int _=>.ok false S
  | .none=>.ok false S
  | .str _=>.ok false S
  | _=>.stuck
 | .str=>match a with
  | .str _=>.ok true S
  | .int _=>.ok false S
  | .none=>.ok false S
  | .bool _=>.ok false S
  | .tup _=>.ok false S
  | _=>.stuck
 | .tuple=>match a with
  | .tup _=>.ok true S
  | .str _=>.ok false S
  | .int _=>.ok false S
  | _=>.stuck
 | .list=>match a with
  | .tup _=>.ok false S
  | a=>match cY S a with
   | some _=>.ok true S
   | none=>.stuck
def nD(Y:List H)(i:Int)(S:ab):aj H:=if Y.length<=aL then aj.ofOpt ((fW i Y.length).bind (Y[·]?)) S else .stuck
def nQ(o i:H)(S:ab):aj H:=
 match o with
 | .ref r=>match S[r]? with
  | some (.ds Z)=>match i with
   | .str k=>aj.ofOpt (aD k Z) S
   | _=>.stuck
  | some (.dp Z)=>aj.ofOpt ((fy i).bind fun k=>aD k Z) S
  | _=>.stuck
 | _=>.stuck
def ga(o i:H)(S:ab):aj H:=
 match i with
 | .int i=>match o with
  | .str s=>if s.cps.size<=aL then
    match(fW i s.cps.size).bind (s.cps[·]?)with
    | some c=>.ok (.str ⟨#[c]⟩) S
    | none=>.stuck
   else .stuck
  | .tup Y=>nD Y i S
  | o=>match cY S o with
   | some Y=>nD Y i S
   | none=>.stuck
 | i=>nQ o i S
def t2:H->Option (Option Int)
 | .none=>some none
 | .int i=>some (some i)
 | _=>none
def h6{U:Type}(Y:List U)(lo hi:Option Int):List U:=
 (Y.drop (lo.elim 0 (clipAt Y.length))).take (hi.elim Y.length (clipAt Y.length)-lo.elim 0 (clipAt Y.length))
def Bu(S:ab)(o:H)(lo hi:Option Int):Option H:=
 match o with
 | .tup Y=>if Y.length<=aL then some (.tup (h6 Y lo hi))else none
 | o=>(cY S o).bind fun Y=>if Y.length<=aL then some (.fl (h6 Y lo hi))else none
def si(o lo hi:H)(S:ab):aj H:=aj.ofOpt ((t2 lo).bind fun lo=>(t2 hi).bind fun hi=>Bu S o lo hi) S
def uc(o:H)(S:ab):aj H:=
 match cY S o with
 | some Y=>if Y.length<=aL then .ok (.fl Y.reverse) S else .stuck
 | none=>.stuck
def AT(a:H)(S:ab):aj H:=
 match a with
 | .int i=>.ok (.int (-i)) S
 | _=>.stuck
def jH(o:H)(S:ab):Bool:=
 match o with
 | .ref r=>match S[r]? with
  | some (.lst _)=>true
  | _=>false
 | _=>false
def tK(o:H)(S:ab):Bool:=
 match o with
 | .ref r=>match S[r]? with
  | some (.ds _)=>true
  | some (.dp _)=>true
  | _=>false
 | _=>false
def qa(m:iE)(o:H)(S:ab):Bool:=
 match m with
 | .append | .extend=>jH o S
 | .pop=>jH o S
 | .get=>tK o S
def lC(o v:H)(S:ab):aj H:=
 match o with
 | .ref r=>match S[r]? with
  | some (.lst Y)=>if Y.length<aL then .ok .none (S.set r (.lst (Y++[v])))else .stuck
  | _=>.stuck
 | _=>.stuck
def nq(o v:H)(S:ab):aj H:=
 match o with
 | .ref r=>match S[r]? with
  | some (.lst Y)=>match v with
   | .tup ys=>if Y.length+ys.length<=aL then .ok .none (S.set r (.lst (Y++ys)))else .stuck
   | .fl ys=>if Y.length+ys.length<=aL then .ok .none (S.set r (.lst (Y++ys)))else .stuck
   | _=>.stuck
  | _=>.stuck
 | _=>.stuck
def s8(o v:H)(S:ab):aj H:=
 match o with
 | .ref r=>match S[r]? with
  | some (.ds Z)=>match v with
   | .str k=>.ok ((aD k Z).getD .none) S
   | _=>.stuck
  | some (.dp Z)=>match fy v with
   | some k=>.ok ((aD k Z).getD .none) S
   | none=>.stuck
  | _=>.stuck
 | _=>.stuck
def qh(o v:H)(S:ab):aj H:=
 match o with
 | .ref r=>match S[r]? with
  | some (.lst Y)=>match v with
   | .int i=>if 0<=i/\Y.length<=aL then match Y[i.toNat]? with
     | some v=>.ok v (S.set r (.lst (Y.eraseIdx i.toNat)))
     | none=>.stuck
    else .stuck
   | _=>.stuck
  | _=>.stuck
 | _=>.stuck
def kn(m:iE)(o:H)(args:List H)(S:ab):aj H:=
 match args with
 | [v]=>match m with
  | .append=>lC o v S
  | .extend=>nq o v S
  | .pop=>qh o v S
  | .get=>s8 o v S
 | _=>.stuck
def rV(x y:H)(S:ab):aj H:=
 match x,y with
 | .int x,.int y=>.ok (.int (min x y)) S
 | _,_=>.stuck
def sQ(c:Nat)(o:H)(n:Str)(S:ab):aj H:=
 match o with
 | .inst b5 i=>if b5=c then(match S[i]? with
  | some (.ns fs)=>aj.ofOpt (aD n fs) S
  | _=>.stuck)else .stuck
 | _=>.stuck
def s6(ks:List Str)(vals:List H)(key dflt:H)(S:ab):aj H:=
 match key with
 | .str k=>.ok ((jU k (ks.zip vals)).getD dflt) S
 | _=>.stuck
def kv(v:H)(S:ab):aj Bool:=
 match v with
 | .bool b=>.ok b S
 | _=>.stuck
def eh(v:H)(S:ab):aj (List H×Option (Nat×aX)):=
 match items S v with
 | some Y=>.ok (Y,o2 S v) S
 | none=>.stuck
def qo(a:H)(S:ab):aj (List H×Option (Nat×aX)):=
 match a with
 | .int n=>if 0<=n/\n<=aL then .ok (cR 0 1 n.toNat,none) S else .stuck
 | _=>.stuck
def lW:Nat->List H->List H
 | _,[]=>[]
 | i,x::r=>.tup [.int i,x]::lW (i+1) r
def pw(a:H)(S:ab):aj (List H×Option (Nat×aX)):=
 match cY S a with
 | some Y=>if Y.length<=aL then .ok (lW 0 Y,o2 S a) S else .stuck
 | none=>.stuck
def m4:List H->List H->List H
 | x::r,y::q=>.tup [x,y]::m4 r q
 | _,_=>[]
def qE(a b:H)(S:ab):aj (List H×Option (Nat×aX)):=
 match a,b with
 | .tup Y,.fl ys=>if Y.length=ys.length/\ys.length<=aL then .ok (m4 Y ys,some (S.length,.tp)) (S++[.tp])else .stuck
 | _,_=>.stuck
def xl(vs:List H)(S:ab):aj (List H×Option (Nat×aX)):=
 match vs with
 | [a,b]=>qE a b S
 | _=>.stuck
def dz(cP:List (Option Nat))(R:aB):aB:=cP.map fun(o:Option Nat)=>match o with | some i=>(R[i]?).join | none=>none
def uy(R:aB)(i:Nat)(S:ab):aj H:=
 match R[i]? with
 | some (some v)=>.ok v S
 | _=>.stuck
def qv:List Nat->List H->aB->Option aB
 | [],[],R=>some R
 | i::is,v::vs,R=>qv is vs (R.set i (some v))
 | _,_,_=>none
def eG(is:List Nat)(v:H)(R:aB):Option aB:=
 match v with
 | .tup Y=>if Y.length<=100 then qv is Y R else none
 | _=>none
def mT{U:Type}(f:aB->aj U):Option aB->aj U
 | some R=>f R
 | none=>.stuck
structure iB where
 ev:aB->ab->aj H
 tst:aB->ab->aj Bool
 evs:aB->ab->aj (List H)
 evAnd:aB->ab->aj H
 evOr:aB->ab->aj H
 tstAnd:aB->ab->aj Bool
 tstOr:aB->ab->aj Bool
 evIt:aB->ab->aj (List H×Option (Nat×aX))
def iB.two(e:aB->ab->aj H)(t:aB->ab->aj Bool):iB:=
 ⟨e,t,fun u u=>.stuck,fun u u=>.stuck,fun u u=>.stuck,fun u u=>.stuck,fun u u=>.stuck,fun R S=>(e R S).bind eh⟩
def iB.val(e:aB->ab->aj H):iB:=iB.two e fun R S=>(e R S).bind kv
def iB.nil:iB:=
 ⟨fun u u=>.stuck,fun u u=>.stuck,fun u S=>.ok [] S,fun u u=>.stuck,fun u u=>.stuck,fun u S=>.ok true S,fun u S=>.ok false S,fun u u=>.stuck⟩
def iB.cons(a:iB)(last:Bool)(r:iB):iB:=
 ⟨fun u u=>.stuck,fun u u=>.stuck,fun R S=>(a.ev R S).bind fun v S=>(r.evs R S).bind fun vs S=>.ok (v::vs) S,
  fun R S=>if last then a.ev R S else(a.ev R S).bind fun v S=>(kv v S).bind fun b S=>if b then r.evAnd R S else .ok v S,
  fun R S=>if last then a.ev R S else(a.ev R S).bind fun v S=>(kv v S).bind fun b S=>if b then .ok v S else r.evOr R S,
  fun R S=>(a.tst R S).bind fun b S=>if b then r.tstAnd R S else .ok false S,
  fun R S=>(a.tst R S).bind fun b S=>if b then .ok true S else r.tstOr R S,
  fun u u=>.stuck⟩
def iB.it(f:aB->ab->aj (List H×Option (Nat×aX))):iB:=
 ⟨fun u u=>.stuck,fun u u=>.stuck,fun u u=>.stuck,fun u u=>.stuck,fun u u=>.stuck,fun u u=>.stuck,fun u u=>.stuck,f⟩
def X.isNil:X->Bool
 | .nil=>true
 | _=>false
def qb(C:bG)(c f:Nat)(n:Str)(x:H)(args:ab->aj (List H))(S:ab):aj H:=
 match x with
 | .inst b5 i=>if b5=c then(match S[i]? with
  | some (.ns fs)=>(match aD n fs with
   | none=>(args S).bind fun vs S=>C.call f (.inst b5 i::vs) S
   | some _=>.stuck)
  | _=>.stuck)else .stuck
 | _=>.stuck
def qf(C:bG)(c f:Nat)(vs:List H)(S:ab):aj H:=
 (C.call f (.inst c S.length::vs) (S++[.ns []])).bind fun v σ'=>match v with
  | .none=>.ok (.inst c S.length) σ'
  | _=>.stuck
def cp(C:bG):X->iB
 | .nil=>iB.nil
 | .cons a r=>iB.cons (cp C a) r.isNil (cp C r)
 | .k v=>.val fun u S=>.ok v S
 | .v i=>.val fun R S=>uy R i S
 | .and Y=>.two (cp C Y).evAnd (cp C Y).tstAnd
 | .or Y=>.two (cp C Y).evOr (cp C Y).tstOr
 | .not a=>.two (fun R S=>((cp C a).ev R S).bind fun v S=>(kv v S).bind fun b S=>.ok (.bool (!b)) S) (fun R S=>((cp C a).tst R S).bind fun b S=>.ok (!b) S)
 | .neg a=>.val fun R S=>((cp C a).ev R S).bind AT
 | .bin o a b=>.val fun R S=>((cp C a).ev R S).bind fun x S=>((cp C b).ev R S).bind fun y S=>kQ o x y S
 | .cmp a o b=>.two (fun R S=>((cp C a).ev R S).bind fun x S=>((cp C b).ev R S).bind fun y S=>(d2 o x y S).bind fun r S=>.ok (.bool r) S)
   (fun R S=>((cp C a).ev R S).bind fun x S=>((cp C b).ev R S).bind fun y S=>d2 o x y S)
 | .cmp2 a o b bN c=>.two (fun R S=>((cp C a).ev R S).bind fun x S=>((cp C b).ev R S).bind fun y S=>(d2 o x y S).bind fun r S =>
   if r then((cp C c).ev R S).bind fun z S=>(d2 bN y z S).bind fun r S=>.ok (.bool r) S else .ok (.bool false) S)
   (fun R S=>((cp C a).ev R S).bind fun x S=>((cp C b).ev R S).bind fun y S=>(d2 o x y S).bind fun r S =>
   if r then((cp C c).ev R S).bind fun z S=>d2 bN y z S else .ok false S)
 | .lst a5 Y=>.val fun R S=>((cp C Y).evs R S).bind fun vs S=>eO a5 vs S
 | .tup Y=>.val fun R S=>((cp C Y).evs R S).bind fun vs S=>if vs.length<=aL then .ok (.tup vs) S else .stuck
 | .fdget ks vals key dflt=>.val fun R S=>((cp C key).ev R S).bind fun k S=>((cp C dflt).ev R S).bind fun d S=>s6 ks vals k d S
 | .comp a5 t cP elt cond it=>.val fun R S=>bif C.hd then .stuck else((cp C it).evIt R S).bind fun(Y,w) S =>
   h3 Y.length (dY w (fun x S =>
    ((cp C cond).tst ((dz cP R).set t (some x)) S).bind fun b S=>if b then((cp C elt).ev ((dz cP R).set t (some x)) S).bind fun v S=>.ok (some v) S else .ok none S) Y S) fun ys S=>eO a5 ys S
 | .compT a5 ts cP elt it=>.val fun R S=>bif C.hd then .stuck else((cp C it).evIt R S).bind fun(Y,w) S =>
   h3 Y.length (dY w (fun x S=>mT (fun R=>((cp C elt).ev R S).bind fun v S=>.ok (some v) S) (eG ts x (dz cP R))) Y S) fun ys S=>eO a5 ys S
 | .range1 a=>.it fun R S=>((cp C a).ev R S).bind qo
 | .enum a=>.it fun R S=>((cp C a).ev R S).bind pw
 | .zip Y=>.it fun R S=>((cp C Y).evs R S).bind xl
 | .dnew pk=>.val fun u S=>.ok (.ref S.length) (S++[bif pk then .dp []else .ds []])
 | .attr c o n=>.val fun R S=>((cp C o).ev R S).bind fun x S=>sQ c x n S
 | .meth c f n o args=>.val fun R S=>((cp C o).ev R S).bind fun x S=>qb C c f n x (fun S=>(cp C args).evs R S) S
 | .new c f args=>.val fun R S=>((cp C args).evs R S).bind fun vs S=>qf C c f vs S
 | .rev o=>.val fun R S=>((cp C o).ev R S).bind fun x S=>uc x S
 | .call f args=>.val fun R S=>((cp C args).evs R S).bind fun vs S=>C.call f vs S
 | .b1 b a=>.val fun R S=>((cp C a).ev R S).bind fun v S=>jB C.hd b v S
 | .min2 a b=>.val fun R S=>bif C.hd then .stuck else((cp C a).ev R S).bind fun x S=>((cp C b).ev R S).bind fun y S=>rV x y S
 | .isinst a t=>.val fun R S=>((cp C a).ev R S).bind fun v S=>(oN v t S).bind fun b S=>.ok (.bool b) S
 | .me m o args=>.val fun R S=>((cp C o).ev R S).bind fun r S=>if qa m r S then((cp C args).evs R S).bind fun vs S=>kn m r vs S else .stuck
 | .sub o i=>.val fun R S=>((cp C o).ev R S).bind fun x S=>((cp C i).ev R S).bind fun y S=>ga x y S
 | .slice o lo hi=>.val fun R S=>((cp C o).ev R S).bind fun x S=>((cp C lo).ev R S).bind fun a S=>((cp C hi).ev R S).bind fun b S=>si x a b S
def ev(C:bG)(x:X)(R:aB)(S:ab):aj H:=(cp C x).ev R S
def evs(C:bG)(x:X)(R:aB)(S:ab):aj (List H):=(cp C x).evs R S
def evAnd(C:bG)(x:X)(R:aB)(S:ab):aj H:=(cp C x).evAnd R S
def evOr(C:bG)(x:X)(R:aB)(S:ab):aj H:=(cp C x).evOr R S
def tst(C:bG)(x:X)(R:aB)(S:ab):aj Bool:=(cp C x).tst R S
def tstAnd(C:bG)(x:X)(R:aB)(S:ab):aj Bool:=(cp C x).tstAnd R S
def tstOr(C:bG)(x:X)(R:aB)(S:ab):aj Bool:=(cp C x).tstOr R S
def evIt(C:bG)(x:X)(R:aB)(S:ab):aj (List H×Option (Nat×aX)):=(cp C x).evIt R S
section
variable {C:bG}{R:aB}{S:ab}
theorem Op:ev C (.v i) R S=uy R i S:=rfl
theorem Ol{Y:X}:ev C (.or Y) R S=evOr C Y R S:=rfl
theorem Oj{a:X}:ev C (.not a) R S=(ev C a R S).bind fun v S=>(kv v S).bind fun b S=>.ok (.bool (!b)) S:=rfl
theorem Oe{o:n8}{a b:X}:ev C (.bin o a b) R S=(ev C a R S).bind fun x S=>(ev C b R S).bind fun y S=>kQ o x y S:=rfl
theorem Of{o:iY}{a b:X}:ev C (.cmp a o b) R S=(ev C a R S).bind fun x S=>(ev C b R S).bind fun y S=>(d2 o x y S).bind fun r S=>.ok (.bool r) S:=rfl
theorem Og{o bN:iY}{a b c:X}:ev C (.cmp2 a o b bN c) R S=(ev C a R S).bind fun x S=>(ev C b R S).bind fun y S=>(d2 o x y S).bind fun r S =>
   if r then(ev C c R S).bind fun z S=>(d2 bN y z S).bind fun r S=>.ok (.bool r) S else .ok (.bool false) S:=rfl
theorem Eb{Y:X}:ev C (.lst a5 Y) R S=(evs C Y R S).bind fun vs S=>eO a5 vs S:=rfl
theorem Oo{Y:X}:ev C (.tup Y) R S=(evs C Y R S).bind fun vs S=>if vs.length<=aL then .ok (.tup vs) S else .stuck:=rfl
theorem Oh{ks:List Str}{vals:List H}{key dflt:X}:ev C (.fdget ks vals key dflt) R S=(ev C key R S).bind fun k S=>(ev C dflt R S).bind fun d S=>s6 ks vals k d S:=rfl
theorem np{t:Nat}{elt cond it:X}:ev C (.comp a5 t cP elt cond it) R S=bif C.hd then .stuck else(evIt C it R S).bind fun(Y,w) S =>
   h3 Y.length (dY w (fun x S =>
    (tst C cond ((dz cP R).set t (some x)) S).bind fun b S=>if b then(ev C elt ((dz cP R).set t (some x)) S).bind fun v S=>.ok (some v) S else .ok none S) Y S) fun ys S=>eO a5 ys S:=rfl
theorem yq{ts:List Nat}{elt it:X}:ev C (.compT a5 ts cP elt it) R S=bif C.hd then .stuck else(evIt C it R S).bind fun(Y,w) S =>
   h3 Y.length (dY w (fun x S=>mT (fun R=>(ev C elt R S).bind fun v S=>.ok (some v) S) (eG ts x (dz cP R))) Y S) fun ys S=>eO a5 ys S:=rfl
theorem vi{f:Nat}{args:X}:ev C (.call f args) R S=(evs C args R S).bind fun vs S=>C.call f vs S:=rfl
theorem Ea{b:c5}{a:X}:ev C (.b1 b a) R S=(ev C a R S).bind fun v S=>jB C.hd b v S:=rfl
theorem Ed{a b:X}:ev C (.min2 a b) R S=bif C.hd then .stuck else(ev C a R S).bind fun x S=>(ev C b R S).bind fun y S=>rV x y S:=rfl
theorem Ec{m:iE}{o args:X}:ev C (.me m o args) R S=(ev C o R S).bind fun r S=>if qa m r S then(evs C args R S).bind fun vs S=>kn m r vs S else .stuck:=rfl
theorem On{o i:X}:ev C (.sub o i) R S=(ev C o R S).bind fun x S=>(ev C i R S).bind fun y S=>ga x y S:=rfl
theorem Om{o lo hi:X}:ev C (.slice o lo hi) R S=(ev C o R S).bind fun x S=>(ev C lo R S).bind fun a S=>(ev C hi R S).bind fun b S=>si x a b S:=rfl
theorem iM:evs C .nil R S=.ok [] S:=rfl
theorem mD{a r:X}:evs C (.cons a r) R S=(ev C a R S).bind fun v S=>(evs C r R S).bind fun vs S=>.ok (v::vs) S:=rfl
theorem D5:evAnd C .nil R S=.stuck:=rfl
theorem D6{a:X}:evAnd C #v[a] R S=ev C a R S:=rfl
theorem vg{a b r:X}:evAnd C (.cons a (.cons b r)) R S=(ev C a R S).bind fun v S=>(kv v S).bind fun t S=>if t then evAnd C (.cons b r) R S else .ok v S:=rfl
theorem D7:evOr C .nil R S=.stuck:=rfl
theorem D8{a:X}:evOr C #v[a] R S=ev C a R S:=rfl
theorem yp{a b r:X}:evOr C (.cons a (.cons b r)) R S=(ev C a R S).bind fun v S=>(kv v S).bind fun t S=>if t then .ok v S else evOr C (.cons b r) R S:=rfl
theorem X6{a:X}:tst C (.not a) R S=(tst C a R S).bind fun b S=>.ok (!b) S:=rfl
theorem X4{o:iY}{a b:X}:tst C (.cmp a o b) R S=(ev C a R S).bind fun x S=>(ev C b R S).bind fun y S=>d2 o x y S:=rfl
theorem X5{o bN:iY}{a b c:X}:tst C (.cmp2 a o b bN c) R S=(ev C a R S).bind fun x S=>(ev C b R S).bind fun y S=>(d2 o x y S).bind fun r S =>
   if r then(ev C c R S).bind fun z S=>d2 bN y z S else .ok false S:=rfl
theorem X3{f:Nat}{args:X}:tst C (.call f args) R S=(ev C (.call f args) R S).bind kv:=rfl
theorem X2{b:c5}{a:X}:tst C (.b1 b a) R S=(ev C (.b1 b a) R S).bind kv:=rfl
theorem KW:tstAnd C .nil R S=.ok true S:=rfl
theorem so{a r:X}:tstAnd C (.cons a r) R S=(tst C a R S).bind fun b S=>if b then tstAnd C r R S else .ok false S:=rfl
theorem KY:tstOr C .nil R S=.ok false S:=rfl
theorem uv{a r:X}:tstOr C (.cons a r) R S=(tst C a R S).bind fun b S=>if b then .ok true S else tstOr C r R S:=rfl
theorem vh{a:X}:evIt C (.range1 a) R S=(ev C a R S).bind qo:=rfl
theorem Oc{a:X}:evIt C (.enum a) R S=(ev C a R S).bind pw:=rfl
theorem Od{Y:X}:evIt C (.zip Y) R S=(evs C Y R S).bind xl:=rfl
theorem D9{c:Nat}{o:X}{n:Str}:ev C (.attr c o n) R S=(ev C o R S).bind fun x S=>sQ c x n S:=rfl
theorem Oi{c f:Nat}{n:Str}{o args:X}:ev C (.meth c f n o args) R S=(ev C o R S).bind fun x S=>qb C c f n x (fun S=>evs C args R S) S:=rfl
theorem Ee{c f:Nat}{args:X}:ev C (.new c f args) R S=(evs C args R S).bind fun vs S=>qf C c f vs S:=rfl
theorem Ef{o:X}:ev C (.rev o) R S=(ev C o R S).bind fun x S=>uc x S:=rfl
end
inductive O where
 | nil | cons (a r:O)
 | asg (i:Nat) (x:X)
 | asgSub (o i x:X)
 | expr (x:X)
 | ret (x:X)
 | ret0
 | ife (c:X) (a b:O)
 | for1 (i:Nat) (it:X) (body:O)
 | whl (c:X) (body:O)
 | brk
 | asgAttr (c:Nat) (o:X) (n:Str) (x:X)
 | asgT (is:List Nat) (x:X)
 | forT (is:List Nat) (it:X) (body:O)
 | stk
set_option genCtorIdx true
inductive cq where
 | next(R:aB) (S:ab)
 | brk (R:aB) (S:ab)
 | cont (R:aB) (S:ab)
 | ret (v:H) (R:aB) (S:ab)
 | exc (i:Nat) (R:aB) (S:ab)
 | stuck
set_option genCtorIdx false
def aj.toS{U:Type}(o:aj U)(R:aB)(f:U->ab->cq):cq:=
 match o with
 | .ok a S=>f a S
 | .exc i S=>.exc i R S
 | .stuck=>.stuck
def mO(go:aB->ab->cq):cq->cq
 | .next R S=>go R S
 | .cont R S=>go R S
 | .brk R S=>.next R S
 | .ret v R S=>.ret v R S
 | _=>.stuck
def Mz(f:aB->cq):Option aB->cq
 | none=>.stuck
 | some R=>f R
def ch(w:Option (Nat×aX))(bind:H->aB->Option aB)(f:aB->ab->cq):List H->aB->ab->cq
 | [],R,S=>if hT w S then .next R S else .stuck
 | x::Y,R,S=>if hT w S then Mz (fun R=>mO (ch w bind f Y) (f R S)) (bind x R)else .stuck
def xf(R:aB)(k:ab->cq):aj Bool->cq
 | .ok true S=>k S
 | .ok false S=>.next R S
 | _=>.stuck
def iv(c:aB->ab->aj Bool)(f:aB->ab->cq):Nat->aB->ab->cq
 | 0,_,_=>.stuck
 | n+1,R,S=>xf R (fun S=>mO (iv c f n) (f R S)) (c R S)
def sj(m:aX)(i v:H):Option aX:=
 match m with
 | .ds Z=>match i with
  | .str k=>if Z.length<aL then some (.ds (ee k v Z))else none
  | _=>none
 | .dp Z=>(fy i).bind fun k=>if Z.length<aL then some (.dp (ee k v Z))else none
 | _=>none
def iV(o i v:H)(R:aB)(S:ab):cq:=
 match o with
 | .ref r=>match(S[r]?).bind fun m=>sj m i v with
  | some m=>.next R (S.set r m)
  | none=>.stuck
 | _=>.stuck
def ui(c:Nat)(o:H)(n:Str)(v:H)(R:aB)(S:ab):cq:=
 match o with
 | .inst b5 i=>if b5=c then(match S[i]? with
  | some (.ns fs)=>if fs.length<100 then .next R (S.set i (.ns (ee n v fs)))else .stuck
  | _=>.stuck)else .stuck
 | _=>.stuck
def dj(i:Nat)(v:H)(R:aB):Option aB:=some (R.set i (some v))
def qu(f:aB->ab->cq):cq->cq
 | .next R S=>f R S
 | o=>o
def ex(C:bG)(N:Nat):O->aB->ab->cq
 | .nil,R,S=>.next R S
 | .cons a r,R,S=>qu (fun R S=>ex C N r R S) (ex C N a R S)
 | .asg i x,R,S=>(ev C x R S).toS R fun v S=>.next (R.set i (some v)) S
 | .asgSub o i x,R,S=>(ev C x R S).toS R fun v S=>(ev C o R S).toS R fun o S=>(ev C i R S).toS R fun i S=>iV o i v R S
 | .asgAttr c o n x,R,S=>(ev C x R S).toS R fun v S=>(ev C o R S).toS R fun o S=>ui c o n v R S
 | .asgT is x,R,S=>bif C.hd then .stuck else(ev C x R S).toS R fun v S=>match eG is v R with
  | some R=>.next R S
  | none=>.stuck
 | .forT is it body,R,S=>bif C.hd then .stuck else(evIt C it R S).toS R fun(Y,w) S=>ch w (eG is) (fun R S=>ex C N body R S) Y R S
 | .expr x,R,S=>(ev C x R S).toS R fun u S=>.next R S
 | .ret x,R,S=>(ev C x R S).toS R fun v S=>.ret v R S
 | .ret0,R,S=>.ret .none R S
 | .ife c a b,R,S=>(tst C c R S).toS R fun t S=>if t then ex C N a R S else ex C N b R S
 | .for1 i it body,R,S=>bif C.hd then .stuck else(evIt C it R S).toS R fun(Y,w) S=>ch w (dj i) (fun R S=>ex C N body R S) Y R S
 | .whl c body,R,S=>bif C.hd then .stuck else iv (fun R S=>tst C c R S) (fun R S=>ex C N body R S) N R S
 | .brk,R,S=>.brk R S
 | .stk,_,_=>.stuck
structure bK where
 params:Nat
 slots:Nat
 body:O
structure iH where
 fns:List bK
def ih(P:iH)(N:Nat):Nat->Nat->Nat->List H->ab->aj H
 | _,0,_,_,_=>.stuck
 | m,d+1,f,vs,S=>match P.fns[f]? with
  | some fn=>if vs.length=fn.params then
    match ex ⟨fun m=>ih P N m d,m⟩ N fn.body (vs.map some++List.replicate (fn.slots-fn.params) none) S with
    | .next _ S=>.ok .none S
    | .ret v _ S=>.ok v S
    | _=>.stuck
   else .stuck
  | none=>.stuck
def bU(P:iH)(N:Nat):Nat->Nat->List H->ab->aj H:=ih P N 0
def ii(P:iH)(N:Nat)(m:Nat)(d:Nat):bG:=⟨fun m=>ih P N m d,m⟩
theorem xQ{κ:Type}[DecidableEq κ]{k bs:κ}{v:H}:∀{Z:List (κ×H)},aD bs (ee k v Z)=if bs=k then some v else aD bs Z:=by
 intro Z
 have cons:∀(e:κ×H) (Z:List (κ×H)),aD bs (e::Z)=if e.1=bs then some e.2 else aD bs Z:=fun e Z=>by
  unfold aD;rw[List.find?_cons];by_cases q:e.1=bs
  ·rw[c6 q,aC q];rfl
  ·rw[ed q,aV q]
 unfold ee;by_cases h:(Z.any fun e=>decide (e.1=k))=true
 ·rw[aC h]
  induction Z with
  | nil=>contradiction
  | cons e Z af =>
   rw[dX,cons,cons];by_cases q:e.1=k
   ·rw[aC q];by_cases q2:bs=k
    ·exact(aC (q.trans q2.symm) ..).trans (aC q2 ..).symm
    ·rw[aV (fun z=>q2 (z.symm.trans q)),aV q2,aV (fun z=>q2 (z.symm.trans q))];by_cases L:(Z.any fun e=>decide (e.1=k))=true
     ·exact(af L ..).trans (aV q2 ..)
     ·congr 1;rw[List.map_congr_left fun e he=>?_,List.map_id];rw[aV];rfl;intro z;exact L (List.any_eq_true.mpr (aI e he (c6 z)))
   ·rw[aV q];rw[List.any_cons,ed q,Bool.false_or]at h;rw[af h];by_cases q2:bs=k
    ·rw[aC q2,aV (fun z=>q (z.trans q2)),aC q2]
    ·rw[aV q2,aV q2]
 ·rw[aV h]
  induction Z with
  | nil =>
   show aD bs [(k,v)]=_;rw[cons];by_cases q:bs=k
   ·exact(aC q.symm ..).trans (aC q ..).symm
   ·exact(aV (fun z=>q z.symm) ..).trans (aV q ..).symm
  | cons e Z af =>
   rw[List.any_cons,Bool.or_eq_true,not_or]at h;have J:e.1≠k:=fun z=>h.1 (c6 z);rw[List.cons_append,cons,cons,af h.2];by_cases q2:bs=k
   ·rw[aC q2,aV (fun z=>J (z.trans q2)),aC q2]
   ·rw[aV q2,aV q2]
section
variable {U β γ δ ε ζ:Type}{a:Option U}{b:Option β}{c:Option γ}{d:Option δ}
def cn(q:Bool)(o:Option U):Option U:=bif q then o else none
theorem dc{x:U}(h:cn q a=some x)(k:q=true->a=some x->P):P:=by
 cases q with
 | true=>exact k rfl h
 | false=>exact nomatch h
def jP(a:Option U)(f:U->Option β)(y:Option β):Option β:=match a with
 | some x=>f x
 | none=>y
theorem l0{f:U->Option β}{y:Option β}{z:β}(h:jP a f y=some z)(k1:∀x,a=some x->f x=some z->P)(k2:a=none->y=some z->P):P:=by
 cases a with
 | none=>exact k2 rfl h
 | some x=>exact k1 x rfl h
theorem Dy{o a8:Option U}{x:U}(h:(bif q then o else a8)=some x)(k1:q=true->o=some x->P)(k2:a8=some x->P):P:=by
 cases q with
 | true=>exact k1 rfl h
 | false=>exact k2 h
theorem mL{q:Prop}[Decidable q]{x:U}(h:(if q then a else none)=some x)(k:q->a=some x->P):P:=by
 by_cases hq:q
 ·exact k hq ((aC hq).symm.trans h)
 ·exact nomatch (aV hq).symm.trans h
theorem cw{f:U->Option β}{z:β}(h:a.bind f=some z)(k:∀x,a=some x->f x=some z->P):P:=by
 cases a with
 | none=>exact nomatch h
 | some x=>exact k x rfl h
theorem gI{f:U->β}{M:β->Prop}{z:β}(h:a.map f=some z)(k:∀x,a=some x->M (f x)):M z:=by
 cases a with
 | none=>exact nomatch h
 | some x=>refine oi h<$>?_;exact k x rfl
def bN(a:Option U)(b:Option β)(f:U->β->ζ):Option ζ:=a.bind fun x=>b.map (f x)
theorem gK{f:U->β->ζ}{M:ζ->Prop}{z:ζ}(h:bN a b f=some z)(k:∀x y,a=some x->b=some y->M (f x y)):M z:=
 cw h fun x J h=>gI h fun y L=>k x y J L
def lh(a:Option U)(b:Option β)(c:Option γ)(f:U->β->γ->ζ):Option ζ:=a.bind fun x=>bN b c (f x)
theorem lY{f:U->β->γ->ζ}{M:ζ->Prop}{z:ζ}(h:lh a b c f=some z)(k:∀x y w,a=some x->b=some y->c=some w->M (f x y w)):M z:=
 cw h fun x J h=>gK h fun y w L au=>k x y w J L au
def Jy(a:Option U)(b:Option β)(c:Option γ)(d:Option δ)(f:U->β->γ->δ->ζ):Option ζ:=a.bind fun x=>lh b c d (f x)
theorem UC{f:U->β->γ->δ->ζ}{M:ζ->Prop}{z:ζ}(h:Jy a b c d f=some z)(k:∀x y w aa,a=some x->b=some y->c=some w->d=some aa->M (f x y w aa)):M z:=
 cw h fun x J h=>lY h fun y w aa L au aQ=>k x y w aa J L au aQ
def one:List U->Option U
 | []=>none
 | x::r=>cn r.isEmpty (some x)
theorem t1{l:List U}{x:U}(h:one l=some x):l=[x]:=by
 cases l with
 | nil=>exact nomatch h
 | cons y r =>
  exact dc h fun J L=>ie.mp J<&>oi L<&>rfl
end
def cK(N names:List (Str×NameKind)):List (Str×NameKind):=names.map fun(n,k)=>if(k == .free&&N.lookup n == some .cell)then(n,.cell)else(n,k)
def hO(N uL:List (Str×NameKind)):List (Option Nat):=uL.map fun(n,k)=>if k == .cell then N.findIdx? (·.1 == n)else none
structure bF where
 fns:List Str
 cst:List (Str×H)
 bins:List Str
 muts:List (Nat×Nat)
 excs:List (Str×Nat×List Nat)
 brd:Option (Str×Nat)
 meths:List Str
 dstr:List (Nat×Nat)
def w8:Const->Option H
 | .none=>some .none
 | .bool b=>some (.bool b)
 | .int i=>some (.int i)
 | .str s=>cn (PyData.strOk s) (some (.str s))
 | _=>none
def KU:Operator->Option n8
 | .Add=>some .add | .Sub=>some .sub | .Mult=>some .mul | .Mod=>some .mod | .FloorDiv=>some .fdiv | .Pow=>some .pow
 | _=>none
def sm:CmpOp->Option iY
 | .Eq=>some .eq | .NotEq=>some .ne | .Lt=>some .lt | .LtE=>some .le | .Gt=>some .gt | .GtE=>some .ge
 | .Is=>some .is | .IsNot=>some .isNot | .In=>some .isin | .NotIn=>some .notin
theorem rQ{U:Type}{x:Str}{v:U}:∀{l:List (Str×U)},l.lookup x=some v->(x,v)∈l:=by
 intro l
 induction l with
 | nil =>
  intro h;cases h
 | cons c8 l af =>
  obtain⟨y,aa⟩:=c8;intro h;rw[List.lookup_cons]at h
  cases hb:x == y with
  | true=>rw[hb]at h;cases h;exact eq_of_beq hb<$>(.head _)
  | false=>rw[hb]at h;exact .tail _ (af h)
def xZ(a5:Bool):List (Str×c5):=[("len",.len),("list",.list a5),("tuple",.tuple),("all",.all),("int",.int),("str",.str)
 ,("sum",.sum)
 ,("min",.min),("max",.max)
 ,("sorted",.sorted)
 ,("dict",.dict)
 ]
def u1(a5:Bool)(x:Str):Option c5:=(xZ a5).lookup x
def I5:List (Str×iE):=[("append",.append),("extend",.extend)
 ,("pop",.pop)
 ,("get",.get)
 ]
def AF(x:Str):Option iE:=I5.lookup x
def K2:List (Str×oc):=[("int",.int),("str",.str),("bool",.bool),("tuple",.tuple)
 ,("list",.list)
 ]
def BY(x:Str):Option oc:=K2.lookup x
def C5:List (Str×Value):=[("len",.builtin "len"),("list",.type "list"),("tuple",.type "tuple"),("min",.builtin "min"),("all",.builtin "all"),("int",.type "int"),("str",.type "str"),("bool",.type "bool"),("ValueError",.type "ValueError"),("isinstance",.builtin "isinstance"),("range",.type "range"),("set",.type "set")
 ,("sum",.builtin "sum")
 ,("max",.builtin "max")
 ,("sorted",.builtin "sorted")
 ,("dict",.type "dict")
 ,("enumerate",.type "enumerate")
 ,("zip",.type "zip")
 ]
def mx(x:Str):Option Value:=C5.lookup x
def mw:List Str:=["plan", "turns", "givers", "outer", "here", "gone", "order"]
def nN:List (Str×NameKind)->Bool
 | []=>true
 | (x,k)::r=>!(r.any fun p=>p.1 == x)&&!(x == ("__debug__" : Str))&&(k == .local||k == .cell||k == .globalImplicit)&&nN r
def Aq:X->Bool
 | .range1 _=>true
 | .enum _=>true
 | .zip _=>true
 | _=>false
def gb(f:Expr->Option X):List Expr->Option X
 | []=>some .nil
 | e::r=>bN (f e) (gb f r) .cons
def T1(T:bF)(x:Str)(i:Nat):NameKind->Option X
 | .local=>some (.v i)
 | .cell=>some (.v i)
 | .globalImplicit=>(T.cst.lookup x).map .k
 | _=>none
def BM(T:bF)(N:List (Str×NameKind))(x:Str):Option X:=
 (N.findIdx? (·.1 == x)).bind fun i=>(N[i]?).bind fun q=>T1 T x i q.2
def g8(N:List (Str×NameKind))(x:Str):Bool:=N.lookup x == some .globalImplicit
def pU(T:bF)(N:List (Str×NameKind))(x:Str):Bool:=g8 N x&&T.bins.contains x
def IV:Expr->Option Str
 | .Constant c _ _=>match c with
  | .str x=>cn (PyData.strOk x) (some x)
  | _=>none
 | _=>none
def IU:Expr->Bool
 | .Constant c _ _=>match c with
  | .int i=>i == 1
  | _=>false
 | _=>false
def IT:Expr->Option H
 | .Constant c _ _=>w8 c
 | _=>none
def sV:List (Option Expr)->Option (List Str)
 | []=>some []
 | k::r=>bN (k.bind IV) (sV r) fun s l=>s::l
def Az:List Expr->Option (List H)
 | []=>some []
 | e::r=>bN (IT e) (Az r) fun s l=>s::l
def ya(n:Nat)(l:List Expr):Option (List H):=cn (l.length == n) (Az l)
def Jl:(e:Expr)->Option { q:Str×Pos // e=.Name q.1 q.2 }
 | .Name x p=>some ⟨(x,p),rfl⟩
 | _=>none
def pV(e:Expr):Option (Str×Pos):=(Jl e).map (·.1)
structure Cg where
 f:Expr
 as:List Expr
 ks:List Keyword
 pos:Pos
def u5:(e:Expr)->Option { q:Cg // e=.Call q.f q.as q.ks q.pos }
 | .Call f as ks pos=>some ⟨⟨f,as,ks,pos⟩,rfl⟩
 | _=>none
structure xu where
 g:Str
 p:Pos
 a:Expr
 pos:Pos
def u4(e:Expr):Option xu:=(u5 e).bind fun c=>cn c.1.ks.isEmpty (bN (pV c.1.f) (one c.1.as) fun n a=>⟨n.1,n.2,a,c.1.pos⟩)
structure xv where
 g:Str
 p:Pos
 as:List Expr
 pos:Pos
def callN?(e:Expr):Option xv:=(u5 e).bind fun c=>cn c.1.ks.isEmpty ((pV c.1.f).map fun n=>⟨n.1,n.2,c.1.as,c.1.pos⟩)
def BG(T:bF)(N:List (Str×NameKind))(f:Expr->Option X)(g:Str)(k:Nat)(e:Expr):Option X:=
 (callN? e).bind fun q=>cn (q.g == g&&pU T N q.g&&q.as.length == k) (gb f q.as)
def IN(T:bF)(N:List (Str×NameKind))(g:Str)(a:Expr):Option Expr:=
 (u4 a).bind fun q=>cn (g == "len" && q.g == "set" && pU T N q.g) (some q.a)
def BP(T:bF)(N:List (Str×NameKind))(f:Expr->Option X)(e:Expr):Option X:=
 (u4 e).bind fun q=>cn (q.g == "range" && pU T N q.g) ((f q.a).map .range1)
def BQ(T:bF)(N:List (Str×NameKind))(f:Expr->Option X)(e:Expr):Option X:=
 BP T N f e
def BO(T:bF)(N:List (Str×NameKind))(f:Expr->Option X)(pos:Pos)(g:Str)(a:Expr):Option X:=
 jP (IN T N g a) (fun x=>(f x).map (.b1 .lenset)) <|
 (bN (u1 (!(T.muts.contains (pos.line,pos.col))) g) (f a) .b1)
def BU(T:bF)(N:List (Str×NameKind))(f:Expr->Option X)(g:Str)(a b:Expr):Option X:=
 bif g == "isinstance" then
  (pV b).bind fun q =>
  (cn (pU T N q.1) (bN (f a) (BY q.1) .isinst))
 else cn (g == "min") (bN (f a) (f b) .min2)
def Xp(T:bF)(N:List (Str×NameKind))(f:Expr->Option X)(pos:Pos)(g:Str):List Expr->Option X
 | []=>none
 | a::r=>match r with
  | []=>BO T N f pos g a
  | b::r=>cn r.isEmpty (BU T N f g a b)
def BN(T:bF)(f:Expr->Option X)(g:Str)(args:List Expr):Option X:=
 T.brd.bind fun q=>cn (g == q.1&&!args.isEmpty) ((T.meths.findIdx? (· == ("__init__" : Str))).bind fun j=>(gb f args).map (.new q.2 (T.fns.length+j)))
def BH(T:bF)(N:List (Str×NameKind))(f:Expr->Option X)(pos:Pos)(g:Str)(args:List Expr):Option X:=
 cn (g8 N g) (jP (T.fns.findIdx? (· == g)) (fun i=>cn (!args.isEmpty) ((gb f args).map (.call i))) (jP (BN T f g args) some (cn (T.bins.contains g) (Xp T N f pos g args))))
def KS(f:Expr->Option X)(e:Expr):Option X:=(f e).bind fun x=>cn (!Aq x) (some x)
def nR(T:bF)(N:List (Str×NameKind))(f:Expr->Option X)(e:Expr):Option X:=
 jP (BQ T N f e) some (KS f e)
def KR(T:bF)(N:List (Str×NameKind))(f:Expr->Option X)(e:Expr):Option X:=
 (u4 e).bind fun q=>cn (q.g == "enumerate" && pU T N q.g) ((f q.a).map .enum)
def BK(f:Expr->Option X):List Expr->Option X
 | []=>some (.k (.bool true))
 | c::r=>cn r.isEmpty (f c)
def w5(T:bF)(N:List (Str×NameKind))(f:List (Str×NameKind)->Expr->Option X)(elt:Expr)(x:Str)(iter:Expr)(ifs:List Expr)(scope:Scope)(pos:Pos):Option X:=
 cn (scope.kind == .function&&nN (cK N scope.names)&&scope.names.all (fun p=>p.2 != .cell))
  (((cK N scope.names).findIdx? (·.1 == x)).bind fun t=>cn ((cK N scope.names)[t]? == some (x,NameKind.local))
   (lh (nR T N (f N) iter) (f (cK N scope.names) elt) (BK (f (cK N scope.names)) ifs) fun it elt c=>.comp (!(T.muts.contains (pos.line,pos.col))) t (hO N (cK N scope.names)) elt c it))
def ur(f:Expr->Option X):Option Expr->Option X
 | none=>some (.k .none)
 | some e=>f e
def rY:Expr->Bool
 | .Call _ a _ _=>!a.isEmpty
 | _=>true
def BI(f:Expr->Option X)(l:Expr)(os:List CmpOp)(iT:List Expr):Option X:=
 match os with
 | []=>none
 | o::os=>match iT with
  | []=>none
  | r::iT=>match os with
   | []=>cn iT.isEmpty (lh (sm o) (f l) (f r) fun o a b=>.cmp a o b)
   | bN::os=>match iT with
    | []=>none
    | r2::iT=>cn (os.isEmpty&&iT.isEmpty) ((sm o).bind fun o=>Jy (f l) (f r) (sm bN) (f r2) fun a b bN c=>.cmp2 a o b bN c)
def DC:(e:Expr)->Option { q:List (Option Expr)×List Expr×Pos // e=.Dict q.1 q.2.1 q.2.2 }
 | .Dict ks vs p=>some ⟨(ks,vs,p),rfl⟩
 | _=>none
def Iv(e:Expr):Option (List (Option Expr)×List Expr×Pos):=(DC e).map (·.1)
def BJ(f:Expr->Option X)(ks:List (Option Expr))(vs:List Expr)(m:Str)(args:List Expr):Option X:=
 match args with
 | []=>none
 | k::r=>(one r).bind fun d=>cn (m == "get") ((sV ks).bind fun l=>cn (decide l.Nodup&&decide (l.length<=15)&&!l.isEmpty) (lh (ya ks.length vs) (f k) (f d) fun vs k d=>.fdget l vs k d))
def XH(f:Expr->Option X)(o:Expr)(m:Str)(a:Expr):Option X:=lh (AF m) (f o) (f a) fun m o a=>.me m o #v[a]
def XK(T:bF)(f:Expr->Option X)(o:Expr)(m:Str):List Expr->Option X
 | []=>none
 | a::r=>match r with
  | []=>XH f o m a
  | _::_=>none
def XI(T:bF)(f:Expr->Option X)(o:Expr)(m:Str)(args:List Expr):Option X:=
 T.brd.bind fun q=>(T.meths.findIdx? (· == m)).bind fun j=>cn (decide (args.length<20)) (bN (f o) (gb f args) fun o Y=>.meth q.2 (T.fns.length+j) m o Y)
def Xr(T:bF)(f:Expr->Option X)(o:Expr)(n:Str):Option X:=
 T.brd.bind fun q=>cn (rY o&&mw.contains n) ((f o).map fun o=>.attr q.2 o n)
def BL(T:bF)(f:Expr->Option X)(o:Expr)(m:Str)(args:List Expr):Option X:=
 jP (Iv o) (fun q=>BJ f q.1 q.2.1 m args) (cn (rY o)
  (bif T.meths.contains m then XI T f o m args else XK T f o m args))
def Xu(T:bF)(N:List (Str×NameKind))(f:Expr->Option X)(fn:Expr)(args:List Expr)(pos:Pos):Option X:=
 match fn with
 | .Name g _=>BH T N f pos g args
 | .Attribute o m gG=>cn (gG.endLine == pos.line) (BL T f o m args)
 | _=>none
def Uh:Expr->Option Expr
 | .UnaryOp o a _=>match o with
  | .USub=>some a
  | _=>none
 | _=>none
def Iw(e:Expr):Bool:=((Uh e).bind fun a=>cn (IU a) (some a)).isSome
def XU(f:Expr->Option X)(o:Expr)(lo hi:Option Expr):Option Expr->Option X
 | none=>lh (f o) (ur f lo) (ur f hi) .slice
 | some st=>cn (lo.isNone&&hi.isNone&&Iw st) ((f o).map .rev)
def Km:(e:Expr)->Option { q:Option Expr×Option Expr×Option Expr×Pos // e=.Slice q.1 q.2.1 q.2.2.1 q.2.2.2 }
 | .Slice lo hi st p=>some ⟨(lo,hi,st,p),rfl⟩
 | _=>none
def CX(e:Expr):Option (Option Expr×Option Expr×Option Expr×Pos):=(Km e).map (·.1)
def BS(f:Expr->Option X)(o i:Expr):Option X:=
 jP (CX i) (fun q=>XU f o q.1 q.2.1 q.2.2.1) (bN (f o) (f i) .sub)
def Bv:NameKind->Bool
 | .local=>true
 | .cell=>true
 | _=>false
def mV(N:List (Str×NameKind))(x:Str):Option Nat:=
 (N.findIdx? (·.1 == x)).bind fun i=>(N[i]?).bind fun q=>cn (Bv q.2) (some i)
def l4(N:List (Str×NameKind)):List Expr->Option (List Nat)
 | []=>some []
 | e::r=>bN ((pV e).bind fun q=>mV N q.1) (l4 N r) fun i l=>i::l
def K0:(e:Expr)->Option { q:List Expr×Nat×Pos // e=.Tuple q.1 q.2.1 q.2.2 }
 | .Tuple ts k p=>some ⟨(ts,k,p),rfl⟩
 | _=>none
def xY(e:Expr):Option (List Expr×Nat×Pos):=(K0 e).map (·.1)
def un(T:bF)(N:List (Str×NameKind))(f:List (Str×NameKind)->Expr->Option X)(elt:Expr)(gens:List Comprehension)(scope:Scope)(pos:Pos):Option X:=
 (one gens).bind fun g=>cn (g.is_async == 0) ((pV g.target).bind fun q=>w5 T N f elt q.1 g.iter g.ifs scope pos)
def w7(T:bF)(N:List (Str×NameKind))(f:List (Str×NameKind)->Expr->Option X)(elt:Expr)(ts:List Expr)(iter:Expr)(scope:Scope)(pos:Pos):Option X:=
 cn (scope.kind == .function&&nN (cK N scope.names)&&scope.names.all (fun p=>p.2 != .cell)) ((l4 (cK N scope.names) ts).bind fun is =>
  cn (is.all fun i=>((cK N scope.names)[i]?).any fun q=>q.2 == .local)
   (bN (nR T N (f N) iter) (f (cK N scope.names) elt) fun it elt=>.compT (!(T.muts.contains (pos.line,pos.col))) is (hO N (cK N scope.names)) elt it))
def w6(T:bF)(N:List (Str×NameKind))(f:List (Str×NameKind)->Expr->Option X)(elt:Expr)(gens:List Comprehension)(scope:Scope)(pos:Pos):Option X:=
 (one gens).bind fun g=>cn (g.is_async == 0&&g.ifs.isEmpty) ((xY g.target).bind fun q=>w7 T N f elt q.1 g.iter scope pos)
def KV(T:bF)(f:List (Str×NameKind)->Expr->Option X)(N:List (Str×NameKind))(e:Expr):Option X:=
  match e with
  | .Constant c _ _=>(w8 c).map .k
  | .Name x _=>BM T N x
  | .BoolOp o Z _=>match o with
   | .And=>(gb (f N) Z).map .and
   | .Or=>(gb (f N) Z).map .or
  | .UnaryOp o a _=>match o with
   | .Not=>(f N a).map .not
   | .USub=>(f N a).map .neg
   | _=>none
  | .BinOp l o r _=>lh (KU o) (f N l) (f N r) .bin
  | .Compare l os iT _=>BI (f N) l os iT
  | .List Z pos=>(gb (f N) Z).map (.lst (!(T.muts.contains (pos.line,pos.col))))
  | .Tuple Z _ _=>(gb (f N) Z).map .tup
  | .Call fn args II pos=>cn II.isEmpty (Xu T N (f N) fn args pos)
  | .Attribute o n _=>Xr T (f N) o n
  | .Subscript o i _=>BS (f N) o i
  | .Dict ks vs pos=>cn (ks.isEmpty&&vs.isEmpty) (some (.dnew (!(T.dstr.contains (pos.line,pos.col)))))
  | .ListComp elt gens scope pos=>jP (un T N f elt gens scope pos) some (w6 T N f elt gens scope pos)
  | _=>none
def uo(T:bF):Nat->List (Str×NameKind)->Expr->Option X
 | 0,_,_=>none
 | n+1,N,e=>KV T (uo T n) N e
def nC:Expr->Bool
 | .ListComp .. | .SetComp .. | .DictComp ..=>true
 | _=>false
def mY(g:Stmt->Option O):List Stmt->Option O
 | []=>some .nil
 | st::r=>bN (g st) (mY g r) .cons
def Dw:(e:Expr)->Option { q:Expr×List Comprehension×Scope×Pos // e=.ListComp q.1 q.2.1 q.2.2.1 q.2.2.2 }
 | .ListComp elt gens scope pos=>some ⟨(elt,gens,scope,pos),rfl⟩
 | _=>none
def CW(e:Expr):Option (Expr×List Comprehension×Scope×Pos):=(Dw e).map (·.1)
def JS:Expr->Bool
 | .Name _ _=>true
 | .Call _ _ _ _=>true
 | .Subscript _ _ _=>true
 | _=>false
def w4(T:bF)(N:List (Str×NameKind))(zj:List (Str×NameKind)->Expr->Option X)(f:Expr->Option X)(t v:Expr):Option O:=
 match t with
 | .Name z _=>jP (CW v) (fun q=>bN (mV N z) (un T N zj q.1 q.2.1 q.2.2.1 q.2.2.2) .asg) (cn (!nC v) (bN (mV N z) (f v) .asg))
 | .Subscript o i _=>cn (!nC v) (lh (f o) (f i) (f v) .asgSub)
 | .Attribute o n _=>T.brd.bind fun q=>cn (!nC v&&mw.contains n) (bN (f o) (f v) fun o v=>.asgAttr q.2 o n v)
 | .Tuple ts _ _=>cn (JS v) (bN (l4 N ts) (f v) .asgT)
 | _=>none
def XZ(T:bF)(N:List (Str×NameKind))(f:Expr->Option X)(e:Expr):Option X:=(BG T N f "zip" 2 e).map .zip
def w9(T:bF)(N:List (Str×NameKind))(f:Expr->Option X)(e:Expr):Option X:=
 jP (KR T N f e) some <|
 jP (XZ T N f e) some <|
 (nR T N f e)
def BR(T:bF)(N:List (Str×NameKind))(zj:List (Str×NameKind)->Expr->Option X)(f:Expr->Option X)(g:Stmt->Option O)(st:Stmt):Option O:=
 match st with
 | .Assign ts v _=>(one ts).bind fun t=>w4 T N zj f t v
 | .Expr e _=>cn (!nC e) ((f e).map .expr)
 | .Return v _=>match v with
  | some e=>(f e).map .ret
  | none=>some .ret0
 | .If t b o _=>lh (f t) (mY g b) (mY g o) .ife
 | .For t it b o _=>cn o.isEmpty (jP (pV t) (fun q=>lh (mV N q.1) (nR T N f it) (mY g b) .for1) ((xY t).bind fun q=>lh (l4 N q.1) (w9 T N f it) (mY g b) .forT))
 | .While t b o _=>cn o.isEmpty (bN (f t) (mY g b) .whl)
 | .Break _=>some .brk
 | .Raise _ _ _=>some .stk
 | _=>none
def ut(T:bF)(N:List (Str×NameKind))(f:List (Str×NameKind)->Expr->Option X):Nat->Stmt->Option O
 | 0,_=>none
 | n+1,st=>BR T N f (f N) (ut T N f n) st
end
section
open PySem.W PySem.Calls
def Bj:Value->Option Addr
 | .ref a=>some a
 | _=>none
def It:Value->Option Int
 | .int i _=>some i
 | _=>none
def Kt:Value->Option Str
 | .str s _=>some s
 | _=>none
def Hg:Data->Option FuncData
 | .func fd=>some fd
 | _=>none
def Kd:Data->Option (Array Value×Nat)
 | .seq Y n=>some (Y,n)
 | _=>none
def Ks:FuncBody->Option (List Stmt)
 | .stmts b=>some b
 | _=>none
def Wm(q:Str×Str×NameKind):Bool:=q.1 == q.2.1&&Bv q.2.2
def JL(bk:List Str)(names:List (Str×NameKind)):Bool:=decide (bk.length<=names.length)&&(bk.zip names).all Wm
def isNone:Value->Bool
 | .none=>true
 | _=>false
def zd(K:Frag)(fd:FuncData):Bool:=
 codeIn K fd.code fd.qualname&&fd.globals == mainGlobals&&fd.builtins == builtinsNs&&fd.closure.isEmpty&&fd.scope.kind == .function&&!fd.scope.isCoroutine&&!fd.scope.isGenerator&&nN fd.scope.names &&
  fd.params.posonlyargs.isEmpty&&fd.params.kwonlyargs.isEmpty&&fd.params.vararg.isNone&&fd.params.kwarg.isNone&&isNone fd.defaults&&JL (fd.params.args.map (·.arg)) fd.scope.names
def rW(T:bF)(n1 n2:Nat)(K:Frag)(q:Option (Option Value)):Option bK:=
 q.bind fun q=>q.bind fun v=>(Bj v).bind fun a=>(K.lookup a).bind fun o=>(Hg o.data).bind fun fd=>(Ks fd.body).bind fun body =>
  cn (zd K fd) ((mY (ut T fd.scope.names (uo T n1) n2) body).map fun b=>⟨fd.params.args.length,fd.scope.names.length,b⟩)
def lc(T:bF)(n1 n2:Nat)(K:Frag):List (Option (Option Value))->Option (List bK)
 | []=>some []
 | x::r=>bN (rW T n1 n2 K x) (lc T n1 n2 K r) List.cons
def A0(q:Value×H):Bool:=match q.2 with
 | .str s=>Kt q.1 == some s&&PyData.strOk s
 | _=>false
def KZ(o:Obj)(Y:List H):Bool:=o.cls == .type "tuple" && o.dict.isNone&&o.slots.isEmpty&&(Kd o.data).any fun q=>q.1.toList.length == Y.length&&(q.1.toList.zip Y).all A0
def Dm(K:Frag)(v:H)(aa:Value):Bool:=match v with
 | .int i=>It aa == some i
 | .str s=>A0 (aa,.str s)
 | .tup Y=>((Bj aa).bind fun a=>K.lookup a).any fun o=>KZ o Y
 | _=>false
def sU(K:Frag)(l:List (Str×H)):Bool:=l.all fun p=>((nsIn K mainGlobals p.1).bind id).any (Dm K p.2)
def Us(K:Frag)(x:Str):Bool:=(nsIn K mainGlobals x).any Option.isNone
def sR(K:Frag)(l:List Str):Bool:=(K.lookup sysModules).isSome&&l.all fun x=>Us K x&&(mx x).isSome&&!(x == ("__name__" : Str))
def jG(h:Heap):Frag:=(List.range h.objs.size).filterMap fun a=>(h.get? a).map fun o=>(a,o)
def Ow(h:Heap)(F:Frag)(T:bF):Bool:=
 true
def x2(K:Frag)(T:bF):Bool:=
 match T.brd with
 | none=>true
 | some (b,c)=>nsIn K mainGlobals b == some (some (.ref c))&&keepIn K (.ref c)&&makesIn K c&&plainOver K c&&(clsIn K c).any (·.hasDict)&&findIn K (.ref c) "__setattr__" == some (some (.builtin "object.__setattr__")) &&
   mw.all (fun n=>takerIn K c n == some none) &&
   findIn K (.ref c) "__getattribute__" == some (some (.builtin "object.__getattribute__"))&&findIn K (.ref c) "__getattr__" == some none&&mw.all (fun n=>findIn K (.ref c) n == some none) &&
   T.meths.all fun n=>(findIn K (.ref c) n).join.bind (typeIn K) == some (.type "function")
def nr(T:bF)(K:Frag):List (Option (Option Value)):=T.fns.map (nsIn K mainGlobals ·)++T.meths.map (fun n=>T.brd.bind fun q=>findIn K (.ref q.2) n)
def w2(h:Heap)(F:Frag)(T:bF):Bool:=Ow h F T&&x2 F T
def viewOf(p:Program):Program:={ p with main:={ p.main with body:=p.main.body.filter fun s=>match s with | .Assign [.Name n _] _ _=>!(n == "__name__") | _=>true } }
def w3(p:Program)(w:World)(rZ:Nat)(q0:Option Value):Nat->SharedT->Thread->Option SharedT
 | 0,_,_=>none
 | n+1,s,t=>match through t with
  | true=>some s
  | false=>match PySem.W.Fast.tw6613529449190102663 rZ q0 t with
   | false=>none
   | true=>match PySem.W.Fast.tw10156331382660048174 (PySem.W.Fast.tw11892475500146522536 PySem.W.Fast.tw14364793385576792824) p w s t with
    | some (s',bE)=>w3 p w rZ q0 n s' bE
    | none=>none
def uu:List Obj->Nat->BT->Option BT
 | [],_,t=>some t
 | o::l,n,t=>match((t.ins n o).get n).isSome with
  | true=>uu l (n+1) (t.ins n o)
  | false=>none
def N3(p:Program)(h₀:Heap)(s₁:Shared):Option Shared:=
 match staticsOk (importedModules p.main.body) h₀ s₁.heap&&namesBound p s₁.heap&&gensDone s₁&&laidKept h₀ s₁.heap with
 | true=>some s₁
 | false=>none
def tN(p:Program)(w:World)(os:OsState)(N:Nat):Option Shared:=
 (uu (boot_heap w.params).objs.toList 0 .nil).bind fun T =>
  match(boot_heap w.params).isNs mainGlobals with
  | true=>(w3 p w (boot_heap w.params).objs.toList.length ((boot_heap w.params).nsMap mainGlobals "__annotations__") N ⟨T,(boot_heap w.params).objs.toList.length,(boot_heap w.params).life,#[],boot_drawn,boot_toks,os⟩ (topStub p)).bind fun s=>N3 p (boot_heap w.params) s.abs
  | false=>none
def vB(T:bF)(g:List (Option (Option Value))->List (Option (Option Value)))(s:Shared):Option (List bK):=lc T 40 30 (jG s.heap) (g (nr T (jG s.heap)))
def TT:bF where
 fns:=[("is_value" : Str),("product" : Str),("chosen" : Str),("single" : Str),("outcome" : Str),("is_name" : Str),("are_names" : Str),("are_unlike" : Str),("is_rule" : Str),("is_step" : Str),("is_plan" : Str),("givers_of" : Str),("outside" : Str),("is_between" : Str),("fire_turn" : Str),("run" : Str),("_law_cell_at" : Str),("_law_next" : Str),("_law_names" : Str),("_law_value" : Str),("_law_given" : Str),("_law_rule" : Str),("_law_plan" : Str),("_law_outside" : Str),("_law_first" : Str),("_law_puts" : Str),("_law_needed" : Str),("_law_missing" : Str),("_law_fired" : Str),("_law_rest" : Str),("_law_pairs" : Str),("_law_places" : Str),("_law_looked" : Str),("_law_fire_one" : Str),("_law_at_rest" : Str),("_law_by_turns" : Str),("law" : Str)]
 cst:=[("MOST_VALUE",.int 999999),("WRAP",.int 1000000),("LETTERS",.str "abcdefghijklmnopqrstuvwxyz"),("FIGURES",.str "0123456789"),("LONGEST",.int 8),("MOST_STEPS",.int 20),("MOST_NEEDS",.int 4),("MOST_GIVES",.int 3),("PLAIN_WORDS",.tup [.str "sum",.str "times",.str "least",.str "most"]),("MOST_TURNS",.int 200)]
 bins:=["len", "list", "tuple", "sum", "min", "max", "sorted", "all", "int", "str", "bool", "ValueError", "isinstance", "range", "dict", "enumerate", "zip", "set"]
 muts:=[(95,12),(107,12),(130,21),(206,16),(245,17),(284,21),(285,16),(304,21),(307,17),(314,17),(320,17),(348,16),(366,17),(393,16)]
 excs:=[("FireError",24,[]),("NoPlan",37,[24]),("NoTurn",49,[24]),("NoPlace",61,[24]),("NoValue",73,[24]),("TokenThere",85,[24]),("NoStep",97,[24]),("Fired",109,[24]),("NotReady",121,[24])]
 brd:=some ("Board",311)
 meths:=["__init__", "need_place", "need_turn", "need_step", "put", "missed", "has_fired", "is_ready", "fire", "told", "ready", "fired"]
 dstr:=[(100,12)]
noncomputable abbrev tE:Nat:=0
noncomputable abbrev Ik:Nat:=1
noncomputable abbrev H5:Nat:=2
noncomputable abbrev Il:Nat:=3
noncomputable abbrev Am:Nat:=4
noncomputable abbrev Ah:Nat:=5
noncomputable abbrev Af:Nat:=6
noncomputable abbrev vZ:Nat:=7
noncomputable abbrev H6:Nat:=8
noncomputable abbrev H7:Nat:=9
noncomputable abbrev Ai:Nat:=10
noncomputable abbrev Ag:Nat:=11
noncomputable abbrev Ij:Nat:=12
noncomputable abbrev rI:Nat:=13
noncomputable abbrev v0:Nat:=14
noncomputable abbrev v5:Nat:=15
noncomputable abbrev gu:Nat:=16
noncomputable abbrev ji:Nat:=17
noncomputable abbrev tH:Nat:=18
noncomputable abbrev tJ:Nat:=19
noncomputable abbrev Ia:Nat:=20
noncomputable abbrev Al:Nat:=21
noncomputable abbrev Ig:Nat:=22
noncomputable abbrev v1:Nat:=23
noncomputable abbrev Aj:Nat:=24
noncomputable abbrev Ih:Nat:=25
noncomputable abbrev tI:Nat:=26
noncomputable abbrev Ak:Nat:=27
noncomputable abbrev H9:Nat:=28
noncomputable abbrev Ii:Nat:=29
noncomputable abbrev Ic:Nat:=30
noncomputable abbrev Ie:Nat:=31
noncomputable abbrev Ib:Nat:=32
noncomputable abbrev tG:Nat:=33
noncomputable abbrev H8:Nat:=34
noncomputable abbrev tF:Nat:=35
noncomputable abbrev Ro:Nat:=36
noncomputable abbrev tz:Nat:=37
noncomputable abbrev Ad:Nat:=38
noncomputable abbrev Ae:Nat:=39
noncomputable abbrev H3:Nat:=40
noncomputable abbrev tC:Nat:=41
noncomputable abbrev tB:Nat:=42
noncomputable abbrev tA:Nat:=43
noncomputable abbrev vY:Nat:=44
noncomputable abbrev Ac:Nat:=45
noncomputable abbrev H4:Nat:=46
noncomputable abbrev tD:Nat:=47
noncomputable abbrev oM:Nat:=48
noncomputable abbrev bl:Nat:=311
noncomputable abbrev dh(i:Nat):Option H:=some (.inst bl i)
def yK:bK:=⟨1,5,#v[(.ret (.and #v[(.isinst (.v 0) .int),(.not (.isinst (.v 0) .bool)),(.cmp2 (ai 0) .le (.v 0) .le (ai 999999))]))]⟩
def G0:O:=(.asg 1 (.bin .mod (.bin .mul (.v 1) (.v 2)) (ai 1000000)))
def GZ:O:=#v[G0]
def GY:O:=(.for1 2 (.v 0) GZ)
def O1:bK:=⟨1,4,#v[(.asg 1 (ai 1)),GY,(.ret (.v 1))]⟩
def vq:O:=(.ife (.cmp (.sub (.v 0) (ai 0)) .eq (ai 0)) #v[(.ret (.sub (.v 0) (ai 1)))] .nil)
def EP:O:=(.ret (.sub (.v 0) (ai 2)))
def OK:bK:=⟨1,1,#v[vq,EP]⟩
def pz:O:=(.asg 2 (.sub (.v 0) (ai 0)))
def oC:O:=(.ife (.cmp (.v 2) .eq (.k (.str "sum"))) #v[(.ret (.bin .mod (.b1 .sum (.v 1)) (ai 1000000)))] .nil)
def oD:O:=(.ife (.cmp (.v 2) .eq (.k (.str "times"))) #v[(.ret (.call Ik #v[(.v 1)]))] .nil)
def pA:O:=(.ife (.cmp (.v 2) .eq (.k (.str "least"))) #v[(.ret (.b1 .min (.v 1)))] .nil)
def s5:O:=(.ife (.cmp (.v 2) .eq (.k (.str "most"))) #v[(.ret (.b1 .max (.v 1)))] .nil)
def y8:O:=(.ife (.cmp (.v 2) .eq (.k (.str "fixed"))) #v[(.ret (.sub (.v 0) (ai 1)))] .nil)
def y9:O:=(.ife (.cmp (.v 2) .eq (.k (.str "choose"))) #v[(.ret (.call H5 #v[(.v 1)]))] .nil)
def zc:O:=(.ret (.sub (.v 1) (ai 0)))
def O3:bK:=⟨2,9,#v[pz,oC,oD,pA,s5,y8,y9,zc]⟩
def GU:O:=(.ife (.cmp (.sub (.v 1) (ai 1)) .eq (ai 0)) #v[(.ret (.lst true #v[(.sub (.v 1) (ai 0)),(.k .none)]))] .nil)
def s4:O:=(.ife (.cmp (.sub (.v 0) (ai 0)) .eq (.k (.str "way"))) #v[GU,(.ret (.lst true #v[(.k .none),(.sub (.v 1) (ai 0))]))] .nil)
def y6:O:=(.asg 3 (.call Il #v[(.v 0),(.v 1)]))
def GS:X:=(.comp true 1 [none,none,some 3] (.v 2) (.k (.bool true)) (.range1 (.v 2)))
def y7:O:=(.ret GS)
def O0:bK:=⟨3,6,#v[s4,y6,y7]⟩
def yF:O:=(.ife (.or #v[(.not (.isinst (.v 0) .str)),(.not (.cmp2 (ai 1) .le (.b1 .len (.v 0)) .le (ai 8))),(.cmp (.sub (.v 0) (ai 0)) .notin (.k (.str "abcdefghijklmnopqrstuvwxyz")))]) #v[(.ret (.k (.bool false)))] .nil)
def EX:O:=(.ret (.b1 .all (.comp true 1 [none,none,none,none] (.or #v[(.cmp (.v 1) .isin (.k (.str "abcdefghijklmnopqrstuvwxyz"))),(.cmp (.v 1) .isin (.k (.str "0123456789")))]) (.k (.bool true)) (.v 0))))
def OM:bK:=⟨1,7,#v[yF,EX]⟩
def EN:bK:=⟨2,6,#v[(.ret (.and #v[(.isinst (.v 0) .tuple),(.cmp2 (ai 1) .le (.b1 .len (.v 0)) .le (.v 1)),(.b1 .all (.comp true 1 [none,none,none] (.call Ah #v[(.v 1)]) (.k (.bool true)) (.v 0)))]))]⟩
def EO:bK:=⟨1,3,#v[(.ret (.cmp (.b1 .lenset (.v 0)) .eq (.b1 .len (.v 0))))]⟩
def E1:bK:=⟨3,9,#v[(.ife (.or #v[(.not (.isinst (.v 0) .tuple)),(.cmp (.b1 .len (.v 0)) .eq (ai 0)),(.not (.isinst (.sub (.v 0) (ai 0)) .str))]) #v[(.ret (.k (.bool false)))] .nil),(.ife (.cmp (.sub (.v 0) (ai 0)) .eq (.k (.str "fixed"))) #v[(.ret (.and #v[(.cmp (.b1 .len (.v 0)) .eq (ai 2)),(.call tE #v[(.sub (.v 0) (ai 1))])]))] .nil),(.ife (.cmp (.b1 .len (.v 0)) .ne (ai 1)) #v[(.ret (.k (.bool false)))] .nil),(.ife (.cmp (.sub (.v 0) (ai 0)) .eq (.k (.str "later"))) #v[(.ret (.cmp (.v 1) .eq (ai 1)))] .nil),(.ife (.cmp (.sub (.v 0) (ai 0)) .eq (.k (.str "way"))) #v[(.ret (.and #v[(.cmp (.v 1) .eq (ai 2)),(.cmp (.v 2) .eq (ai 2))]))] .nil),(.ife (.cmp (.sub (.v 0) (ai 0)) .eq (.k (.str "choose"))) #v[(.ret (.cmp (.v 1) .eq (ai 3)))] .nil),(.ret (.cmp (.sub (.v 0) (ai 0)) .isin (.k (.tup [(.str "sum"),(.str "times"),(.str "least"),(.str "most")]))))]⟩
def yI:O:=(.ife (.or #v[(.not (.isinst (.v 0) .tuple)),(.cmp (.b1 .len (.v 0)) .ne (ai 4)),(.not (.call Ah #v[(.sub (.v 0) (ai 0))]))]) #v[(.ret (.k (.bool false)))] .nil)
def yJ:O:=(.ife (.or #v[(.not (.call Af #v[(.sub (.v 0) (ai 2)),(ai 4)])),(.not (.call Af #v[(.sub (.v 0) (ai 3)),(ai 3)])),(.not (.call vZ #v[(.sub (.v 0) (ai 3))]))]) #v[(.ret (.k (.bool false)))] .nil)
def E2:O:=(.ret (.call H6 #v[(.sub (.v 0) (ai 1)),(.b1 .len (.sub (.v 0) (ai 2))),(.b1 .len (.sub (.v 0) (ai 3)))]))
def OO:bK:=⟨1,10,#v[yI,yJ,E2]⟩
def yG:O:=(.ife (.or #v[(.not (.isinst (.v 0) .tuple)),(.not (.cmp2 (ai 1) .le (.b1 .len (.v 0)) .le (ai 20))),(.not (.b1 .all (.comp true 1 [none,none,none] (.call H7 #v[(.v 1)]) (.k (.bool true)) (.v 0))))]) #v[(.ret (.k (.bool false)))] .nil)
def EY:O:=(.asg 2 (.lst false .nil))
def EZ:O:=#v[(.expr (.me .extend (.v 2) #v[(.sub (.v 1) (ai 3))]))]
def yH:O:=(.for1 1 (.v 0) EZ)
def E0:O:=(.ret (.and #v[(.call vZ #v[(.comp true 1 [none,none] (.sub (.v 1) (ai 0)) (.k (.bool true)) (.v 0))]),(.call vZ #v[(.v 2)])]))
def ON:bK:=⟨1,9,#v[yG,EY,yH,E0]⟩
def EV:O:=#v[(.asgSub (.v 1) (.v 3) (.v 2))]
def EU:O:=#v[(.for1 3 (.sub (.v 2) (ai 3)) EV)]
def ET:bK:=⟨1,4,#v[(.asg 1 (.dnew false)),(.for1 2 (.v 0) EU),(.ret (.v 1))]⟩
def GX:O:=#v[(.ife (.and #v[(.cmp (.v 4) .notin (.v 1)),(.cmp (.v 4) .notin (.v 2))]) #v[(.expr (.me .append (.v 2) #v[(.v 4)]))] .nil)]
def GW:O:=#v[(.for1 4 (.sub (.v 3) (ai 2)) GX)]
def GV:bK:=⟨1,6,#v[(.asg 1 (.call Ag #v[(.v 0)])),(.asg 2 (.lst false .nil)),(.for1 3 (.v 0) GW),(.ret (.v 2))]⟩
def EW:bK:=⟨3,6,#v[(.ret (.and #v[(.isinst (.v 0) .int),(.not (.isinst (.v 0) .bool)),(.cmp2 (.v 1) .le (.v 0) .le (.v 2))]))]⟩
def ES:O:=(.expr (.meth 311 Ac "fire" (.v 0) #v[(.sub (.v 3) (ai 0)),(.v 1)]))
def ER:O:=(.ife (.meth 311 vY "is_ready" (.v 0) #v[(.v 3),(.v 1)]) #v[ES,(.asg 2 (.bin .add (.v 2) (ai 1)))] .nil)
def EQ:O:=#v[ER]
def OL:bK:=⟨2,4,#v[(.asg 2 (ai 0)),(.for1 3 (.attr 311 (.v 0) "plan") EQ),(.ret (.v 2))]⟩
def G4:O:=#v[(.asg 1 (.bin .add (.v 1) (.v 3))),(.asg 3 (.call v0 #v[(.v 0),(.v 2)]))]
def G3:O:=(.whl (.cmp (.v 3) .gt (ai 0)) G4)
def G2:O:=#v[(.asg 3 (.call v0 #v[(.v 0),(.v 2)])),G3]
def G1:O:=(.for1 2 (.range1 (.attr 311 (.v 0) "turns")) G2)
def O2:bK:=⟨1,6,#v[(.asg 1 (ai 0)),G1,(.ret (.v 1))]⟩
def vu:bK:=⟨2,3,#v[(.ife (.cmp (.v 1) .lt (.b1 .len (.v 0))) #v[(.ret (.sub (.v 0) (.v 1)))] .nil),(.ret (ai 0))]⟩
def yT:bK:=⟨1,2,#v[(.asg 1 (.bin .mod (.bin .add (.bin .mul (.v 0) (ai 48271)) (ai 11)) (ai 2147483647))),(.ret (.bin .mod (.bin .mul (.v 1) (.v 1)) (ai 2147483629)))]⟩
def FJ:X:=(.comp true 1 [none,none,some 0,some 1] (.bin .add (.sub (.v 3) (.bin .mod (.bin .add (.bin .fdiv (.v 2) (ai 9)) (.v 1)) (ai 12))) (.sub (.lst true #v[(.k (.str "")),(.k (.str "x"))]) (.bin .fdiv (.v 1) (ai 12)))) (.k (.bool true)) (.range1 (ai 24)))
def FK:O:=(.ife (.cmp (.bin .mod (.v 0) (ai 9)) .eq (ai 8)) #v[(.asg 1 (.lst true #v[(.k (.str "sum")),(.k (.str "later")),(.k (.str "way")),(.k (.str "fixed")),(.k (.str "a9")),(.k (.str "b")),(.k (.str "times")),(.k (.str "choose")),(.k (.str "least")),(.k (.str "most")),(.k (.str "z0")),(.k (.str "put"))])),(.ret FJ)] .nil)
def FL:O:=(.asg 3 (.bin .add (ai 1) (.bin .mod (.v 0) (ai 8))))
def FM:O:=(.asg 4 (.bin .mod (.bin .fdiv (.v 0) (ai 8)) (.v 3)))
def yS:O:=#v[(.asg 6 (.sub (.v 1) (.bin .mod (.bin .add (.bin .fdiv (.v 0) (ai 64)) (.v 2)) (.sub (.lst true #v[(ai 26),(ai 36)]) (.b1 .int (.cmp (.v 4) .gt (ai 0))))))),(.expr (.me .append (.v 5) #v[(.bin .add (.bin .add (.bin .mul (.k (.str "m")) (.v 4)) (.v 6)) (.bin .mul (.k (.str "m")) (.bin .sub (.bin .sub (.v 3) (ai 1)) (.v 4))))]))]
def FN:O:=(.for1 2 (.range1 (ai 24)) yS)
def FI:bK:=⟨1,9,#v[FK,FL,FM,(.asg 1 (.k (.str "abcdefghijklmnopqrstuvwxyz0123456789"))),(.asg 5 (.lst false .nil)),FN,(.ret (.v 5))]⟩
def y5:bK:=⟨1,1,#v[(.ife (.cmp (.bin .mod (.v 0) (ai 4)) .eq (ai 0)) #v[(.ret (.sub (.lst true #v[(ai 0),(ai 0),(ai 1),(ai 999999)]) (.bin .mod (.bin .fdiv (.v 0) (ai 4)) (ai 4))))] .nil),(.ife (.cmp (.bin .mod (.v 0) (ai 4)) .eq (ai 1)) #v[(.ret (.bin .mod (.bin .fdiv (.v 0) (ai 4)) (.bin .pow (ai 10) (ai 6))))] .nil),(.ret (.bin .mod (.bin .fdiv (.v 0) (ai 4)) (ai 5)))]⟩
def Ft:O:=(.asg 3 (.sub (.v 1) (ai 0)))
def py:O:=(.ife (.cmp (.sub (.v 0) (ai 0)) .eq (.k (.str "sum"))) #v[(.asg 3 (.bin .mod (.b1 .sum (.v 1)) (.bin .pow (ai 10) (ai 6))))] .nil)
def Fw:O:=(.asg 3 (.bin .mod (.bin .mul (.v 3) (.v 4)) (.bin .pow (ai 10) (ai 6))))
def Fv:O:=#v[Fw]
def Fu:O:=(.for1 4 (.v 1) Fv)
def rp:O:=(.ife (.cmp (.sub (.v 0) (ai 0)) .eq (.k (.str "times"))) #v[(.asg 3 (ai 1)),Fu] .nil)
def yQ:O:=(.asg 3 (.sub (.b1 .sorted (.v 1)) (.sub (.lst true #v[(ai 0),(.neg (ai 1))]) (.b1 .int (.cmp (.sub (.v 0) (ai 0)) .eq (.k (.str "most")))))))
def rq:O:=(.ife (.cmp (.sub (.v 0) (ai 0)) .isin (.tup #v[(.k (.str "least")),(.k (.str "most"))])) #v[yQ] .nil)
def Fs:X:=(.comp true 1 [none,none,some 3] (.v 2) (.k (.bool true)) (.range1 (.v 2)))
def yR:O:=(.ret Fs)
def OT:bK:=⟨3,9,#v[(.ife (.cmp (.sub (.v 0) (ai 0)) .eq (.k (.str "way"))) #v[(.ret (.sub (.lst true #v[(.lst true #v[(.sub (.v 1) (ai 0)),(.k .none)]),(.lst true #v[(.k .none),(.sub (.v 1) (ai 0))])]) (.b1 .int (.cmp (.sub (.v 1) (ai 1)) .ne (ai 0)))))] .nil),Ft,py,rp,rq,(.ife (.cmp (.sub (.v 0) (ai 0)) .eq (.k (.str "fixed"))) #v[(.asg 3 (.sub (.v 0) (ai 1)))] .nil),(.ife (.cmp (.sub (.v 0) (ai 0)) .eq (.k (.str "choose"))) #v[(.asg 3 (.sub (.v 1) (.bin .add (ai 1) (.b1 .int (.cmp (.sub (.v 1) (ai 0)) .ne (ai 0))))))] .nil),yR]⟩
def y4:bK:=⟨2,4,#v[(.asg 2 (.sub (.lst true #v[(.k (.str "sum")),(.k (.str "times")),(.k (.str "least")),(.k (.str "most")),(.k (.str "fixed")),(.k (.str "later")),(.k (.str "later")),(.k (.str "way")),(.k (.str "choose")),(.k (.str "way")),(.k (.str "choose")),(.k (.str "sum"))]) (.v 1))),(.ife (.cmp (.v 2) .eq (.k (.str "fixed"))) #v[(.ret (.tup #v[(.k (.str "fixed")),(.call tJ #v[(.v 0)])]))] .nil),(.ret (.tup #v[(.v 2)]))]⟩
def F5:O:=(.asg 2 (.call tH #v[(.call gu #v[(.v 0),(.v 1)])]))
def vw:O:=(.asg 3 (.sub (.lst true #v[(ai 1),(ai 2),(ai 3),(ai 4),(ai 6),(ai 8)]) (.bin .mod (.call gu #v[(.v 0),(.bin .add (.v 1) (ai 1))]) (ai 6))))
def F6:O:=(.asg 3 (.bin .add (ai 9) (.bin .mod (.bin .fdiv (.call gu #v[(.v 0),(.bin .add (.v 1) (ai 1))]) (ai 60)) (ai 12))))
def yV:O:=(.ife (.cmp (.bin .mod (.bin .fdiv (.call gu #v[(.v 0),(.bin .add (.v 1) (ai 1))]) (ai 6)) (ai 10)) .eq (ai 1)) #v[F6] .nil)
def yW:O:=(.asg 4 (.sub (.lst true #v[(ai 2),(ai 4),(ai 6),(ai 9)]) (.bin .mod (.call gu #v[(.v 0),(.bin .add (.v 1) (ai 2))]) (ai 4))))
def F7:O:=(.asg 5 (.lst false .nil))
def F2:X:=(.comp false 1 [none,none,some 2] (.sub (.v 2) (.v 1)) (.k (.bool true)) (.range1 (.min2 (ai 24) (.bin .add (.v 4) (.v 3)))))
def yX:O:=(.asg 7 F2)
def yY:O:=(.asg 8 (.b1 (.list true) (.v 7)))
def F9:O:=(.asg 9 (.call ji #v[(.bin .add (.call gu #v[(.v 0),(.bin .add (.bin .add (.v 1) (ai 3)) (.bin .mod (.v 6) (ai 8)))]) (.bin .mul (ai 977) (.v 6)))]))
def Ga:O:=(.asg 10 (.call Al #v[(.call ji #v[(.v 9)]),(.bin .mod (.bin .fdiv (.v 9) (ai 5)) (ai 12))]))
def Gc:O:=(.asg 11 (.call ji #v[(.bin .add (.v 9) (ai 1))]))
def Gd:O:=(.asg 12 (.sub (.lst true #v[(.bin .add (ai 1) (.bin .mod (.v 11) (ai 4))),(ai 1)]) (.b1 .int (.cmp (.sub (.v 10) (ai 0)) .eq (.k (.str "later"))))))
def Ge:O:=(.asg 12 (.fdget ["way", "choose"] [(.int 2),(.int 3)] (.sub (.v 10) (ai 0)) (.v 12)))
def yZ:O:=(.asg 13 (.fdget ["way"] [(.int 2)] (.sub (.v 10) (ai 0)) (.sub (.lst true #v[(ai 1),(ai 1),(ai 1),(ai 2),(ai 3)]) (.bin .mod (.bin .fdiv (.v 11) (ai 4)) (ai 5)))))
def Gf:O:=(.asg 13 (.min2 (.v 13) (.b1 .len (.v 7))))
def Gg:O:=(.ife (.or #v[(.cmp (.v 13) .eq (ai 0)),(.and #v[(.cmp (.sub (.v 10) (ai 0)) .eq (.k (.str "way"))),(.cmp (.v 13) .lt (ai 2))])]) #v[.brk] .nil)
def F3:X:=(.comp true 1 [none,none,none,none,some 11,some 8] (.sub (.v 5) (.bin .mod (.call ji #v[(.bin .add (.v 4) (.bin .mul (ai 7) (.v 1)))]) (.b1 .len (.v 5)))) (.k (.bool true)) (.range1 (.v 12)))
def Gh:O:=(.asg 14 F3)
def F4:X:=(.comp true 1 [none,none,none,none,some 7,some 11] (.me .pop (.v 4) #v[(.bin .mod (.call ji #v[(.bin .add (.bin .add (.v 5) (.bin .mul (ai 31) (.v 1))) (ai 5))]) (.b1 .len (.v 4)))]) (.k (.bool true)) (.range1 (.v 13)))
def Gi:O:=(.asg 15 F4)
def Gb:O:=(.expr (.me .append (.v 5) #v[(.tup #v[(.sub (.v 2) (.bin .sub (ai 23) (.v 6))),(.v 10),(.b1 .tuple (.v 14)),(.b1 .tuple (.v 15))])]))
def vx:O:=#v[F9,Ga,Gc,Gd,Ge,yZ,Gf,Gg,Gh,Gi,Gb]
def F8:O:=(.for1 6 (.range1 (.v 3)) vx)
def y0:O:=(.ife (.cmp (.v 5) .eq (.lst true .nil)) #v[(.expr (.me .append (.v 5) #v[(.tup #v[(.sub (.v 2) (ai 0)),(.tup #v[(.k (.str "sum"))]),(.tup #v[(.sub (.v 2) (ai 0))]),(.tup #v[(.sub (.v 2) (ai 1))])])]))] .nil)
def Gj:O:=(.ret (.b1 .tuple (.v 5)))
def OX:bK:=⟨2,26,#v[F5,vw,yV,yW,F7,yX,yY,F8,y0,Gj]⟩
def FT:O:=#v[(.expr (.me .extend (.v 1) #v[(.sub (.v 2) (ai 3))]))]
def FV:O:=#v[(.ife (.and #v[(.cmp (.v 4) .notin (.v 1)),(.cmp (.v 4) .notin (.v 3))]) #v[(.expr (.me .append (.v 3) #v[(.v 4)]))] .nil)]
def FU:O:=#v[(.for1 4 (.sub (.v 2) (ai 2)) FV)]
def FS:bK:=⟨1,5,#v[(.asg 1 (.lst false .nil)),(.for1 2 (.v 0) FT),(.asg 3 (.lst false .nil)),(.for1 2 (.v 0) FU),(.ret (.v 3))]⟩
def Fq:O:=#v[(.ife (.cmp (.sub (.v 2) (ai 1)) .eq (.tup #v[(.k (.str "later"))])) #v[(.expr (.me .extend (.v 1) #v[(.sub (.v 2) (ai 3))]))] .nil)]
def Fp:bK:=⟨1,3,#v[(.asg 1 (.lst false .nil)),(.for1 2 (.v 0) Fq),(.ret (.v 1))]⟩
def Gk:O:=(.asg 5 (.bin .mod (.call gu #v[(.v 0),(.v 1)]) (ai 3)))
def Go:O:=(.asg 9 (.call ji #v[(.bin .add (.bin .add (.call gu #v[(.v 0),(.bin .add (.bin .add (.v 1) (ai 1)) (.bin .mod (.bin .add (.v 6) (.v 8)) (ai 6)))]) (.bin .mul (ai 31) (.v 6))) (.bin .mul (ai 1009) (.v 8)))]))
def Gq:O:=(.expr (.me .append (.v 4) #v[(.tup #v[(.v 7),(.v 8),(.call tJ #v[(.call ji #v[(.v 9)])])])]))
def Gp:O:=(.ife (.or #v[(.cmp (.v 5) .gt (ai 0)),(.cmp (.bin .mod (.v 9) (ai 3)) .gt (ai 0))]) #v[Gq] .nil)
def y1:O:=#v[Go,Gp]
def Gn:O:=(.for1 8 (.range1 (.v 3)) y1)
def Gm:O:=#v[Gn]
def Gl:O:=(.forT [6,7] (.enum (.call v1 #v[(.v 2)])) Gm)
def Gs:O:=(.asg 9 (.call ji #v[(.bin .add (.call gu #v[(.v 0),(.bin .add (.bin .add (.v 1) (ai 1)) (.bin .mod (.v 6) (ai 6)))]) (ai 7))]))
def Gv:O:=(.expr (.me .append (.v 4) #v[(.tup #v[(.v 7),(ai 0),(.call tJ #v[(.call ji #v[(.v 9)])])])]))
def Gu:O:=(.ife (.cmp (.bin .mod (.v 9) (ai 5)) .gt (.bin .sub (.v 5) (ai 1))) #v[Gv] .nil)
def y2:O:=#v[Gs,Gu]
def Gr:O:=(.forT [6,7] (.enum (.call Aj #v[(.v 2)])) y2)
def Gw:O:=(.ret (.v 4))
def OY:bK:=⟨4,17,#v[(.asg 4 (.lst false .nil)),Gk,Gl,Gr,Gw]⟩
def FP:O:=(.asg 3 (.b1 (.list true) (.sub (.v 0) (ai 2))))
def FR:O:=(.asg 3 (.lst true #v[(.sub (.v 3) (.bin .add (ai 1) (.b1 .int (.cmp (.sub (.v 1) (.tup #v[(.sub (.v 3) (ai 0)),(.v 2)])) .ne (ai 0)))))]))
def FQ:O:=(.ife (.and #v[(.cmp (.sub (.v 0) (ai 1)) .eq (.tup #v[(.k (.str "choose"))])),(.cmp (.tup #v[(.sub (.v 3) (ai 0)),(.v 2)]) .isin (.v 1))]) #v[FR] .nil)
def FO:bK:=⟨3,6,#v[FP,FQ,(.ret (.v 3))]⟩
def FG:X:=(.comp true 1 [none,none,some 1,some 2] (.v 1) (.cmp (.tup #v[(.v 1),(.v 3)]) .notin (.v 2)) (.call tI #v[(.v 0),(.v 1),(.v 2)]))
def FH:O:=(.asg 3 FG)
def OU:bK:=⟨3,5,#v[FH,(.ret (.sub (.bin .add (.v 3) (.lst true #v[(.k .none)])) (ai 0)))]⟩
def Fk:X:=(.comp true 1 [none,none,some 1,some 2] (.me .get (.v 2) #v[(.tup #v[(.v 1),(.v 3)])]) (.k (.bool true)) (.sub (.v 0) (ai 2)))
def Fl:O:=(.asg 5 (.bin .add (.v 2) (.b1 .int (.cmp (.sub (.v 0) (ai 1)) .eq (.tup #v[(.k (.str "later"))])))))
def Fm:O:=(.asg 6 (.call Ia #v[(.sub (.v 0) (ai 1)),(.v 4),(.b1 .len (.sub (.v 0) (ai 3)))]))
def Fo:O:=(.ife (.and #v[(.cmp (.sub (.v 6) (.v 7)) .isNot (.k .none)),(.cmp (.v 5) .lt (.v 3))]) #v[(.asgSub (.v 1) (.tup #v[(.sub (.sub (.v 0) (ai 3)) (.v 7)),(.v 5)]) (.sub (.v 6) (.v 7)))] .nil)
def vv:O:=#v[Fo]
def Fn:O:=(.for1 7 (.range1 (.b1 .len (.v 6))) vv)
def Fj:bK:=⟨4,12,#v[(.asg 4 Fk),Fl,Fm,Fn]⟩
def GC:O:=(.expr (.me .append (.v 3) #v[(.tup #v[(.sub (.v 6) (ai 0)),(.v 4)])]))
def GD:O:=(.expr (.call H9 #v[(.v 6),(.v 1),(.v 4),(.v 2)]))
def GB:O:=(.ife (.and #v[(.cmp (.tup #v[(.sub (.v 6) (ai 0)),(.v 4)]) .notin (.v 3)),(.cmp (.call Ak #v[(.v 6),(.v 1),(.v 4)]) .is (.k .none))]) #v[GC,GD] .nil)
def GA:O:=#v[GB]
def Gz:O:=(.for1 6 (.v 0) GA)
def y3:O:=#v[(.asg 5 (.b1 .len (.v 3))),Gz]
def Gy:O:=#v[(.asg 5 (.neg (ai 1))),(.whl (.cmp (.v 5) .lt (.b1 .len (.v 3))) y3)]
def Gx:O:=(.for1 4 (.range1 (.v 2)) Gy)
def GF:O:=(.ret (.v 3))
def OZ:bK:=⟨3,11,#v[(.asg 3 (.lst false .nil)),Gx,GF]⟩
def FX:O:=(.ife (.or #v[(.not (.isinst (.v 0) .list)),(.cmp (.v 0) .ne (.v 1))]) #v[(.ret (.k (.bool false)))] .nil)
def FW:X:=(.comp true 1 [none,none,none,none] (.v 1) (.isinst (.v 1) .bool) (.v 2))
def yU:O:=#v[(.ife (.or #v[(.not (.isinst (.v 2) .tuple)),(.cmp FW .ne (.lst true .nil))]) #v[(.ret (.k (.bool false)))] .nil)]
def FY:O:=(.for1 2 (.v 0) yU)
def OV:bK:=⟨2,6,#v[FX,FY,(.ret (.k (.bool true)))]⟩
def F1:O:=#v[(.ife (.cmp (.v 3) .notin (.v 1)) #v[(.expr (.me .append (.v 1) #v[(.v 3)]))] .nil)]
def F0:O:=#v[(.for1 3 (.bin .add (.sub (.v 2) (ai 2)) (.sub (.v 2) (ai 3))) F1)]
def FZ:O:=(.for1 2 (.v 0) F0)
def OW:bK:=⟨1,4,#v[(.asg 1 (.lst false .nil)),FZ,(.ret (.v 1))]⟩
def Fz:O:=(.asg 5 (.call Ie #v[(.v 1)]))
def FC:O:=(.asg 5 (.rev (.v 5)))
def FA:O:=(.ife (.cmp (.bin .mod (.v 4) (ai 2)) .eq (ai 1)) #v[FC] .nil)
def Fy:X:=(.comp true 1 [none,none,some 6,some 2] (.tup #v[(.v 1),(.sub (.v 3) (.tup #v[(.v 2),(.v 1)]))]) (.cmp (.tup #v[(.v 2),(.v 1)]) .isin (.v 3)) (.range1 (.v 3)))
def FF:O:=(.ife (.not (.call Ic #v[(.meth 311 H4 "told" (.v 0) #v[(.v 6)]),(.v 7)])) #v[(.ret (.k (.bool false)))] .nil)
def FE:O:=#v[(.asg 7 Fy),FF]
def FD:O:=(.for1 6 (.v 5) FE)
def Fx:bK:=⟨5,11,#v[Fz,FA,FD,(.ret (.k (.bool true)))]⟩
def Fi:O:=(.expr (.meth 311 Ac "fire" (.v 0) #v[(.v 3),(.v 4)]))
def yO:O:=(.ife (.cmp (.v 2) .ne (.lst true .nil)) #v[(.asgT [3,4] (.sub (.v 2) (.sub (.lst true #v[(ai 0),(.neg (ai 1)),(.bin .mod (.v 1) (.b1 .len (.v 2)))]) (.bin .mod (.bin .fdiv (.v 1) (ai 7)) (ai 3))))),Fi] .nil)
def yP:O:=(.ret (.cmp (.v 2) .ne (.lst true .nil)))
def OS:bK:=⟨2,6,#v[(.asg 2 (.meth 311 tD "ready" (.v 0) .nil)),yO,yP]⟩
def E3:O:=(.ife (.or #v[(.cmp (.meth 311 tD "ready" (.v 0) .nil) .ne (.lst true .nil)),(.cmp (.b1 .lenset (.v 6)) .lt (.b1 .len (.v 6))),(.cmp (.b1 .sorted (.v 6)) .ne (.b1 .sorted (.v 3)))]) #v[(.ret (.k (.bool false)))] .nil)
def E4:O:=(.ret (.and #v[(.call Ib #v[(.v 0),(.v 1),(.v 2),(.v 4),(.v 5)]),(.cmp (.call v5 #v[(.v 0)]) .eq (ai 0)),(.cmp (.meth 311 oM "fired" (.v 0) .nil) .eq (.v 6))]))
def OQ:bK:=⟨6,12,#v[(.asg 6 (.meth 311 oM "fired" (.v 0) .nil)),E3,E4]⟩
def E5:O:=(.asg 4 (.b1 (.list false) (.v 1)))
def E7:O:=(.asg 6 (.call ji #v[(.bin .add (.call gu #v[(.v 2),(.bin .add (.v 3) (.bin .mod (.v 5) (ai 8)))]) (.bin .mul (ai 31) (.v 5)))]))
def E9:O:=(.asgT [7,8,9] (.me .pop (.v 4) #v[(.bin .mod (.bin .fdiv (.v 6) (ai 2)) (.b1 .len (.v 4)))]))
def Fa:O:=(.expr (.meth 311 tC "put" (.v 0) #v[(.v 7),(.v 8),(.v 9)]))
def E8:O:=(.expr (.call tG #v[(.v 0),(.bin .fdiv (.v 6) (ai 2))]))
def yM:O:=(.ife (.and #v[(.cmp (.bin .mod (.v 6) (ai 2)) .eq (ai 0)),(.cmp (.v 4) .ne (.lst true .nil))]) #v[E9,Fa] #v[E8])
def yL:O:=#v[E7,yM]
def E6:O:=(.for1 5 (.range1 (.bin .mul (ai 2) (.b1 .len (.v 1)))) yL)
def Fc:O:=#v[(.expr (.meth 311 tC "put" (.v 0) #v[(.v 7),(.v 8),(.v 9)]))]
def Fb:O:=(.forT [7,8,9] (.v 4) Fc)
def Fd:O:=(.asg 10 (.b1 .len (.meth 311 oM "fired" (.v 0) .nil)))
def yN:O:=(.ife (.cmp (.bin .mod (.call gu #v[(.v 2),(.v 3)]) (ai 2)) .eq (ai 0)) #v[(.ret (.cmp (.call v5 #v[(.v 0)]) .eq (.bin .sub (.b1 .len (.meth 311 oM "fired" (.v 0) .nil)) (.v 10))))] .nil)
def Ff:O:=#v[(.asg 10 (.call ji #v[(.v 10)]))]
def Fe:O:=(.whl (.call tG #v[(.v 0),(.v 10)]) Ff)
def Fg:O:=(.ret (.k (.bool true)))
def OR:bK:=⟨4,18,#v[E5,E6,Fb,Fd,yN,Fe,Fg]⟩
def GG:O:=(.asg 2 (.bin .add (ai 1) (.bin .mod (.call gu #v[(.v 0),(ai 11)]) (ai 6))))
def GI:O:=(.asg 3 (.call Ih #v[(.v 0),(ai 12),(.v 1),(.v 2)]))
def GJ:O:=(.asg 7 (.b1 .dict (.compT true [1,2,3] [none,none,none,none] (.tup #v[(.tup #v[(.v 1),(.v 2)]),(.v 3)]) (.v 3))))
def GK:O:=(.asg 8 (.call Ii #v[(.v 1),(.v 7),(.v 2)]))
def Fh:X:=(.comp true 1 [none,none,none,some 1,some 2] (.new 311 tz #v[(.v 3),(.v 4)]) (.k (.bool true)) (.range1 (ai 3)))
def GL:O:=(.asg 10 Fh)
def GO:O:=#v[(.expr (.meth 311 tC "put" (.sub (.v 10) (ai 0)) #v[(.v 4),(.v 5),(.v 6)]))]
def GN:O:=(.forT [4,5,6] (.v 3) GO)
def GP:O:=(.ife (.cmp (.call v5 #v[(.sub (.v 10) (ai 0))]) .ne (.b1 .len (.v 8))) #v[(.ret (.k (.bool false)))] .nil)
def GR:O:=(.ife (.not (.call H8 #v[(.sub (.v 10) (.v 9)),(.v 1),(.v 7),(.v 8),(.v 2),(.bin .add (.call gu #v[(.v 0),(ai 19)]) (.v 9))])) #v[(.ret (.k (.bool false)))] .nil)
def vy:O:=#v[GR]
def GQ:O:=(.for1 9 (.lst true #v[(ai 0),(ai 1),(ai 2),(ai 0)]) vy)
def GH:O:=(.ret (.k (.bool true)))
def OP:bK:=⟨1,21,#v[(.asg 1 (.call Ig #v[(.v 0),(ai 0)])),GG,GI,GJ,GK,GL,GN,GP,(.ife (.or #v[(.not (.call tF #v[(.sub (.v 10) (ai 1)),(.v 3),(.v 0),(ai 20)])),(.not (.call tF #v[(.sub (.v 10) (ai 2)),(.v 3),(.v 0),(ai 29)]))]) #v[(.ret (.k (.bool false)))] .nil),GQ,GH]⟩
def Ej:O:=(.ife (.not (.call Ai #v[(.v 1)])) #v[.stk] .nil)
def yt:O:=(.ife (.not (.call rI #v[(.v 2),(ai 1),(ai 200)])) #v[.stk] .nil)
def yu:O:=(.asgAttr 311 (.v 0) "plan" (.v 1))
def yv:O:=(.asgAttr 311 (.v 0) "turns" (.v 2))
def yw:O:=(.asgAttr 311 (.v 0) "givers" (.call Ag #v[(.v 1)]))
def yx:O:=(.asgAttr 311 (.v 0) "outer" (.call Ij #v[(.v 1)]))
def yy:O:=(.asgAttr 311 (.v 0) "here" (.dnew true))
def yz:O:=(.asgAttr 311 (.v 0) "gone" (.dnew true))
def yA:O:=(.asgAttr 311 (.v 0) "order" (.lst false .nil))
def OB:bK:=⟨3,10,#v[Ej,yt,yu,yv,yw,yx,yy,yz,yA]⟩
def OF:bK:=⟨2,5,#v[(.ife (.or #v[(.not (.isinst (.v 1) .str)),(.and #v[(.cmp (.v 1) .notin (.attr 311 (.v 0) "givers")),(.cmp (.v 1) .notin (.attr 311 (.v 0) "outer"))])]) #v[.stk] .nil)]⟩
def OH:bK:=⟨2,4,#v[(.ife (.not (.call rI #v[(.v 1),(ai 0),(.bin .sub (.attr 311 (.v 0) "turns") (ai 1))])) #v[.stk] .nil)]⟩
def ED:O:=(.ife (.cmp (.sub (.v 2) (ai 0)) .eq (.v 1)) #v[(.ret (.v 2))] .nil)
def EC:O:=#v[ED]
def EB:O:=(.for1 2 (.attr 311 (.v 0) "plan") EC)
def OG:bK:=⟨2,6,#v[(.ife (.isinst (.v 1) .str) #v[EB] .nil),.stk]⟩
def EF:O:=(.expr (.meth 311 Ad "need_place" (.v 0) #v[(.v 1)]))
def EG:O:=(.expr (.meth 311 Ae "need_turn" (.v 0) #v[(.v 2)]))
def EH:O:=(.ife (.not (.call tE #v[(.v 3)])) #v[.stk] .nil)
def EI:O:=(.asgSub (.attr 311 (.v 0) "here") (.tup #v[(.v 1),(.v 2)]) (.v 3))
def EE:bK:=⟨4,8,#v[EF,EG,(.ife (.and #v[(.cmp (.v 1) .isin (.attr 311 (.v 0) "givers")),(.or #v[(.cmp (.sub (.sub (.sub (.attr 311 (.v 0) "givers") (.v 1)) (ai 1)) (ai 0)) .ne (.k (.str "later"))),(.cmp (.v 2) .gt (ai 0))])]) #v[.stk] .nil),EH,(.ife (.cmp (.tup #v[(.v 1),(.v 2)]) .isin (.attr 311 (.v 0) "here")) #v[.stk] .nil),EI]⟩
def Ex:O:=(.asg 3 (.sub (.v 1) (ai 2)))
def vn:O:=(.ife (.cmp (.v 4) .is (.k .none)) #v[(.ret (.sub (.v 3) (ai 0)))] .nil)
def Ez:O:=(.asg 3 (.slice (.v 3) (ai 1) (ai 2)))
def Ey:O:=(.asg 3 (.slice (.v 3) (ai 2) (ai 3)))
def vo:O:=(.ife (.cmp (.v 4) .eq (ai 0)) #v[Ez] #v[Ey])
def s3:O:=(.ife (.cmp (.sub (.sub (.v 1) (ai 1)) (ai 0)) .eq (.k (.str "choose"))) #v[(.asg 4 (.me .get (.attr 311 (.v 0) "here") #v[(.tup #v[(.sub (.v 3) (ai 0)),(.v 2)])])),vn,vo] .nil)
def yE:O:=(.ife (.cmp (.tup #v[(.v 5),(.v 2)]) .notin (.attr 311 (.v 0) "here")) #v[(.ret (.v 5))] .nil)
def EA:O:=#v[yE]
def ro:O:=(.for1 5 (.v 3) EA)
def vp:O:=(.ret (.k .none))
def OE:bK:=⟨3,6,#v[Ex,s3,ro,vp]⟩
def Ew:bK:=⟨3,3,#v[(.ret (.cmp (.tup #v[(.v 1),(.v 2)]) .isin (.attr 311 (.v 0) "gone")))]⟩
def OD:bK:=⟨3,3,#v[(.ret (.and #v[(.not (.meth 311 tA "has_fired" (.v 0) #v[(.sub (.v 1) (ai 0)),(.v 2)])),(.cmp (.meth 311 tB "missed" (.v 0) #v[(.v 1),(.v 2)]) .is (.k .none))]))]⟩
def Em:O:=(.asg 3 (.meth 311 H3 "need_step" (.v 0) #v[(.v 1)]))
def En:O:=(.expr (.meth 311 Ae "need_turn" (.v 0) #v[(.v 2)]))
def Eo:O:=(.ife (.meth 311 tA "has_fired" (.v 0) #v[(.v 1),(.v 2)]) #v[.stk] .nil)
def Ep:O:=(.ife (.cmp (.meth 311 tB "missed" (.v 0) #v[(.v 3),(.v 2)]) .isNot (.k .none)) #v[.stk] .nil)
def Er:O:=(.asgSub (.attr 311 (.v 0) "gone") (.tup #v[(.v 1),(.v 2)]) (.k (.bool true)))
def Es:O:=(.expr (.me .append (.attr 311 (.v 0) "order") #v[(.tup #v[(.v 1),(.v 2)])]))
def El:X:=(.comp true 1 [none,none,some 0,some 2] (.me .get (.attr 311 (.v 2) "here") #v[(.tup #v[(.v 1),(.v 3)])]) (.k (.bool true)) (.sub (.v 3) (ai 2)))
def Et:O:=(.asg 5 El)
def Eu:O:=(.asg 6 (.bin .add (.v 2) (.b1 .int (.cmp (.sub (.sub (.v 3) (ai 1)) (ai 0)) .eq (.k (.str "later"))))))
def yB:O:=(.ife (.cmp (.v 6) .eq (.attr 311 (.v 0) "turns")) #v[.ret0] .nil)
def Ev:O:=(.ife (.cmp (.v 7) .isNot (.k .none)) #v[(.asgSub (.attr 311 (.v 0) "here") (.tup #v[(.v 4),(.v 6)]) (.v 7))] .nil)
def yD:O:=#v[Ev]
def yC:O:=(.forT [4,7] (.zip #v[(.sub (.v 3) (ai 3)),(.call Am #v[(.sub (.v 3) (ai 1)),(.v 5),(.b1 .len (.sub (.v 3) (ai 3)))])]) yD)
def Ek:bK:=⟨3,14,#v[Em,En,Eo,Ep,Er,Es,Et,Eu,yB,yC]⟩
def EM:X:=(.comp true 1 [none,none,some 1,some 0] (.tup #v[(.v 1),(.sub (.attr 311 (.v 3) "here") (.tup #v[(.v 2),(.v 1)]))]) (.cmp (.tup #v[(.v 2),(.v 1)]) .isin (.attr 311 (.v 3) "here")) (.range1 (.attr 311 (.v 0) "turns")))
def OJ:bK:=⟨2,3,#v[(.expr (.meth 311 Ad "need_place" (.v 0) #v[(.v 1)])),(.ret EM)]⟩
def EK:O:=(.ife (.meth 311 vY "is_ready" (.v 0) #v[(.v 2),(.v 3)]) #v[(.expr (.me .append (.v 1) #v[(.tup #v[(.sub (.v 2) (ai 0)),(.v 3)])]))] .nil)
def EJ:O:=(.for1 2 (.attr 311 (.v 0) "plan") #v[(.for1 3 (.range1 (.attr 311 (.v 0) "turns")) #v[EK])])
def EL:O:=(.ret (.v 1))
def OI:bK:=⟨1,5,#v[(.asg 1 (.lst false .nil)),EJ,EL]⟩
def OC:bK:=⟨1,2,#v[(.ret (.b1 (.list true) (.attr 311 (.v 0) "order")))]⟩
def PP:iH:=⟨[yK,O1,OK,O3,O0,OM,EN,EO,E1,OO,ON,ET,GV,EW,OL,O2,vu,yT,FI,y5,OT,y4,OX,FS,Fp,OY,FO,OU,Fj,OZ,OV,OW,Fx,OS,OQ,OR,OP,OB,OF,OH,OG,EE,OE,Ew,OD,Ek,OJ,OI,OC]⟩
def topN:Nat:=4000
end
section
open PySem.W
set_option maxRecDepth 100000 in
set_option maxHeartbeats 8000000 in
theorem saidX:PySem.Challenge.rw_uf020019_06.wellSaid=true:=by decide +kernel
noncomputable abbrev wg(w:World)(os:OsState):Option Shared:=tN PySem.Challenge.pw_uf020019_06 w os topN
set_option maxRecDepth 1000000 in
set_option maxHeartbeats 80000000 in
theorem Su:∀w os,(wg w os).map (fun s=>(PySem.W.Fast.tw4187177175401517315 (viewOf PySem.Challenge.pw_uf020019_06) [] (importedModules PySem.Challenge.pw_uf020019_06.main.body) (fun s=>xlAt (viewOf PySem.Challenge.pw_uf020019_06) [] s&&recOk (RowW.records (OpenRow.toRowW PySem.Challenge.rw_uf020019_06.row)) s) true s))=some (openGood (viewOf PySem.Challenge.pw_uf020019_06) []):=fun w os=>by kernel_rfl
set_option maxRecDepth 1000000 in
set_option maxHeartbeats 80000000 in
theorem Sv:∀w os,(wg w os).map (fun s=>(w2 s.heap (jG s.heap) TT,sU (jG s.heap) TT.cst,sR (jG s.heap) TT.bins))=some (true,true,true):=fun w os=>by kernel_rfl
set_option maxRecDepth 1000000 in
set_option maxHeartbeats 80000000 in
theorem Sw:∀w os,(wg w os).map (vB TT (List.take 27))=some (some (PP.fns.take 27)):=fun w os=>by kernel_rfl
set_option maxRecDepth 1000000 in
set_option maxHeartbeats 80000000 in
theorem Sx:∀w os,(wg w os).map (vB TT (List.drop 27))=some (some (PP.fns.drop 27)):=fun w os=>by kernel_rfl
end
variable {Y ys cA os:List H}{U α' bn m5:aw}{C:bG}{R fL ρ' cL:aB}{S σ' ak aH cH τ aU dq:ab}{cond:X}{f:List (Str×NameKind)->Expr->Option X}{T:bF}{Z:List ((Str×Int)×H)}{wt:Option (Nat×aX)}{fs:List (Str×H)}{bX:aX}{cz:O}{fn:bK}{pl ct sp:H}{many room:Option H}
def Hh:Bool->Keyed->Array Keyed->Nat->Nat->Nat->StateT SortSt Sem (Option Nat):=sortPriv% PySem.Builtin.gallop
structure fO where
 prog:Program
 w:World
 A:Around
 E:Value->Shared->Prop
 s:Shared
 κ:SortKind
 R:Keyed->Int
 P:Keyed->Prop
def fO.W(K:fO){U:Type}(m:StateT SortSt Sem U)(Q:U->SortSt->Prop)(st:SortSt):Prop:=wpS (model K.prog K.w) K.A K.E K.s m Q st
def fO.St(K:fO)(a:Array Keyed)(p:Array (Nat×Nat×Nat))(g:Nat):SortSt:=SortSt.mk' K.κ a p g none
def fO.Ok(K:fO):Prop:=∀(x y:Keyed) (st:SortSt) (Q:Option Bool->SortSt->Prop),K.P x->K.P y->kindOf st=K.κ->Q (some (decide (K.R x<K.R y))) st->K.W (lt' x y) Q st
section
variable {K:fO}{U β:Type}{Q:U->SortSt->Prop}{a:Array Keyed}{p:Array (Nat×Nat×Nat)}{g:Nat}{x y:Keyed}
theorem cE{v:U}(h:Q v st):K.W (pure v) Q st:=wpS_pure h
theorem nu{f:SortSt->StateT SortSt Sem U}(h:K.W (f st) Q st):K.W (get >>= f) Q st:=wpS_bind (wpS_get h)
theorem qd{m:SortSt->SortSt}{f:PUnit->StateT SortSt Sem U}(h:K.W (f ⟨⟩) Q (m st)):K.W (modify m >>= f) Q st:=wpS_bind (wpS_modify h)
theorem ue{n:String}{f:PUnit->StateT SortSt Sem U}(h:K.W (f ⟨⟩) Q st):K.W (liftM (rule n) >>= f) Q st:=wpS_bind (wpS_lift (wpAny_rule ⟨rfl,h⟩))
theorem hf{c:Prop}[Decidable c]{t e:StateT SortSt Sem U}(J:c->K.W t Q st)(L:¬c->K.W e Q st):K.W (if c then t else e) Q st:=by
 split
 ·exact J ‹_›
 ·exact L ‹_›
theorem kP{t e:StateT SortSt Sem U}(J:n=m->K.W t Q st)(L:¬n=m->K.W e Q st):K.W (if(n == m)=true then t else e) Q st:=hf (fun q=>J (beq_iff_eq.mp q)) fun q=>L fun z=>q (beq_iff_eq.mpr z)
theorem oB{f:Keyed->StateT SortSt Sem U}(e:a.toList[i]?=some x)(h:K.W (f x) Q st):K.W (elem' a i >>= f) Q st:=by
 apply wpS_bind;refine elem'_eq<&>kb<$>e<&>?_;exact wpS_pure h
theorem Td{f:Option Bool->StateT SortSt Sem U}(e7:K.Ok)(gL:K.P x)(nK:K.P y)(J:K.R x<K.R y->K.W (f (some true)) Q (K.St a p g))(L:K.R y<=K.R x->K.W (f (some false)) Q (K.St a p g)):K.W (lt' x y >>= f) Q (K.St a p g):=by
 refine wpS_bind (e7 _ _ _ _ gL nK rfl ?_)
 rcases Int.lt_or_le (K.R x) (K.R y)with hl | hl
 ·rw[c6 hl];exact J hl
 ·rw[ed (Int.not_lt.mpr hl)];exact L hl
theorem nk{m:StateT SortSt Sem β}{f:β->StateT SortSt Sem U}(h:K.W m (fun v dH=>K.W (f v) Q dH) st):K.W (m >>= f) Q st:=wpS_bind h
def bL(R:Keyed->Int)(l:List Keyed):Prop:=l.Pairwise fun x y=>R x<=R y
structure hE(T:Nat->Bool)(n lo hi:Nat):Prop where
 le:lo<=hi
 hn:hi<=n
 lt:∀i,i<lo->T i=true
 ge:∀i,hi<=i->i<n->T i=false
def mm(T:Nat->Bool)(n:Nat):Prop:=∀i j,i<=j->j<n->T j=true->T i=true
section
variable {T:Nat->Bool}{hi l o:Nat}
theorem mm.not(hm:mm T n)(rC:i<=j)(aR:j<n)(h:T i=false):T j=false:=by
 cases q:T j with
 | false=>rfl
 | true=>exact(hm i j rC aR q).symm.trans h
theorem TC(lo hi:Nat)(h:lo<hi):lo<=lo+(hi-lo)/2/\lo+(hi-lo)/2<hi:=⟨el _ _,Nat.add_lt_of_lt_sub' (Nat.div_lt_self (Nat.sub_pos_of_lt h) (ic 1))⟩
theorem hE.up(hm:mm T n)(b:hE T n lo hi)(h:m<hi)(e:T m=true):hE T n (m+1) hi:=
 ⟨h,b.hn,fun i pK=>hm i _ (lA pK) (de h b.hn) e,b.ge⟩
theorem hE.dn(hm:mm T n)(b:hE T n lo hi)(h:lo<=m/\m<hi)(e:T m=false):hE T n lo m:=
 ⟨h.1,b4 (de h.2 b.hn),b.lt,fun u J L=>hm.not J L e⟩
theorem MN(hm:mm T n)(J:l<o)(L:l<n-hint)(cT:T (hint+l)=true)(bQ:o<n-hint->T (hint+o)=false):hE T n (hint+l+1) (hint+min o (n-hint)):=by
 have hn:hint+l<n:=Nat.add_lt_of_lt_sub' L;refine⟨kK (Nat.le_min.mpr ⟨J,L⟩) _,?_,fun i hi=>hm i _ (lA hi) hn cT,fun i au aQ=>?_⟩
 ·exact Nat.add_le_of_le_sub' (aE (el _ _) (b4 hn)) (Nat.min_le_right _ _)
 ·rcases Nat.lt_or_ge o (n-hint)with h | h
  ·rw[gX (b4 h)]at au;exact hm.not au aQ (bQ h)
  ·rw[Nat.min_eq_right h,Nat.add_sub_of_le (aE (el _ _) (b4 hn))]at au;exact absurd aQ (e0.mpr au)
theorem MM(hm:mm T n)(hn:hint<n)(J:l<o)(L:l<hint+1)(cT:T (hint-l)=false)(bQ:o<hint+1->T (hint-o)=true):hE T n (hint+1-min o (hint+1)) (hint-l):=by
 refine⟨?_,aE (Nat.sub_le _ _) (b4 hn),fun i hi=>?_,fun i au aQ=>hm.not au aQ cT⟩
 ·exact Nat.add_sub_add_right hint 1 l<$>(Nat.sub_le_sub_left (Nat.le_min.mpr ⟨J,L⟩) _)
 ·rcases Nat.lt_or_ge o (hint+1)with h | h
  ·rw[gX (b4 h),Nat.succ_sub (lA h)]at hi;exact hm i _ (lA hi) (dW (Nat.sub_le _ _) hn) (bQ h)
  ·rw[Nat.min_eq_right h,Nat.sub_self]at hi;exact absurd hi (Nat.not_lt_zero _)
end
noncomputable abbrev xA:=Option (Option Nat)×Nat×Nat
theorem rR{δ:Type}{body:Nat->β->StateT SortSt Sem (ForInStep β)}{k:β->StateT SortSt Sem U}(mk:δ->β)(jT:δ->SortSt)(I:Nat->δ->Prop)(hn:lo<=n){d:δ}(h:I lo d)
  (hb:∀x d O,lo<=x->x<n->I x d->(∀cZ,K.W (k (mk cZ)) Q (jT cZ)->O (.done (mk cZ)) (jT cZ))->(∀cZ,I (x+1) cZ->O (.yield (mk cZ)) (jT cZ))->K.W (body x (mk d)) O (jT d))
  (hk:∀d,I n d->K.W (k (mk d)) Q (jT d)):K.W (forIn [lo:n] (mk d) body >>= k) Q (jT d):=by
 refine wpS_bind (wpS_forRange (I:=fun x c dH=>∃d,c=mk d/\dH=jT d/\I x d) ?_ ?_ (b3 d rfl rfl h))
 ·intro x c dH J L hq;refine bw hq fun d ae qk au=>ae▸?_;refine qk▸?_;exact hb x d _ J L au (fun cZ q=>q) fun cZ q=>(b3 cZ rfl rfl q)
 ·intro c dH hq;refine bw hq fun d ae qk au=>ae▸(qk▸?_);rw[Nat.max_eq_right hn]at au;exact hk d au
theorem wj{δ:Type}{body:Nat->β->StateT SortSt Sem (ForInStep β)}{k:β->StateT SortSt Sem U}(mk:δ->β)(jT:δ->SortSt)(I:Nat->δ->Prop)(ao:δ->Prop)(hn:lo<=n){d:δ}(h:I lo d)
  (hb:∀x d O,lo<=x->x<n->I x d->(∀cZ,ao cZ->O (.done (mk cZ)) (jT cZ))->(∀cZ,I (x+1) cZ->O (.yield (mk cZ)) (jT cZ))->K.W (body x (mk d)) O (jT d))
  (he:∀d,I n d->ao d) (hk:∀d,ao d->K.W (k (mk d)) Q (jT d)):K.W (forIn [lo:n] (mk d) body >>= k) Q (jT d):=
 rR mk jT I hn h (fun x d O J L au aM r2=>hb x d O J L au (fun cZ q=>aM cZ (hk cZ q)) r2) fun d q=>hk d (he d q)
theorem L0{h l x:Nat}(J:h+x<=l+n)(L:l<=m):h+(x+1)<=m+1+n:=by rw[i4];exact Nat.succ_le_succ (aE J (Nat.add_le_add_right L n))
theorem L1{h h' x l:Nat}(J:h+x<=l)(L:h'<h):h'+(x+1)<=l:=aE (by refine iJ<$>i4<&>?_;exact Nat.add_le_add_right L x) J
theorem C6{ε:Type}{hi:Nat}{T:Nat->Bool}{body:Nat->Option ε×Nat×Nat->StateT SortSt Sem (ForInStep (Option ε×Nat×Nat))}{k:Option ε×Nat×Nat->StateT SortSt Sem U}(mid:Nat->Nat->Nat)(QU:∀lo hi,lo<hi->lo<=mid lo hi/\mid lo hi<hi)(hm:mm T n)(b:hE T n lo hi)
  (hb:∀x lo hi O,(hi<=lo->O (.done (none,lo,hi)) st)->(¬hi<=lo->mid lo hi<n)->(¬hi<=lo->T (mid lo hi)=true->O (.yield (none,mid lo hi+1,hi)) st)->(¬hi<=lo->T (mid lo hi)=false->O (.yield (none,lo,mid lo hi)) st)->K.W (body x (none,lo,hi)) O st)
  (hk:∀i,hE T n i i->K.W (k (none,i,i)) Q st):K.W (forIn [0:n] (none,lo,hi) body >>= k) Q st:=by
 have fin:∀{lo hi:Nat},hE T n lo hi->hi<=lo->K.W (k (none,lo,hi)) Q st:=fun b h=>by
  obtain rfl:=Nat.le_antisymm b.le h;exact hk _ b
 refine rR (fun d:Nat×Nat=>(none,d.1,d.2)) (fun u=>st) (fun x d=>hE T n d.1 d.2/\d.2+x<=d.1+n) (ep _) (d:=(lo,hi)) ⟨b,aE b.hn (kN _ _)⟩ (fun x d O u hx I aM r2=>?_) fun d I=>fin I.1 (Nat.le_of_add_le_add_right I.2);have md:=fun h=>QU d.1 d.2 (Nat.not_le.mp h);exact hb x d.1 d.2 O (fun h=>aM d (fin I.1 h)) (fun h=>de (md h).2 I.1.hn) (fun h e=>r2 (mid d.1 d.2+1,d.2) ⟨I.1.up hm (md h).2 e,L0 I.2 (md h).1⟩) fun h e=>r2 (d.1,mid d.1 d.2) ⟨I.1.dn hm (md h) e,L1 I.2 (md h).2⟩
theorem K3{T:Nat->Bool}(b:Bool){body:Nat->xA->StateT SortSt Sem (ForInStep xA)}{k:xA->StateT SortSt Sem U}(QW:m<=n)(h0:T 0=b)(J:0<m)
  (hb:∀x l o O,(m<=o->O (.done (none,l,o)) st)->(o<m->T o=(!b)->O (.done (none,l,o)) st)->(o<m->T o=b->O (.yield (none,o,2*o+1)) st)->K.W (body x (none,l,o)) O st)
  (hk:∀l o,l<o->l<m->T l=b->(o<m->T o=(!b))->K.W (k (none,l,o)) Q st):K.W (forIn [0:n] (none,0,1) body >>= k) Q st:=by
 exact rR (fun d:Nat×Nat=>(none,d.1,d.2)) (fun u=>st) (fun x d=>d.1<d.2/\d.1<m/\T d.1=b/\x<d.2) (ep _) (d:=(0,1)) ⟨Nat.one_pos,J,h0,Nat.one_pos⟩ (fun x d O u hx I aM r2=>(hb x d.1 d.2 O (fun h=>aM d (hk _ _ I.1 I.2.1 I.2.2.1 fun h'=>absurd h' (e0.mpr h))) (fun h e=>aM d (hk _ _ I.1 I.2.1 I.2.2.1 fun u=>e)) fun h e=>r2 (d.2,2*d.2+1) ⟨Nat.lt_succ_of_le ((Nat.le_mul_of_pos_left _ Nat.two_pos):d.2<=2*d.2),h,e,Nat.succ_lt_succ (de I.2.2.2 ((Nat.le_mul_of_pos_left _ Nat.two_pos):d.2<=2*d.2))⟩)) fun d I=>hk _ _ I.1 I.2.1 I.2.2.1 fun h'=>absurd (de h' QW) (e0.mpr (b4 I.2.2.2))
def lE(R:Keyed->Int)(left:Bool)(key x:Keyed):Bool:=if left=true then decide (R x<R key)else !decide (R key<R x)
theorem Mf{R:Keyed->Int}{left:Bool}(h:lE R left key x=true):R x<=R key:=by
 cases left with
 | true=>exact Int.le_of_lt (f0 h)
 | false=>exact Int.not_lt.mp (lz (Eq.mp (Bool.not_eq_true' _) h))
theorem Md{R:Keyed->Int}{left:Bool}(h:lE R left key x=false):R key<=R x:=by
 cases left with
 | true=>exact Int.not_lt.mp (lz h)
 | false=>exact Int.le_of_lt (f0 (Eq.mp (Bool.not_eq_false' _) h))
theorem Me{R:Keyed->Int}{left:Bool}(hl:R x<=R y)(h:lE R left key y=true):lE R left key x=true:=by
 cases left with
 | true=>exact c6 (Int.lt_of_le_of_lt hl (f0 h))
 | false=>exact Eq.mpr (Bool.not_eq_true' _) (ed fun q=>lz (Eq.mp (Bool.not_eq_true' _) h) (Int.lt_of_lt_of_le q hl))
def hZ(R:Keyed->Int)(left:Bool)(key:Keyed)(l:List Keyed)(i:Nat):Bool:=(l[i]?).any (lE R left key)
theorem CZ{R:Keyed->Int}{left:Bool}{l:List Keyed}(eC:bL R l):mm (hZ R left key l) l.length:=fun i j rC aR h=>by
 rcases Nat.eq_or_lt_of_le rC with rfl | hl
 ·exact h
 unfold hZ at h ⊢;rw[cM aR]at h;exact ey (congrArg _ (cM (b9 hl aR) ..)) (Me (List.pairwise_iff_getElem.mp eC i j (b9 hl aR) aR hl) h)
theorem hE.mem{R:Keyed->Int}{left:Bool}{l:List Keyed}{k:Nat}(hl:l.length=n)(b:hE (hZ R left key l) n k k):(∀x∈l.take k,R x<=R key)/\∀x∈l.drop k,R key<=R x:=by
 have at_:∀{i:Nat} {x:Keyed} {q:Bool},l[i]?=some x->hZ R left key l i=q->lE R left key x=q:=fun e h=>by
  unfold hZ at h;rw[e]at h;exact h
 refine⟨fun x hx=>?_,fun x hx=>?_⟩
 ·obtain⟨i,e⟩:=List.mem_iff_getElem?.mp hx;rw[List.getElem?_take]at e
  split at e
  ·exact Mf (at_ e (b.lt i ‹_›))
  ·exact nomatch e
 ·obtain⟨i,e⟩:=List.mem_iff_getElem?.mp hx;rw[List.getElem?_drop]at e;exact Md (at_ e (b.ge (k+i) (el _ _) (hl▸(dv e).1)))
theorem PC{left:Bool}{base:Nat}{l:List Keyed}{f:Option Nat->StateT SortSt Sem U}(e7:K.Ok)(kX:K.P key)(eC:bL K.R l)(pl:∀x∈l,K.P x)(hl:l.length=n)(hs:∀i,i<n->fu.toList[base+i]?=l[i]?)(hn:hint<n)
  (hq:∀k,k<=n->(∀x∈l.take k,K.R x<=K.R key)->(∀x∈l.drop k,K.R key<=K.R x)->K.W (f (some k)) Q (K.St a p g)):K.W (Hh left key fu base n hint >>= f) Q (K.St a p g):=by
 have hm:mm (hZ K.R left key l) n:=hl▸CZ eC
 have u3:∀{β:Type} {f:Option Bool->StateT SortSt Sem β} {Q:β->SortSt->Prop} {i:Nat},i<n->(hZ K.R left key l i=true->K.W (f (some true)) Q (K.St a p g))->(hZ K.R left key l i=false->K.W (f (some false)) Q (K.St a p g))->K.W ((do
   let x <- elem' fu (base+i)
   if left=true then lt' x key else return (<- lt' key x).map (!·)) >>= f) Q (K.St a p g):=fun{β f Q i} hi J L=>by
  have pK:i<l.length:=hl<&>hi;have e:l[i]?=some l[i]:=cM pK
  have r:K.W (f (some (lE K.R left key l[i]))) Q (K.St a p g):=by
   refine(((by unfold hZ;rw[e];rfl):hZ K.R left key l i=lE K.R left key l[i]) ..)▸?_
   cases q:hZ K.R left key l i with
   | true=>exact J q
   | false=>exact L q
  refine nk (oB ((hs i hi).trans e) ?_)
  cases left with
  | true=>exact e7 _ _ _ _ (pl _ (gW pK)) kX rfl r
  | false=>exact nk (e7 _ _ _ _ kX (pl _ (gW pK)) rfl (cE r))
 refine nk (u3 hn (fun t=>?_) fun t=>?_)
 all_goals extract_lets k8 aZ bH
 all_goals have aR:∀aa v lo hi,hE (hZ K.R left key l) n lo hi->K.W (k8 () aa v lo hi) (fun v dH=>K.W (f v) Q dH) (K.St a p g):=fun aa v lo hi b=>C6 (fun lo hi=>lo+(hi-lo)/2) TC hm b (fun x lo hi O qm e4 aM r2=>hf (fun e=>cE (qm e)) fun e=>u3 (e4 e) (fun t=>cE (aM e t)) fun t=>cE (r2 e t)) fun i b=>cE (((fun k b=>hq k b.hn (hE.mem hl b).1 (hE.mem hl b).2):∀k,hE (hZ K.R left key l) n k k->K.W (f (some k)) Q (K.St a p g)) i b)
 ·exact K3 (T:=fun o=>hZ K.R left key l (hint+o)) true (Nat.sub_le _ _) t (Nat.sub_pos_of_lt hn) (fun x l o O qm aM r2=>hf (fun e=>cE (qm e)) fun e=>u3 (Nat.add_lt_of_lt_sub' (Nat.not_le.mp e)) (fun t=>cE (r2 (Nat.not_le.mp e) t)) fun t=>cE (aM (Nat.not_le.mp e) t)) fun l o J L cT bQ=>aR l o _ _ (MN hm J L cT bQ)
 ·exact K3 (T:=fun o=>hZ K.R left key l (hint-o)) false hn t (ft _) (fun x l o O qm aM r2=>hf (fun e=>cE (qm e)) fun e=>u3 (dW (Nat.sub_le _ _) hn) (fun t=>cE (aM (Nat.not_le.mp e) t)) fun t=>cE (r2 (Nat.not_le.mp e) t)) fun l o J L cT bQ=>aR l o _ _ (MM hm hn J L cT bQ)
end
def Ts:Array Keyed->Array Keyed->StateT SortSt Sem (Array Keyed):=sortPriv% PySem.Builtin.mergeLo
def V5:Nat->StateT SortSt Sem Unit:=sortPriv% PySem.Builtin.setMinGallop
structure gA(R:Keyed->Int)(A B o:List Keyed)(i j:Nat):Prop where
 sa:bL R (o++A.drop i)
 sb:bL R (o++B.drop j)
 pm:(o++(A.drop i++B.drop j)).Perm (A++B)
structure iZ(R:Keyed->Int)(A B r:List Keyed):Prop where
 st:bL R r
 pm:r.Perm (A++B)
section
variable {R:Keyed->Int}{A B o:List Keyed}{k:Nat}{x y:Keyed}
theorem bL.put{aa:List Keyed}(J:bL R (o++(aa++A)))(L:bL R (o++B))(h:∀x∈aa,∀y∈B,R x<=R y):bL R (o++aa++B):=by
 rw[<- cN]at J;exact hM.mpr ⟨(hM.mp J).1,(hM.mp L).2.1,fun a ha b hb=>(bZ (dt.mp ha) (fun ha=>((hM.mp L).2.2 a ha b hb)) (fun ha=>h a ha b hb))⟩
theorem sW{l:List Keyed}(h:l[i]?=some x):l.drop i=x::l.drop (i+1):=by
 refine aF (dv h) fun hi ae=>?_;exact ae▸(List.drop_eq_getElem_cons hi)
theorem bL.hd{l:List Keyed}(h:bL R (o++l.drop i))(hx:l[i]?=some x):∀y∈l.drop i,R x<=R y:=by
 rw[sW hx]at h ⊢;intro y aG;refine bZ (bY.mp aG) (fun hl=>?_) (fun aG=>?_)
 ·refine hl▸?_;exact Int.le_refl _
 ·exact(List.pairwise_cons.mp (hM.mp h).2.1).1 y aG
theorem gA.swap(h:gA R A B o i j):gA R B A o j i:=⟨h.sb,h.sa,((List.Perm.append_left o om).trans h.pm).trans om⟩
theorem iZ.swap{r:List Keyed}(h:iZ R B A r):iZ R A B r:=⟨h.st,h.pm.trans om⟩
theorem gA.put(h:gA R A B o i j)(hk:∀x∈(A.drop i).take k,∀y∈B.drop j,R x<=R y):gA R A B (o++(A.drop i).take k) (i+k) j:=by
 have e:(A.drop i).take k++A.drop (i+k)=A.drop i:=by rw[<- List.drop_drop,hL]
 refine⟨by rw[cN,e];exact h.sa,bL.put (by rw[e];exact h.sa) h.sb hk,?_⟩;rw[cN,<- cN ((A.drop i).take k),e];exact h.pm
theorem gA.put1(h:gA R A B o i j)(hx:A[i]?=some x)(aG:B[j]?=some y)(hk:R x<=R y):gA R A B (o++[x]) (i+1) j:=by
 have e:(A.drop i).take 1=[x]:=by rw[sW hx];rfl
 refine e▸(h.put fun z a3 aa hu=>?_);rw[e]at a3;refine di.mp a3<&>?_;exact gE hk (h.sb.hd aG aa hu)
theorem gA.done(h:gA R A B o i j)(aR:B.length<=j):iZ R A B (o++A.drop i++B.drop j):=by
 have pm:=h.pm;rw[List.drop_eq_nil_of_le aR,fD]at pm ⊢;exact⟨h.sa,pm⟩
theorem gA.last(h:gA R A B o i j)(hx:A[i]?=some x)(hi:i+1=A.length)(hb:∀y∈B,R y<=R x):iZ R A B (o++B.drop j++A.drop i):=by
 refine⟨bL.put (by rw[fD];exact h.sb) h.sa fun y aG z a3=>?_,by rw[cN];exact(List.Perm.append_left o om).trans h.pm⟩;rw[sW hx,List.drop_eq_nil_of_le (i7 hi.symm)]at a3;refine di.mp a3<&>?_;exact hb y (List.mem_of_mem_drop aG)
end
structure sF(K:fO)(a b:Array Keyed):Prop where
 ok:K.Ok
 ha:0<a.size
 hb:0<b.size
 pa:∀x∈a.toList,K.P x
 pb:∀x∈b.toList,K.P x
 sa:bL K.R a.toList
 sb:bL K.R b.toList
 lt:∀y,b.toList[0]?=some y->∀x∈a.toList,K.R y<=K.R x
 la:∀x,a.toList[a.size-1]?=some x->∀y∈b.toList,K.R y<=K.R x
theorem at_{a:Array Keyed}(hi:i<a.size)(h:∀x,a.toList[i]?=some x->P):P:=h _ (cM (by rw[fP];exact hi))
section
variable {K:fO}{U β γ:Type}{Q:U->SortSt->Prop}{a:Array Keyed}{p:Array (Nat×Nat×Nat)}{g:Nat}
structure kD where
 o:Array Keyed
 i:Nat
 j:Nat
theorem rS{T:Nat}{body:Nat->β->StateT SortSt Sem (ForInStep β)}{k:β->StateT SortSt Sem U}(D:Prop)(mk:Option (Array Keyed)->kD->γ->β)(qG:kD->Nat)(G:kD->Prop)(F:Array Keyed->Prop)(dP:∀c,G c->qG c<T){c:kD}{e:γ}(hg:G c)(hm:m<=qG c)
  (hs:∀x c e g O,G c->(∀r c e g,F r->O (.done (mk (some r) c e)) (K.St a p g))->(∀b5 e g,G b5->qG c<qG b5->(D->O (.done (mk none b5 e)) (K.St a p g))/\O (.yield (mk none b5 e)) (K.St a p g))->K.W (body x (mk none c e)) O (K.St a p g))
  (J:∀r c e g,F r->K.W (k (mk (some r) c e)) Q (K.St a p g)) (L:D->∀c e g,G c->m<qG c->K.W (k (mk none c e)) Q (K.St a p g)):K.W (forIn [0:T] (mk none c e) body >>= k) Q (K.St a p g):=by
 exact rR (d:=(none,c,e,g)) (fun d:Option (Array Keyed)×kD×γ×Nat=>mk d.1 d.2.1 d.2.2.1) (fun d=>K.St a p d.2.2.2) (fun x d=>d.1=none/\G d.2.1/\x<=qG d.2.1/\m<=qG d.2.1) (ep _) ⟨rfl,hg,ep _,hm⟩ (fun x d O u u I aM r2=>(I.1<&>(hs x d.2.1 d.2.2.1 d.2.2.2 O I.2.1 (fun r c e g q=>aM (some r,c,e,g) (J r c e g q)) fun c e g q hl=>⟨fun hd=>aM (none,c,e,g) (L hd c e g q (dW I.2.2.2 hl)),r2 (none,c,e,g) ⟨rfl,q,dW I.2.2.1 hl,b4 (dW I.2.2.2 hl)⟩⟩))) fun d I=>absurd (dP _ I.2.1) (e0.mpr I.2.2.1)
theorem wR{eA:Nat}{f:PUnit->StateT SortSt Sem U}(h:K.W (f ⟨⟩) Q (K.St a p eA)):K.W (V5 eA >>= f) Q (K.St a p g):=qd h
theorem Ds{c b:Array Keyed}{f:Option Bool->StateT SortSt Sem U}(e7:K.Ok)(hi:i<b.size)(aR:j<c.size)(pb:∀x∈b.toList,K.P x)(mU:∀x∈c.toList,K.P x)(J:∀x y,b.toList[i]?=some x->c.toList[j]?=some y->K.R x<K.R y->K.W (f (some true)) Q (K.St a p g))(L:∀x y,b.toList[i]?=some x->c.toList[j]?=some y->K.R y<=K.R x->K.W (f (some false)) Q (K.St a p g)) :
  K.W (elem' b i >>= fun x=>elem' c j >>= fun y=>lt' x y >>= f) Q (K.St a p g):=
 at_ hi fun x ex=>at_ aR fun y db=>oB ex (oB db (Td e7 (pb _ (d0 ex)) (mU _ (d0 db)) (J x y ex db) (L x y ex db)))
theorem JV{b:Array Keyed}{aZ bH:Nat}{w:String}{ij jD:Keyed->U}{F:Keyed->SortSt->StateT SortSt Sem U}(hi:i<b.size)(h:∀y,b.toList[i]?=some y->(n1=aZ->Q (ij y) st)/\(n2=bH->Q (jD y) st)/\(¬n1=aZ->¬n2=bH->K.W (F y st) Q st)) :
  K.W (liftM (rule w) >>= fun u=>elem' b i >>= fun y=>if(n1 == aZ)=true then pure (ij y)else if(n2 == bH)=true then pure (jD y)else get >>= F y) Q st:=
 ue (at_ hi fun y db=>oB db (kP (fun e=>cE ((h y db).1 e)) fun V=>kP (fun e=>cE ((h y db).2.1 e)) fun ah=>nu ((h y db).2.2 V ah)))
theorem rh{b c:Array Keyed}{base:Nat}{left:Bool}{l:List Keyed}{f:Keyed->Option Nat->StateT SortSt Sem U}(e7:K.Ok)(hi:i<b.size)(pb:∀x∈b.toList,K.P x)(mU:∀x∈c.toList,K.P x)(eC:bL K.R l)(hc:∀x∈l,x∈c.toList)(hl:l.length=n)(hs:∀i,i<n->c.toList[base+i]?=l[i]?)(hn:hint<n)
  (h:∀aa k,b.toList[i]?=some aa->k<=n->(∀x∈l.take k,K.R x<=K.R aa)->(∀x∈l.drop k,K.R aa<=K.R x)->K.W (f aa (some k)) Q (K.St a p g)):K.W (elem' b i >>= fun aa=>Hh left aa c base n hint >>= f aa) Q (K.St a p g):=
 at_ hi fun aa eN=>oB eN (PC e7 (pb _ (d0 eN)) eC (fun x hx=>mU x (hc x hx)) hl hs hn fun k=>h aa k eN)
theorem ox{b:Array Keyed}{d:Keyed->U}{x:Keyed}{f:Keyed->StateT SortSt Sem U}(e:b.toList[i]?=some x)(J:n=m->Q (d x) (K.St a p g))(L:¬n=m->K.W (f x) Q (K.St a p g)):K.W (elem' b i >>= fun x=>if(n == m)=true then pure (d x)else f x) Q (K.St a p g):=
 oB e (kP (fun q=>cE (J q)) L)
theorem sq{c:Prop}[Decidable c]{v w:U}(h:Q v st/\Q w st):K.W (if c then pure v else pure w) Q st:=hf (fun u=>cE h.1) fun u=>cE h.2
end
theorem rn(a:Array Keyed)(i:Nat):(a.extract i).toList=a.toList.drop i:=by
 rw[Array.toList_extract,List.extract_eq_take_drop];exact List.take_of_length_le (by rw[List.length_drop];exact bJ _)
theorem x9(a:Array Keyed)(i k:Nat):(a.extract i (i+k)).toList=(a.toList.drop i).take k:=by
 rw[Array.toList_extract,List.extract_eq_take_drop,ka]
section
variable {K:fO}{a b out:Array Keyed}{k:Nat}{x y:Keyed}
noncomputable abbrev hH(K:fO)(a b:Array Keyed)(c:kD):Prop:=gA K.R a.toList b.toList c.o.toList c.i c.j
noncomputable abbrev gQ(K:fO)(a b r:Array Keyed):Prop:=iZ K.R a.toList b.toList r.toList
theorem wq(m:hH K a b ⟨out,i,j⟩)(e:j=b.size):gQ K a b (out++a.extract i++b.extract j):=by
 unfold gQ;refine kc<&>kc<&>rn<&>rn<&>?_;exact gA.done m (i7 e.symm)
theorem TA(m:hH K a b ⟨out,i,j⟩)(e:i=a.size):gQ K a b (out++a.extract i++b.extract j):=by
 have d:=(gA.done m.swap (i7 e.symm)).swap;unfold gQ;rw[kc,kc,rn,rn];rw[List.drop_eq_nil_of_le (i7 e.symm),fD]at d ⊢;exact d
theorem wr(aJ:sF K a b)(m:hH K a b ⟨out,i,j⟩)(e:i+1=a.size):gQ K a b (out++b.extract j++a.extract i):=by
 unfold gQ;exact kc<&>kc<&>rn<&>rn<&>(at_ (Nat.lt_of_lt_of_eq (ic _) e) fun z a3=>gA.last m a3 e (aJ.la z (by refine e▸?_;exact a3)))
theorem AK(m:hH K a b ⟨out,i,j⟩)(hx:a.toList[i]?=some x)(aG:b.toList[j]?=some y)(hk:K.R x<=K.R y):hH K a b ⟨out.push x,i+1,j⟩:=by
 unfold hH;refine Array.toList_push<&>?_;exact gA.put1 m hx aG hk
theorem wu(m:hH K a b ⟨out,i,j⟩)(hx:b.toList[j]?=some x)(aG:a.toList[i]?=some y)(hk:K.R x<=K.R y):hH K a b ⟨out.push x,i,j+1⟩:=by
 unfold hH;refine Array.toList_push<&>?_;exact(m.swap.put1 hx aG hk).swap
theorem TP(m:hH K a b ⟨out,i,j⟩)(aG:b.toList[j]?=some y)(hk:∀x∈(a.toList.drop i).take k,K.R x<=K.R y):hH K a b ⟨out++a.extract i (i+k),i+k,j⟩:=by
 unfold hH;refine kc<&>x9<&>?_;exact gA.put m fun x hx z a3=>gE (hk x hx) (m.sb.hd aG z a3)
theorem TQ(m:hH K a b ⟨out,i,j⟩)(aG:a.toList[i]?=some y)(hk:∀x∈(b.toList.drop j).take k,K.R x<=K.R y):hH K a b ⟨out++b.extract j (j+k),i,j+k⟩:=by
 unfold hH;refine kc<&>x9<&>?_;exact(gA.put m.swap fun x hx z a3=>gE (hk x hx) (m.sa.hd aG z a3)).swap
theorem rU(h:i<n)(e:¬i+1=n):i+1<n:=mu h e
theorem IM(h:k<=n-i)(hi:i<=n):i+k<=n:=by refine Nat.add_comm<&>?_;exact Nat.add_le_of_le_sub hi h
theorem zI{l:List Keyed}{P:Keyed->Prop}(h:∀x∈(l.drop i).drop k,P x):∀x,l[i+k]?=some x->P x:=fun x e=>h x (by rw[List.drop_drop,sW e];exact be)
theorem HB{l:List Keyed}{P:Keyed->Prop}(e:¬k > 0)(h:∀x∈(l.drop i).drop k,P x):∀x,l[i]?=some x->P x:=by
 obtain rfl:k=0:=Nat.eq_zero_of_not_pos e;exact zI h
structure n0(K:fO)(a b:Array Keyed)(c:kD):Prop where
 m:hH K a b c
 ha:c.i+1<a.size
 hb:c.j<b.size
theorem n0.lt(c:kD)(G:n0 K a b c):c.i+c.j<a.size+b.size:=Nat.add_lt_add (jy G.ha) G.hb
theorem Tt{U:Type}{Q:U->SortSt->Prop}{f:Array Keyed->StateT SortSt Sem U}{p:Array (Nat×Nat×Nat)}{g:Nat}(aJ:sF K a b)(hq:∀r g,gQ K a b r->K.W (f r) Q (K.St fu p g)):K.W (Ts a b >>= f) Q (K.St fu p g):=by
 refine nk (JV aJ.hb fun y db=>?_)
 have aZ:hH K a b ⟨#[y],0,1⟩:=at_ aJ.ha fun x ex=>((gA.swap (o:=[]) (i:=0) (j:=0) ⟨aJ.sa,aJ.sb,List.Perm.refl _⟩).put1 db ex (aJ.lt _ db _ (d0 ex))).swap
 refine⟨fun e=>hq _ _ (wq aZ e),fun e=>hq _ _ (wr aJ aZ e),fun V ah=>(rS False (fun r c e=>(r,c.o,c.i,c.j,e)) (fun c=>c.i+c.j) (n0 K a b) (gQ K a b) n0.lt ⟨aZ,mu aJ.ha ah,mu aJ.hb V⟩ (ep _) (fun x c e g O G ce fJ=>(rS True (fun r c e=>(r,c.o,c.i,c.j,e)) (fun c=>c.i+c.j) (n0 K a b) (gQ K a b) n0.lt G (bJ _) (fun x c e g O G ce fJ=>?_) (fun r c u g q=>cE (ce r c _ g q)) fun u c e g G hm=>ue (rS (c:=c) True (fun r c e=>(r,c.o,c.i,c.j,e)) (fun c=>c.i+c.j) (n0 K a b) (gQ K a b) n0.lt G (b4 hm) (fun x c e g O G ce fJ=>?_) (fun r c u g q=>cE (ce r c _ g q)) fun u c e g G hm=>wR (cE (fJ c _ _ G hm).2)))) (fun r u u g q=>cE (hq r g q)) nofun)⟩
 ·exact Ds aJ.ok G.hb (jy G.ha) aJ.pb aJ.pa (fun aa v eN ev hl=>ox eN (fun e=>ce _ ⟨_,_,_⟩ _ _ (wq (wu G.m eN ev (Int.le_of_lt hl)) e)) fun V=>sq ((fJ ⟨_,_,_⟩ (0,e.2+1) g ⟨wu G.m eN ev (Int.le_of_lt hl),G.ha,rU G.hb V⟩ (ic _)).imp (· trivial) id)) fun aa v eN ev hl=>ox ev (fun e=>ce _ ⟨_,_,_⟩ _ _ (wr aJ (AK G.m ev eN hl) e)) fun V=>sq ((fJ ⟨_,_,_⟩ (e.1+1,0) g ⟨AK G.m ev eN hl,rU G.ha V,G.hb⟩ (Nat.lt_of_lt_of_eq (ic _) (Nat.succ_add _ _).symm)).imp (· trivial) id)
 ·extract_lets _ UI _ Zk _ Im _ mg _ ac Ms Zm k8 TB
  have aR:∀eA,K.W (k8 () eA) O (K.St fu p g):=fun eA=>?_
  ·exact hf (fun u=>aR _) fun u=>aR _
  refine wR (rh aJ.ok G.hb aJ.pb aJ.pa (List.Pairwise.drop aJ.sa) (fun u=>List.mem_of_mem_drop) List.length_drop (fun u u=>List.getElem?_drop.symm) (Nat.sub_pos_of_lt (jy G.ha)) fun aa k eN k1 k2 k3=>?_);dsimp -zeta only
  extract_lets LC At
  have te:∀o fU,hH K a b ⟨o,fU,c.j⟩->c.i<=fU->fU+1<a.size->(∀x,a.toList[fU]?=some x->K.R aa<=K.R x)->K.W (At () o fU) O (K.St fu p eA):=fun o fU M J L hu=>?_
  ·have M:=TP G.m eN k2;exact hf (fun u=>kP (fun e=>cE (ce _ ⟨_,_,_⟩ _ _ (wr aJ M e))) fun e=>kP (fun bq=>cE (ce _ ⟨_,_,_⟩ _ _ (TA M bq))) fun bq=>te _ _ M (el _ _) (rU (mu (IM k1 (b4 (jy G.ha))) bq) e) (zI k3)) fun e=>te _ _ G.m (bJ _) G.ha (HB e k3)
  refine at_ (jy L) fun v ev=>ox eN (fun e=>ce _ ⟨_,_,_⟩ _ _ (wq (wu M eN ev (hu v ev)) e)) fun e=>?_
  have qQ:=wu M eN ev (hu v ev);refine rh aJ.ok (jy L) aJ.pa aJ.pb (List.Pairwise.drop aJ.sb) (fun u=>List.mem_of_mem_drop) List.length_drop (fun u u=>List.getElem?_drop.symm) (Nat.sub_pos_of_lt (rU G.hb e)) fun v k2 ev lS wb rL=>?_;dsimp -zeta only
  extract_lets Mt Zl Au
  have tf:∀o km,hH K a b ⟨o,fU,km⟩->c.j<km->km<b.size->(∀x,b.toList[km]?=some x->K.R v<=K.R x)->K.W (Au () o km) O (K.St fu p eA):=fun o km M au aQ hv=>?_
  ·have M:=TQ qQ ev wb;exact hf (fun u=>kP (fun e=>cE (ce _ ⟨_,_,_⟩ _ _ (wq M e))) fun e=>tf _ _ M (de (ic _) (el _ _)) (mu (IM lS G.hb) e) (zI rL)) fun ah=>tf _ _ qQ (ic _) (rU G.hb e) (HB ah rL)
  have sE:=at_ aQ fun w Eg=>AK M ev Eg (hv w Eg)
  exact ox ev (fun e=>ce _ ⟨_,_,_⟩ _ _ (wr aJ sE e)) fun e=>sq ((fJ ⟨_,_,_⟩ (eA,k,k2) eA ⟨sE,rU L e,aQ⟩ (Nat.add_lt_add (Nat.lt_succ_of_le J) au)).imp (· trivial) id)
end
def Tq:Array Keyed->Array Keyed->StateT SortSt Sem (Array Keyed):=sortPriv% PySem.Builtin.mergeHi
structure h8(R:Keyed->Int)(A B o:List Keyed)(i j:Nat):Prop where
 sa:bL R (A.take i++o)
 sb:bL R (B.take j++o)
 pm:(A.take i++B.take j++o).Perm (A++B)
section
variable {R:Keyed->Int}{A B o l:List Keyed}{t:Nat}{x y:Keyed}
theorem bL.putR{aa:List Keyed}(J:bL R (A++(aa++o)))(L:bL R (B++o))(h:∀x∈aa,∀y∈B,R y<=R x):bL R (B++(aa++o)):=by
 exact hM.mpr ⟨(hM.mp L).1,(hM.mp J).2.1,fun a ha b hb=>(bZ (dt.mp hb) (fun hb=>(h b hb a ha)) (fun hb=>(hM.mp L).2.2 a ha b hb))⟩
theorem qz(h0:0<i)(h:l[i-1]?=some x):l.take i=l.take (i-1)++[x]:=by
 cases i with
 | zero=>exact absurd h0 (i6 _)
 | succ i =>
  have h:l[i]?=some x:=h;show l.take (i+1)=l.take i++[x];rw[List.take_add_one,h];rfl
theorem bL.tl(h:bL R (l.take i++o))(h0:0<i)(hx:l[i-1]?=some x):∀y∈l.take i,R y<=R x:=by
 have h:=(hM.mp h).1;rw[qz h0 hx]at h ⊢;intro y aG;refine bZ (dt.mp aG) (fun aG=>?_) (fun aG=>?_)
 ·exact(hM.mp h).2.2 y aG x be
 ·refine di.mp aG<&>?_;exact Int.le_refl _
theorem h8.start(sa:bL R A)(sb:bL R B):h8 R A B [] A.length B.length:=by
 refine⟨?_,?_,?_⟩
 all_goals rw[fD,List.take_length]
 ·exact sa
 ·exact sb
 ·rw[List.take_length]
theorem h8.swap(h:h8 R A B o i j):h8 R B A o j i:=⟨h.sb,h.sa,((List.Perm.append_right o om).trans h.pm).trans om⟩
theorem h8.put(h:h8 R A B o i j)(ba:t<=i)(hk:∀x∈(A.take i).drop t,∀y∈B.take j,R y<=R x):h8 R A B ((A.take i).drop t++o) t j:=by
 have e:A.take t++(A.take i).drop t=A.take i:=by
  have:=hL t (A.take i);rw[List.take_take,gX ba]at this;exact this
 refine⟨by rw[<- cN,e];exact h.sa,bL.putR (by rw[<- cN,e];exact h.sa) h.sb hk,?_⟩;refine List.Perm.trans ?_ h.pm;rw[<- cN];apply List.Perm.append_right o;rw[cN];exact(List.Perm.append_left _ om).trans (List.Perm.of_eq (by rw[<- cN,e]))
theorem h8.put1(h:h8 R A B o i j)(h0:0<i)(hx:A[i-1]?=some x)(J:0<j)(aG:B[j-1]?=some y)(hk:R y<=R x):h8 R A B (x::o) (i-1) j:=by
 have e:(A.take i).drop (i-1)=[x]:=by
  exact ey (congrArg _ (qz h0 hx ..)) (List.drop_left' (gV.trans (gX (b4 (dv hx).1))))
 have:=h.put (Nat.sub_le i 1) fun z a3 aa hu=>by
  rw[e]at a3;rw[di.mp a3];exact gE (h.sb.tl J aG aa hu) hk
 rw[e]at this;exact this
end
section
variable {K:fO}{a b out:Array Keyed}{t:Nat}{x y:Keyed}
noncomputable abbrev hV(K:fO)(a b:Array Keyed)(c:kD):Prop:=h8 K.R a.toList b.toList c.o.toList.reverse c.i c.j
theorem vk(a:Array Keyed)(n:Nat):(a.extract 0 n).toList=a.toList.take n:=by
 rw[Array.toList_extract,List.extract_eq_take_drop,List.drop_zero,Nat.sub_zero]
theorem tV(m:hV K a b ⟨out,i,j⟩)(e:i=0\/j=0):gQ K a b (a.extract 0 i++b.extract 0 j++out.reverse):=by
 unfold gQ;rw[kc,kc,vk,vk,Array.toList_reverse];refine⟨?_,m.pm⟩
 rcases e with rfl | rfl
 ·exact m.sb
 ·rw[List.take_zero,fD];exact m.sa
theorem ww(aJ:sF K a b)(m:hV K a b ⟨out,i,j⟩)(e:j=1):gQ K a b (b.extract 0 j++a.extract 0 i++out.reverse):=by
 unfold gQ;rw[kc,kc,vk,vk,Array.toList_reverse];subst e;refine⟨?_,m.swap.pm.trans om⟩;rw[cN]
 refine bL.putR (A:=[]) m.sa m.sb fun x hx y aG=>at_ aJ.hb fun z a3=>?_
 rw[qz Nat.one_pos a3]at aG;refine di.mp aG<&>?_;exact aJ.lt z a3 x (List.mem_of_mem_take hx)
theorem wz(m:hV K a b ⟨out,i,j⟩)(h0:0<i)(J:0<j)(hx:a.toList[i-1]?=some x)(aG:b.toList[j-1]?=some y)(hk:K.R y<=K.R x):hV K a b ⟨out.push x,i-1,j⟩:=by
 unfold hV;refine Array.toList_push<&>List.reverse_append<&>?_;exact h8.put1 m h0 hx J aG hk
theorem AY(m:hV K a b ⟨out,i,j⟩)(h0:0<i)(J:0<j)(hx:b.toList[j-1]?=some x)(aG:a.toList[i-1]?=some y)(hk:K.R y<=K.R x):hV K a b ⟨out.push x,i,j-1⟩:=by
 unfold hV;refine Array.toList_push<&>List.reverse_append<&>?_;exact(h8.put1 m.swap J hx h0 aG hk).swap
theorem J0:(out++(a.extract t i).reverse).toList.reverse=(a.toList.take i).drop t++out.toList.reverse:=by
 rw[kc,List.reverse_append,Array.toList_reverse,List.reverse_reverse,Array.toList_extract,List.extract_eq_take_drop,List.drop_take]
theorem Ux(m:hV K a b ⟨out,i,j⟩)(ba:t<=i)(J:0<j)(aG:b.toList[j-1]?=some y)(hk:∀x∈(a.toList.take i).drop t,K.R y<=K.R x):hV K a b ⟨out++(a.extract t i).reverse,t,j⟩:=by
 unfold hV;refine J0<&>?_;exact h8.put m ba fun x hx z a3=>gE (m.sb.tl J aG z a3) (hk x hx)
theorem Uy(m:hV K a b ⟨out,i,j⟩)(ba:t<=j)(h0:0<i)(aG:a.toList[i-1]?=some y)(hk:∀x∈(b.toList.take j).drop t,K.R y<=K.R x):hV K a b ⟨out++(b.extract t j).reverse,i,t⟩:=by
 unfold hV;refine J0<&>?_;exact(h8.put m.swap ba fun x hx z a3=>gE (m.sa.tl h0 aG z a3) (hk x hx)).swap
structure mf(K:fO)(a b:Array Keyed)(c:kD):Prop where
 m:hV K a b c
 ha:0<c.i
 za:c.i<=a.size
 hb:1<c.j
 zb:c.j<=b.size
theorem mf.lt(c:kD)(G:mf K a b c):a.size+b.size-(c.i+c.j)<a.size+b.size:=Nat.sub_lt (Nat.add_pos_left (de G.ha G.za) _) (Nat.add_pos_left G.ha _)
theorem mf.dec{c:kD}(G:mf K a b c)(h:i+j<c.i+c.j):a.size+b.size-(c.i+c.j)<a.size+b.size-(i+j):=Nat.sub_lt_sub_left (de h (Nat.add_le_add G.za G.zb)) h
theorem hy(h:0<n)(hm:n<=m):n-1<m:=de (Nat.sub_lt h Nat.one_pos) hm
theorem w1{l:List Keyed}{P:Keyed->Prop}(h0:0<t)(ba:t<=i)(h:∀x∈(l.take i).take t,P x):∀x,l[t-1]?=some x->P x:=fun x e=>h x (by rw[List.take_take,gX ba,qz h0 e];exact fb _ be)
theorem Tr{U:Type}{Q:U->SortSt->Prop}{f:Array Keyed->StateT SortSt Sem U}{p:Array (Nat×Nat×Nat)}{g:Nat}(aJ:sF K a b)(hq:∀r g,gQ K a b r->K.W (f r) Q (K.St fu p g)):K.W (Tq a b >>= f) Q (K.St fu p g):=by
 refine nk (JV (hy aJ.ha (bJ _)) fun x ex=>?_)
 have aZ:hV K a b ⟨#[x],a.size-1,b.size⟩:=at_ (hy aJ.hb (bJ _)) fun y db=>wz (out:=#[]) (h8.start aJ.sa aJ.sb) aJ.ha aJ.hb ex db (aJ.la x ex y (d0 db))
 refine⟨fun e=>hq _ _ (tV aZ (.inl e)),fun e=>hq _ _ (ww aJ aZ e),fun V ah=>(rS False (fun r c e=>(r,c.i,c.j,c.o,e)) (fun c=>a.size+b.size-(c.i+c.j)) (mf K a b) (gQ K a b) mf.lt ⟨aZ,jx V,Nat.sub_le _ _,mu aJ.hb (Ne.symm ah),bJ _⟩ (ep _) (fun x c e g O G ce fJ=>(rS True (fun r c e=>(r,c.i,c.j,c.o,e)) (fun c=>a.size+b.size-(c.i+c.j)) (mf K a b) (gQ K a b) mf.lt G (bJ _) (fun x c e g O G ce fJ=>?_) (fun r c u g q=>cE (ce r c _ g q)) fun u c e g G hm=>ue (rS (c:=c) True (fun r c e=>(r,c.i,c.j,c.o,e)) (fun c=>a.size+b.size-(c.i+c.j)) (mf K a b) (gQ K a b) mf.lt G (b4 hm) (fun x c e g O G ce fJ=>?_) (fun r c u g q=>cE (ce r c _ g q)) fun u c e g G hm=>wR (cE (fJ c _ _ G hm).2)))) (fun r u u g q=>cE (hq r g q)) nofun)⟩
 ·have kZ:=jy G.hb;exact Ds aJ.ok (hy kZ G.zb) (hy G.ha G.za) aJ.pb aJ.pa (fun aa v eN ev hl=>ox ev (fun e=>ce _ ⟨_,_,_⟩ _ _ (tV (wz G.m G.ha kZ ev eN (Int.le_of_lt hl)) (.inl e))) fun V=>sq ((fJ ⟨_,_,_⟩ (e.1+1,0) g ⟨wz G.m G.ha kZ ev eN (Int.le_of_lt hl),jx V,aE (Nat.sub_le _ _) G.za,G.hb,G.zb⟩ (G.dec (Nat.add_lt_add_right (hy G.ha (bJ _)) _))).imp (· trivial) id)) fun aa v eN ev hl=>ox eN (fun e=>ce _ ⟨_,_,_⟩ _ _ (ww aJ (AY G.m G.ha kZ eN ev hl) e)) fun V=>sq ((fJ ⟨_,_,_⟩ (0,e.2+1) g ⟨AY G.m G.ha kZ eN ev hl,G.ha,G.za,mu (Nat.le_sub_one_of_lt G.hb) (Ne.symm V),aE (Nat.sub_le _ _) G.zb⟩ (G.dec (Nat.add_lt_add_left (hy kZ (bJ _)) _))).imp (· trivial) id)
 ·extract_lets _ Zv _ Zx _ UI _ mg _ ac Ms Zy k8 TB
  have aR:∀eA,K.W (k8 () eA) O (K.St fu p g):=fun eA=>?_
  ·exact hf (fun u=>aR _) fun u=>aR _
  have kZ:=jy G.hb;refine wR (rh aJ.ok (hy kZ G.zb) aJ.pb aJ.pa (List.Pairwise.take aJ.sa) (fun u=>List.mem_of_mem_take) (gV.trans (gX G.za)) (fun i hi=>by rw[d1,List.getElem?_take_of_lt hi]) (hy G.ha (bJ _)) fun aa t eN k1 k2 k3=>?_);dsimp -zeta only
  extract_lets b7 LC At
  have te:∀o fU,hV K a b ⟨o,fU,c.j⟩->0<fU->fU<=c.i->(∀x,a.toList[fU-1]?=some x->K.R x<=K.R aa)->K.W (At () fU o) O (K.St fu p eA):=fun o fU M J L hu=>?_
  ·have M:=Ux G.m k1 kZ eN k3;refine hf (fun u=>kP (fun e=>cE (ce _ ⟨_,_,_⟩ _ _ (tV M (.inl e)))) fun e=>te _ _ M (jx e) k1 (w1 (jx e) k1 k2)) fun e=>?_;exact te _ _ G.m G.ha (bJ _) (w1 G.ha (bJ _) (fun x hx=>k2 x (by rw[(Nat.le_antisymm k1 (Nat.le_of_sub_eq_zero (Nat.eq_zero_of_not_pos e)):t=c.i)];exact hx)))
  have Cb:=aE L G.za
  have qQ:=at_ (hy J Cb) fun v ev=>AY M J kZ eN ev (hu v ev)
  refine ox eN (fun e=>ce _ ⟨_,_,_⟩ _ _ (ww aJ qQ e)) fun e=>?_;have hb2:1<c.j-1:=mu (Nat.le_sub_one_of_lt G.hb) (Ne.symm e);refine rh aJ.ok (hy J Cb) aJ.pa aJ.pb (List.Pairwise.take aJ.sb) (fun u=>List.mem_of_mem_take) ((gV ..).trans (gX (aE (Nat.sub_le c.j 1) G.zb))) (fun i hi=>by rw[d1,List.getElem?_take_of_lt hi]) (hy (jy hb2) (bJ _)) fun v bQ ev lS wb rL=>?_;dsimp -zeta only
  extract_lets IH Mt Zw Au
  have tf:∀o km,hV K a b ⟨o,fU,km⟩->1<km->km<c.j->(∀x,b.toList[km-1]?=some x->K.R x<=K.R v)->K.W (Au () km o) O (K.St fu p eA):=fun o km M au aQ hv=>?_
  ·have M:=Uy qQ lS J ev rL;refine hf (fun u=>kP (fun e=>cE (ce _ ⟨_,_,_⟩ _ _ (ww aJ M e))) fun e=>kP (fun bq=>cE (ce _ ⟨_,_,_⟩ _ _ (tV M (.inr bq)))) fun bq=>tf _ _ M (mu (jx bq) (Ne.symm e)) (dW lS (hy kZ (bJ _))) (w1 (jx bq) lS wb)) fun e=>?_;exact tf _ _ qQ hb2 (hy kZ (bJ _)) (w1 (jy hb2) (bJ _) (fun x hx=>wb x (by rw[(Nat.le_antisymm lS (Nat.le_of_sub_eq_zero (Nat.eq_zero_of_not_pos e)):bQ=c.j-1)];exact hx)))
  have HF:=jy au;have Lc:=aE (b4 aQ) G.zb
  have sE:=at_ (hy HF Lc) fun z mE=>wz M J HF ev mE (hv z mE)
  exact ox ev (fun e=>ce _ ⟨_,_,_⟩ _ _ (tV sE (.inl e))) fun e=>sq ((fJ ⟨_,_,_⟩ (eA,c.i-t,c.j-1-bQ) eA ⟨sE,jx e,aE (Nat.sub_le _ _) Cb,au,Lc⟩ (G.dec (Nat.add_lt_add (hy J L) aQ))).imp (· trivial) id)
end
theorem Vm{b:Nat}:∀(l:List Keyed) (j:Nat) (a:Array Keyed) (aa v w:List Keyed),aa.length=b+j->v.length=l.length->a.toList=aa++(v++w) ->
  ((l.zipIdx j).foldl (fun(a:Array Keyed) (q:Keyed×Nat)=>a.setIfInBounds (b+q.2) q.1) a).toList=aa++(l++w):=by
 intro l
 induction l with
 | nil=>intro j a aa v w _ hv e;rw[hJ hv]at e;exact e
 | cons x l af =>
  intro j a aa v w hu hv e
  cases v with
  | nil=>exact nomatch hv
  | cons y v =>
   have:=af (j+1) (a.setIfInBounds (b+j) x) (aa++[x]) v w (by refine cD<&>hu<&>?_;rfl) (Nat.succ.inj hv) (by rw[Array.toList_setIfInBounds,e,<- hu,cN,List.cons_append,List.set_append_right _ _ (bJ _),Nat.sub_self];rfl);rw[cN]at this;exact this
section
variable {K:fO}{U:Type}{Q:U->SortSt->Prop}{R:Keyed->Int}{aa v:Keyed}{X mt cV cW sL sM M:List Keyed}
theorem V6{dH:SortSt}{f:PUnit->StateT SortSt Sem U}(h:K.W (f ⟨⟩) Q dH):K.W (set dH >>= f) Q st:=by
 apply wpS_bind;unfold wpS;rw[StateT.run_set];exact bh ⟨rfl,h⟩
theorem iZ.app(mW:bL R X)(l6:bL R mt)(J:∀x∈X,R x<=R aa)(L:∀y∈mt,R aa<=R y):iZ R X mt (X++mt):=
 ⟨hM.mpr ⟨mW,l6,fun x hx y aG=>gE (J x hx) (L y aG)⟩,List.Perm.refl _⟩
theorem iZ.mid(mW:bL R (cV++cW))(l6:bL R (sL++sM))(dL:∀x∈cV,R x<=R aa)(gU:∀x∈cW,R aa<=R x)(gD:∀y∈sL++sM,R aa<=R y)(b1:∀x∈cV++cW,R x<=R v)(b2:∀y∈sL,R y<=R v)(oq:∀y∈sM,R v<=R y)(m:iZ R cW sL M):iZ R (cV++cW) (sL++sM) (cV++(M++sM)):=by
 have AJ:∀z∈M,R aa<=R z/\R z<=R v:=fun z a3=>(dt.mp (m.pm.mem_iff.mp a3)).elim (fun h=>⟨gU z h,b1 z (fb _ h)⟩) fun h=>⟨gD z (hX _ h),b2 z h⟩;exact⟨hM.mpr ⟨(hM.mp mW).1,hM.mpr ⟨m.st,((hM.mp l6).2.1),fun z a3 y aG=>gE (AJ z a3).2 (oq y aG)⟩,fun x hx z a3=>(gE (dL x hx) ((dt.mp a3).elim (fun h=>(AJ z h).1) fun h=>gD z (fb _ h)))⟩,(cN<&>cN cW<$>(List.Perm.append_left _ (List.Perm.append_right _ m.pm)))⟩
theorem Tp{a:Array Keyed}{f:Bool->StateT SortSt Sem U}{fV z g:Nat}(e7:K.Ok)(J:0<X.length)(L:0<mt.length)(gL:∀x∈X,K.P x)(nK:∀x∈mt,K.P x)(mW:bL K.R X)(l6:bL K.R mt)(ha:a.toList=X++mt)
  (hq:∀cX eA,iZ K.R X mt cX.toList->K.W (f true) Q (K.St cX #[(0,X.length+mt.length,fV)] eA)):K.W (mergeAt' 0 >>= f) Q (K.St a #[(0,X.length,fV),(X.length,mt.length,z)] g):=by
 have vc:∀i,a.toList[X.length+i]?=mt[i]?:=fun i=>by rw[ha,gh (el _ _),ka]
 have DK:∀i,i<X.length->a.toList[i]?=X[i]?:=fun i hi=>by rw[ha,fZ hi]
 have al:a.size=X.length+mt.length:=fP<$>ha<&>cD<&>rfl;have pa:∀x∈a.toList,K.P x:=fun x hx=>(dt.mp (ha▸hx)).elim (gL x) (nK x)
 have go:∀{m:StateT SortSt Sem Bool},K.W m (fun v dH=>K.W (f v) Q dH) (K.St a #[(0,X.length+mt.length,fV)] g)->K.W m (fun v dH=>K.W (f v) Q dH) (K.St a (((#[(0,X.length,fV),(X.length,mt.length,z)]:Array (Nat×Nat×Nat)).setIfInBounds 0 (0,X.length+mt.length,fV)).eraseIdxIfInBounds (0+1)) g):=fun h=>by rw[((by simp[Array.eraseIdxIfInBounds]):((#[(0,X.length,fV),(X.length,mt.length,z)]:Array (Nat×Nat×Nat)).setIfInBounds 0 (0,X.length+mt.length,fV)).eraseIdxIfInBounds (0+1)=#[(0,X.length+mt.length,fV)])];exact h
 refine nk (nu (V6 (go (rh (b:=a) e7 (al▸nf L) pa pa mW (fun x hx=>ha▸hX _ hx) rfl (fun i hi=>ey (congrArg _ (d1 ..)) (DK i hi)) J fun aa k eN k1 k2 k3=>kP (fun e=>cE (hq a g ?_)) fun V=>rh (b:=a) (c:=a) e7 ?_ pa pa l6 (fun x hx=>ha▸fb _ hx) rfl (fun i u=>vc i) (hy L (bJ _)) fun v t ev cT bQ mX=>?_))))
 ·rw[List.take_of_length_le (Nat.le_of_sub_eq_zero e)]at k2;refine ha<&>?_;exact iZ.app mW l6 k2 ((bL.hd (o:=[]) l6 ((vc 0).symm.trans eN)):∀y∈mt,K.R aa<=K.R y)
 ·exact d1<&>Nat.add_sub_of_le k1<&>(hy J (al▸el _ _))
 rw[d1,Nat.add_sub_of_le k1,DK _ (hy J (bJ _))]at ev
 have hv:∀x∈X,K.R x<=K.R v:=by
  have:=bL.tl (o:=[]) (by rw[List.take_length,fD];exact mW) J ev;rw[List.take_length]at this;exact this
 refine kP (fun e=>cE (hq a g ?_)) fun ah=>?_
 ·subst e;rw[ha];exact iZ.app mW l6 hv mX
 extract_lets x y k8
 have hx:x.toList=X.drop k:=by
  show(a.extract (0+k) X.length).toList=_;rw[Array.toList_extract,List.extract_eq_take_drop,ha,d1,List.drop_append_of_le_length k1];exact List.take_left' List.length_drop
 have aG:y.toList=mt.take t:=by
  show(a.extract X.length (X.length+t)).toList=_;exact x9<&>ha<&>List.drop_left' rfl<&>rfl
 have aR:∀r eA,gQ K x y r->K.W (k8 r) (fun v dH=>K.W (f v) Q dH) (K.St a #[(0,X.length+mt.length,fV)] eA):=fun r eA m=>?_
 ·have aJ:sF K x y:=⟨e7,?_,?_,fun z a3=>gL z (List.mem_of_mem_drop (hx▸a3)),fun z a3=>nK z (List.mem_of_mem_take (aG▸a3)),hx▸List.Pairwise.drop mW,aG▸List.Pairwise.take l6,fun z a3 w hw=>?_,fun z a3 w hw=>?_⟩
  ·exact hf (fun u=>Tt aJ aR) fun u=>Tr aJ aR
  ·refine fP<$>hx<&>List.length_drop<&>?_;exact jx V
  ·refine fP<$>aG<&>gV<&>gX cT<&>?_;exact jx ah
  ·rw[aG,List.getElem?_take_of_lt (jx ah),<- vc]at a3;exact oi (eN.symm.trans a3)<$>(k3 w (hx▸hw))
  ·rw[<- fP,hx,List.getElem?_drop,List.length_drop,<- Nat.add_sub_assoc (jx V),Nat.add_sub_of_le k1]at a3;exact oi (ev.symm.trans a3)<$>(bQ w (aG▸hw))
 ·unfold gQ at m;rw[hx,aG]at m;refine qd (nu (cE (hq (r.toList.zipIdx.foldl (fun(a:Array Keyed) (q:Keyed×Nat)=>a.setIfInBounds (0+k+q.2) q.1) a) eA ?_)));refine((Vm (b:=0+k) r.toList 0 a (X.take k) (X.drop k++mt.take t) (mt.drop t) (by rw[gV,gX k1,d1];rfl) m.pm.length_eq.symm (by rw[ha,cN,hL,<- cN,hL])) ..).symm▸?_;have:=iZ.mid (by rw[hL];exact mW) (by rw[hL];exact l6) k2 k3 (hL<&>((bL.hd (o:=[]) (i:=0) l6 ((vc 0).symm.trans eN)):∀y∈mt,K.R aa<=K.R y)) (hL<&>hv) bQ mX m;rw[hL,hL]at this;exact this
end
section
variable {R:Keyed->Int}{l:List Keyed}{z:Nat}{x y:Keyed}{a:Array Keyed}
theorem bL.snoc(h:bL R (l.take n))(h0:0<n)(ex:l[n]?=some x)(db:l[n-1]?=some y)(hl:R y<=R x):bL R (l.take (n+1)):=by
 rw[qz (i:=n+1) (ft _) ex];refine hM.mpr ⟨h,List.pairwise_singleton _ _,fun a ha b hb=>?_⟩;rw[di.mp hb];exact gE (bL.tl (by rw[fD];exact h) h0 db a ha) hl
theorem bL.down(h:bL R (l.take n).reverse)(h0:0<n)(ex:l[n]?=some x)(db:l[n-1]?=some y)(hl:R x<=R y):bL R (l.take (n+1)).reverse:=by
 rw[qz (i:=n+1) (ft _) ex,List.reverse_append];refine List.pairwise_cons.mpr ⟨fun b hb=>?_,h⟩;have hb:b∈(l.take n).reverse:=hb;rw[qz h0 db,List.reverse_append]at h hb
 rcases bY.mp hb with rfl | hb
 ·exact hl
 ·exact gE hl ((List.pairwise_cons.mp h).1 b hb)
theorem Uo(h:(l.map R).Nodup)(ex:l[i]?=some x)(db:l[j]?=some y)(e:R x=R y):i=j:=by
 exact(List.getElem?_inj (dv ((by rw[fc,ex];rfl):(l.map R)[i]?=some (R x))).1 h).mp (((by rw[fc,ex];rfl):(l.map R)[i]?=some (R x)).trans ((by rw[fc,db,e];rfl):(l.map R)[j]?=some (R x)).symm)
theorem TJ(ha:a.toList=ld++on)(er:ld.length=lo)(a3:z<=on.length):(mirror a lo (lo+z) ((lo+z-lo)/2)).toList=ld++((on.take z).reverse++on.drop z):=by
 refine List.ext_getElem? fun k=>?_;rw[kb,getElem?_mirror_all ((by rw[<- fP,ha,cD,er];exact kK a3 _):lo+z<=a.size),<- kb,<- kb,ha];refine bZ (Nat.lt_or_ge k lo) (fun h=>?_) (fun h=>?_)
 ·rw[aV (fun q=>Nat.not_le.mpr h q.1),fZ (er▸h),fZ (er▸h)]
 ·refine aF (Nat.exists_eq_add_of_le h) fun i ae=>?_;subst ae;have r:∀(i:Nat) (l:List Keyed),(ld++l)[lo+i]?=l[i]?:=fun i l=>er<$>gh (el _ _)<&>ka<&>rfl;have mP:(on.take z).length=z:=gV.trans (gX a3 ..);refine r<&>r<&>?_
  rcases Nat.lt_or_ge i z with L | L
  ·rw[aC ⟨h,Nat.add_lt_add_left L _⟩,fZ (l₁:=(on.take z).reverse) (by rw[List.length_reverse,mP];exact L),List.getElem?_reverse (by rw[mP];exact L),mP];refine aF (Nat.exists_eq_add_of_lt L) fun d ae=>ae▸?_;show(ld++on)[lo+(lo+(i+d))-(lo+i)]?=(on.take (i+d+1))[i+d-i]?;rw[<- iJ lo i d,Nat.add_left_comm,ka,ka,r,List.getElem?_take_of_lt (Nat.lt_succ_of_le (kN _ _))]
  ·rw[aV (fun q=>e0.mpr L (Nat.lt_of_add_lt_add_left q.2)),gh (by rw[List.length_reverse,mP];exact L),List.length_reverse,mP,List.getElem?_drop,Nat.add_sub_of_le L]
end
section
variable {K:fO}{U:Type}{Q:U->SortSt->Prop}{a:Array Keyed}{p:Array (Nat×Nat×Nat)}{g:Nat}
theorem wl{x y:Keyed}{f:Option Bool->StateT SortSt Sem U}(e7:K.Ok)(ex:a.toList[i]?=some x)(db:a.toList[j]?=some y)(gL:K.P x)(nK:K.P y)(J:K.R x<K.R y->K.W (f (some true)) Q (K.St a p g))(L:K.R y<=K.R x->K.W (f (some false)) Q (K.St a p g)):K.W (ltAt' i j >>= f) Q (K.St a p g):=by
 refine nk (nu (oB ex (oB (a:=a) db (e7 _ _ _ _ gL nK rfl ?_))))
 rcases Int.lt_or_le (K.R x) (K.R y)with hl | hl
 ·rw[c6 hl];exact J hl
 ·rw[ed (Int.not_lt.mpr hl)];exact L hl
structure kz(K:fO)(a:Array Keyed)(lo:Nat)(on:List Keyed):Prop where
 ok:K.Ok
 p:∀x∈on,K.P x
 e:∀i,a.toList[lo+i]?=on[i]?
theorem kz.of(e7:K.Ok)(p:∀x∈on,K.P x)(ha:a.toList=ld++on)(er:ld.length=lo):kz K a lo on:=⟨e7,p,fun i=>by exact ha<&>er<$>gh (el _ _)<&>ka<&>rfl⟩
theorem kz.lt{f:Option Bool->StateT SortSt Sem U}(A:kz K a lo on)(J:0<i)(hi:i<on.length)(aM:∀x y,on[i]?=some x->on[i-1]?=some y->K.R x<K.R y->K.W (f (some true)) Q (K.St a p g))(r2:∀x y,on[i]?=some x->on[i-1]?=some y->K.R y<=K.R x->K.W (f (some false)) Q (K.St a p g)):K.W (ltAt' (lo+i) (lo+i-1) >>= f) Q (K.St a p g):=by
 have ex:=cM hi;have db:=cM (hy J (b4 hi));exact wl A.ok ((A.e i).trans ex) ((Nat.add_sub_assoc J lo▸A.e (i-1)).trans db) (A.p _ (gW _)) (A.p _ (gW _)) (aM _ _ ex db) (r2 _ _ ex db)
theorem kz.gt{f:Option Bool->StateT SortSt Sem U}{x y:Keyed}(A:kz K a lo on)(J:0<i)(ex:on[i]?=some x)(db:on[i-1]?=some y)(hl:K.R y<K.R x)(r:K.W (f (some true)) Q (K.St a p g)):K.W (ltAt' (lo+i-1) (lo+i) >>= f) Q (K.St a p g):=
 wl A.ok ((Nat.add_sub_assoc J lo▸A.e (i-1)).trans db) ((A.e i).trans ex) (A.p _ (d0 db)) (A.p _ (d0 ex)) (fun u=>r) fun q=>absurd q (Int.not_le.mpr hl)
noncomputable abbrev uD:=Option (Option Nat)×Nat
theorem CY{body:Nat->uD->StateT SortSt Sem (ForInStep uD)}{k:uD->StateT SortSt Sem U}{F:Nat->Option Bool->StateT SortSt Sem (ForInStep uD)}(A:kz K a lo on)(J:0<n)(hn:n<=on.length)(sz:bL K.R (on.take n))
  (hb:∀x n,body x (none,n)=ltAt' (lo+n) (lo+n-1) >>= F n) (f1:∀n,F n (some true)=pure (.done (none,n))) (f2:∀n,F n (some false)=pure (.yield (none,n+1)))
  (hk:∀m,n<=m->m<=on.length->bL K.R (on.take m)->(m=on.length\/∃x y,on[m]?=some x/\on[m-1]?=some y/\K.R x<K.R y)->K.W (k (none,m)) Q (K.St a p g)):K.W (forIn [n:on.length] (none,n) body >>= k) Q (K.St a p g):=by
 refine rR (fun m:Nat=>(none,m)) (fun u=>K.St a p g) (fun x m=>m=x/\n<=m/\bL K.R (on.take m)) hn ⟨rfl,bJ _,sz⟩ (fun x m O u hx I aM r2=>?_) fun m I=>hk m I.2.1 (i7 I.1) I.2.2 (.inl I.1);obtain⟨rfl,L,au⟩:=I;rw[hb];refine A.lt (de J L) hx (fun x y ex db hl=>?_) fun x y ex db hl=>?_
 ·rw[f1];exact cE (aM m (hk m L (b4 hx) au (.inr (jF x y ex db hl))))
 ·rw[f2];exact cE (r2 (m+1) ⟨rfl,Nat.le_succ_of_le L,au.snoc (de J L) ex db hl⟩)
theorem NB{nz:Nat}{f:Option Nat->StateT SortSt Sem U}(e7:K.Ok)(iu:∀x∈on,K.P x)(ha:a.toList=ld++on)(er:ld.length=lo)(a3:on.length=nz)(J:0<on.length)(hd:(on.map K.R).Nodup)
  (hq:∀m cX dB,0<m->m<=on.length->cX.toList=ld++dB->dB.Perm on->bL K.R (dB.take m)->K.W (f (some m)) Q (K.St cX p g)):K.W (countRun' lo nz >>= f) Q (K.St a p g):=by
 subst a3;have A:=kz.of e7 iu ha er
 have one:∀l:List Keyed,bL K.R (l.take 1)/\bL K.R (l.take 1).reverse:=fun l=>by
  cases l with
  | nil=>exact⟨List.Pairwise.nil,List.Pairwise.nil⟩
  | cons x l=>exact⟨List.pairwise_singleton _ _,List.pairwise_singleton _ _⟩
 have DD:∀{i j x y},i≠j->on[i]?=some x->on[j]?=some y->K.R x<=K.R y->K.R x<K.R y:=fun h ex db hl=>Int.lt_iff_le_and_ne.mpr ⟨hl,fun e=>h (Uo hd ex db e)⟩;refine nk (CY A Nat.one_pos J (one on).1 (fun u u=>rfl) (fun u=>rfl) (fun u=>rfl) fun m L au jp hm=>kP (fun e=>cE (hq m a on L au ha (List.Perm.refl _) jp)) fun e=>?_)
 extract_lets k8
 refine hf (fun ah=>?_) fun ah=>?_
 ·have ex:=cM J;have db:=cM (hy L au);refine wl e7 ((A.e 0).trans ex) ((Nat.add_sub_assoc L lo▸A.e (m-1)).trans db) (iu _ (gW _)) (iu _ (gW _)) (fun u=>cE (hq m a on L au ha (List.Perm.refl _) jp)) fun q=>absurd q (Int.not_le.mpr (DD (eZ (Nat.sub_pos_of_lt ah)) ex db ?_));exact bL.tl (by rw[fD];exact jp) L db _ (List.mem_take_iff_getElem.mpr ⟨0,Nat.lt_min.mpr ⟨L,J⟩,rfl⟩)
 obtain rfl:m=1:=Nat.le_antisymm (e0.mp ah) L;refine ue (wj (fun z:Nat=>(none,z,0)) (fun u=>K.St a p g) (fun x z=>z=x/\2<=z/\bL K.R (on.take z).reverse) (fun z=>2<=z/\z<=on.length/\bL K.R (on.take z).reverse) ((mu au e):2<=on.length) ⟨rfl,bJ _,?_⟩ (fun x z O u hx I aM r2=>?_) (fun z I=>⟨I.2.1,i7 I.1,I.2.2⟩) fun z ao=>?_)
 ·exact bZ hm (fun h=>(absurd h e)) (fun hr=>gH hr fun x y ex db hl=>bL.down (one on).2 Nat.one_pos ex db (Int.le_of_lt hl))
 ·obtain⟨rfl,i2,rH⟩:=I;have m3:=jy i2;exact A.lt m3 hx (fun x y ex db hl=>hf (fun u=>hf (fun q=>absurd q (i6 0)) fun u=>cE (r2 (z+1) ⟨rfl,Nat.le_succ_of_le i2,rH.down m3 ex db (Int.le_of_lt hl)⟩)) fun q=>absurd rfl q) fun x y ex db hl=>A.gt m3 ex db (DD (eZ (Nat.sub_lt m3 Nat.one_pos)) db ex hl) (cE (aM z ⟨i2,b4 hx,rH⟩))
 ·refine d6 ao fun i2 rH Rn=>?_;have ki:=TJ ha er rH;have mP:((on.take z).reverse++on.drop z).length=on.length:=cD<&>List.length_reverse<&>cD<$>hL<&>rfl;have pm:((on.take z).reverse++on.drop z).Perm on:=(List.Perm.append_right _ (List.reverse_perm _)).trans (List.Perm.of_eq (hL z on));refine hf (fun q=>absurd q (i6 0)) fun u=>qd ?_;have Ce:kz K (mirror a lo (lo+z) ((lo+z-lo)/2)) lo ((on.take z).reverse++on.drop z):=kz.of e7 (fun x hx=>iu x (pm.mem_iff.mp hx)) ki er
  have st:bL K.R (((on.take z).reverse++on.drop z).take z):=by
   rw[List.take_left' (List.length_reverse<&>gV<&>gX rH<&>rfl)];exact Rn
  generalize (on.take z).reverse++on.drop z=dB at ki mP pm Ce st;exact mP▸(CY Ce (jy i2) (mP▸rH) st (fun u u=>rfl) (fun u=>rfl) (fun u=>rfl) fun m R5 R6 jp u=>cE (hq m _ dB (de (jy i2) R5) (mP▸R6) ki pm jp))
end
theorem MO{a:Array Keyed}{j8 W ao:List Keyed}{x:Keyed}(ha:a.toList=j8++(W++x::ao)):(bubble a (j8.length+W.length) W.length).toList=j8++(x::W++ao):=by
 have r:∀(i:Nat) (l:List Keyed),(j8++l)[j8.length+i]?=l[i]?:=fun i l=>by rw[gh (el _ _),ka]
 refine List.ext_getElem? fun k=>?_;rw[kb,getElem?_bubble ((by rw[<- fP,ha,cD,cD];exact Nat.add_lt_add_left (nf (ft _)) _):j8.length+W.length<a.size) _ (kN _ _),Nat.add_sub_cancel,<- kb,<- kb,<- kb,ha];refine bZ (Nat.lt_or_ge k j8.length) (fun h=>?_) (fun h=>?_)
 ·rw[aV (eZ h),aV (fun q=>Nat.lt_asymm h q.1),fZ h,fZ h]
 ·refine aF (Nat.exists_eq_add_of_le h) fun i ae=>ae▸(r<&>r<&>r<&>?_)
  cases i with
  | zero=>refine aC (Nat.add_zero _)<&>gh (bJ _)<&>Nat.sub_self<&>?_;rfl
  | succ i =>
   rw[aV (du (nf (ft _)))];show(if _ then(j8++(W++x::ao))[j8.length+i]? else _)=(W++ao)[i]?
   rcases Nat.lt_or_ge i W.length with L | L
   ·rw[aC ⟨nf (ft _),kK L _⟩,r,fZ L,fZ L]
   ·rw[aV (fun q=>e0.mpr L (Nat.le_of_add_le_add_left q.2)),gh (Nat.le_succ_of_le L),gh L,Nat.succ_sub L];rfl
section
variable {K:fO}{U:Type}{Q:U->SortSt->Prop}{a:Array Keyed}{p:Array (Nat×Nat×Nat)}{g:Nat}
theorem bL.ins{R:Keyed->Int}{j8 W:List Keyed}{x:Keyed}(h:bL R (j8++W))(J:∀y∈j8,R y<=R x)(L:∀y∈W,R x<=R y):bL R (j8++x::W):=
 have h:=hM.mp h
 hM.mpr ⟨h.1,List.pairwise_cons.mpr ⟨L,h.2.1⟩,fun a ha b hb=>(bY.mp hb).elim (fun e=>e▸J a ha) fun hb=>h.2.2 a ha b hb⟩
theorem Qj(l r:Nat)(h:l<r):l<=(l+r)/2/\(l+r)/2<r:=⟨(Nat.le_div_iff_mul_le Nat.two_pos).mpr (Nat.mul_two l▸kK (b4 h) l),Nat.div_lt_of_lt_mul (Nat.two_mul r▸Nat.add_lt_add_right h r)⟩
theorem Mb{R:Keyed->Int}{x y:Keyed}(h:R x<R y):lE R false x y=false:=congrArg (!·) (c6 h)
theorem Mc{R:Keyed->Int}{x y:Keyed}(h:R y<=R x):lE R false x y=true:=congrArg (!·) (ed (Int.not_lt.mpr h))
theorem My{ok:Nat}{f:Bool->StateT SortSt Sem U}(e7:K.Ok)(iu:∀x∈on,K.P x)(ha:a.toList=ld++on)(er:ld.length=lo)(J:0<ok)(dg:ok<=n)(hn:n<=on.length)(sz:bL K.R (on.take ok))
  (hq:∀cX dB,cX.toList=ld++dB->dB.Perm on->bL K.R (dB.take n)->K.W (f true) Q (K.St cX p g)):K.W (binarySort' lo n ok >>= f) Q (K.St a p g):=by
 have em:max ok 1=ok:=Nat.max_eq_left J;refine nk (rR (d:=(a,on)) (fun u=>(none,())) (fun d=>K.St d.1 p g) (fun x d=>d.1.toList=ld++d.2/\d.2.Perm on/\bL K.R (d.2.take x)) (by refine em<&>?_;exact dg) ⟨ha,List.Perm.refl _,by rw[em];exact sz⟩ (fun k d O Y9 hk I aM r2=>?_) fun d I=>?_)
 case refine_2=>exact cE (hq d.1 d.2 I.1 I.2.1 I.2.2)
 obtain⟨b,dB⟩:=d;refine d6 I fun hb pm Kk=>?_;have A:kz K b lo dB:=kz.of e7 (fun x hx=>iu x (pm.mem_iff.mp hx)) hb er;have rO:k<dB.length:=pm.length_eq▸de hk hn;have ex:=cM rO;generalize dB[k]=x at ex;have lk:(dB.take k).length=k:=gV.trans (gX (b4 rO) ..);refine C6 (fun l r=>(l+r)/2) Qj ((by have:=CZ (left:=false) (key:=x) Kk;rw[lk]at this;exact this):mm (hZ K.R false x (dB.take k)) k) ⟨ep _,bJ _,fun i hi=>absurd hi (Nat.not_lt_zero _),fun i J L=>absurd L (e0.mpr J)⟩ (fun z l r O qm e4 aM r2=>hf (fun e=>cE (qm e)) fun e=>?_) fun l B=>?_
 ·have mk:=e4 e
  have D4:∀{q:Bool},lE K.R false x (dB[(l+r)/2]'(b9 mk rO))=q->hZ K.R false x (dB.take k) ((l+r)/2)=q:=fun h=>by
   unfold hZ;rw[List.getElem?_take_of_lt mk,(cM (b9 mk rO))];exact h
  exact wl e7 ((A.e k).trans ex) ((A.e _).trans (cM (b9 mk rO))) (A.p _ (d0 ex)) (A.p _ (gW _)) (fun hl=>cE (r2 e (D4 (Mb hl)))) fun hl=>cE (aM e (D4 (Mc hl)))
 ·have DI:(dB.take l).length=l:=gV.trans (gX (aE B.hn (b4 rO)) ..)
  have yh:((dB.take k).drop l).length=k-l:=by rw[List.length_drop,lk]
  have DJ:dB.take l++(dB.take k).drop l=dB.take k:=by
   have:=hL l (dB.take k);rw[List.take_take,gX B.hn]at this;exact this
  have DL:dB=dB.take l++((dB.take k).drop l++x::dB.drop (k+1)):=by exact cN<$>DJ<&>sW ex<$>hL<&>rfl
  have Ht:=MO ((by rw[cN,<- DL];exact hb):b.toList=(ld++dB.take l)++((dB.take k).drop l++x::dB.drop (k+1)));rw[<- ((by rw[cD,er,DI,yh,iJ,Nat.add_sub_of_le B.hn]):lo+k=(ld++dB.take l).length+((dB.take k).drop l).length),yh,<- Nat.add_sub_add_left lo k l,cN]at Ht;refine qd (cE (r2 (bubble b (lo+k) (lo+k-(lo+l)),_) ⟨Ht,?_,?_⟩))
  ·exact((List.Perm.append_left _ List.perm_middle.symm).trans (List.Perm.of_eq DL.symm)).trans pm
  ·have x1:=hE.mem lk B;rw[List.take_take,gX B.hn]at x1;show bL K.R ((dB.take l++(x::(dB.take k).drop l++dB.drop (k+1))).take (k+1));rw[<- cN,List.take_left' (by rw[cD,dD,DI,yh,<- iJ,Nat.add_sub_of_le B.hn])];exact bL.ins (DJ<&>Kk) x1.1 x1.2
end
theorem I8(L:2<=n)(h:n<128):0<minRun' n n 0/\n<=minRun' n n 0+minRun' n n 0:=by
 refine aF (Nat.exists_eq_add_of_le' L) fun f ae=>?_;subst ae;refine minRun'_succ<&>?_
 split
 ·exact⟨ft _,el _ _⟩
 ·rw[minRun'_succ,aC (Nat.div_lt_of_lt_mul h)];omega
noncomputable abbrev qR:=Array (Nat×Nat×Nat)
section
variable {K:fO}{aq:List Keyed}{mr g:Nat}
structure uN where
 a:Array Keyed
 ld:List Keyed
 on:List Keyed
 p:qR
inductive Cw(R:Keyed->Int)(mr x:Nat)(ld on:List Keyed)(p:qR):Prop
 | p0 (hx:x=0) (er:ld=[]) (hp:p=#[])
 | p1 (hx:x=1) (hp:p=#[(0,ld.length,0)]) (s:bL R ld) (h:0<ld.length) (hm:mr<=ld.length\/on=[])
 | p2 (X mt:List Keyed) (fV:Nat) (hx:2<=x) (vK:on=[]) (er:ld=X++mt) (hp:p=#[(0,X.length,fV),(X.length,mt.length,0)]) (s:bL R X) (t:bL R mt) (h:0<X.length) (k:0<mt.length)
structure xI(K:fO)(aq:List Keyed)(mr x:Nat)(d:uN):Prop where
 e:d.a.toList=d.ld++d.on
 pm:(d.ld++d.on).Perm aq
 c:Cw K.R mr x d.ld d.on d.p
inductive uP(K:fO)(aq:List Keyed)(a:Array Keyed)(p:qR):Prop
 | one (pm:a.toList.Perm aq) (s:bL K.R a.toList) (z:p.size<=1)
 | two (X mt:List Keyed) (fV:Nat) (e:a.toList=X++mt) (pm:(X++mt).Perm aq) (hp:p=#[(0,X.length,fV),(X.length,mt.length,0)]) (s:bL K.R X) (t:bL K.R mt) (h:0<X.length) (k:0<mt.length)
theorem xI.fin{x:Nat}{d:uN}(h0:0<aq.length)(I:xI K aq mr x d)(h:aq.length<=d.ld.length\/2<=x):uP K aq d.a d.p:=by
 have e:=I.e;have pm:=I.pm
 cases I.c with
 | p0 hx er hp =>
  rw[hx,er]at h;exact absurd h (not_or.mpr ⟨Nat.not_le.mpr h0,⋯⟩)
 | p1 hx hp s =>
  have h:=h.resolve_right (by rw[hx];decide);have l:=pm.length_eq;rw[cD]at l;rw[hJ (Nat.le_zero.mp (Nat.le_of_add_le_add_left (l▸h:d.ld.length+d.on.length<=d.ld.length+0))),fD]at e pm;exact .one (e<&>pm) (e<&>s) (hp<&>bJ _)
 | p2 X mt fV hx vK er hp s t h k =>
  rw[vK,er,fD]at e pm;exact .two X mt fV e pm hp s t h k
theorem Wv{a:Array Keyed}{Q:Unit->SortSt->Prop}(e7:K.Ok)(L:2<=a.size)(Hr:a.size<128)(pl:∀x∈a.toList,K.P x)(hd:(a.toList.map K.R).Nodup)
  (hq:∀cX l1 eA,cX.toList.Perm a.toList->bL K.R cX.toList->Q () (K.St cX l1 eA)):K.W sortRuns' Q (K.St a #[] g):=by
 have h0:0<a.toList.length:=de Nat.two_pos L;refine nu (wj (d:=uN.mk a [] a.toList #[]) (fun d:uN=>(none,d.ld.length)) (fun d=>K.St d.a d.p g) (xI K a.toList (minRun' a.size a.size 0)) (fun d=>uP K a.toList d.a d.p) (ep _) ⟨rfl,List.Perm.refl _,.p0 rfl rfl rfl⟩ (fun x d O u hx I aM r2=>hf (fun e=>cE (aM d (I.fin h0 (.inl e)))) fun e=>?_) (fun d I=>I.fin h0 (.inr L)) fun d I=>?_)
 ·have l:=I.pm.length_eq;rw[cD]at l;have e:d.ld.length<d.ld.length+d.on.length:=l▸Nat.not_le.mp e;have m3:0<d.on.length:=Nat.pos_of_lt_add_right e;have nz:d.on.length=a.size-d.ld.length:=fP<$>l<$>ka<&>rfl;have iu:∀x∈d.on,K.P x:=fun x hx=>pl x (I.pm.mem_iff.mp (fb _ hx))
  have a3:(d.on.map K.R).Nodup:=by
   have:=(I.pm.map K.R).nodup_iff.mpr hd;rw[fC]at this;exact(jz.mp this).2.1
  refine NB e7 iu I.e rfl nz m3 a3 fun m dL mo lb aZ V wJ ce=>?_;dsimp -zeta only
  extract_lets n1 k8 Pp
  have aR:∀n gD ib,gD.toList=d.ld++ib->ib.Perm d.on->0<n->n<=d.on.length->minRun' a.size a.size 0<=n\/d.on.length<=n->bL K.R (ib.take n)->K.W (k8 () n) O (K.St gD d.p g):=fun n gD ib bq ua jO n1 hn l3=>?_
  ·refine hf (fun q=>ue (My e7 (fun x hx=>iu x (wJ.mem_iff.mp hx)) V rfl lb ?_ ?_ ce fun gD ib bq ua l3=>?_)) fun q=>aR m dL mo V wJ lb aZ (.inl (e0.mp q)) ce
   ·exact Nat.le_min.mpr ⟨nz▸aZ,b4 q⟩
   ·refine((wJ.length_eq:mo.length=d.on.length) ..).symm▸nz.symm▸?_;exact Nat.min_le_left _ _
   ·refine aR Pp gD ib bq (ua.trans wJ) (Nat.lt_min.mpr ⟨nz▸m3,(I8 L Hr).1⟩) (nz<&>Nat.min_le_left _ _) ?_ l3;refine bZ (Nat.le_total (a.size-d.ld.length) (minRun' a.size a.size 0)) (fun w=>?_) (fun w=>?_)
    ·exact .inr (i7 (nz.trans (gX w).symm))
    ·exact .inl (i7 (Nat.min_eq_right w).symm)
  ·have eP:gD.toList=d.ld++ib.take n++ib.drop n:=by rw[cN,hL];exact bq
   have sl:(ib.take n).length=n:=by rw[gV,ua.length_eq,gX n1]
   have e4:∀l1,Cw K.R (minRun' a.size a.size 0) (x+1) (d.ld++ib.take n) (ib.drop n) l1->O (.yield (none,d.ld.length+n)) (K.St gD l1 g):=fun l1 c=>by
    have:=r2 ⟨gD,d.ld++ib.take n,ib.drop n,l1⟩ ⟨eP,((by rw[cN,hL];exact(List.Perm.append_left _ ua).trans I.pm):(d.ld++ib.take n++ib.drop n).Perm a.toList),c⟩;rw[cD,sl]at this;exact this
   have dn:d.on.length<=n->ib.drop n=[]:=fun h=>List.drop_eq_nil_of_le (ua.length_eq▸h)
   cases I.c with
   | p0 hx er hp =>
    refine hp<&>(nu (qd (cE (e4 #[(d.ld.length,n,0)] (.p1 (congrArg (· + 1) hx) ?_ ?_ ?_ ?_)))))
    all_goals refine er<&>List.nil_append<&>?_
    ·refine sl<&>?_;rfl
    ·exact l3
    ·exact sl<&>jO
    ·exact hn.imp (fun h=>sl<&>h) dn
   | p1 hx hp s h hm =>
    rw[hp];have em:∀fV:Nat,(#[(0,d.ld.length,0)]:qR).modify (1-1) (fun x=>(x.1,x.2.1,fV))=#[(0,d.ld.length,fV)]:=fun fV=>rfl;refine nu (wj (d:=()) (fun u=>(none,())) (fun u=>K.St gD #[(0,d.ld.length,0)] g) (fun u u=>True) (fun u=>True) (ep _) trivial (fun u u u u u u aM u=>nu (cE (aM () trivial))) (fun u u=>trivial) fun u u=>qd (qd (cE ?_)));show O _ (K.St gD (((#[(0,d.ld.length,0)]:qR).modify (1-1) (fun x=>(x.1,x.2.1,power' a.size (2*0+d.ld.length) (2*0+d.ld.length+d.ld.length+n) a.size))).push (d.ld.length,n,0)) g);refine em<&>(e4 #[_,_] (.p2 d.ld (ib.take n) _ (i7 (congrArg (· + 1) hx.symm)) (dn ?_) rfl (by rw[sl]) s l3 h (sl<&>jO)));exact hn.elim (fun h=>(Nat.le_of_add_le_add_left (aE (i7 l) (aE (I8 L Hr).2 (Nat.add_le_add (hm.resolve_right fun z=>du m3 (congrArg List.length z)) h))))) id
   | p2 X mt fV hx vK=>exact absurd (congrArg List.length vK) (du m3)
 ·refine wj (d:=(d.a,d.p,g)) (fun u=>(none,())) (fun e:Array Keyed×qR×Nat=>K.St e.1 e.2.1 e.2.2) (fun x e=>uP K a.toList e.1 e.2.1/\(0<x->e.2.1.size<=1)) (fun e=>uP K a.toList e.1 e.2.1/\e.2.1.size<=1) (ep _) ⟨I,fun h=>absurd h (i6 _)⟩ (fun x e O u u I aM r2=>nu (hf (fun q=>cE (aM e ⟨I.1,q⟩)) fun q=>?_)) (fun e I=>⟨I.1,I.2 (de Nat.two_pos L)⟩) fun e I=>?_
  ·cases I.1 with
   | one _ _ z=>exact absurd z q
   | two X mt fV bP pm hp s t h k =>
    rw[hp];have t8:=fun x hx=>pl x (pm.mem_iff.mp hx);exact Tp e7 h k (fun x hx=>t8 x (hX _ hx)) (fun x hx=>t8 x (fb _ hx)) s t bP fun cX eA m=>cE (r2 (cX,_,eA) ⟨.one (m.pm.trans pm) m.st (bJ _),fun u=>bJ _⟩)
  ·cases I.1 with
   | one pm s z=>exact cE (hq _ _ _ pm s)
   | two X mt fV bP pm hp =>
    have z:=I.2;rw[hp]at z;exact absurd (show 2<=1 from z) ⋯
end
section
variable {a b c:Str×Int}
theorem oO(h:a.1=b.1):iq a b=decide (a.2<b.2):=aC h
theorem nE(h:a.1≠b.1):iq a b=decide (a.1.cps.toList<b.1.cps.toList):=aV h
theorem Tb:iq a a=false:=(oO rfl).trans (ed (Int.lt_irrefl _))
theorem WR{x y:Str}(h:x.cps.toList=y.cps.toList):x=y:=by
 cases x;cases y;exact congrArg Str.mk (Array.toList_inj.mp h)
theorem Tc(J:iq a b=true)(L:iq b c=true):iq a c=true:=by
 by_cases V:a.1=b.1
 ·rw[oO V]at J;by_cases ah:b.1=c.1
  ·rw[oO ah]at L;exact(oO (V.trans ah) ..).trans (c6 (Int.lt_trans (f0 J) (f0 L)))
  ·rw[nE ah,<- V]at L;rw[nE (V▸ah)];exact L
 ·rw[nE V]at J;by_cases ah:b.1=c.1
  ·rw[ah]at J V;rw[nE V];exact J
  ·rw[nE ah]at L;have h:=List.lt_trans (f0 J) (f0 L);exact(nE fun e=>List.lt_irrefl c.1.cps.toList (by rw[e]at h;exact h) ..).trans (c6 h)
theorem AD(J:iq a b=false)(L:iq b a=false):a=b:=by
 by_cases e:a.1=b.1
 ·rw[oO e]at J;rw[oO e.symm]at L;exact Prod.ext e (Int.le_antisymm (Int.not_lt.mp (lz L)) (Int.not_lt.mp (lz J)))
 ·rw[nE e]at J;rw[nE (Ne.symm e)]at L;exact absurd (WR (List.le_antisymm (List.not_lt.mp (lz L)) (List.not_lt.mp (lz J)))) e
end
def nL(l:List (Str×Int))(k:Str×Int):Int:=(l.countP (iq · k):Nat)
theorem No{U:Type}{f g:U->Bool}{s:U}(h:∀x,g x=true->f x=true)(a7:f s=true)(hg:g s=false):∀{p:List U},s∈p->p.countP g<p.countP f:=by
 intro p
 induction p with
 | nil=>intro h;exact absurd h dM
 | cons a p af =>
  intro hs;rw[List.countP_cons,List.countP_cons];refine bZ (bY.mp hs) (fun hl=>?_) (fun hs=>?_)
  ·refine hl▸?_;refine a7<&>hg<&>?_;exact Nat.lt_succ_of_le (List.countP_mono_left fun x u=>h x)
  ·apply Nat.add_lt_add_of_lt_of_le (af hs)
   cases q:g a with
   | false=>exact ep _
   | true=>rw[h a q];exact bJ _
section
variable {l:List (Str×Int)}{a b:Str×Int}
theorem J4(ha:a∈l)(h:iq a b=true):nL l a<nL l b:=eK.mpr (No (g:=fun x=>iq x a) (fun u q=>Tc q h) h Tb ha)
theorem VM(hb:b∈l)(h:iq a b=false):nL l b<=nL l a:=by
 cases q:iq b a with
 | true=>exact Int.le_of_lt (J4 hb q)
 | false=>rw[AD h q];exact Int.le_refl _
theorem wK(ha:a∈l)(hb:b∈l):decide (nL l a<nL l b)=iq a b:=by
 cases q:iq a b with
 | true=>exact c6 (J4 ha q)
 | false=>exact ed (Int.not_lt.mpr (VM hb q))
theorem VL(ha:a∈l)(hb:b∈l)(h:nL l a=nL l b):a=b:=
 AD ((wK ha hb).symm.trans (ed (h▸Int.lt_irrefl _))) ((wK hb ha).symm.trans (ed (h▸Int.lt_irrefl _)))
end
theorem Ko{l r:List (Str×Int)}(p:r.Perm l)(s:mn r):nO l=r:=by
 exact List.Perm.eq_of_pairwise (fun a b u u J L=>AD L J) (Classical.epsilon_spec (p:=fun r:List (Str×Int)=>r.Perm l/\mn r) ⟨r,p,s⟩).2 s ((Classical.epsilon_spec (p:=fun r:List (Str×Int)=>r.Perm l/\mn r) ⟨r,p,s⟩).1.trans p.symm)
theorem Wu{l lT:List (Str×Int)}(p:l.Perm lT):nO l=nO lT:=
 congrArg Classical.epsilon (funext fun r=>propext ⟨fun h=>⟨h.1.trans p,h.2⟩,fun h=>⟨h.1.trans p.symm,h.2⟩⟩)
def hF(h:Heap)(k:Str×Int)(v:Value):Prop:=∃(a:Addr) (t aa:Tok) (n:Nat),v=.ref a/\h.get? a=some { cls:=.type "tuple",data:=.seq #[.str k.1 t,.int k.2 aa] n }
section
variable {prog:Program}{w:World}
theorem UU{k bs:Str×Int}{Q:Bool->Shared->Prop}(hx:hF s.heap k x)(aG:hF s.heap bs y)(h:Q (iq k bs) s):wpAny (model prog w) A (keyLt' (tuples' true) x y) Q E s:=by
 refine lH hx fun a t aa n ae ha=>ae▸(lH aG fun b bE gN d4 ae hb=>ae▸(PySem.W.kat_lt ha rfl hb rfl (PySem.W.kat_cons (wpAny_eqBool_str (PySem.W.kat_go (fun e=>PySem.W.kat_yes (PySem.W.kat_cons (wpAny_eqBool_int (PySem.W.kat_go (fun ah=>PySem.W.kat_yes (PySem.W.kat_nil ?_)) fun ah=>PySem.W.kat_no ?_)))) fun e=>PySem.W.kat_no (oneLt_str ?_))))))
 ·rw[oO (f0 e),eq_of_beq ah,ed (Int.lt_irrefl _)]at h;exact h
 ·rw[oO (f0 e)]at h;exact PySem.W.kat_one _ _ (P.lt_int h)
 ·rw[nE (lz e)]at h;exact h
def VW(prog:Program)(w:World)(A:Around)(E:Value->Shared->Prop)(s:Shared)(vs:List Value)(fI:Value->Str×Int):fO:=⟨prog,w,A,E,s,tuples' true,fun x=>nL (vs.map fI) (fI x.1),fun x=>x.1∈vs⟩
theorem VX(hv:∀v∈vs,hF s.heap (fI v) v):(VW prog w A E s vs fI).Ok:=fun x y st Q gL nK hk q=>by
 show wpS _ _ _ _ (lt' x y) Q st;rw[lt'_eq];exact wpS_bind (wpS_get ((show kindOf st=tuples' true from hk ..).symm▸(wpS_bind (wpS_lift (wpAny_attempt (UU (hv _ gL) (hv _ nK) ⟨rfl,(wK (c7.mpr (aI _ gL rfl)) (c7.mpr (aI _ nK rfl))<$>(wpS_pure q))⟩))))))
theorem Yc:∀{vs:List Value},(∀v∈vs,hF h (fI v) v)->∃fs:List Value,PySem.W.KatTups h vs fs/\fs.length=vs.length/\∀f∈fs,∃x t,f=.str x t:=by
 intro vs
 induction vs with
 | nil=>intro _;exact b3 ([]) .nil rfl (fun f a7=>absurd a7 dM)
 | cons v vs af =>
  intro hv;exact bw (af fun v nB=>hv v (bx _ nB)) fun fs J L au=>lH (hv _ be) fun a t aa n ae ha=>ae▸(b3 (_::fs) (.cons ha rfl rfl rfl J) (congrArg (· + 1) L) (fun f a7=>bZ (bY.mp a7) (fun hl=>(hl▸(eQ _ t rfl))) (fun a7=>au f a7)))
theorem SP{a:Addr}{P:PySem.Fin->Shared->Prop}(ho:s.heap.get? a=some (seqObj "list" vs.toArray n))(hv:∀v∈vs,hF s.heap (fI v) v)(hn:vs.length<128)(hd:(vs.map fI).Nodup)
  (h:∀out:Array Value,out.toList.Perm vs->mn (out.toList.map fI)->P (.done (.ret .none)) { s with heap:=sortedHeap s.heap a vs out }):wpAny (model prog w) A (Builtin.«list.sort» ⟨[.ref a],[]⟩) P E s:=by
 rw[list_sort_plain];have aL:vs.length<=sizeLine:=aE (b4 hn) ⋯;have ha:a<s.heap.objs.size:=eo ho;refine aK (listItems_at ho rfl (aK (listUpdate_at ho rfl ?_ (by rw[eY];exact aL) (ep _))));obtain⟨V,HN⟩:∃V,(s.heap.update a (Obj.mapSeq fun u=>#[])).get? a=some (seqObj "list" #[] V):=⟨_,get?_update_seq ho (fun u=>#[])⟩;refine aK (seqEpoch_at HN rfl (aK (wpAny_newTuple (aK (wpAny_newList (fQ ?_) (ep _))) aL)));have zX:(((s.heap.update a (Obj.mapSeq fun u=>#[])).push (seqObj "tuple" vs.toArray 0)).push (seqObj "list" #[] 0)).get? a=some (seqObj "list" #[] V):=cI _ (cI _ HN)
 have z8:∀v∈vs,hF (((s.heap.update a (Obj.mapSeq fun u=>#[])).push (seqObj "tuple" vs.toArray 0)).push (seqObj "list" #[] 0)) (fI v) v:=fun v hm=>by
  refine lH (hv v hm) fun b t aa m ae e=>?_;subst ae;refine sZ b t aa m rfl (((fun b o hb e=>cI _ (cI _ ((Heap.get?_update_ne _ _ _ _ hb).trans e))):∀b o,b≠a->s.heap.get? b=some o->(((s.heap.update a (Obj.mapSeq fun u=>#[])).push (seqObj "tuple" vs.toArray 0)).push (seqObj "list" #[] 0)).get? b=some o) b _ (fun q=>?_) e);rw[q,ho]at e;have:=congrArg Obj.cls (oi e);exact absurd (Value.type.inj this) ⋯
 have kX:∀out:Array Value,out.toList.Perm vs->mn (out.toList.map fI)->P (.done (.ret .none)) { s with heap:=(((s.heap.update a (Obj.mapSeq fun u=>#[])).push (seqObj "tuple" vs.toArray 0)).push (seqObj "list" #[] 0)).update a (Obj.mapSeq fun u=>out) }:=h;generalize ((s.heap.update a (Obj.mapSeq fun u=>#[])).push (seqObj "tuple" vs.toArray 0)).push (seqObj "list" #[] 0)=g6 at zX z8 kX ⊢
 extract_lets Zn k8
 have aR:∀κ,(¬vs.toArray.size<2->κ=tuples' true)->wpAny (model prog w) A (k8 κ) P E { s with heap:=g6 }:=fun κ hk=>?_
 ·by_cases L:vs.toArray.size<2
  ·rw[aC L];exact aK (bh (aR _ fun q=>absurd L q))
  ·rw[aV L];refine bw (Yc z8) fun fs cT bQ mX=>?_
   exact aK (PySem.W.kat_kind (s:={ s with heap:=g6 }) cT (bQ▸de Nat.two_pos (e0.mp L)) (fun f a7=>by
    refine eM (mX f a7) fun x t ae=>?_;subst ae
    exact .now) rfl (aR _ fun u=>rfl))
 have mE:(vs.toArray.zip vs.toArray).toList=vs.map fun v=>(v,v):=by simp[List.zip,List.zipWith_self]
 have bH:∀{l:List Keyed},l.Perm (vs.map fun v=>(v,v))->∀x∈l,x.1∈vs/\x.1=x.2:=fun pm x hx=>by
  refine ay (c7.mp (pm.mem_iff.mp hx)) fun v hv ae=>?_;refine ae▸?_;exact⟨hv,rfl⟩
 have run:wpAny (model prog w) A ((if vs.toArray.size<2 then pure ()else sortRuns').run (SortSt.mk' κ (vs.toArray.zip vs.toArray) #[] 7 none)) (fun r s'=>s'={ s with heap:=g6 }/\∃fu oS g,r.2=SortSt.mk' κ fu oS g none/\fu.toList.Perm (vs.map fun v=>(v,v))/\mn (fu.toList.map fun x=>fI x.1)) E { s with heap:=g6 }:=by
  by_cases L:vs.toArray.size<2
  ·rw[aC L];refine bh ⟨rfl,_,_,_,rfl,List.Perm.of_eq mE,?_⟩;rw[mE,fE];show mn (vs.map fI);rw[eY]at L
   cases vs with
   | nil=>exact List.Pairwise.nil
   | cons v r =>
    cases r with
    | nil=>exact List.pairwise_singleton _ _
    | cons aa r=>exact absurd L (e0.mpr (kN 2 _))
  ·rw[aV L];refine hk L<&>?_;have u:(vs.toArray.zip vs.toArray).size=vs.length:=fP<$>mE<&>a9<&>rfl;refine cu (Wv (Q:=fun u st=>∃fu oS g,st=SortSt.mk' (tuples' true) fu oS g none/\fu.toList.Perm (vs.map fun v=>(v,v))/\mn (fu.toList.map fun x=>fI x.1)) (VX z8) (u▸e0.mp L) (u▸hn) (fun x hx=>(bH (List.Perm.of_eq mE) x hx).1) ?_ fun cX l1 eA pm st=>(mC cX l1 eA rfl (mE▸pm) ?_)) (fun r s' hr=>hr) fun u u e=>e
   ·rw[mE,fE];exact List.pairwise_map.mpr (List.Pairwise.imp_of_mem (fun ha hb cQ e=>cQ (VL (c7.mpr (aI _ ha rfl)) (c7.mpr (aI _ hb rfl)) e)) (List.pairwise_map.mp hd))
   ·refine List.pairwise_map.mpr (List.Pairwise.imp_of_mem (fun ha hb hl=>?_) st);have pm:=mE▸pm;exact(wK (c7.mpr ⟨_,(bH pm _ hb).1,rfl⟩) (c7.mpr ⟨_,(bH pm _ ha).1,rfl⟩)).symm.trans (ed (Int.not_lt.mpr hl))
 refine aK (cu run ?_ fun u u e=>e)
 rintro⟨⟨⟩,dH⟩ s' ⟨rfl,fu,oS,g,yo,pm,st⟩
 obtain rfl:dH=_:=yo
 have JT:(fu.map (·.2)).toList.Perm vs:=by
  have:=pm.map (·.2);rw[fE]at this;exact Array.toList_map<&>(this.trans (List.Perm.of_eq (List.map_id' vs)))
 refine aK (seqEpoch_at zX rfl (aK (listUpdate_at zX rfl ?_ (ep _) ?_)))
 ·rw[bne_self_eq_false,aV ⋯];refine bh (kX _ JT ?_);rw[Array.toList_map,fE];exact(List.map_congr_left fun x hx=>congrArg fI (bH pm x hx).2:fu.toList.map (fun x=>fI x.1)=_)▸st
 ·refine fP<$>JT.length_eq<&>?_;exact Nat.le_succ_of_le aL
theorem Wy{l:Addr}(hl:s.heap.IsList l vs.toArray)(hv:∀v∈vs,hF s.heap (fI v) v)(hn:vs.length<128)(hd:(vs.map fI).Nodup)
  (h:∀out:Array Value,out.toList.Perm vs->mn (out.toList.map fI)->Q (.ref (s.heap.objs.size+1)) { s with heap:=sortedAll s.heap vs out }):wpAny (model prog w) A (call (.builtin "sorted") [.ref l]) Q E s:=by
 apply Calls.call_function_entry kind_sorted plain_sorted entry_sorted (args_sorted1 _);refine aK (bh (aK (collect_list hl (aK (wpAny_newList ?_ ((aE (b4 hn) ⋯):vs.length<=sizeLine))) ((aE (b4 hn) ⋯):vs.length<=sizeLine))))
 have HP:(((s.heap.push (seqObj "list" #[] 0)).update s.heap.objs.size (Obj.mapSeq (·++vs.toArray))).push (seqObj "list" vs.toArray 0)).get? (s.heap.objs.size+1)=some (seqObj "list" vs.toArray 0):=by
  exact ey (congrArg _ ((((Heap.size_update ..).trans (size_push' ..)):((s.heap.push (seqObj "list" #[] 0)).update s.heap.objs.size (Obj.mapSeq (·++vs.toArray))).objs.size=s.heap.objs.size+1) ..).symm) (ew _ rfl)
 show wpAny _ _ _ _ _ { s with heap:=((s.heap.push (seqObj "list" #[] 0)).update s.heap.objs.size (Obj.mapSeq (·++vs.toArray))).push (seqObj "list" vs.toArray 0) };refine((((Heap.size_update ..).trans (size_push' ..)):((s.heap.push (seqObj "list" #[] 0)).update s.heap.objs.size (Obj.mapSeq (·++vs.toArray))).objs.size=s.heap.objs.size+1) ..).symm▸(aK (fQ (wpAny_call_entry slot_list_sort (aI _ HP rfl) entry_list_sort (SP HP (fun v hm=>(lH (hv v hm) fun b t aa m ae e=>?_)) hn hd fun out dL gU=>(aI _ rfl (bh (aI _ rfl (h out dL gU))))) (args_list_sort _))));subst ae;exact sZ b t aa m rfl (cI _ ((Heap.get?_update_ne _ _ _ _ (eZ (eo e))).trans (cI _ e)))
end
def RG:Str ⊕ Int->Value->Bool
 | .inl x,v=>Value.isStrOf x v
 | .inr i,v=>Value.isInt i v
def Ql(w:World):Str ⊕ Int->Int
 | .inl x=>hashStr w x
 | .inr i=>hashInt i
def nF(prog:Program)(w:World):KeyKind prog w (Str ⊕ Int) where
 is:=RG
 hash:=Ql w
 inj:=fun v a b ha hb=>by
  cases a with
  | inl x =>
   refine aF (Value.isStrOf_shape (show Value.isStrOf x v=true from ha)) fun t ae=>?_;obtain rfl:=ae
   cases b with
   | inl y=>exact congrArg Sum.inl (Value.isStrOf_inj (.str x t) x y ha hb)
   | inr j=>cases hb
  | inr i =>
   refine aF (Value.isInt_shape (show Value.isInt i v=true from ha)) fun t ae=>?_;obtain rfl:=ae
   cases b with
   | inl y=>cases hb
   | inr j=>exact congrArg Sum.inr (Value.isInt_inj (.int i t) i j ha hb)
 byValue:=fun k v h=>by
  cases k with
  | inl x=>refine aF (Value.isStrOf_shape (show Value.isStrOf x v=true from h)) fun t ae=>?_;obtain rfl:=ae;rfl
  | inr i=>refine aF (Value.isInt_shape (show Value.isInt i v=true from h)) fun t ae=>?_;obtain rfl:=ae;rfl
 pyHash:=fun{A E s k v Q} hv h=>by
  cases k with
  | inl x=>refine aF (Value.isStrOf_shape (show Value.isStrOf x v=true from hv)) fun t ae=>?_;obtain rfl:=ae;exact wpAny_pyHash_str h
  | inr i=>refine aF (Value.isInt_shape (show Value.isInt i v=true from hv)) fun t ae=>?_;obtain rfl:=ae;exact wpAny_pyHash_int h
 eqBool:=fun{A E s a b aa v Q} hu hv h=>by
  cases a with
  | inl x =>
   refine aF (Value.isStrOf_shape (show Value.isStrOf x aa=true from hu)) fun t ae=>?_;obtain rfl:=ae
   cases b with
   | inl y =>
    refine aF (Value.isStrOf_shape (show Value.isStrOf y v=true from hv)) fun bE ae=>?_;obtain rfl:=ae;refine wpAny_eqBool_str ?_
    have e:decide (Sum.inl (β:=Int) x=Sum.inl y)=decide (x=y):=by simp
    rw[<- e];exact h
   | inr j =>
    refine aF (Value.isInt_shape (show Value.isInt j v=true from hv)) fun bE ae=>?_;obtain rfl:=ae;exact SeqAt.EqAt.str_int x t j bE prog w E Q (by simpa using h)
  | inr i =>
   refine aF (Value.isInt_shape (show Value.isInt i aa=true from hu)) fun t ae=>?_;obtain rfl:=ae
   cases b with
   | inl y =>
    refine aF (Value.isStrOf_shape (show Value.isStrOf y v=true from hv)) fun bE ae=>?_;obtain rfl:=ae;exact SeqAt.EqAt.int_str i t y bE prog w E Q (by simpa using h)
   | inr j =>
    refine aF (Value.isInt_shape (show Value.isInt j v=true from hv)) fun bE ae=>?_;obtain rfl:=ae;refine wpAny_eqBool_int ?_
    have e:decide (Sum.inr (α:=Str) i=Sum.inr j)=(i == j):=by
     by_cases q:i=j <;> simp[q]
    rw[<- e];exact h
 «strs»:=fun k x t v h=>by
  cases k with
  | inl y=>exact(strKind prog w).«strs» y x t v h
  | inr i=>cases h
structure gy where
 h:Heap
 fr:List Addr
 prog:Program
 w:World
variable {hb:gy}
noncomputable abbrev gy.get?(b:gy)(a:Addr):Option Obj:=b.h.get? a
structure bc where
 hb:gy
 mg:Str->Option Value
 mb:Str->Option Value
 ph:Bool
variable {K:bc}
noncomputable abbrev bc.prog(K:bc):Program:=K.hb.prog
noncomputable abbrev bc.w(K:bc):World:=K.hb.w
structure bc.Ok(K:bc):Prop where
 g:K.hb.h.Ns mainGlobals K.mg
 b:K.hb.h.Ns builtinsNs K.mb
 nolimit:K.hb.h.NoLimit
 mods:∃o,K.hb.get? sysModules=some o
def fM(B:gy)(h:Heap)(U:aw):aX->Addr->Prop
 | .lst Y,a=>∃items n,h.get? a=some { cls:=.type "list",data:=.seq (List.toArray items) n }/\bp h U Y items
 | .ds Z,a=>∃bT,h.DictOf (strKind B.prog B.w) a bT/\bT.map (·.1)=Z.map (·.1)/\bp h U (Z.map (·.2)) (bT.map (·.2))
 | .dp Z,a=>∃Y,h.DictOfH (tupleKind (nF B.prog B.w)) a Y/\Y.map (·.1)=Z.map (fun e=>[.inl e.1.1,.inr e.1.2])/\(∀x∈Y,x.2.1∉U.all)/\bp h U (Z.map (·.2)) (Y.map (·.2.2))
 | .ns fs,a=>∃m,h.Ns1 a m/\(∀n v,aD n fs=some v->∃aa,m n=some aa/\am h U v aa)/\(∀n,aD n fs=none->m n=none)
 | .tp,a=>∃x y,h.get? a=some { cls:=.type "tuple",data:=.seq #[x,y] }
 | .no,_=>False
theorem fM.live{B:gy}{m:aX}{a:Addr}(o:fM B h U m a):∃o,h.get? a=some o:=by
 cases m with
 | lst Y=>refine cG o fun items n e u=>?_;exact⟨_,e⟩
 | ds Z=>obtain⟨bT,⟨o,_,_,e,_⟩,_⟩:=o;exact⟨o,e⟩
 | dp Z=>obtain⟨bT,⟨o,_,_,e,_⟩,_⟩:=o;exact⟨o,e⟩
 | ns fs=>obtain⟨m,⟨o,_,_,e,_⟩,_⟩:=o;exact⟨o,e⟩
 | tp=>refine eM o fun x y e=>?_;exact⟨_,e⟩
 | no=>exact o.elim
theorem fM.map{B:gy}{m:aX}{a:Addr}(v:∀p aa,am h U p aa->am h' α' p aa)(k:h'.get? a=h.get? a)
  (b7:∀b o,b∉U.all->h.get? b=some o->ly o->h'.get? b=some o/\b∉α'.all) (o:fM B h U m a):fM B h' α' m a:=by
 have vs:∀{p:List H} {aa:List Value},bp h U p aa->bp h' α' p aa:=fun r=>⟨r.1,fun i x y V ah=>v _ _ (r.2 i x y V ah)⟩
 cases m with
 | lst Y=>refine cG o fun items n e w=>?_;exact fF items n (k.trans e) (vs w)
 | ds Z =>
  obtain⟨bT,⟨o,d3,c0,e,r⟩,q,w⟩:=o;exact b3 bT (oz o d3 c0 (k.trans e) r) q (vs w)
 | dp Z =>
  obtain⟨Y,⟨o,d3,c0,e,aM,r2,e4,oT,qn⟩,q,hn,w⟩:=o
  have key:∀x∈Y,IsTupleKey (nF B.prog B.w) h' x.1 x.2.1/\x.2.1∉α'.all:=fun x hx=>by
   exact kS (oT x hx) fun o items n V ah bq eP=>aN (b7 _ o (hn x hx) V (.inl (eQ _ _ bq))) fun eV gc=>⟨(lI o items n eV ah bq eP),gc⟩
  exact pu Y (DU o d3 c0 (k.trans e) aM r2 e4 (fun x hx=>(key x hx).1) qn) q (fun x hx=>(key x hx).2) (vs w)
 | ns fs =>
  obtain⟨m,⟨o,d3,c0,e,r⟩,q1,q2⟩:=o;exact b3 m (oz o d3 c0 (k.trans e) r) (fun n c4 hn=>let⟨aa,eV,gc⟩:=q1 n c4 hn;(aI aa eV (v _ _ gc))) q2
 | tp=>refine eM o fun x y e=>?_;exact eQ x y (k.trans e)
 | no=>exact o.elim
theorem fM.ext{F U h α' h'}{B:gy}{m:aX}{a:Addr}(x:a4 F U h α' h')(k:h'.get? a=h.get? a)(o:fM B h U m a):fM B h' α' m a:=
 o.map (fun u u r=>r.ext x) k fun b o hb e hs=>⟨x.seqs b o (aw.not_ix hb) e hs,x.notAll hb e⟩
structure ao(hb:gy)(h:Heap)(S:ab)(U:aw):Prop where
 base:∀b o,hb.get? b=some o->h.get? b=some o
 fresh:∀a∈U.ix,hb.get? a=none
 nodup:U.ix.Nodup
 len:S.length=U.ix.length
 hidden:∀a∈U.hid,a∉U.ix/\∃o,h.get? a=some o
 obj:∀(i:Nat) (m:aX) (a:Addr),S[i]?=some m->U.ix[i]?=some a->fM hb h U m a
 hfr:∀a∈U.hid,hb.get? a=none
 fe:U.fr=hb.fr
 frs:∀a∈hb.fr,hb.get? a=none/\∃o,h.get? a=some o/\io o
 frNot:∀a∈hb.fr,a∉U.ix
structure cC(s s':Shared):Prop where
 gens:s'.gens=s.gens
 os:s'.os=s.os
theorem cC.refl(s:Shared):cC s s:=⟨rfl,rfl⟩
theorem cC.trans{a b c:Shared}(x:cC a b)(y:cC b c):cC a c:=⟨y.gens.trans x.gens,y.os.trans x.os⟩
def Lw(fr:List Addr)(h h':Heap):Prop:=∀b o,h.get? b=some o->h'.get? b=some o\/(b∈fr/\∃eC,h'.get? b=some { o with slots:=eC })
inductive xw(h₀ h:Heap)(a:Addr)(nI:Bool)(x:Value):Prop
 | inl (hn:nI=false) (e:x=.none):xw h₀ h a nI x
 | inr (T:Addr) (AZ:Obj) (ts:Array Value) (e:x=.ref T) (h0:h₀.get? T=none) (hn:T≠a) (ba:h.get? T=some AZ) (hc:AZ.cls=.type "traceback") (hd:AZ.data=.fields ts) (au:3<ts.size):xw h₀ h a nI x
inductive Cj(ph:Bool)(h₀ h:Heap)(c:Nat)(a:Addr)(nI:Bool):Prop
 | mk (new:h₀.get? a=none) (tZ:Obj) (vs:Array Value) (x:Value) (he:h.get? a=some tZ) (hc:tZ.cls=.ref c) (hd:tZ.data=.fields vs) (J:vs[1]?=some x) (KH:xw h₀ h a nI x) (YW:∃y,vs[2]?=some y/\(ph=false->y=.none)):Cj ph h₀ h c a nI
inductive qK(K:bc)(s:Shared)(U:aw)(i:Nat)(S:ab)(nI:Bool)(e:Value)(s':Shared):Prop where
 | mk (a:Addr) (h₀:Heap) (α':aw) (he:e=.ref a) (x:a4 [] U s.heap α' h₀) (r:ao K.hb h₀ S α') (aa:Lw K.hb.fr h₀ s'.heap) (bP:Cj K.ph h₀ s'.heap i a nI) (m:cC s s'):qK K s U i S nI e s'
section
variable (K:bc){β γ:Type}(ej:Heap->aw->β->γ->Prop)
inductive cy(c:aj β)(s:Shared)(U:aw)(y:γ)(s':Shared):Prop where
 | mk (b:β) (σ':ab) (α':aw) (h:c=.ok b σ') (x:a4 [] U s.heap α' s'.heap) (r:ao K.hb s'.heap σ' α') (v:ej s'.heap α' b y) (m:cC s s'):cy c s U y s'
inductive dS(xN:Around)(c:aj β)(s:Shared)(U:aw)(e:Value)(s':Shared):Prop where
 | mk (i:Nat) (σ':ab) (h:c=.exc i σ') (f5:∃gJ,qK K s U i σ' gJ e s'):dS xN c s U e s'
def av(A:Around)(t:Sem γ)(c:aj β)(s:Shared)(U:aw):Prop:=
 c≠.stuck->wpAny (model K.prog K.w) A t (cy K ej c s U) (dS K A c s U) s
end
def hW{β:Type}(Lz:Heap)(LA:aw)(b y:β):Prop:=y=b
theorem qK.lift{gJ:Bool}{e:Value}(x:a4 [] U s.heap bn s₁.heap)(m:cC s s₁)(f:qK K s₁ bn i S gJ e s'):qK K s U i S gJ e s':=by
 obtain⟨a,h₀,α',e,aS,r,aa,bP,bX⟩:=f;exact⟨a,h₀,α',e,x.trans aS,r,aa,bP,m.trans bX⟩
theorem dS.lift{β:Type}{c:aj β}(x:a4 [] U s.heap bn s₁.heap)(m:cC s s₁)(p:dS K A c s₁ bn y s'):dS K A c s U y s':=by
 obtain⟨i,σ',e,gJ,f5⟩:=p;exact⟨i,σ',e,gJ,f5.lift x m⟩
section
variable {β γ m6 sw:Type}{ej:Heap->aw->β->γ->Prop}{uO:Heap->aw->m6->sw->Prop}
theorem av.bind{t:Sem γ}{k:γ->Sem sw}{c:aj β}{f:β->ab->aj m6}(aJ:av K ej A t c s U)
  (N:∀b σ' α' y s',c=.ok b σ'->a4 [] U s.heap α' s'.heap->ao K.hb s'.heap σ' α'->ej s'.heap α' b y->cC s s'->av K uO A (k y) (f b σ') s' α') :
  av K uO A (t >>= k) (c.bind f) s U:=by
 intro hc;refine aK (cu (aJ ((by rintro rfl;exact hc rfl):c≠.stuck)) (fun y s' hp=>?_) fun e s' hx=>?_)
 ·obtain⟨b,σ',α',rfl,x,r,v,m⟩:=hp;refine cu (N b σ' α' y s' rfl x r v m hc) (fun bI kr z0=>?_) fun e kr hx=>?_
  ·obtain⟨cz,lq,ky,aP,aS,aO,c4,bX⟩:=z0;exact⟨cz,lq,ky,aP,x.trans aS,aO,c4,m.trans bX⟩
  ·exact hx.lift x m
 ·obtain⟨i,σ',rfl,f5⟩:=hx;exact⟨i,σ',rfl,f5⟩
theorem av.pure{y:γ}{b:β}(r:ao K.hb s.heap S U)(v:ej s.heap U b y):av K ej A (pure y) (.ok b S) s U:=
 fun u=>bh ⟨b,S,U,rfl,.refl,r,v,.refl s⟩
theorem av.standAt{t:Sem γ}{c:aj β}(aJ:av K ej A t c s U):av K ej A (do standAt pos;t) c s U:=
 fun h=>aK (wpAny_standAt (aJ h))
theorem av.holding{t:Sem γ}{c:aj β}(aJ:av K ej A t c s U):av K ej A (holding vs t) c s U:=
 fun h=>fQ (aJ h)
end
theorem ao.live{hb h S U}(r:ao hb h S U){a:Addr}(ha:a∈U.ix):∃o,h.get? a=some o:=by
 obtain⟨i,hi,rfl⟩:=List.mem_iff_getElem.mp ha;have hs:i<S.length:=r.len<&>hi;exact(r.obj i S[i] U.ix[i] (by simp[hs]) (by simp[hi])).live
theorem ao.keeps{hb h h' S U}(r:ao hb h S U)(k:∀b o,h.get? b=some o->h'.get? b=some o):ao hb h' S U:=
 ⟨fun b o e=>k b o (r.base b o e),r.fresh,r.nodup,r.len,fun a ha=>⟨(r.hidden a ha).1,let⟨o,e⟩:=(r.hidden a ha).2;⟨o,k a o e⟩⟩,fun i m a V ah=>(r.obj i m a V ah).ext (.keeps (F:=[]) k) (by
  refine aF (r.live (d0 ah)) fun o e=>?_
  exact e<&>k a o e<&>rfl),r.hfr,r.fe,fun a ha=>⟨(r.frs a ha).1,let⟨o,e,d⟩:=(r.frs a ha).2;(aI o (k a o e) d)⟩,r.frNot⟩
theorem ao.liveAll{hb h S U}(r:ao hb h S U){a:Addr}(ha:a∈U.all):∃o,h.get? a=some o:=by
 rcases dt.mp ha with q | q
 ·exact r.live q
 ·exact(r.hidden a q).2
def aw.add(U:aw)(D:Addr):aw:=⟨U.ix++[D],U.hid,U.fr⟩
theorem a4.add(k:∀b o,h.get? b=some o->h'.get? b=some o)(hD:h.get? D=none):a4 [] U h (U.add D) h':=
 ⟨rfl,(aI ([D]) rfl (fun y aG=>by simp at aG;exact aG<&>(⟨hD,(dM)⟩))),fun b o u e u=>k b o e,fun b o u u e=>.inl (k b o e),fun b o u e=>⟨o,k b o e⟩,rfl⟩
theorem ao.add{hb h h' S U}{m:aX}(r:ao hb h S U)(k:∀b o,h.get? b=some o->h'.get? b=some o)(hD:h.get? D=none)
  (o:fM hb h' (U.add D) m D):ao hb h' (S++[m]) (U.add D)/\a4 [] U h (U.add D) h':=by
 have Hv:D∉U.all:=fun hm=>by refine aF (r.liveAll hm) fun o e=>?_;rw[hD]at e;contradiction
 refine⟨⟨fun b o e=>k b o (r.base b o e),fun a ha=>?_,?_,by simp[aw.add,r.len],fun a ha=>?_,fun i bX a V ah=>?_,r.hfr,r.fe,fun a ha=>⟨(r.frs a ha).1,let⟨o,e,d⟩:=(r.frs a ha).2;(aI o (k a o e) d)⟩,fun a ha=>?_⟩,((.add k hD):a4 [] U h (U.add D) h')⟩
 ·refine bZ (dt.mp ha) (fun q=>?_) (fun q=>?_)
  ·exact r.fresh a q
  ·simp at q;subst q
   cases hq:hb.get? a with
   | none=>rfl
   | some o=>rw[r.base _ _ hq]at hD;contradiction
 ·show(U.ix++[D]).Nodup;rw[jz];exact⟨r.nodup,by simp,fun a ha b hb=>by simp at hb;refine hb▸?_;rintro rfl;exact aw.not_ix Hv ha⟩
 ·have ki:a∈U.hid:=ha;refine⟨fun q=>?_,let⟨o,e⟩:=(r.hidden a ki).2;⟨o,k a o e⟩⟩
  rcases dt.mp q with q | q
  ·exact(r.hidden a ki).1 q
  ·simp at q;subst q;exact Hv (fb _ ki)
 ·have rd:(U.ix++[D])[i]?=some a:=ah;by_cases hi:i<S.length
  ·rw[fZ hi]at V;rw[fZ (r.len▸hi)]at rd;have:=r.obj i bX a V rd
   have hk:h'.get? a=h.get? a:=by
    exact aF (r.live (d0 rd)) fun o e=>e<&>k a o e<&>rfl
   exact this.ext ((.add k hD):a4 [] U h (U.add D) h') hk
  ·have bq:i=S.length:=by
    have:=(dv V).1;simp at this;(grind)
   subst bq;rw[gh (bJ _)]at V;rw[gh (r.len▸(bJ _))]at rd;simp[r.len]at V rd;subst V rd;exact o
 ·intro q
  rcases dt.mp q with q | q
  ·exact r.frNot a ha q
  ·simp at q;subst q;obtain⟨_,o,e,_⟩:=r.frs a ha;rw[hD]at e;contradiction
theorem iS(h:n<=aL):n<=sizeLine:=aE h ⋯
theorem Ui(r:ao K.hb s.heap S U)(v:bp s.heap U Y vs) :
  av K am A (newList vs) (eO a5 Y S) s U:=by
 intro hc;unfold eO at hc ⊢;by_cases hl:Y.length<=aL
 ·rw[aC hl]
  have hD:s.heap.get? s.heap.objs.size=none:=by
   cases hq:s.heap.get? s.heap.objs.size with
   | none=>rfl
   | some o=>exact absurd (eo hq) (i6 _)
  have k:∀b o,s.heap.get? b=some o->(s.heap.push { cls:=.type "list",data:=.seq vs.toArray }).get? b=some o:=fun b o e=>cI _ e;refine wpAny_newObj_type ?_ (by show vs.toArray.size<=sizeLine;exact eY<&>v.1<$>(iS hl))
  cases a5 with
  | true =>
   refine⟨_,_,_,rfl,.keeps k,r.keeps k,(am.flI (ew _ rfl) (fun hm=>?_) (v.ext (.keeps (F:=[]) k))),⟨rfl,rfl⟩⟩;refine aF (r.liveAll hm) fun o e=>?_;rw[hD]at e;contradiction
  | false =>
   refine aN (r.add (m:=.lst Y) k hD (fF vs 0 (ew _ rfl) (v.ext (.add k hD)))) fun aO x=>?_;refine⟨_,_,_,rfl,x,aO,.ref ?_,⟨rfl,rfl⟩⟩;rw[r.len];simp[aw.add]
 ·rw[aV hl]at hc;exact absurd rfl hc
theorem Uj(r:ao K.hb s.heap S U)(v:bp s.heap U Y vs) :
  av K am A (newTuple vs) (if Y.length<=aL then .ok (.tup Y) S else .stuck) s U:=by
 intro hc;by_cases hl:Y.length<=aL
 ·refine aC hl<&>?_
  have hD:s.heap.get? s.heap.objs.size=none:=by
   cases hq:s.heap.get? s.heap.objs.size with
   | none=>rfl
   | some o=>exact absurd (eo hq) (i6 _)
  have k:∀b o,s.heap.get? b=some o->(s.heap.push { cls:=.type "tuple",data:=.seq vs.toArray }).get? b=some o:=fun b o e=>cI _ e;refine wpAny_newObj_type ?_ (by show vs.toArray.size<=sizeLine;exact eY<&>v.1<$>(iS hl));refine⟨_,_,_,rfl,.keeps k,r.keeps k,(am.tupI (ew _ rfl) (fun hm=>?_) (v.ext (.keeps (F:=[]) k))),⟨rfl,rfl⟩⟩;refine aF (r.liveAll hm) fun o e=>?_;rw[hD]at e;contradiction
 ·rw[aV hl]at hc;exact absurd rfl hc
theorem wn{f:H->Option PyData}:∀{Y:List H} {vs:List Value} {ds:List PyData},Y.mapM f=some ds->Y.length=vs.length ->
  (∀(i:Nat) (x:H) (v:Value) (d:PyData),Y[i]?=some x->vs[i]?=some v->f x=some d->∃as,Reads h v d as/\d.canLay0=true/\d.depth<=n) ->
  ∃as,ReadsAll h vs ds as/\PyData.canLayAll0 ds=true/\PyData.depthAll ds<=n:=by
 intro Y
 induction Y with
 | nil =>
  intro vs ds e hl _;exact hJ hl.symm<$>(oi e<$>(b3 ([]) .nil rfl (ep _)))
 | cons x Y af =>
  intro vs ds e hl aJ
  cases vs with
  | nil=>exact nomatch hl
  | cons v vs =>
   rw[List.mapM_cons]at e
   cases hx:f x with
   | none=>rw[hx]at e;contradiction
   | some d =>
    rw[hx]at e
    cases hr:Y.mapM f with
    | none=>rw[hr]at e;contradiction
    | some Y1 =>
     rw[hr]at e;refine oi e<$>?_;exact bw (aJ 0 x v d rfl rfl hx) fun as aM cs ij=>bw (af hr (Nat.succ.inj hl) fun i y w cZ V ah bq=>aJ (i+1) y w cZ V ah bq) fun gY r2 eL jD=>(b3 (as++gY) (.cons aM r2) (Bool.and_eq_true_iff.mpr ⟨cs,eL⟩) (Nat.max_le.mpr ⟨ij,jD⟩))
theorem sg(r:ao hb h S U):∀(n:Nat) (p:H) (v:Value) (d:PyData),am h U p v->dA n S p=some d->∃as,Reads h v d as/\d.canLay0=true/\d.depth<=n:=by
 intro n
 induction n with
 | zero=>intro p v d _ e;exact nomatch e
 | succ n af =>
  intro p v d hv e
  cases p with
  | exc c=>exact nomatch e
  | inst c i=>exact nomatch e
  | none=>obtain rfl:=hv.noneE;refine oi e<$>?_;exact b3 ([]) .none rfl (ep _)
  | bool b=>refine hv.boolE▸?_;obtain rfl:=oi e;exact b3 ([]) (.bool _) rfl (ep _)
  | int i=>refine aF hv.intE fun u ae=>?_;refine ae▸?_;obtain rfl:=oi e;exact b3 ([]) (.int _ _) rfl (ep _)
  | str x=>refine ay hv.strE fun u ae hs=>?_;refine ae▸?_;obtain rfl:=oi e;exact b3 ([]) (.str _ _) hs (ep _)
  | tup Y =>
   obtain⟨a,items,k,rfl,V,_,vs⟩:=hv.tupE;change(Y.mapM (dA n S)).map PyData.tuple=_ at e
   cases hm:Y.mapM (dA n S)with
   | none=>rw[hm]at e;contradiction
   | some ds =>
    rw[hm]at e;obtain rfl:=oi e;exact bw (wn hm vs.1 fun i x v d V ah bq=>af x v d (vs.2 i x v V ah) bq) fun as aM cs ij=>(b3 as (.tuple V rfl rfl (by simpa using aM)) (by simpa[PyData.canLay0]using cs) (Nat.succ_le_succ ij))
  | fl Y =>
   obtain⟨a,items,k,rfl,V,_,vs⟩:=hv.flE;change(Y.mapM (dA n S)).map PyData.list=_ at e
   cases hm:Y.mapM (dA n S)with
   | none=>rw[hm]at e;contradiction
   | some ds =>
    rw[hm]at e;obtain rfl:=oi e;exact bw (wn (n:=n) hm vs.1 fun i x v d V ah bq=>af x v d (vs.2 i x v V ah) bq) fun as aM cs ij=>(b3 (a::as) (.list V rfl rfl (by simpa using aM)) (by simpa[PyData.canLay0]using cs) (Nat.succ_le_succ ij))
  | ref i =>
   refine ay hv.refE fun a ae bP=>?_;refine ae▸?_
   change(match S[i]? with
    | some (.lst Y)=>(Y.mapM (dA n S)).map PyData.list
    | _=>none)=_ at e
   cases hs:S[i]? with
   | none=>rw[hs]at e;contradiction
   | some m =>
    rw[hs]at e
    cases m with
    | lst Y =>
     change(Y.mapM (dA n S)).map PyData.list=_ at e
     cases hm:Y.mapM (dA n S)with
     | none=>rw[hm]at e;contradiction
     | some ds =>
      rw[hm]at e;obtain rfl:=oi e;exact cG (r.obj i _ a hs bP) fun items k V vs=>bw (wn (n:=n) hm vs.1 fun i x v d V ah bq=>af x v d (vs.2 i x v V ah) bq) fun as aM cs ij=>(b3 (a::as) (.list V rfl rfl (by simpa using aM)) (by simpa[PyData.canLay0]using cs) (Nat.succ_le_succ ij))
    | _=>exact nomatch e
theorem wS{d:PyData}(c:d.canLay0=true)(h:d.depth<=16):SeqAt.shaped d=true:=by
 unfold SeqAt.shaped;rw[c];simp;(exact aE (by assumption) ⋯)
def e9(Lz:Heap)(LA:aw)(b:Bool)(y:Value):Prop:=y=.bool b
structure eJ(A:Around):Prop where
 depth:A.depth+200<recursionLimit
 units:A.units+200<cLine
theorem Nk{a b:H}(hA:eJ A)(r:ao K.hb s.heap S U)(aA:am s.heap U a x)(br:am s.heap U b y) :
  av K e9 A (compareOp .Eq x y) (aj.ofOpt (eqv S a b) S) s U:=by
 intro hc
 delta eqv at hc ⊢
 cases J:dA 16 S a with
 | none=>rw[J]at hc;exact absurd rfl hc
 | some ij =>
  cases L:dA 16 S b with
  | none=>rw[J,L]at hc;exact absurd rfl hc
  | some jD =>
   refine bw (sg r 16 a x ij aA J) fun as aM cs p1=>bw (sg r 16 b y jD br L) fun gY r2 eL p2=>?_;exact eq_dataH aM r2 (wS cs p1) (wS eL p2) (by have:=hA.units;(grind)) ⟨_,S,U,rfl,.refl,r,rfl,.refl s⟩
theorem Nl{a b:H}(hA:eJ A)(r:ao K.hb s.heap S U)(aA:am s.heap U a x)(br:am s.heap U b y) :
  av K e9 A (compareOp .NotEq x y) (aj.ofOpt ((eqv S a b).map (!·)) S) s U:=by
 intro hc
 delta eqv at hc ⊢
 cases J:dA 16 S a with
 | none=>rw[J]at hc;exact absurd rfl hc
 | some ij =>
  cases L:dA 16 S b with
  | none=>rw[J,L]at hc;exact absurd rfl hc
  | some jD =>
   refine bw (sg r 16 a x ij aA J) fun as aM cs p1=>bw (sg r 16 b y jD br L) fun gY r2 eL p2=>?_;exact ne_dataH aM r2 (wS cs p1) (wS eL p2) (by have:=hA.units;(grind)) ⟨_,S,U,rfl,.refl,r,rfl,.refl s⟩
section
variable {κ nU:Type}[DecidableEq κ][DecidableEq nU]{g:κ->nU}
theorem LL{e:κ×H}{Z:List (κ×H)}{k:κ}:aD k (e::Z)=if e.1=k then some e.2 else aD k Z:=by
 unfold aD;rw[List.find?_cons];by_cases q:e.1=k
 ·simp[q]
 ·simp[q]
theorem K6{e:nU×Value}{Z:List (nU×Value)}{k:nU}:valueAt (e::Z) k=if e.1=k then some e.2 else valueAt Z k:=by
 unfold valueAt;rw[List.find?_cons];by_cases q:e.1=k
 ·simp[q]
 ·simp[q]
theorem qZ(hg:∀a b,g a=g b->a=b):∀{Z:List (κ×H)} {ys:List (nU×Value)},ys.map (·.1)=Z.map (fun e=>g e.1)->bp h U (Z.map (·.2)) (ys.map (·.2))->∀k,
  (∀v,aD k Z=some v->∃aa,valueAt ys (g k)=some aa/\am h U v aa)/\(aD k Z=none->valueAt ys (g k)=none):=by
 intro Z
 induction Z with
 | nil =>
  intro ys J _ k;exact List.map_eq_nil_iff.mp J<$>⟨fun v e=>(by contradiction),fun u=>rfl⟩
 | cons e Z af =>
  intro ys J L k
  cases ys with
  | nil=>exact nomatch J
  | cons y ys =>
  refine aN (List.cons.inj J) fun rx zr=>gH L.inv_cons fun aa us q aY v2=>?_;cases q;rw[LL,K6,show y.1=g e.1 from rx];by_cases q:e.1=k
  ·rw[aC q,aC (congrArg _ q)];exact⟨fun v aP=>(by refine oi aP<$>?_;exact(aI _ rfl aY)),fun aP=>(by contradiction)⟩
  ·rw[aV q,aV (fun z=>q (hg _ _ z))];exact af zr v2 k
theorem CS(hg:∀a b,g a=g b->a=b):∀{Z:List (κ×H)} {ys:List (nU×Value)},ys.map (·.1)=Z.map (fun e=>g e.1)->∀k,(ys.any fun y=>decide (y.1=g k))=Z.any fun e=>decide (e.1=k)
 | [],ys,J,k=>by
  have:ys=[]:=by simpa using J
  refine this▸?_;rfl
 | e::Z,[],J,k=>(nomatch J)
 | e::Z,y::ys,J,k=>by
  simp only[dX,List.cons.injEq]at J;rw[List.any_cons,List.any_cons,CS hg J.2 k,J.1];congr 1;by_cases q:e.1=k
  ·simp[q]
  ·rw[ed q,ed (fun z=>q (hg _ _ z))]
theorem Vn(hg:∀a b,g a=g b->a=b){k:κ}{v:H}(dU:am h U v aa):∀{Z:List (κ×H)} {ys:List (nU×Value)},ys.map (·.1)=Z.map (fun e=>g e.1)->bp h U (Z.map (·.2)) (ys.map (·.2)) ->
  (ys.map fun y=>if y.1=g k then(y.1,aa)else y).map (·.1)=(Z.map fun e=>if e.1=k then(e.1,v)else e).map (fun e=>g e.1) ∧
  bp h U ((Z.map fun e=>if e.1=k then(e.1,v)else e).map (·.2)) ((ys.map fun y=>if y.1=g k then(y.1,aa)else y).map (·.2)):=by
 intro Z
 induction Z with
 | nil =>
  intro ys J L;exact List.map_eq_nil_iff.mp J<$>⟨rfl,.nil⟩
 | cons e Z af =>
  intro ys J L
  cases ys with
  | nil=>exact nomatch J
  | cons y ys =>
  refine aN (List.cons.inj J) fun rx zr=>gH L.inv_cons fun w ws q aY v2=>?_;cases q;refine aN (af zr v2) fun i1 i2=>?_;rw[dX,dX,dX,dX,dX,dX,i1];by_cases q:e.1=k
  ·rw[aC q,aC (by rw[show y.1=g e.1 from rx,q])];exact⟨by rw[show y.1=g e.1 from rx],.cons dU i2⟩
  ·rw[aV q,aV (fun z=>q (hg _ _ ((show y.1=g e.1 from rx).symm.trans z)))];exact⟨by rw[show y.1=g e.1 from rx],.cons aY i2⟩
theorem uY(hg:∀a b,g a=g b->a=b){k:κ}{v:H}{Z:List (κ×H)}{ys:List (nU×Value)}(J:ys.map (·.1)=Z.map (fun e=>g e.1))(L:bp h U (Z.map (·.2)) (ys.map (·.2)))(dU:am h U v aa) :
  (stored ys (g k) aa).map (·.1)=(ee k v Z).map (fun e=>g e.1)/\bp h U ((ee k v Z).map (·.2)) ((stored ys (g k) aa).map (·.2)):=by
 unfold stored ee;rw[CS hg J k]
 split
 ·exact Vn hg dU J L
 ·rw[fC,fC,fC,fC,J];exact⟨rfl,L.append #v[dU]⟩
end
def ip(k:Str×Int):List (Str ⊕ Int):=[.inl k.1,.inr k.2]
theorem pY(a b:Str×Int)(h:ip a=ip b):a=b:=by
 unfold ip at h;simp only[List.cons.injEq,Sum.inl.injEq,Sum.inr.injEq,and_true]at h;exact Prod.ext h.1 h.2
theorem ID{p:H}{k:Str×Int}(h:fy p=some k):p=.tup [.str k.1,.int k.2]:=p9 (o:=IE p) h
theorem IF{p:H}{k:Str×Int}(hk:fy p=some k)(v:am h U p x):∃(a:Addr) (t aa:Tok) (n:Nat),x=.ref a/\h.get? a=some { cls:=.type "tuple",data:=.seq #[.str k.1 t,.int k.2 aa] n }/\a∉U.all:=by
 rw[ID hk]at v;obtain⟨a,items,n,rfl,e,hn,w⟩:=v.tupE;refine cG w.inv_cons fun sr us ae bB=>?_;subst ae;obtain⟨j0,hS⟩:=bB;refine cG hS.inv_cons fun qC us ae bB=>?_;subst ae;obtain⟨nS,B4⟩:=bB;have:us=[]:=hJ B4.1.symm;refine this▸?_
 cases j0 with | str _ cT _ =>
 cases nS with | int _ bQ =>
 exact oA a cT bQ n rfl e hn
theorem rM{p:H}{k:Str×Int}(h:fy p=some k)(v:am s.heap U p x):∃a,x=.ref a/\IsTupleKey (nF K.prog K.w) s.heap (ip k) a/\a∉U.all:=by
 refine rg (IF h v) fun a cT bQ n c8 e hn=>(b3 a c8 (lI _ _ n e rfl rfl #v[?_,?_]) hn)
 ·show Value.isStrOf k.1 (.str k.1 cT)=true;simp[Value.isStrOf]
 ·show Value.isInt k.2 (.int k.2 bQ)=true;simp[Value.isInt]
theorem wy(hK:K.Ok)(r:ao K.hb s.heap S U){a:Addr}(ha:a∈U.ix):(a == sysModules)=false:=by
 refine aF hK.mods fun o e=>?_;rw[mq]
 rintro rfl
 rw[r.fresh _ ha]at e;contradiction
theorem ud(hA:eJ A):(tupleKind (nF K.prog K.w)).room A.in1:=by
 have:=hA.units;show A.units+1<cLine
 (grind)
theorem rb{a:Addr}(r:ao K.hb s.heap S U)(hs:S[i]?=some (.dp Z))(bP:U.ix[i]?=some a) :
  ∃Y,s.heap.DictOfH (tupleKind (nF K.prog K.w)) a Y/\(kvsOf Y).map (·.1)=Z.map (fun e=>ip e.1)/\(∀x∈Y,x.2.1∉U.all)/\bp s.heap U (Z.map (·.2)) ((kvsOf Y).map (·.2)):=by
 refine oy (r.obj i _ a hs bP) fun Y J L au aQ=>(pu Y J ?_ au ?_)
 ·rw[kvsOf,fE];exact L
 ·rw[kvsOf,fE];exact aQ
theorem rc{a:Addr}{Z:List (Str×H)}(r:ao K.hb s.heap S U)(hs:S[i]?=some (.ds Z))(bP:U.ix[i]?=some a) :
  ∃bT,s.heap.DictOf (strKind K.prog K.w) a bT/\bT.map (·.1)=Z.map (fun e=>id e.1)/\bp s.heap U (Z.map (·.2)) (bT.map (·.2)):=r.obj i _ a hs bP
theorem uk{k:Str}{t:Tok}:(strKind K.prog K.w).is k (.str k t)=true:=by
 show Value.isStrOf k (.str k t)=true;simp[Value.isStrOf]
theorem Rs{a:Addr}{p:H}{k:Str×Int}(hK:K.Ok)(hA:eJ A)(r:ao K.hb s.heap S U)(hs:S[i]?=some (.dp Z))(bP:U.ix[i]?=some a)(hk:fy p=some k)(m2:am s.heap U p x) :
  av K e9 A (compareOp .In x (.ref a)) (.ok (aD k Z).isSome S) s U/\av K e9 A (compareOp .NotIn x (.ref a)) (.ok (!(aD k Z).isSome) S) s U:=by
 refine oy (rb r hs bP) fun Y J L u aQ=>ay (rM (K:=K) hk m2) fun b ae bB=>ae▸(aN bB fun hb u=>?_)
 have e:(atKey Y (ip k)).isSome=(aD k Z).isSome:=by
  have:=qZ pY L aQ k;rw[valueAt_kvsOf]at this
  cases hq:aD k Z with
  | none=>have:=this.2 hq;cases a3:atKey Y (ip k)with | none=>rfl | some z=>rw[a3]at this;contradiction
  | some v=>refine ay (this.1 v hq) fun aa z u=>?_;cases a3:atKey Y (ip k)with | none=>rw[a3]at z;cases z | some z=>rfl
 have hm:=wy hK r (d0 bP);exact⟨fun u=>wpAny_in_heap (ud hA) hb hm J (by rw[e];exact⟨_,S,U,rfl,.refl,r,rfl,⟨rfl,rfl⟩⟩),fun u=>wpAny_notIn_heap (ud hA) hb hm J (by rw[e];exact⟨_,S,U,rfl,.refl,r,rfl,⟨rfl,rfl⟩⟩)⟩
theorem Rt{a:Addr}{Z:List (Str×H)}{k:Str}{t:Tok}(hK:K.Ok)(r:ao K.hb s.heap S U)(hs:S[i]?=some (.ds Z))(bP:U.ix[i]?=some a) :
  av K e9 A (compareOp .In (.str k t) (.ref a)) (.ok (aD k Z).isSome S) s U/\av K e9 A (compareOp .NotIn (.str k t) (.ref a)) (.ok (!(aD k Z).isSome) S) s U:=by
 refine bw (rc r hs bP) fun bT J L aQ=>?_
 have e:(valueAt bT k).isSome=(aD k Z).isSome:=by
  have:=qZ (g:=id) (fun u u h=>h) L aQ k
  cases hq:aD k Z with
  | none=>have:=this.2 hq;simp only[id]at this;rw[this];rfl
  | some v=>refine ay (this.1 v hq) fun aa z u=>?_;simp only[id]at z;refine z<&>?_;rfl
 have hm:=wy hK r (d0 bP);exact⟨fun u=>wpAny_in_of uk hm J.mapOf (by rw[e];exact⟨_,S,U,rfl,.refl,r,rfl,⟨rfl,rfl⟩⟩),fun u=>wpAny_notIn_of uk hm J.mapOf (by rw[e];exact⟨_,S,U,rfl,.refl,r,rfl,⟨rfl,rfl⟩⟩)⟩
theorem RY{a:Addr}{p v:H}{k:Str×Int}(hA:eJ A)(r:ao K.hb s.heap S U)(hs:S[i]?=some (.dp Z))(bP:U.ix[i]?=some a)(hk:fy p=some k)(m2:am s.heap U p x)(hv:aD k Z=some v) :
  wpAny (model K.prog K.w) A (getItem (.ref a) x) (cy K am (.ok v S) s U) E s:=by
 refine oy (rb r hs bP) fun Y J L u aQ=>ay (rM (K:=K) hk m2) fun b ae bB=>ae▸(aN bB fun hb u=>ay ((qZ pY L aQ k).1 v hv) fun aa z dU=>?_);rw[valueAt_kvsOf]at z;refine ay (ol.mp z) fun q hq ae=>?_;subst ae;exact wpAny_getItem_heap (ud hA) hb J hq ⟨_,S,U,rfl,.refl,r,dU,⟨rfl,rfl⟩⟩
theorem RZ{a:Addr}{Z:List (Str×H)}{v:H}{k:Str}{t:Tok}(r:ao K.hb s.heap S U)(hs:S[i]?=some (.ds Z))(bP:U.ix[i]?=some a)(hv:aD k Z=some v) :
  wpAny (model K.prog K.w) A (getItem (.ref a) (.str k t)) (cy K am (.ok v S) s U) E s:=by
 exact bw (rc r hs bP) fun bT J L aQ=>ay ((qZ (fun u u h=>h) L aQ k).1 v hv) fun aa z dU=>wpAny_getItem_of uk J.mapOf z ⟨_,S,U,rfl,.refl,r,dU,⟨rfl,rfl⟩⟩
theorem PG{a:Addr}{p:H}{k:Str×Int}(hK:K.Ok)(hA:eJ A)(r:ao K.hb s.heap S U)(hs:S[i]?=some (.dp Z))(bP:U.ix[i]?=some a)(hk:fy p=some k)(m2:am s.heap U p x) :
  wpAny (model K.prog K.w) A (call (.builtin "dict.get") [.ref a,x]) (cy K am (.ok ((aD k Z).getD .none) S) s U) E s:=by
 refine oy (rb r hs bP) fun Y J L u aQ=>ay (rM (K:=K) hk m2) fun b ae bB=>ae▸(aN bB fun hb u=>call_meetsIn F.slot_dict_get J.typeIs F.entry_dict_get (F.args_dict_get_2 _ _) (meetsH_dict_get (tupleKind (nF K.prog K.w)) a b (wy hK r (d0 bP))) ⟨ud hA,ip k,Y,hb,J,?_⟩);rw[<- valueAt_kvsOf];have:=qZ pY L aQ k
 cases hq:aD k Z with
 | none=>exact this.2 hq<&>(⟨_,S,U,rfl,.refl,r,.none,⟨rfl,rfl⟩⟩)
 | some v=>refine ay (this.1 v hq) fun aa z dU=>?_;exact z<&>(⟨_,S,U,rfl,.refl,r,dU,⟨rfl,rfl⟩⟩)
theorem PH{a:Addr}{Z:List (Str×H)}{k:Str}{t:Tok}(hK:K.Ok)(r:ao K.hb s.heap S U)(hs:S[i]?=some (.ds Z))(bP:U.ix[i]?=some a) :
  wpAny (model K.prog K.w) A (call (.builtin "dict.get") [.ref a,.str k t]) (cy K am (.ok ((aD k Z).getD .none) S) s U) E s:=by
 refine bw (rc r hs bP) fun bT J L aQ=>call_meetsIn F.slot_dict_get J.typeIs F.entry_dict_get (F.args_dict_get_2 _ _) (meets_dict_get (strKind K.prog K.w) a uk (wy hK r (d0 bP))) (aI _ J.mapOf ?_);have:=qZ (g:=id) (fun u u h=>h) L aQ k
 cases hq:aD k Z with
 | none=>have z:=this.2 hq;simp only[id]at z;refine z<&>?_;exact⟨_,S,U,rfl,.refl,r,.none,⟨rfl,rfl⟩⟩
 | some v=>refine ay (this.1 v hq) fun aa z dU=>?_;simp only[id]at z;exact z<&>(⟨_,S,U,rfl,.refl,r,dU,⟨rfl,rfl⟩⟩)
def JD:n8->Operator
 | .add=>.Add | .sub=>.Sub | .mul=>.Mult | .mod=>.Mod | .fdiv=>.FloorDiv | .pow=>.Pow
def h2:iY->CmpOp
 | .eq=>.Eq | .ne=>.NotEq | .lt=>.Lt | .le=>.LtE | .gt=>.Gt | .ge=>.GtE | .is=>.Is | .isNot=>.IsNot | .isin=>.In | .notin=>.NotIn
theorem Ku{x y:Str}(a:PyData.strOk x=true)(b:PyData.strOk y=true):PyData.strOk (x++y)=true:=by
 unfold PyData.strOk at *;refine Str.cps_append<&>?_;simp only[Array.all_eq_true',Array.mem_append]at *
 rintro c (h | h)
 ·exact a c h
 ·exact b c h
theorem WP{x:Str}{n:Int}(h:PyData.strOk x=true):PyData.strOk (Txt.mul x n)=true:=by
 unfold Txt.mul
 split
 ·simp[PyData.strOk,Str.empty]
 ·split
  ·exact h
  ·have key:∀(k:Nat) (acc:Array Nat),PyData.strOk ⟨acc⟩=true->PyData.strOk ⟨(List.replicate k x.cps).foldl (·++·) acc⟩=true:=by
    intro k
    induction k with
    | zero=>intro acc L;exact L
    | succ k af =>
     intro acc L;exact List.replicate_succ▸i5▸(af _ (Ku L h))
   exact key _ _ (by simp[PyData.strOk])
theorem TR{x:Str}{n:Int}(h:x.length<=100/\0<=n/\n<=100):MulOk x n:=
 mulOk_of 100 100 h.1 h.2.2 (by grind) ⋯ ⋯
theorem Df{a:Int}(h:a.natAbs<2 ^ 60):Builtin.Int.intBits a<=64:=by
 unfold Builtin.Int.intBits;by_cases h0:a.natAbs=0
 ·have:a=0:=by grind
  refine this<&>?_;decide
 ·have:=(Nat.log2_lt h0).mpr h
  split <;> (grind)
inductive Cr(h:Heap)(U:aw)(Y:List H)(v:Value):Prop
 | mk (a:Addr) (items:List Value) (n:Nat) (e:v=.ref a) (ba:h.get? a=some { cls:=.type "list",data:=.seq (List.toArray items) n }) (vs:bp h U Y items):Cr h U Y v
theorem lD{a:H}(r:ao hb h S U)(v:am h U a x)(e:cY S a=some Y) :
  Cr h U Y x:=by
 cases a with
 | fl ys=>refine oi e<$>?_;obtain⟨l,items,n,rfl,V,_,vs⟩:=v.flE;exact⟨l,items,n,rfl,V,vs⟩
 | ref i =>
  refine ay v.refE fun l ae eb=>?_;refine ae▸?_
  delta cY at e;dsimp only at e
  cases hs:S[i]? with
  | none=>rw[hs]at e;contradiction
  | some m =>
   rw[hs]at e
   cases m with
   | lst ys=>refine oi e<$>?_;refine cG (r.obj i _ l hs eb) fun items n V vs=>?_;exact⟨l,items,n,rfl,V,vs⟩
   | _=>contradiction
 | _=>contradiction
theorem lV(s:Shared):s.heap.get? s.heap.objs.size=none:=by
 cases hq:s.heap.get? s.heap.objs.size with
 | none=>rfl
 | some o=>exact absurd (eo hq) (i6 _)
theorem cy.fl(r:ao K.hb s.heap S U)(v:bp s.heap U Y vs) :
  cy K am (.ok (.fl Y) S) s U (.ref s.heap.objs.size) { s with heap:=s.heap.push { cls:=.type "list",data:=.seq vs.toArray } }:=by
 have k:∀b o,s.heap.get? b=some o->(s.heap.push { cls:=.type "list",data:=.seq vs.toArray }).get? b=some o:=fun b o e=>cI _ e;refine⟨_,_,_,rfl,.keeps k,r.keeps k,(am.flI (ew _ rfl) (fun hm=>?_) (v.ext (.keeps (F:=[]) k))),⟨rfl,rfl⟩⟩;refine aF (r.liveAll hm) fun o e=>?_;rw[lV]at e;contradiction
theorem cy.tup(r:ao K.hb s.heap S U)(v:bp s.heap U Y vs) :
  cy K am (.ok (.tup Y) S) s U (.ref s.heap.objs.size) { s with heap:=s.heap.push { cls:=.type "tuple",data:=.seq vs.toArray } }:=by
 have k:∀b o,s.heap.get? b=some o->(s.heap.push { cls:=.type "tuple",data:=.seq vs.toArray }).get? b=some o:=fun b o e=>cI _ e;refine⟨_,_,_,rfl,.keeps k,r.keeps k,(am.tupI (ew _ rfl) (fun hm=>?_) (v.ext (.keeps (F:=[]) k))),⟨rfl,rfl⟩⟩;refine aF (r.liveAll hm) fun o e=>?_;rw[lV]at e;contradiction
theorem cy.here{β γ:Type}{ej:Heap->aw->β->γ->Prop}{b:β}{y:γ}(r:ao K.hb s.heap S U)(v:ej s.heap U b y):cy K ej (.ok b S) s U y { s with toks:=tk }:=
 ⟨_,_,_,rfl,.refl,r,v,⟨rfl,rfl⟩⟩
theorem LD{l b:Addr}{ws:List Value}(ho:s.heap.get? l=some { cls:=.type "list",data:=.seq vs.toArray n })
  (lO:s.heap.get? b=some { cls:=.type "list",data:=.seq ws.toArray n2 }) (kl:vs.length+ws.length<=sizeLine)
  (h:Q (.ref s.heap.objs.size) { s with heap:=s.heap.push { cls:=.type "list",data:=.seq (vs++ws).toArray } }):wpAny (model K.prog K.w) A (binaryOp .Add (.ref l) (.ref b)) Q E s:=by
 refine concat_meets (aI _ ho rfl) (aI _ lO rfl) noFill_list_add seq_list_add PySem.F.slot_list_add PySem.F.entry_list_add (PySem.F.args_list_add_2 _ _) (list_addW l b vs.toArray ws.toArray n n2 none none #[] #[] (by simpa using kl)) ⟨ho,lO,?_⟩;exact((by simp):vs.toArray++ws.toArray=(vs++ws).toArray).symm▸h
theorem LF{t b:Addr}{ws:List Value}(ho:s.heap.get? t=some { cls:=.type "tuple",data:=.seq vs.toArray n })
  (lO:s.heap.get? b=some { cls:=.type "tuple",data:=.seq ws.toArray n2 }) (kl:vs.length+ws.length<=sizeLine)
  (h0:vs=[]->Q (.ref b) s) (J:vs≠[]->ws=[]->Q (.ref t) s)
  (L:Q (.ref s.heap.objs.size) { s with heap:=s.heap.push { cls:=.type "tuple",data:=.seq (vs++ws).toArray } }):wpAny (model K.prog K.w) A (binaryOp .Add (.ref t) (.ref b)) Q E s:=by
 by_cases hv:vs=[]
 ·exact concat_meets ⟨_,ho,rfl⟩ (aI _ lO rfl) noFill_tuple_add seq_tuple_add PySem.F.slot_tuple_add PySem.F.entry_tuple_add (PySem.F.args_tuple_add_2 _ _)
   (tuple_addW0 t b vs.toArray ws.toArray n n2 none none #[] #[] (by simp[hv])) ⟨ho,lO,h0 hv⟩
 ·by_cases hw:ws=[]
  ·exact concat_meets ⟨_,ho,rfl⟩ ⟨_,lO,rfl⟩ noFill_tuple_add seq_tuple_add PySem.F.slot_tuple_add PySem.F.entry_tuple_add (PySem.F.args_tuple_add_2 _ _)
    (tuple_addW1 t b vs.toArray ws.toArray n n2 none none #[] #[] (by simpa using hv) (by simp[hw])) ⟨ho,lO,J hv hw⟩
  ·refine concat_meets ⟨_,ho,rfl⟩ ⟨_,lO,rfl⟩ noFill_tuple_add seq_tuple_add PySem.F.slot_tuple_add PySem.F.entry_tuple_add (PySem.F.args_tuple_add_2 _ _)
    (tuple_addW2 t b vs.toArray ws.toArray n n2 none none #[] #[] (by simpa using hv) (by simpa using hw) (eY▸eY▸kl)) ⟨ho,lO,?_⟩
   exact((by simp):vs.toArray++ws.toArray=(vs++ws).toArray).symm▸L
theorem uZ{f:Int->Int->aj H}{o:Operator}{a b:H}(aA:am s.heap U a x)(br:am s.heap U b y)
  (aJ:∀i j t aa,f i j≠.stuck->wpAny (model K.prog K.w) A (binaryOp o (.int i t) (.int j aa)) (cy K am (f i j) s U) (dS K A (f i j) s U) s):av K am A (binaryOp o x y) (sO f a b) s U:=by
 intro hc
 cases a with
 | int i =>
  cases b with
  | int j=>refine aF aA.intE fun u ae=>?_;refine ae▸?_;refine aF br.intE fun u ae=>?_;refine ae▸?_;exact aJ i j _ _ hc
  | _=>exact absurd rfl hc
 | _=>exact absurd rfl hc
theorem LI{P:H->H->aj H->Prop}(h0:∀a b,P a b .stuck)(J:∀i j,P (.int i) (.int j) (.ok (.int (i+j)) S))(L:∀p q,p.length+q.length<=aL->P (.str p) (.str q) (.ok (.str (p++q)) S))(au:∀p q,p.length+q.length<=aL->P (.tup p) (.tup q) (.ok (.tup (p++q)) S))(aQ:∀a b Y ys,cY S a=some Y->cY S b=some ys->Y.length+ys.length<=aL->P a b (.ok (.fl (Y++ys)) S)):∀a b,P a b (xP a b S):=by
 intro a b
 have p5:P a b (match cY S a with
  | some x=>match cY S b with
   | some y=>if x.length+y.length<=aL then .ok (.fl (x++y)) S else .stuck
   | none=>.stuck
  | none=>.stuck):=by
  cases V:cY S a with
  | none=>exact h0 _ _
  | some Y =>
   cases ah:cY S b with
   | none=>exact h0 _ _
   | some ys =>
    dsimp only;by_cases hl:Y.length+ys.length<=aL
    ·rw[aC hl];exact aQ a b Y ys V ah hl
    ·rw[aV hl];exact h0 _ _
 cases a with
 | int i =>
  cases b with
  | int j=>exact J i j
  | _=>exact h0 _ _
 | str p =>
  cases b with
  | str q =>
   show P _ _ (if p.length+q.length<=aL then aj.ok (H.str (p++q)) S else .stuck);by_cases hl:p.length+q.length<=aL
   ·rw[aC hl];exact L p q hl
   ·rw[aV hl];exact h0 _ _
  | _=>exact h0 _ _
 | tup p =>
  cases b with
  | tup q =>
   show P _ _ (if p.length+q.length<=aL then aj.ok (H.tup (p++q)) S else .stuck);by_cases hl:p.length+q.length<=aL
   ·rw[aC hl];exact au p q hl
   ·rw[aV hl];exact h0 _ _
  | _=>exact h0 _ _
 | _=>exact p5
theorem LJ{a b:H}(r:ao K.hb s.heap S U)(aA:am s.heap U a x)(br:am s.heap U b y):av K am A (binaryOp .Add x y) (xP a b S) s U:=by
 refine LI (P:=fun a b c=>am s.heap U a x->am s.heap U b y->av K am A (binaryOp .Add x y) c s U) (fun u u u u hc=>absurd rfl hc) (fun i j aA br u=>?_) (fun p q hl aA br u=>?_) (fun p q hl aA br u=>?_) (fun a b Y ys J L hl aA br u=>?_) a b aA br
 ·refine aF aA.intE fun u ae=>?_;refine ae▸?_;refine aF br.intE fun u ae=>?_;refine ae▸?_;exact P.add_int (.here r (.int _ _))
 ·refine ay aA.strE fun u ae J=>?_;refine ae▸?_;refine ay br.strE fun u ae L=>?_;exact ae▸(PyProof.Rows.add_str (fun bE tk=>.here r (.str _ _ (Ku J L))) (iS hl))
 ·obtain⟨t,vs,n,rfl,V,n1,aY⟩:=aA.tupE;obtain⟨aa,ws,m,rfl,ah,n2,v2⟩:=br.tupE;refine LF V ah (aY.1▸v2.1▸(iS hl)) (fun h=>?_) (fun u h=>?_) (.tup r (aY.append v2))
  ·refine⟨_,_,_,rfl,.refl,r,?_,.refl _⟩;have:_=0:=aY.1.trans (by rw[h];rfl);exact hJ this<&>br
  ·refine⟨_,_,_,rfl,.refl,r,?_,.refl _⟩;have:_=0:=v2.1.trans (by rw[h];rfl);refine hJ this<&>fD<&>?_;exact aA
 ·obtain⟨l,vs,n,rfl,V,aY⟩:=lD r aA J;obtain⟨f6,ws,m,rfl,ah,v2⟩:=lD r br L;exact LD V ah (aY.1▸v2.1▸(iS hl)) (.fl r (aY.append v2))
theorem TS{a b:H}(r:ao K.hb s.heap S U)(aA:am s.heap U a x)(br:am s.heap U b y):av K am A (binaryOp .Mult x y) (Jj a b S) s U:=by
 intro hc
 cases b with
 | int j =>
  refine aF br.intE fun u ae=>ae▸?_
  cases a with
  | int i =>
   refine aF aA.intE fun u ae=>?_;subst ae;change(if rX i j=true then aj.ok (H.int (i*j)) S else .stuck)≠.stuck at hc;show wpAny _ _ _ (cy K am (if rX i j=true then aj.ok (H.int (i*j)) S else .stuck) s U) (dS K A (if rX i j=true then aj.ok (H.int (i*j)) S else .stuck) s U) s;by_cases hm:rX i j=true
   ·rw[aC hm];exact P.mul_int (.here r (.int _ _)) ((f0 hm).elim (fun h=>.of_left (Df h)) fun h=>.of_right (Df h))
   ·rw[aV hm]at hc;exact absurd rfl hc
  | str p =>
   refine ay aA.strE fun u ae hx=>?_;refine ae▸?_;change(if p.length<=100/\0<=j/\j<=100 then aj.ok (H.str (Txt.mul p j)) S else .stuck)≠.stuck at hc;show wpAny _ _ _ (cy K am (if p.length<=100/\0<=j/\j<=100 then aj.ok (H.str (Txt.mul p j)) S else .stuck) s U) (dS K A (if p.length<=100/\0<=j/\j<=100 then aj.ok (H.str (Txt.mul p j)) S else .stuck) s U) s;by_cases h0:p.length<=100/\0<=j/\j<=100
   ·rw[aC h0];exact SB.mul (TR h0) fun bE tk=>.here r (.str _ _ (WP hx))
   ·rw[aV h0]at hc;exact absurd rfl hc
  | _=>exact absurd rfl hc
 | _=>exact absurd rfl hc
theorem MD{o:n8}{a b:H}(hA:eJ A)(r:ao K.hb s.heap S U)(aA:am s.heap U a x)(br:am s.heap U b y) :
  av K am A (binaryOp (JD o) x y) (kQ o a b S) s U:=by
 cases o with
 | add=>exact LJ r aA br
 | mul=>exact TS r aA br
 | sub=>exact uZ aA br fun i j t aa u=>P.sub_int (.here r (.int _ _))
 | mod =>
  refine uZ aA br fun i j t aa hc=>?_;by_cases h0:0<j
  ·rw[aC h0,<- Int.fmod_eq_emod_of_nonneg _ (Int.le_of_lt h0)];exact mod_int' (Int.ne_of_gt h0) (.here r (.int _ _))
  ·rw[aV h0]at hc;exact absurd rfl hc
 | fdiv =>
  refine uZ aA br fun i j t aa hc=>?_;by_cases h0:0<j/\j<1073741824
  ·rw[aC h0,<- Int.fdiv_eq_ediv_of_nonneg _ (Int.le_of_lt h0.1)];exact floordiv_int (Int.ne_of_gt h0.1) (.here r (.int _ _)) (.inl (PyProof.noPylong_small (by grind)))
  ·rw[aV h0]at hc;exact absurd rfl hc
 | pow =>
  refine uZ aA br fun i j t aa hc=>?_;by_cases h0:0<=j/\j<=100/\i=10
  ·rw[aC h0];refine d6 h0 fun J L ae=>ae▸(pow_int J ?_ (.here r (.int _ _)))
   have:Builtin.Int.intBits 10=4:=by decide +kernel
   refine this<&>?_;(grind)
  ·rw[aV h0]at hc;exact absurd rfl hc
theorem am.ne_none{a:H}(v:am h U a x)(hn:a≠.none):x≠.none:=by
 cases v <;> first | exact absurd rfl hn | (intro e;contradiction)
theorem AG{a:H}{l:Addr}{items:List Value}{T:String}(dP:T = "list" \/ T = "tuple")(hA:eJ A)(r:ao K.hb s.heap S U)(aA:am s.heap U a x)
  (V:s.heap.get? l=some { cls:=.type T,data:=.seq items.toArray n }) (vs:bp s.heap U Y items) :
  av K e9 A (compareOp .In x (.ref l)) (aj.ofOpt (jM S a Y) S) s U ∧
  av K e9 A (compareOp .NotIn x (.ref l)) (aj.ofOpt ((jM S a Y).map (!·)) S) s U:=by
 unfold jM
 cases J:dA 16 S a with
 | none=>exact⟨fun hc=>absurd rfl hc,fun hc=>absurd rfl hc⟩
 | some d =>
  cases L:Y.mapM (dA 16 S)with
  | none=>exact⟨fun hc=>absurd rfl hc,fun hc=>absurd rfl hc⟩
  | some ds =>
   refine bw (sg r 16 a x d aA J) fun as aM cs p1=>bw (wn L vs.1 fun i x v d V ah bq=>sg r 16 x v d (vs.2 i x v V ah) bq) fun gY r2 eL p2=>?_
   have hu:A.units+1+min (PyData.depthAll ds) d.depth<cLine:=by have:=hA.units;(grind)
   rcases dP with rfl | rfl
   ·have ub:Reads s.heap (.ref l) (.list ds) (l::gY):=.list V rfl rfl (by simpa using r2)
    exact⟨fun u=>SeqAt.in_list_reads ub aM (by simpa[PyData.canLay0]using eL) cs hu ⟨_,S,U,rfl,.refl,r,rfl,.refl s⟩,
     fun u=>SeqAt.notIn_list_reads ub aM (by simpa[PyData.canLay0]using eL) cs hu ⟨_,S,U,rfl,.refl,r,rfl,.refl s⟩⟩
   ·have ub:Reads s.heap (.ref l) (.tuple ds) gY:=.tuple V rfl rfl (by simpa using r2)
    exact⟨fun u=>SeqAt.in_tuple_reads ub aM (by simpa[PyData.canLay0]using eL) cs hu ⟨_,S,U,rfl,.refl,r,rfl,.refl s⟩,
     fun u=>SeqAt.notIn_tuple_reads ub aM (by simpa[PyData.canLay0]using eL) cs hu ⟨_,S,U,rfl,.refl,r,rfl,.refl s⟩⟩
theorem JB(x:Str)(c:Nat):(!(Builtin.Str.occurrences x ⟨#[c]⟩ 0 x.length 1).isEmpty)=x.cps.toList.contains c:=by
 rw[StrLaws.found_one];simp
theorem wD{f:Int->Int->Bool}{o:CmpOp}{a b:H}(r:ao K.hb s.heap S U)(aA:am s.heap U a x)(br:am s.heap U b y)
  (aJ:∀i j t aa (Q:Value->Shared->Prop) (E:Value->Shared->Prop),Q (.bool (f i j)) s->wpAny (model K.prog K.w) A (compareOp o (.int i t) (.int j aa)) Q E s):av K e9 A (compareOp o x y) (t3 f a b S) s U:=by
 intro hc
 cases a with
 | int i =>
  cases b with
  | int j=>refine aF aA.intE fun u ae=>?_;refine ae▸?_;refine aF br.intE fun u ae=>?_;refine ae▸?_;exact aJ i j _ _ _ _ ⟨_,S,U,rfl,.refl,r,rfl,.refl s⟩
  | _=>exact absurd rfl hc
 | _=>exact absurd rfl hc
theorem Iz{f:Bool->Bool}{o:CmpOp}{a b:H}(r:ao K.hb s.heap S U)(aA:am s.heap U a x)(br:am s.heap U b y)
  (kB:∀(Q:Value->Shared->Prop) (E:Value->Shared->Prop),Q (.bool (f true)) s->wpAny (model K.prog K.w) A (compareOp o .none .none) Q E s)
  (eE:∀(x:Value) (Q:Value->Shared->Prop) (E:Value->Shared->Prop),x≠.none->Q (.bool (f false)) s->wpAny (model K.prog K.w) A (compareOp o x .none) Q E s)
  (qO:∀(p q:Bool) (Q:Value->Shared->Prop) (E:Value->Shared->Prop),Q (.bool (f (decide (p=q)))) s->wpAny (model K.prog K.w) A (compareOp o (.bool p) (.bool q)) Q E s):av K e9 A (compareOp o x y) (Ar f a b S) s U:=by
 intro hc
 cases b with
 | none =>
  refine br.noneE▸?_;show wpAny _ _ _ (cy K e9 (.ok (f (jj a)) S) s U) _ _;by_cases hn:a=.none
  ·subst hn;refine aA.noneE<&>?_;exact kB _ _ ⟨_,S,U,rfl,.refl,r,rfl,.refl s⟩
  ·have:jj a=false:=by cases a <;> first | rfl | exact absurd rfl hn
   exact this<&>(eE _ _ _ (aA.ne_none hn) ⟨_,S,U,rfl,.refl,r,rfl,.refl s⟩)
 | bool q =>
  cases a with
  | bool p=>refine aA.boolE▸?_;refine br.boolE▸?_;exact qO _ _ _ _ ⟨_,S,U,rfl,.refl,r,rfl,.refl s⟩
  | _=>exact absurd rfl hc
 | _=>exact absurd rfl hc
theorem RQ{a:H}:fH a (.ref i) S=match S[i]? with
   | some (.lst Y)=>jM S a Y
   | some (.ds Z)=>(match a with
    | .str k=>some (aD k Z).isSome
    | _=>none)
   | some (.dp Z)=>(fy a).map fun k=>(aD k Z).isSome
   | _=>none:=rfl
theorem RP{P:H->H->Option Bool->Prop}(h0:∀a b,P a b none)(J:∀a Y,P a (.tup Y) (jM S a Y))(L:∀a Y,P a (.fl Y) (jM S a Y))(au:∀a i Y,S[i]?=some (.lst Y)->P a (.ref i) (jM S a Y))(aQ:∀c z,P (.str ⟨#[c]⟩) (.str z) (some (z.cps.toList.contains c)))
  (dk:∀k i Z,S[i]?=some (.ds Z)->P (.str k) (.ref i) (some (aD k Z).isSome)) (g6:∀a i Z k,S[i]?=some (.dp Z)->fy a=some k->P a (.ref i) (some (aD k Z).isSome))
  : ∀a b,P a b (fH a b S):=by
 intro a b
 cases b with
 | tup Y=>exact J a Y
 | fl Y=>exact L a Y
 | str z =>
  cases a with
  | str w =>
   unfold fH;dsimp only
   cases ta:w.cps.toList with
   | nil=>exact h0 _ _
   | cons c bB =>
    cases bB with
    | cons _ _=>exact h0 _ _
    | nil =>
     obtain rfl:w=⟨#[c]⟩:=by cases w;simp at ta;simp[<- ta]
     exact aQ c z
  | _=>exact h0 _ _
 | ref i =>
  rw[RQ]
  cases hs:S[i]? with
  | none=>exact h0 _ _
  | some m =>
   cases m with
   | lst Y=>exact au a i Y hs
   | ds Z =>
    cases a with
    | str k=>exact dk k i Z hs
    | _=>exact h0 _ _
   | dp Z =>
    dsimp only
    cases hk:fy a with
    | none=>exact h0 _ _
    | some k=>exact g6 a i Z k hs hk
   | _=>exact h0 _ _
 | _=>exact h0 _ _
theorem Iy{a b:H}(hK:K.Ok)(hA:eJ A)(r:ao K.hb s.heap S U)(aA:am s.heap U a x)(br:am s.heap U b y):av K e9 A (compareOp .In x y) (aj.ofOpt (fH a b S) S) s U/\av K e9 A (compareOp .NotIn x y) (aj.ofOpt ((fH a b S).map (!·)) S) s U:=by
 refine RP (P:=fun a b o=>am s.heap U a x->am s.heap U b y->av K e9 A (compareOp .In x y) (aj.ofOpt o S) s U/\av K e9 A (compareOp .NotIn x y) (aj.ofOpt (o.map (!·)) S) s U) (fun u u u u=>⟨fun hc=>absurd rfl hc,fun hc=>absurd rfl hc⟩) (fun a Y aA br=>?_) (fun a Y aA br=>?_) (fun a i Y hs aA br=>?_) (fun c z aA br=>?_)
  (fun k i Z hs aA br=>?_) (fun a i Z k hs hk aA br=>?_)
  a b aA br
 ·obtain⟨l,items,n,rfl,V,_,vs⟩:=br.tupE;exact AG (.inr rfl) hA r aA V vs
 ·obtain⟨l,items,n,rfl,V,_,vs⟩:=br.flE;exact AG (.inl rfl) hA r aA V vs
 ·refine ay br.refE fun l ae eb=>?_;refine ae▸?_;refine cG (r.obj i _ l hs eb) fun items n V vs=>?_;exact AG (.inl rfl) hA r aA V vs
 ·refine ay br.strE fun u ae u=>ae▸(ay aA.strE fun u ae u=>?_);subst ae;exact⟨fun u=>PyProof.Rows.in_str (by rw[JB];exact⟨_,S,U,rfl,.refl,r,rfl,.refl s⟩),fun u=>PyProof.Rows.notIn_str (by rw[JB];exact⟨_,S,U,rfl,.refl,r,rfl,.refl s⟩)⟩
 ·refine ay br.refE fun l ae eb=>?_;obtain rfl:=ae;refine ay aA.strE fun u ae u=>?_;exact ae▸(Rt hK r hs eb)
 ·refine ay br.refE fun l ae eb=>?_;exact ae▸(Rs hK hA r hs eb hk aA)
theorem ra{o:iY}{a b:H}(hK:K.Ok)(hA:eJ A)(r:ao K.hb s.heap S U)(aA:am s.heap U a x)(br:am s.heap U b y) :
  av K e9 A (compareOp (h2 o) x y) (d2 o a b S) s U:=by
 cases o with
 | eq=>exact Nk hA r aA br
 | ne=>exact Nl hA r aA br
 | lt=>exact wD r aA br fun i j t aa Q E h=>P.lt_int h
 | le=>exact wD r aA br fun i j t aa Q E h=>P.le_int h
 | gt=>exact wD r aA br fun i j t aa Q E h=>P.gt_int h
 | ge=>exact wD r aA br fun i j t aa Q E h=>P.ge_int h
 | is=>exact Iz r aA br (fun Q E h=>is_none_none h) (fun x Q E hn h=>is_none_ne hn h) fun p q Q E h=>is_bool h
 | isNot=>exact Iz r aA br (fun Q E h=>isnot_none_none h) (fun x Q E hn h=>isnot_none_ne hn h) fun p q Q E h=>isnot_bool h
 | isin=>exact(Iy hK hA r aA br).1
 | notin=>exact(Iy hK hA r aA br).2
def mQ(ys:List Str)(i:Nat):List Str:=ow (ys.take i)
def qi(a:List Str)(x:Str):List Str:=if a.any (· == x)then a else a++[x]
theorem I6{ys:List Str}{y:Str}(h:ys[i]?=some y):mQ ys (i+1)=qi (mQ ys i) y:=by
 unfold mQ ow;refine List.take_add_one<&>h<&>Option.toList_some<&>List.foldl_append<&>?_;rfl
theorem Vl(a:List Str)(v k:Str):(qi a v).any (· == k)=(a.any (· == k)||decide (k=v)):=by
 unfold qi;by_cases h:a.any (· == v)=true
 ·rw[aC h];by_cases e:k=v
  ·subst e;refine h<&>?_;rfl
  ·simp[e]
 ·rw[aV h,List.any_append];congr 1;by_cases e:k=v
  ·subst e;simp
  ·have:(v == k)=false:=by simpa using fun q:v=k=>e q.symm
   simp[e,this]
theorem JX(a:List Str)(v:Str):(qi a v).length=if a.any (· == v)then a.length else a.length+1:=by
 unfold qi;split <;> simp
theorem NF(l:List Str):(ow l).length<=l.length:=by
 unfold ow
 have:∀(l a:List Str),(l.foldl qi a).length<=a.length+l.length:=by
  intro l
  induction l with
  | nil=>intro a;simp
  | cons x l af =>
   intro a;have J:=af (qi a x);have L:=JX a x;refine i5<&>dD<&>?_
   split at L <;> (grind)
 have h:=this l [];rw[kO,d1]at h;exact h
theorem Tu(ys:List Str)(i:Nat):(mQ ys i).length<=i:=aE (NF _) (gV<&>(Nat.min_le_left _ _))
theorem WS{ys:List Str}(q:StrsAre vs ys):∀(i:Nat) (v:Value),vs[i]?=some v->∃y t,ys[i]?=some y/\v=.str y t:=by
 induction q with
 | nil=>intro i v h;exact nomatch h
 | cons y t r af =>
  intro i v h
  cases i with
  | zero=>exact fF y t rfl (oi h).symm
  | succ i=>exact af i v h
theorem WT{ys:List Str}(q:StrsAre vs ys):vs.length=ys.length:=by
 induction q with
 | nil=>rfl
 | cons _ _ _ af=>exact congrArg (· + 1) af
structure sB(prog:Program)(w:World)(O:Addr)(items:Array Value)(gd:Nat->Heap->Prop):Prop where
 keep:∀i h h',gd i h->(∀b o,b<=O->h.get? b=some o->h'.get? b=some o)->gd i h'
 add:∀(A:Around) (i:Nat) (v:Value) (s:Shared) (Q:Bool->Shared->Prop) (E:Value->Shared->Prop),A.units<cLine->items[i]?=some v->gd i s.heap->(∀h' tk r,Heap.SameBut O s.heap h'->s.toks<=tk->gd (i+1) h'->Q r { s with heap:=h',toks:=tk })->wpAny (model prog w) A (setAdd O v) Q E s
section
variable {prog:Program}{w:World}{ao:Result->Shared->Prop}{fp iw:List Addr}{G:Array GenState->Array GenState->Prop}{items:Array Value}{St:Nat->Shared->Prop}
theorem Kg(W:WalksS prog w A.in1 I fp iw G items.size (fun i v=>items[i]?=some v) St)(O:Addr)(vF:O∉fp)(hw:∀b∈iw,O<b)(hu:A.in1.units<cLine)(m7:sB prog w O items gd) :
  ∀(k i:Nat) (s:Shared),items.size-i=k->i<=items.size->St i s->gd i s.heap ->
   (∀s',Moved (O::iw) G s s'->gd items.size s'.heap->ao (.ok (.ret .none)) s') ->
   codeAny (model prog w) A (.builtin "set.update.loop" ⟨[.ref O,.ref I],[]⟩) ao s:=by
 have uh:∀{s s':Shared} {i:Nat},Moved iw G s s'->gd i s.heap->gd i s'.heap:=fun hm iO =>
  m7.keep _ _ _ iO fun b o hb e=>hm.heap b o (fun q=>absurd hb (Nat.not_le_of_lt (hw b q))) e
 intro k
 induction k with
 | zero =>
  intro i s hk hi lP d7 pF;obtain rfl:i=items.size:=Nat.le_antisymm hi (Nat.le_of_sub_eq_zero hk);refine codeAny_builtin F.entry_set_update_loop (Around.under_plainId F.plain_set_update_loop _<&>?_);show wpAny _ A.in1 (pyNext (.ref I) >>= _) _ _ s;exact aK (W.done s _ _ lP fun s' hm=>bh (pF s' (hm.mono ((fun b hb=>bx _ hb):∀b∈iw,b∈O::iw)) (uh hm d7)))
 | succ k af =>
  intro i s hk hi lP d7 pF
  have fx:i<items.size:=by grind
  refine codeAny_builtin F.entry_set_update_loop ?_;rw[Around.under_plainId F.plain_set_update_loop _];show wpAny _ A.in1 (pyNext (.ref I) >>= _) _ _ s;refine aK (W.item i s _ _ fx lP fun v s' kX z7 hm=>aK (fQ (m7.add _ i v s' _ _ hu kX (uh hm d7) fun h' tk bB mI HY iO=>bh ⟨plainId_quiet F.plain_set_update_loop _,af (i+1) _ (by grind) fx (W.frame _ s' _ _ z7 HY fun b hb o e=>?_) iO fun kr zS zA=>?_⟩)))
  ·exact(mI.2 b (fun h:b=O=>vF (h▸hb)) ..).trans e
  ·exact pF kr (Moved.trans W.gtrans ((hm.mono ((fun b hb=>bx _ hb):∀b∈iw,b∈O::iw)).then_heap HY fun b o hb e=>((mI.2 b (fun h:b=O=>hb (h▸be)) ..).trans e)) zS) zA
end
theorem W4:isSubtype (.type "tuple") (.type "set")=pure false:=by rw[isSubtype_type];kernel_rfl
theorem W3:isSubtype (.type "tuple") (.type "frozenset")=pure false:=by rw[isSubtype_type];kernel_rfl
section
variable {prog:Program}{w:World}
set_option maxHeartbeats 1600000 in
theorem V7{l:Addr}{T:String}{items:Array Value}(aW:A.handled=none)(hu:A.units+5<cLine)(dP:T = "list" \/ T = "tuple")
  (ho:s.heap.get? l=some { cls:=.type T,data:=.seq items n }) (m7:sB prog w s.heap.objs.size items gd) (iO:gd 0 (s.heap.push { cls:=.type "set",dict:=none,data:=.set #[] 0 (.fresh 0 0 led) }))
  (h:∀(h':Heap) (tk:Nat),gd items.size h'->(∀b o,b<s.heap.objs.size->s.heap.get? b=some o->h'.get? b=some o)->Q .none { s with heap:=h',toks:=tk }) :
  codeAny (model prog w) A (.call (.builtin "set.__init__") ⟨[.ref s.heap.objs.size,.ref l],[]⟩) (wants Q E) { s with heap:=s.heap.push { cls:=.type "set",dict:=none,data:=.set #[] 0 (.fresh 0 0 led) } }:=by
 have d7:(s.heap.push { cls:=.type "set",dict:=none,data:=.set #[] 0 (.fresh 0 0 led) }).get? s.heap.objs.size=some { cls:=.type "set",dict:=none,data:=.set #[] 0 (.fresh 0 0 led) }:=ew _ rfl;have fz:∀b o,s.heap.get? b=some o->(s.heap.push { cls:=.type "set",dict:=none,data:=.set #[] 0 (.fresh 0 0 led) }).get? b=some o:=fun b o e=>cI _ e;have a3:(s.heap.push { cls:=.type "set",dict:=none,data:=.set #[] 0 (.fresh 0 0 led) }).objs.size=s.heap.objs.size+1:=Heap.size_push _ _;generalize s.heap.push { cls:=.type "set",dict:=none,data:=.set #[] 0 (.fresh 0 0 led) }=aJ at d7 fz a3 iO ⊢;have Qf:Shared.TypeIs { s with heap:=aJ } (.ref s.heap.objs.size) "set" := ⟨_,d7,rfl⟩;have zO:l<s.heap.objs.size:=eo ho;have pO:aJ.get? l=some { cls:=.type T,data:=.seq items n }:=fz _ _ ho
 have vF:s.heap.objs.size∉[aJ.objs.size,l]:=by
  rw[a3];simp only[bY,dM,or_false,not_or];exact⟨eZ (ic _),du zO⟩
 have hw:∀b∈[aJ.objs.size],s.heap.objs.size<b:=fun b hb=>by rw[di.mp hb,a3];exact ic _
 have fin:∀(s':Shared) (c:Obj),Moved [s.heap.objs.size,aJ.objs.size] (fun a b=>b=a) { s with heap:=aJ.push c } s'->gd items.size s'.heap->Q .none s':=by
  intro s' c hm nw;obtain⟨h',eA,cZ,ku,r5⟩:=s';have yl:eA=s.gens:=hm.gens;have yj:cZ=s.drawn:=hm.drawn;have fS:r5=s.os:=hm.os;subst yl;subst yj;subst fS;refine h h' ku nw fun b o hb e=>hm.heap b o (fun q=>?_) (cI _ (fz b o e))
  rcases bY.mp q with q | q
  ·exact absurd q (eZ hb)
  ·exact absurd hb (e0.mpr (b4 (hw b q)))
 refine codeAny_call_builtin F.called_set.init.plain F.entry_set_init (check_set_init_1 Qf (bZ dP (fun hl=>?_) (fun hr=>?_)))
 ·subst hl;have Ra:=F.sub_list_set;have Q9:=F.sub_list_frozenset
  have cQ:(Value.type "list" == Value.type "dict")=false:=⋯
  have kk:aJ.IsList l items:=⟨_,pO,rfl,n,rfl⟩;unfold Builtin.«set.__init__» noKeywords Builtin.Frozenset.updateFrom;generalize zy:pyIter=Lo
  wp_walk
  subst zy;refine wpAny_pyIter_list kk (aK (wpAny_runValue ?_));exact Kg ((Walks.list ((by simp[aW]):A.in1.in1.handled=none) _ l ((by rw[a3];exact eZ (Nat.lt_succ_of_lt zO)):l≠aJ.objs.size) items).toS) s.heap.objs.size vF hw (by dsimp only;omega) m7 (items.size-0) 0 _ rfl (ep _) ⟨⟨_,ew _ rfl,rfl,rfl⟩,kk.push _⟩ (((fun c=>m7.keep _ _ _ iO fun b o u e=>cI _ e):∀c:Obj,gd 0 (aJ.push c)) _) fun s' hm nw=>bh (bh (fin s' _ hm nw))
 ·subst hr;have Ra:=W4;have Q9:=W3
  have cQ:(Value.type "tuple" == Value.type "dict")=false:=⋯
  have kk:aJ.IsTuple l items:=⟨_,pO,rfl,n,rfl⟩;unfold Builtin.«set.__init__» noKeywords Builtin.Frozenset.updateFrom;generalize zy:pyIter=Lo
  wp_walk
  subst zy;refine wpAny_pyIter_tuple kk (aK (wpAny_runValue ?_));exact Kg ((Walks.tuple ((by simp[aW]):A.in1.in1.handled=none) _ l ((by rw[a3];exact eZ (Nat.lt_succ_of_lt zO)):l≠aJ.objs.size) items).toS) s.heap.objs.size vF hw (by dsimp only;omega) m7 (items.size-0) 0 _ rfl (ep _) ⟨⟨_,ew _ rfl,rfl,rfl⟩,⟨_,cI _ pO,rfl,n,rfl⟩⟩ (((fun c=>m7.keep _ _ _ iO fun b o u e=>cI _ e):∀c:Obj,gd 0 (aJ.push c)) _) fun s' hm nw=>bh (bh (fin s' _ hm nw))
set_option maxRecDepth 100000 in
set_option maxHeartbeats 3200000 in
theorem Dp{l:Addr}{T:String}{items:Array Value}(aW:A.handled=none)(hu:A.units+10<cLine)(dP:T = "list" \/ T = "tuple")
  (ho:s.heap.get? l=some { cls:=.type T,data:=.seq items n }) (m7:sB prog w s.heap.objs.size items gd) (iO:∀led,gd 0 (s.heap.push { cls:=.type "set",dict:=none,data:=.set #[] 0 (.fresh 0 0 led) }))
  (h:∀(h':Heap) (tk:Nat),gd items.size h'->(∀b o,b<s.heap.objs.size->s.heap.get? b=some o->h'.get? b=some o)->Q (.ref s.heap.objs.size) { s with heap:=h',toks:=tk }) :
  wpAny (model prog w) A (call (.type "set") [.ref l]) Q E s:=by
 refine eM F.called_set.mro fun c tl Ze=>?_;have Zc:=F.called_set.made;have Rb:=F.called_set.sub;refine wpAny_call (codeAny_of_tree (bh ⟨Code.quiet_builtin _ (by decide +kernel),codeAny_builtin F.entry_type_call ?_⟩));refine Around.under_plain (weight_type_call_type "set" [.ref l] []) rfl<&>?_;have J:=F.called_set.notType;have L:=F.called_set.canCreate;have Y7:=F.typeCall_set_1 (.ref l)
 repeat (any_goals (first | assumption | wp_step))
 refine codeAny_mono (code_set_new_1 (.ref l) (E:=E) (Q₁:=fun obj s₁=>∃led:Bool,obj=.ref s.heap.objs.size/\s₁={ s with heap:=s.heap.push { cls:=.type "set",dict:=none,data:=.set #[] 0 (.fresh 0 0 led) } }) fun led=>⟨led,rfl,rfl⟩) fun r s₁ hr=>?_
 cases r with
 | error e=>exact hr
 | ok fl =>
  cases fl with
  | ret obj =>
   refine ay hr fun led ae bB=>?_;subst ae;subst bB;have d7:(s.heap.push { cls:=.type "set",dict:=none,data:=.set #[] 0 (.fresh 0 0 led) }).get? s.heap.objs.size=some { cls:=.type "set",dict:=none,data:=.set #[] 0 (.fresh 0 0 led) }:=ew _ rfl;have Y6:Shared.TypeIs { s with heap:=s.heap.push { cls:=.type "set",dict:=none,data:=.set #[] 0 (.fresh 0 0 led) } } (.ref s.heap.objs.size) "set" := ⟨_,d7,rfl⟩;have Zb:=F.called_set.init.lookup;have oH:=F.called_set.init.bind (.ref s.heap.objs.size)
   repeat (any_goals (first | assumption | wp_step))
   refine codeAny_mono (V7 (E:=E) (Q:=fun r bi=>r=.none/\∃h' tk,bi={ s with heap:=h',toks:=tk } ∧
     gd items.size h'/\(∀b o,b<s.heap.objs.size->s.heap.get? b=some o->h'.get? b=some o)) (by simp[aW]) (by dsimp only;omega) dP ho m7 (iO led) fun h' tk nw hk=>⟨rfl,h',tk,rfl,nw,hk⟩) fun hR bi z3=>?_
   cases hR with
   | error e=>exact z3
   | ok Pg =>
    cases Pg with
    | ret r =>
     obtain⟨rfl,h',tk,rfl,nw,tg⟩:=z3
     repeat (any_goals (first | assumption | wp_step))
     exact h _ _ nw tg
    | _=>exact z3.elim
  | _=>exact hr.elim
theorem WN{O:Addr}{items:Array Value}{ys:List Str}(hi:StrsAre items.toList ys)(hb:items.size+1<scanBound):sB prog w O items (fun i h=>h.SetOf (strKind prog w) O (fun z=>(mQ ys i).any (· == z)) (mQ ys i).length) where
 keep:=fun i h h' d7 hk=>by
  exact lH d7 fun o Z c0 t ho rest=>⟨o,Z,c0,t,hk O _ (bJ _) ho,rest⟩
 add:=fun A i v s Q E u hv d7 q=>by
  refine cG (WS hi i v ((kb).symm▸hv)) fun y t aG ae=>?_;subst ae;have fx:i<items.size:=(Array.getElem?_eq_some_iff.mp hv).1;unfold setAdd;refine fQ (aK ((strKind prog w).pyHash (strKind_is _ _ _ _) ?_));refine wpAny_setAddHashed_of (strKind_is _ _ _ _) rfl d7 (by have:=Tu ys i;(grind)) fun h' mI zB=>q h' _ _ mI (Nat.le_succ _) ?_;exact SetOf_congr zB (fun z=>by rw[I6 aG,Vl]) (by rw[I6 aG,JX])
end
section
open PySem.SetTable
def dC(t:SetTable):Nat->Probe->Probe
 | 0,p=>p
 | n+1,p=>dC t n (t.advance p)
theorem CL{t:SetTable}:∀(a b:Nat) (p:Probe),dC t (a+b) p=dC t b (dC t a p):=by
 intro a
 induction a with
 | zero=>intro b p;refine d1<&>?_;rfl
 | succ a af=>intro b p;refine Nat.succ_add<&>?_;exact af b _
def ug(mask i dG:Nat):Probe:=⟨i,runEnd mask i-i,i,dG,none⟩
def jK(mask:Nat):Nat->Nat->Nat->Nat×Nat
 | 0,i,dG=>(i,dG)
 | k+1,i,dG=>jK mask k (leap mask i dG).1 (leap mask i dG).2
section
variable {t:SetTable}
theorem VP{dG:Nat}:∀(q j:Nat),dC t (q+1) ⟨j,q,i,dG,none⟩=ug t.mask (leap t.mask i dG).1 (leap t.mask i dG).2:=by
 intro q
 induction q with
 | zero=>intro j;rfl
 | succ q af=>intro j;exact af (j+1)
theorem VS:∀(k i dG:Nat),∃N,N<=10*k/\dC t N (ug t.mask i dG)=ug t.mask (jK t.mask k i dG).1 (jK t.mask k i dG).2:=by
 intro k
 induction k with
 | zero=>intro i dG;exact aI 0 (bJ _) rfl
 | succ k af =>
  intro i dG;refine ay (af (leap t.mask i dG).1 (leap t.mask i dG).2) fun N ax e=>(aI (runEnd t.mask i-i+1+N) ?_ ?_)
  ·rw[Nat.mul_succ,Nat.add_comm];refine Nat.add_le_add ax (Nat.succ_le_succ ?_);unfold runEnd
   split
   ·rw[ka];exact bJ _
   ·rw[Nat.sub_self];exact ep _
  ·rw[CL,show dC t (runEnd t.mask i-i+1) (ug t.mask i dG)=_ from VP _ _];exact e
end
theorem I0:∀(k i dG:Nat),dG<32 ^ k->(jK mask k i dG).2=0:=by
 intro k
 induction k with
 | zero=>intro i dG h;exact Nat.lt_one_iff.mp h
 | succ k af=>intro i dG h;exact af _ _ (Nat.div_lt_of_lt_mul (by refine Nat.mul_comm<&>?_;exact h))
theorem IZ:∀(k i dG:Nat),i<mask+1->(jK mask k i dG).1<mask+1:=by
 intro k
 induction k with
 | zero=>intro i dG h;exact h
 | succ k af=>intro i dG _;exact af _ _ (Nat.mod_lt _ (ft _))
theorem tQ:∀(a b i dG:Nat),jK mask (a+b) i dG=jK mask b (jK mask a i dG).1 (jK mask a i dG).2:=by
 intro a
 induction a with
 | zero=>intro b i dG;refine d1<&>?_;rfl
 | succ a af=>intro b i dG;refine Nat.succ_add<&>?_;exact af b _ _
def orb(m:Nat):Nat->Nat->List Nat
 | 0,_=>[]
 | n+1,i=>i::orb m n ((i*5+1+0)%m)
theorem JE:∀{n i:Nat},j∈orb (mask+1) n i->∃s,s<n/\jK mask s i 0=(j,0):=by
 intro n
 induction n with
 | zero=>intro i h;exact absurd h dM
 | succ n af =>
  intro i h
  rcases bY.mp h with rfl | h
  ·exact aI 0 (ft _) rfl
  ·exact ay (af h) fun s hs e=>(aI (s+1) (Nat.succ_lt_succ hs) e)
inductive gC:Nat->Prop
 | a:gC 7
 | b:gC 31
 | c:gC 127
 | d:gC 511
theorem gC.orb(h:gC mask):(∀j,j<mask+1->j∈orb (mask+1) (mask+1) 0)/\jK mask (mask+1) 0 0=(0,0):=by
 have all:∀m:Nat,((List.range m).all fun j=>(Mine.orb m m 0).contains j)=true->∀j,j<m->j∈Mine.orb m m 0:=fun m h j aR=>List.contains_iff_mem.mp (hN.mp h j (List.mem_range.mpr aR));cases h <;> exact⟨all _ (by decide +kernel),by decide +kernel⟩
theorem gC.all{c:Nat}(h:gC mask)(hc:c<mask+1)(aR:j<mask+1):∃s,s<mask+1/\jK mask s c 0=(j,0):=by
 refine aN h.orb fun J L=>ay (JE (J c hc)) fun a ha bP=>ay (JE (J j aR)) fun b hb vd=>?_
 rcases Nat.le_total a b with q | q
 ·refine aF (Nat.exists_eq_add_of_le q) fun d ae=>?_;subst ae;rw[tQ,bP]at vd;exact aI d (dW (kN _ _) hb) vd
 ·refine bZ (Nat.eq_or_lt_of_le q) (fun q=>?_) fun q=>?_
  ·subst q;exact aI 0 (ft _) (bP.symm.trans vd▸rfl)
  refine aF (Nat.exists_eq_add_of_le (b4 ha)) fun d e=>(aI (d+b) ?_ ?_)
  ·refine e<&>Nat.add_comm<&>?_;exact Nat.add_lt_add_right q d
  ·have:jK mask (a+(d+b)) 0 0=(j,0):=by refine iJ<$>e<$>tQ<&>L<&>?_;exact vd
   rw[tQ,bP]at this;exact this
theorem Yl{t:SetTable}{h:Int}(z:gC t.mask)(aR:j<t.mask+1):∃N,N<=10*(t.mask+14)/\(dC t N (t.probeStart h)).j=j:=by
 refine ay (z.all (IZ 13 (bits h%(t.mask+1)) (bits h) (Nat.mod_lt _ (ft _))) aR) fun s hs e=>ay (VS (t:=t) (13+s) (bits h%(t.mask+1)) (bits h)) fun N ax ah=>(aI N (aE ax (nh 10 (by omega))) ?_);rw[tQ,I0 13 _ _ ((de (Int.toNat_lt' ⋯ |>.mpr (gj _ ⋯)) (by decide:(2 ^ 64:Nat)<=32 ^ 13)):bits h<32 ^ 13),e]at ah;rw[show t.probeStart h=ug t.mask (bits h%(t.mask+1)) (bits h)from rfl,ah];rfl
theorem zE:has #[] j=false:=rfl
theorem Pt{t:SetTable}(hd:t.dummies=#[])(hn:t.place.size<=t.mask):∃j,j<t.mask+1/\t.slot j=.empty:=by
 refine Classical.byContradiction fun no=>?_
 have sub:∀j∈List.range (t.mask+1),j∈t.place.toList:=fun j aR=>by
  refine Classical.byContradiction fun q=>no (aI j (List.mem_range.mp aR) ?_);unfold slot;rw[aV,hd,zE,aV ⋯];intro e;exact q (Array.mem_toList_iff.mpr (Array.mem_of_getElem? (eq_of_beq e)))
 have:=List.Nodup.length_le_of_subset List.nodup_range sub;rw[List.length_range,fP]at this;exact Nat.not_succ_le_self _ (aE this hn)
theorem Wo{t:SetTable}(hd:t.dummies=#[]):t.slot j≠.dummy:=by
 unfold slot;refine hd<&>zE<&>?_;by_cases q:(t.place[below t.place j]? == some j)=true
 ·rw[aC q];exact fun h=>nomatch h
 ·rw[aV q,aV ⋯];exact fun h=>nomatch h
theorem CM{t:SetTable}:∀(N:Nat) (p:Probe),(dC t N p).dummy=p.dummy:=by
 intro N
 induction N with
 | zero=>intro p;rfl
 | succ N af =>
  intro p;apply(af _).trans;unfold advance
  split <;> rfl
theorem Vd{t:SetTable}{f:Nat->Int}{h:Int}{p:Probe}(hd:t.dummies=#[])(oS:p.dummy=none):∀(r k eH:Nat),t.slot (dC t (k+r) p).j=.empty->r<eH ->
  (∃j,probe.go t f h eH (dC t k p)=some (.empty j none))\/∃j i q,q<r/\probe.go t f h eH (dC t k p)=some (.candidate j i (dC t (k+q+1) p))/\t.slot j=.live i:=by
 intro r
 induction r with
 | zero =>
  intro k eH he a7;refine aF (Nat.exists_eq_add_of_lt a7) fun n ae=>ae▸(.inl ⟨(dC t k p).j,?_⟩);rw[Nat.add_zero]at he;rw[d1]
  show(match t.slot (dC t k p).j with
   | .empty=>some (Met.empty (dC t k p).j (dC t k p).dummy)
   | .dummy=>_
   | .live i=>_)=_
  exact he<&>CM<&>oS<&>rfl
 | succ r af =>
  intro k eH he a7;refine aF (Nat.exists_eq_add_of_lt a7) fun n ae=>?_;subst ae;have tX:dC t (k+1) p=t.advance (dC t k p):=CL k 1 p
  show(∃j,(match t.slot (dC t k p).j with
   | .empty=>some (Met.empty (dC t k p).j (dC t k p).dummy)
   | .dummy=>probe.go t f h (r+1+n) (t.advance { dC t k p with dummy:=some (dC t k p).j })
   | .live i=>if f i == h then some (.candidate (dC t k p).j i (t.advance (dC t k p)))else probe.go t f h (r+1+n) (t.advance (dC t k p)))=_)\/∃j i q,q<r+1/\(match t.slot (dC t k p).j with
   | .empty=>some (Met.empty (dC t k p).j (dC t k p).dummy)
   | .dummy=>probe.go t f h (r+1+n) (t.advance { dC t k p with dummy:=some (dC t k p).j })
   | .live i=>if f i == h then some (.candidate (dC t k p).j i (t.advance (dC t k p)))else probe.go t f h (r+1+n) (t.advance (dC t k p)))=_/\_
  cases hs:t.slot (dC t k p).j with
  | empty=>exact .inl ⟨_,by rw[CM,oS]⟩
  | dummy=>exact absurd hs (Wo hd)
  | live i =>
   dsimp only;by_cases q:(f i == h)=true
   ·rw[aC q];exact .inr (mC _ i 0 (ft _) (by rw[<- tX]) hs)
   ·rw[aV q];refine tX▸?_;refine bZ (af (k+1) (r+1+n) (by rw[i4];exact he) (de (ic r) (el _ _))) (fun h=>?_) (fun hr=>kR hr fun j i q J L au=>?_)
    ·exact .inl h
    ·exact .inr (mC j i (q+1) (Nat.succ_lt_succ J) (by rw[L,show k+1+q+1=k+(q+1)+1 by rw[i4 k 1 q];rfl]) au)
theorem O9{k:Nat}:∀{l:List (Option Nat)} {j:Nat},l[j]?=some none->((l.set j (some k)).filterMap id).Perm (k::l.filterMap id):=by
 intro l
 induction l with
 | nil=>intro j h;exact nomatch h
 | cons a l af =>
  intro j h
  cases j with
  | zero=>refine oi h<$>?_;exact List.Perm.refl _
  | succ j =>
   cases a with
   | none=>exact af h
   | some x=>exact((af h).cons x).trans (List.Perm.swap _ _ _)
theorem O8:∀{l:List (Option Nat)},(∀x∈l,x.isNone=false)->(l.filterMap id).length=l.length:=by
 intro l
 induction l with
 | nil=>intro _;rfl
 | cons a l af =>
  intro h
  cases a with
  | none=>exact nomatch h none be
  | some x=>exact congrArg (· + 1) (af fun y aG=>h y (bx _ aG))
section
variable {gx:Array (Option Nat)}
theorem Sr:∀(eH k i dG:Nat),k<eH->(gx.getD (jK mask k i dG).1 (some 0)).isNone=true->∃j,layClean.free mask gx eH i dG=some j/\(gx.getD j (some 0)).isNone=true:=by
 intro eH
 induction eH with
 | zero=>intro k i dG h;exact absurd h (Nat.not_lt_zero _)
 | succ eH af =>
  intro k i dG hk hn
  show ∃j,(match(List.range (runEnd mask i+1-i)).find? fun k=>(gx.getD (i+k) (some 0)).isNone with
   | some k=>some (i+k)
   | none=>layClean.free mask gx eH (leap mask i dG).1 (leap mask i dG).2)=_/\_
  cases a7:(List.range (runEnd mask i+1-i)).find? fun k=>(gx.getD (i+k) (some 0)).isNone with
  | some q=>exact aI (i+q) rfl (List.find?_some (p:=fun k=>(gx.getD (i+k) (some 0)).isNone) a7)
  | none =>
   cases k with
   | zero =>
    refine absurd hn (List.find?_eq_none.mp a7 0 (List.mem_range.mpr ?_));unfold runEnd
    split
    ·rw[iJ,ka];decide
    ·rw[ka];decide
   | succ k=>exact af k _ _ (Nat.lt_of_succ_lt_succ hk) hn
structure sC(mask:Nat)(gx:Array (Option Nat))(k:Nat):Prop where
 z:gx.size=mask+1
 p:(gx.toList.filterMap id).Perm (List.range k)
theorem sC.step{k:Nat}{h:Int}(aq:sC mask gx k)(z:gC mask)(hk:k<=mask):∃j,layClean.free mask gx (turns mask) (bits h%(mask+1)) (bits h)=some j/\sC mask (gx.setIfInBounds j (some k)) (k+1):=by
 obtain⟨j,aR,hn⟩:∃j,j<mask+1/\(gx.getD j (some 0)).isNone=true:=by
  refine Classical.byContradiction fun no=>?_
  have e:=O8 fun x hx=>by
   obtain⟨j,aR,rfl⟩:=List.mem_iff_getElem.mp hx;rw[fP]at aR;exact Bool.eq_false_iff.mpr fun q=>no (aI j (aq.z▸aR) (ey (congrArg _ (dif_pos aR ..)) q))
  rw[aq.p.length_eq,List.length_range,fP,aq.z]at e;exact Nat.not_succ_le_self _ (e▸hk)
 refine ay (z.all (IZ 13 (bits h%(mask+1)) (bits h) (Nat.mod_lt _ (ft _))) aR) fun s hs e=>?_;refine ay (Sr (turns mask) (13+s) (bits h%(mask+1)) (bits h) (by unfold turns;omega) (by rw[tQ,I0 13 _ _ ((de (Int.toNat_lt' ⋯ |>.mpr (gj _ ⋯)) (by decide:(2 ^ 64:Nat)<=32 ^ 13)):bits h<32 ^ 13),e];exact hn)) fun q V ah=>?_;refine⟨q,V,(Array.size_setIfInBounds).trans aq.z,?_⟩
 have hq:q<gx.size:=Classical.byContradiction fun no=>by
  unfold Array.getD at ah;rw[dif_neg no]at ah;exact nomatch ah
 unfold Array.getD at ah;rw[dif_pos hq]at ah;refine Array.toList_setIfInBounds<&>?_;rw[List.range_succ];refine(O9 ?_).trans ((aq.p.cons k).trans (List.perm_append_singleton k _).symm);rw[kb,Array.getElem?_eq_getElem hq];exact congrArg some (oj.mp ah)
theorem Sq(z:gC mask):∀(hs:List Int) (gx:Array (Option Nat)) (k:Nat),sC mask gx k->k+hs.length<=mask+1->∃o,sC mask o (k+hs.length)/\hs.foldl (fun acc h=>acc.bind fun q=>(layClean.free mask q.1 (turns mask) (bits h%(mask+1)) (bits h)).bind fun j=>some (q.1.setIfInBounds j (some q.2),q.2+1)) (some (gx,k))=some (o,k+hs.length):=by
 intro hs
 induction hs with
 | nil=>intro gx k aq _;exact aI gx aq rfl
 | cons h hs af =>
  intro gx k aq hl;rw[dD,<- iJ,i4]at hl;refine ay (aq.step (h:=h) z (lA (de (ic k) (aE (el _ _) hl)))) fun j e j3=>ay (af _ (k+1) j3 hl) fun o uJ bq=>(aI o ?_ ?_)
  ·rw[dD,<- iJ,i4];exact uJ
  ·rw[i5,dD,<- iJ,i4];refine ey (congrArg (fun a=>hs.foldl _ a) ?_) bq;show(layClean.free mask gx (turns mask) (bits h%(mask+1)) (bits h)).bind _=_;refine e<&>?_;rfl
theorem Sg{finger moves:Nat}{plain:Bool}{oG:Array Int}(z:gC mask)(hn:oG.size<=mask) :
  ∃t order,laid mask finger moves led plain oG=some (t,order)/\t.mask=mask/\t.dummies=#[]/\t.place.size=oG.size/\order.toList.Perm (List.range oG.size):=by
 obtain⟨o,aq,e⟩:=Sq z oG.toList (Array.replicate (mask+1) none) 0 ⟨Array.size_replicate,by rw[Array.toList_replicate,List.filterMap_replicate];exact List.Perm.refl _⟩ (by refine d1<&>fP<&>?_;exact Nat.le_succ_of_le hn);rw[d1,fP]at aq e
 have c:layClean mask oG=some o:=by
  show(oG.foldl (fun acc h=>acc.bind fun q=>(layClean.free mask q.1 (turns mask) (bits h%(mask+1)) (bits h)).bind fun j=>some (q.1.setIfInBounds j (some q.2),q.2+1)) (some (Array.replicate (mask+1) none,0))).map (·.1)=_;refine Array.foldl_toList<$>e<&>?_;rfl
 have nJ:o.toList=(List.range (mask+1)).map fun j=>o.getD j none:=List.ext_getElem (a9<&>List.length_range<&>fP<&>aq.z<&>rfl) fun i J L=>by
  rw[List.getElem_map,List.getElem_range];unfold Array.getD;rw[dif_pos (by refine fP<$>?_;exact J)];rfl
 have wC:((List.range (mask+1)).filterMap fun j=>(o.getD j none).map fun k=>(j,k)).map (·.2)=o.toList.filterMap id:=by
  refine List.map_filterMap<&>?_;rw[nJ,List.filterMap_map];refine congrArg (fun f=>(List.range (mask+1)).filterMap f) (funext fun j=>?_);show Option.map _ (Option.map _ (o.getD j none))=o.getD j none;cases o.getD j none <;> rfl
 have q:laid mask finger moves led plain oG=some (⟨mask,(((List.range (mask+1)).filterMap fun j=>(o.getD j none).map fun k=>(j,k)).map (·.1)).toArray,#[],finger,led,moves,plain⟩,(((List.range (mask+1)).filterMap fun j=>(o.getD j none).map fun k=>(j,k)).map (·.2)).toArray):=by
  unfold laid;rw[c];rfl
 refine NY _ _ q rfl rfl ?_ ?_
 ·have:=aq.p.length_eq;rw[<- wC,a9,List.length_range]at this;show(List.toArray _).size=_;rw[eY,a9];exact this
 ·show(List.map _ _).Perm _;rw[wC];exact aq.p
end
theorem Va{t:SetTable}{f:Nat->Int}{h:Int}{k:Nat}{m:Option Met}(hd:t.dummies=#[])(he:t.slot (dC t (k+r) (t.probeStart h)).j=.empty)(hr:r<10*turns t.mask)(e:t.probe f h (dC t k (t.probeStart h))=m) :
  (∃j,m=some (.empty j none))\/∃j i q,q<r/\m=some (.candidate j i (dC t (k+q+1) (t.probeStart h)))/\t.slot j=.live i:=by
 subst e;exact Vd hd rfl r k _ he hr
theorem G9{a:Nat}(h:a*5<m*3):a+1<=m:=Nat.lt_of_mul_lt_mul_right (de h (nh m (by decide:3<=5)))
theorem Aw{a:Nat}(h:a*5<m*3):a<=m:=b4 (G9 h)
theorem KL{N:Nat}(h:N<=10*(m+14)):N<10*(m+15):=dW h (Nat.mul_lt_mul_of_pos_left (ic _) ⋯)
theorem Xh(h:m<=511):10*(m+15)<100000:=dW (nh 10 (Nat.add_le_add_right h 15)) ⋯
theorem Bx{c f:Nat}(h:c<r)(a7:r<f+1):r-(c+1)<f:=de (Nat.sub_lt (dW (ep c) h) (Nat.zero_lt_succ _)) (lA a7)
theorem By{a c:Nat}(h:c<r):a+c+1+(r-(c+1))=a+r:=by rw[iJ a c 1,iJ,Nat.add_sub_of_le h]
section
variable {prog:Program}{w:World}{K:Type}[DecidableEq K]{knd:KeyKind prog w K}
set_option smartUnfolding false in
theorem MP:∀{v:Value} (n:Nat),carriedByValue v=true->ofAClassStatement n v=pure false:=by
 intro v n h
 cases v with
 | ref a=>exact nomatch h
 | _=>cases n <;> rfl
set_option smartUnfolding false in
theorem JA{ks:List K}{a:Addr}{Q:Bool->Shared->Prop}(hk:IsTupleKey knd s.heap ks a)(h:Q false s):wpAny (model prog w) A (ofAClassStatement 8 (.ref a)) Q E s:=by
 refine kS hk fun o items n ho u hd hi=>df (fun u q=>wpAny_typeOf hk.typeIs q) (aK (bh (aK (wpAny_seqItems ho hd ?_))));apply aK;show wpAny _ _ (forIn items _ _) _ _ s;rw[<- Array.forIn_toList];refine wpAny_forIn_list _ (fun rest r s'=>r.1=none/\s'=s/\∀v∈rest,carriedByValue v=true) _ ?_ ?_ _ _ ⟨rfl,rfl,hi.byValue⟩
 ·intro v rest r s' hq;exact d6 hq fun hr ae kY=>ae▸(df (m:=ofAClassStatement 7 v) (fun u q=>MP 7 (kY v be)<&>bh q) (bh ⟨rfl,rfl,fun aa nA=>kY aa (bx _ nA)⟩))
 ·rintro⟨aM,r2⟩ s' ⟨hr,rfl,_⟩
  obtain rfl:aM=none:=hr;exact bh h
theorem Qq:∀{v:Value} (n:Nat),carriedByValue v=true->∃b,hashByValue n v=pure b:=by
 intro v n h
 cases v with
 | ref a=>exact nomatch h
 | _=>cases n <;> exact⟨_,rfl⟩
theorem Qt{ks:List K}{a:Addr}{Q:Bool->Shared->Prop}(hk:IsTupleKey knd s.heap ks a)(h:∀b,Q b s):wpAny (model prog w) A (hashByValue 8 (.ref a)) Q E s:=by
 refine kS hk fun o items n ho u hd hi=>df (fun u q=>wpAny_specialOf hk.typeIs F.slot_tuple_hash.lookup q) (aK (wpAny_seqItems ho hd (aK ?_)));rw[<- Array.forIn_toList];refine wpAny_forIn_list _ (fun rest r s'=>r.1=none/\s'=s/\∀v∈rest,carriedByValue v=true) _ ?_ ?_ _ _ ⟨rfl,rfl,hi.byValue⟩
 ·intro v rest r s' hq;refine d6 hq fun hr ae kY=>ae<&>(aF (Qq 7 (kY v be)) fun b e=>e<&>(aK (bh ?_)))
  cases b with
  | false=>exact bh (bh (h false))
  | true=>exact bh ⟨rfl,rfl,fun aa nA=>kY aa (bx _ nA)⟩
 ·rintro⟨aM,r2⟩ s' ⟨hr,rfl,_⟩
  obtain rfl:aM=none:=hr;exact bh (h true)
theorem V1{ks:List K}{a:Addr}{l:List Value}{Q:Bool->Shared->Prop}(hk:IsTupleKey knd s.heap ks a)(hl:∀v∈l,∃b k,v=.ref b/\IsTupleKey knd s.heap k b)(h:Q false s):wpAny (model prog w) A (searchCouldBeSeen (.ref a) l) Q E s:=by
 refine aK (wpAny_forIn_list _ (fun rest r s'=>r.1=none/\s'=s/\∀v∈rest,∃b k,v=.ref b/\IsTupleKey knd s.heap k b) _ ?_ ?_ _ _ ⟨rfl,rfl,hl⟩)
 ·intro v rest r s' hq;refine d6 hq fun hr ae kY=>?_;refine ae<&>?_;refine cG (kY v be) fun b k ae hb=>ae▸?_;dsimp only
  split
  ·exact bh ⟨rfl,rfl,(fun aa nA=>kY aa (bx _ nA))⟩
  ·exact aK (wpAny_eqIsQuiet_tuple hk (aK (wpAny_eqIsQuiet_tuple hb (aK (JA hk (aK (JA hb (bh ⟨rfl,rfl,(fun aa nA=>kY aa (bx _ nA))⟩))))))))
 ·rintro⟨aM,r2⟩ s' ⟨hr,rfl,_⟩
  obtain rfl:aM=none:=hr;exact bh h
structure uQ(knd:KeyKind prog w K)(h:Heap)(a:Addr)(Z:Array (Int×Value))(t:SetTable)(ks:List (List K)):Prop where
 z:gC t.mask
 d:t.dummies=#[]
 p:t.place.size=Z.size
 f:Z.size*5<t.mask*3
 n:Z.size=ks.length
 e:∀x∈Z.toList,∃b k,x.2=.ref b/\k∈ks/\b<a/\IsTupleKey knd h k b
theorem uQ.fits{a:Addr}{Z:Array (Int×Value)}{t:SetTable}{ks:List (List K)}(O:uQ knd s.heap a Z t ks):t.fits Z.size=true:=by
 have:=O.f;unfold SetTable.fits SetTable.fill;refine O.p<&>?_;refine O.d<&>?_;rw[beq_self_eq_true];exact Bool.true_and<&>(c6 (Aw this))
theorem gC.le(z:gC m):7<=m/\m<=511:=by cases z <;> decide
theorem gC.odd(z:gC m):(m%2 == 0)=false:=by cases z <;> rfl
set_option tactic.hygienic true in
theorem Wn{t:SetTable}(h:t.slot j=.live i):i<t.place.size:=by
 unfold slot at h;dsimp only at h
 split at h
 ·next q =>
  exact Slot.live.inj h<$>((Array.getElem?_eq_some_iff.mp (eq_of_beq q)).1)
 ·split at h <;> exact nomatch h
section
variable {M:Model}{U β:Type}{Q:U->Shared->Prop}
theorem xe{c:Prop}[Decidable c]{x y:Sem U}(h:¬c)(k:wpAny M A y Q E s):wpAny M A (if c then x else y) Q E s:=aV h<&>k
theorem K8{X:Option Met}{m:Met}{x:Met->Sem U}{y:Option Met->Sem U}(e:X=some m)(k:wpAny M A (x m) Q E s):wpAny M A (setSearchFrom.match_12 (fun u=>Sem U) X x y) Q E s:=by subst e;exact k
theorem Yp{X:Option (Int×Value)}{i:Int}{v:Value}{x:Int->Value->Sem U}{y:Option (Int×Value)->Sem U}(e:X=some (i,v))(k:wpAny M A (x i v) Q E s):wpAny M A (setNextDrawn.match_1 (fun u=>Sem U) X x y) Q E s:=by subst e;exact k
theorem Yq{X:Option (Int×Value)}{i:Int}{v:Value}{x:Int->Value->Sem U}{y:Unit->Sem U}(e:X=some (i,v))(k:wpAny M A (x i v) Q E s):wpAny M A (setSearchFrom.match_3 (fun u=>Sem U) X x y) Q E s:=by subst e;exact k
theorem Yn{X:Option Bool}{b:Bool}{x:Bool->Sem U}{y:Option Bool->Sem U}(e:X=some b)(k:wpAny M A (x b) Q E s):wpAny M A (setSearchFrom.match_8 (fun u=>Sem U) X x y) Q E s:=by subst e;exact k
theorem Yo{X:Slot}{x:Nat->Sem U}{y:Slot->Sem U}(e:X=.live i)(k:wpAny M A (x i) Q E s):wpAny M A (setSearchFrom.match_5 (fun u=>Sem U) X x y) Q E s:=by subst e;exact k
theorem Ss{X:Sem Bool}{ld T:Sem U}(Qh:∀iI:Bool->Shared->Prop,iI false s->wpAny M A X iI E s)(dP:wpAny M A T Q E s):wpAny M A (if(!led)=true then X >>= fun b=>if b=true then ld else T else T) Q E s:=by
 cases led with
 | true=>exact dP
 | false=>exact aK (Qh _ dP)
end
theorem M6{a b b2:Addr}{Z:Array (Int×Value)}{t:SetTable}{k k2:List K}{h:Int}{Q:SetFound->Shared->Prop}{eH:Nat}{st:Option Probe}{tX:Probe}{x:Int}(hu:A.units<cLine)(ho:s.heap.get? a=some o)(hd:o.data=.set Z c0 t)(a7:t.fits Z.size=true)(go:t.gaveWay=false)
  (hk:IsTupleKey knd s.heap k b) (iP:IsTupleKey knd s.heap k2 b2) (hn:¬k2=k) (hm:t.probe (fun i=>(Z[i]?.map (·.1)).getD 0) h (st.getD (t.probeStart h))=some (.candidate j i tX)) (hl:t.slot j=.live i) (gi:Z[i]?=some (x,.ref b2))
  (hs:∀iI:Bool->Shared->Prop,iI false s->wpAny (model prog w) A (searchCouldBeSeen (.ref b) ((Z.filter (·.1 == h)).toList.map (·.2))) iI E s) (PQ:wpAny (model prog w) A (setSearchFrom a (.ref b) h true eH (some tX)) Q E s):wpAny (model prog w) A (setSearchFrom a (.ref b) h true (eH+1) st) Q E s:=by
 refine df (fun u q=>wpAny_setState_of ho hd a7 q) (xe (ne_true_of_eq_false go) (K8 hm (Ss hs (Yp gi (df (fun u q=>fQ (wpAny_eqBool_tuple hu iP hk q)) (df (fun u q=>wpAny_setState_of ho hd a7 q) (xe (ne_true_of_eq_false (ed hn)) (Yn (b:=true) ?_ ?_))))))))
 ·unfold sameMemory;rw[beq_self_eq_true];rfl
 exact Yo hl (Yq gi (df (fun u q=>wpAny_isSame_ref_self q) (df (fun u q=>bh q) (xe (ne_true_of_eq_false (ed hn)) PQ))))
theorem V0{a b:Addr}{Z:Array (Int×Value)}{t:SetTable}{ks:List (List K)}{k:List K}{h:Int}{Q:SetFound->Shared->Prop}(hu:A.units<cLine)(ho:s.heap.get? a=some o)(hd:o.data=.set Z c0 t)(O:uQ knd s.heap a Z t ks)(hk:IsTupleKey knd s.heap k b)(hn:k∉ks)(q:∀j,Q (.free j false) s) :
  ∀(eH r c:Nat) (st:Option Probe),r<eH->r<10*turns t.mask->t.slot (dC t (c+r) (t.probeStart h)).j=.empty->st.getD (t.probeStart h)=dC t c (t.probeStart h)->wpAny (model prog w) A (setSearchFrom a (.ref b) h true eH st) Q E s:=by
 intro eH
 induction eH with
 | zero=>intro r c st h;exact absurd h (Nat.not_lt_zero _)
 | succ eH af =>
  intro r c st a7 hr he hs;have eS:=Va (f:=fun i=>(Z[i]?.map (·.1)).getD 0) O.d he hr rfl;rw[<- hs]at eS
  rcases eS with⟨j,e⟩ | ⟨j,i,eL,J,e,hl⟩
  ·exact df (fun u q=>wpAny_setState_of ho hd O.fits q) (xe (ne_true_of_eq_false O.z.odd) (K8 e (bh (q j))))
  ·have hi:i<Z.size:=O.p▸Wn hl;refine ik (O.e Z[i] (Array.getElem_mem_toList hi)) fun b2 k2 ah bH u iP=>M6 hu ho hd O.fits O.z.odd hk iP (fun e=>hn (e▸bH)) e hl ((Array.getElem?_eq_getElem hi).trans (congrArg (fun v=>some (Z[i].1,v)) ah)) (fun iI=>V1 hk fun v hv=>?_) (af (r-(eL+1)) (c+eL+1) _ (Bx J a7) (dW (Nat.sub_le _ _) hr) (By J<&>he) rfl);exact ay (c7.mp hv) fun x hx ae=>ik (O.e x (Array.mem_toList_iff.mpr (Array.mem_filter.mp (Array.mem_toList_iff.mp hx)).1)) fun oq k3 bq u u th=>(fF oq k3 (ae.symm.trans bq) th)
def uS(knd:KeyKind prog w K)(h:Heap)(a:Addr)(ks:List (List K)):Prop:=∃o Z c0 t,h.get? a=some o/\o.ExactSet/\o.data=.set Z c0 t/\uQ knd h a Z t ks
theorem wd{k:List K}{a b:Addr}(hk:IsTupleKey knd h k b)(hb:b<a)(hs:Heap.SameBut a h h'):IsTupleKey knd h' k b:=by
 exact kR hk fun bN items n J L au=>(mC bN items n ((hs.2 b (eZ hb)).trans J) L au)
theorem PU:∀n<128,(7*3<=n*5->(n-1)*5<7*3->n=5)/\(31*3<=n*5->(n-1)*5<31*3->n=19)/\(127*3<=n*5->(n-1)*5<127*3->n=77)/\¬511*3<=n*5:=⋯
theorem PV(z:gC m)(J:m*3<=n*5)(L:(n-1)*5<m*3)(au:n<128):gC (sizeAbove (grown n)-1)/\sizeAbove (grown n)<=512/\n*5<(sizeAbove (grown n)-1)*3:=by
 have g:=PU n au;cases z
 ·exact g.1 J L<&>⟨.b,by decide,by decide⟩
 ·exact g.2.1 J L<$>⟨.c,by decide,by decide⟩
 ·exact g.2.2.1 J L<$>⟨.d,by decide,by decide⟩
 ·exact absurd J g.2.2.2
theorem Bt:∀{n:Nat},n<=512->n<=sizeLine:=fun h=>aE h ⋯
theorem BB{a:Addr}{Z:Array (Int×Value)}{t:SetTable}(d3:Array (Int×Value))(bE:SetTable)(ho:s.heap.get? a=some o)(hd:o.data=.set Z c0 t):(s.heap.update a (Obj.putSet d3 bE)).get? a=some { o with data:=.set d3 (c0+1) bE }:=by
 have:=Heap.get?_update_self (Obj.putSet d3 bE) ho (by refine putSet_of d3 bE hd<&>?_;rfl);rw[putSet_of d3 bE hd]at this;exact this
theorem VB{a:Addr}{Z:Array (Int×Value)}{t:SetTable}{ks:List (List K)}{Q:Unit->Shared->Prop}(ho:s.heap.get? a=some o)(hx:o.ExactSet)(hd:o.data=.set Z c0 t)(a7:t.fits Z.size=true)(z:gC t.mask)(hn:Z.size=ks.length)(J:t.mask*3<=Z.size*5)(L:(Z.size-1)*5<t.mask*3)(au:Z.size<128)
  (he:∀x∈Z.toList,∃b k,x.2=.ref b/\k∈ks/\b<a/\IsTupleKey knd s.heap k b) (q:∀h',Heap.SameBut a s.heap h'->uS knd h' a ks->Q () { s with heap:=h' }):wpAny (model prog w) A (setRelay a (grown Z.size)) Q E s:=by
 refine d6 (PV z J L au) fun g1 g2 g3=>df (fun u q=>wpAny_setState_of ho hd a7 q) ?_;dsimp only;refine aV (e0.mpr (Bt g2))<&>?_;have a3:(Z.map (·.1)).size=Z.size:=Array.size_map;refine NS (Sg (finger:=t.finger) (moves:=t.movedTo (sizeAbove (grown Z.size)-1)) (led:=t.led) (plain:=t.plain) g1 (by rw[a3];exact Aw g3)) fun bE order e m d p pm=>?_;rw[a3]at p pm;refine(show t.relaid (Z.map (·.1)) (grown Z.size)=some (bE,order)from e ..).symm▸?_
 have t8:(order.filterMap (Z[·]?)).toList.Perm Z.toList:=by
  refine Array.toList_filterMap<&>filterMap_getElem?_range Z<$>?_;exact pm.filterMap _
 have hs:(order.filterMap (Z[·]?)).size=Z.size:=fP<$>t8.length_eq<&>fP<&>rfl;apply aK;show wpAny _ _ (if((order.filterMap (Z[·]?)).size != Z.size)=true then _ else _) _ _ _;refine hs<&>?_;rw[aV (by rw[bne_self_eq_false];decide)];apply bh;refine wpAny_storeSet_of ho hd (q _ (Heap.SameBut.update _ _ _) ⟨_,_,_,_,BB _ _ ho hd,hx,rfl,m▸g1,d,p.trans hs.symm,?_,hs.trans hn,fun x hm=>?_⟩) (by refine hs<&>?_;exact Bt (aE (b4 au) ⋯))
 ·refine hs<&>m<&>?_;exact g3
 ·exact ik (he x (t8.mem_iff.mp hm)) fun b k V ah hb bq=>(kh b k V ah hb (wd bq hb (Heap.SameBut.update _ _ _)))
theorem LG{a b:Addr}{ks:List (List K)}{k:List K}{h:Int}{Q:Bool->Shared->Prop}(hu:A.units<cLine)(O:uS knd s.heap a ks)(hk:IsTupleKey knd s.heap k b)(hb:b<a)(hn:k∉ks)(hl:ks.length<127)
  (q:∀h',Heap.SameBut a s.heap h'->uS knd h' a (k::ks)->Q true { s with heap:=h' }):wpAny (model prog w) A (setAddHashed a (.ref b) h) Q E s:=by
 refine yk O fun o Z c0 t ho hx hd O=>fQ (aK (wpAny_setState_of ho hd O.fits ?_));show wpAny _ _ (setSearch a (.ref b) h true >>= _) _ _ _;refine ay (Pt O.d (by rw[O.p];exact Aw O.f)) fun j aR R7=>?_;refine ay (Yl (h:=h) O.z aR) fun N ax e=>aK (V0 hu ho hd O hk hn (fun j=>?_) _ N 0 none (b9 ((KL ax):N<10*turns t.mask) ?_) ((KL ax):N<10*turns t.mask) ?_ rfl)
 case refine_2=>exact Xh O.z.le.2
 case refine_3=>refine d1<&>e<&>?_;exact R7
 apply df (fun u q=>wpAny_setState_of ho hd O.fits q)
 have dn:(t.put j).1.dummies=#[]:=by
  show(if has t.dummies j then _ else _)=_;refine O.d<&>zE<&>?_;rfl
 have A8:(insertAt Z (t.put j).2 (h,.ref b)).toList.Perm ((h,.ref b)::Z.toList):=by
  apply(insertAt_perm _ _ _).trans;refine Array.toList_push<&>?_;exact List.perm_append_singleton _ _
 have sz:(insertAt Z (t.put j).2 (h,.ref b)).size=Z.size+1:=fP<$>A8.length_eq<&>dD<&>fP<&>rfl
 have bk:(t.put j).1.place.size=Z.size+1:=by
  show(insertAt t.place _ j).size=_;rw[<- fP,(insertAt_perm _ _ _).length_eq,fP,Array.size_push,O.p]
 have mk:(t.put j).1.mask=t.mask:=rfl;dsimp only;generalize (t.put j).1=cT at dn bk mk ⊢;generalize insertAt Z (t.put j).2 (h,.ref b)=s0 at A8 sz ⊢
 have last:∀bQ:SetTable,bQ.dummies=#[]->bQ.place.size=Z.size+1->bQ.mask=t.mask->wpAny (model prog w) A (storeSet a s0 bQ >>= fun u=>if(!false&&bQ.tooFull)=true then(do setRelay a (grown (Z.size+1));pure true)else pure true) Q E s:=by
  intro bQ jD p2 bH
  have fl:bQ.fill=Z.size+1:=by unfold SetTable.fill;refine jD<&>p2<&>?_;rfl
  have eb:∀x∈s0.toList,∃b bs,x.2=.ref b/\bs∈k::ks/\b<a/\IsTupleKey knd (s.heap.update a (Obj.putSet s0 bQ)) bs b:=fun x hm=>by
   exact bZ (bY.mp (A8.mem_iff.mp hm)) (fun hl=>(hl▸(kh b k rfl be hb (wd hk hb (Heap.SameBut.update _ _ _))))) (fun hm=>ik (O.e x hm) fun b k V ah hb bq=>(kh b k V (bx _ ah) hb (wd bq hb (Heap.SameBut.update _ _ _))))
  refine aK (wpAny_storeSet_of ho hd ?_ (by refine sz<&>O.n<&>?_;exact Bt (aE hl ⋯)));by_cases w0:bQ.mask*3<=(Z.size+1)*5
  ·refine(show bQ.tooFull=true from c6 (by rw[fl];exact w0) ..).symm▸?_;refine sz▸?_;refine aK (VB (BB _ _ ho hd) hx rfl ?_ (bH▸O.z) ((by rw[sz,O.n];rfl):s0.size=(k::ks).length) (by refine sz<&>?_;exact w0) (by refine sz<&>bH<&>?_;exact O.f) (sz<&>O.n<&>(Nat.succ_lt_succ hl)) eb fun h' hs d7=>bh (q h' ((Heap.SameBut.update _ _ _).trans hs) d7));unfold SetTable.fits;rw[fl,p2,sz,beq_self_eq_true,Bool.true_and,bH];exact c6 (G9 O.f)
  ·refine(show bQ.tooFull=false from ed (by rw[fl];exact w0) ..).symm▸?_;exact bh (q _ (Heap.SameBut.update _ _ _) ⟨_,_,_,_,BB _ _ ho hd,hx,rfl,bH▸O.z,jD,p2.trans sz.symm,by exact sz<&>(Nat.not_le.mp w0),((by rw[sz,O.n];rfl):s0.size=(k::ks).length),eb⟩)
 cases cT.plain with
 | true =>
  refine aK (Qt hk fun v=>?_)
  cases v with
  | true=>exact last cT dn bk mk
  | false=>exact last { cT with plain:=false } dn bk mk
 | false=>exact aK (bh (last cT dn bk mk))
end
end
section
variable {prog:Program}{w:World}{K:Type}[DecidableEq K]{knd:KeyKind prog w K}
def Cp(knd:KeyKind prog w K)(O:Addr)(items:Array Value)(ks:List (List K))(i:Nat)(h:Heap):Prop:=uS knd h O (ks.take i).reverse/\∀(i:Nat) (v:Value),items[i]?=some v->∃b k,v=.ref b/\ks[i]?=some k/\b<O/\IsTupleKey knd h k b
theorem tL{k:List K}{b:Addr}(hk:IsTupleKey knd h k b)(hs:∀o,h.get? b=some o->h'.get? b=some o):IsTupleKey knd h' k b:=by
 exact kR hk fun bN items n J L au=>(mC bN items n (hs _ J) L au)
theorem Sd{O:Addr}{items:Array Value}{ks:List (List K)}(hn:ks.Nodup)(hl:ks.length<128):sB prog w O items (Cp knd O items ks) where
 keep:=fun i h h' d7 hk=>by
  obtain⟨⟨o,Z,c0,t,ho,hx,hd,q⟩,hv⟩:=d7;exact⟨⟨o,Z,c0,t,hk O _ (bJ _) ho,hx,hd,q.z,q.d,q.p,q.f,q.n,fun x hx=>(ik (q.e x hx) fun b k V ah bq eP=>(kh b k V ah bq (tL eP fun o=>hk b o (b4 bq))))⟩,fun i v e=>(ik (hv i v e) fun b k V ah bq eP=>(kh b k V ah bq (tL eP fun o=>hk b o (b4 bq))))⟩
 add:=fun A i v s Q E hu hv d7 q=>by
  refine aN d7 fun d7 H0=>?_;refine ik (H0 i v hv) fun b k ae hk hb hK=>?_;subst ae;have fx:i<ks.length:=(dv hk).1;refine fQ (aK (wpAny_pyHash_tuple hu hK ?_))
  have QZ:k∉(ks.take i).reverse:=fun hm=>by
   obtain⟨j,aR,e⟩:=List.mem_iff_getElem.mp (List.mem_reverse.mp hm);rw[gV]at aR;rw[List.getElem_take]at e;obtain⟨J,ah⟩:=dv hk;exact List.pairwise_iff_getElem.mp hn j i (Nat.lt_min.mp aR).2 J (Nat.lt_min.mp aR).1 (e.trans ah.symm)
  refine LG hu d7 hK hb QZ (by rw[List.length_reverse,gV];omega) fun h' hs zB=>q h' _ _ hs (el _ _) ⟨?_,fun i v e=>?_⟩
  ·rw[List.take_add_one,hk,Option.toList_some,List.reverse_append];exact zB
  ·exact ik (H0 i v e) fun b k V ah bq eP=>(kh b k V ah bq (wd eP bq hs))
theorem Se{items:Array Value}{ks:List (List K)}(hv:∀(i:Nat) (v:Value),items[i]?=some v->∃b k,v=.ref b/\ks[i]?=some k/\IsTupleKey knd h k b)(led:Bool):Cp knd h.objs.size items ks 0 (h.push { cls:=.type "set",dict:=none,data:=.set #[] 0 (.fresh 0 0 led) }):=by
 refine⟨⟨_,_,_,_,ew _ rfl,⟨rfl,rfl,rfl⟩,rfl,gC.a,rfl,rfl,(by decide:0*5<7*3),rfl,fun x hx=>absurd hx dM⟩,fun i v e=>?_⟩;refine gH (hv i v e) fun b k V ah eP=>?_;exact kh b k V ah ((by refine jc eP fun o u u e u=>?_;exact eo e):b<h.objs.size) (tL eP fun o e=>cI _ e)
end
theorem DY:entryFor table "dict.update.loop" = some Builtin.«dict.update.loop»:=entryFor_of_tree (by kernel_rfl)
theorem wG:plainId "dict.update.loop" = true:=by decide +kernel
theorem SO:typeLookup (.type "list") (Str.ofString "keys")=pure none:=am_miss_of_fast (by decide +kernel)
section
variable {prog:Program}{w:World}
theorem Ur{a:Addr}{Y:Array Value}{k:Nat}{Q:Option Value->Shared->Prop}(hx:s.heap.get? a=some o)(hc:o.cls=.type "list")(HC:o.data=.seq Y k)(hd:o.dict=none)(hA:A.handled=none)
  (h:∀h' tk,(∀b o,s.heap.get? b=some o->h'.get? b=some o)->Q none { s with heap:=h',toks:=tk }):wpAny (model prog w) A (getAttr? (.ref a) (Str.ofString "keys")) Q E s:=by
 obtain⟨c,YY,YX,eC⟩:=o;simp only at hc HC hd;subst hc HC hd;obtain⟨hp,g,d,tk,os⟩:=s;have f1:=sub_AttributeError;have s1:=F.slot_list_getattribute.lookup;have s2:=F.slot_list_getattribute.bind (.ref a);have px:=am_list_getattr_none
 repeat (any_goals (first | assumption | exact((fun u=>⟨_,hx,rfl⟩):∀ku,(⟨hp,g,d,ku,os⟩:Shared).TypeIs (.ref a) "list") _ | ((with_reducible show wpAny _ _ (call (Value.builtin "list.__getattribute__") _ _) _ _ _);refine call_meets F.slot_list_getattribute (((fun u=>⟨_,hx,rfl⟩):∀ku,(⟨hp,g,d,ku,os⟩:Shared).TypeIs (.ref a) "list") _) am_entry_list_getattribute (F.args_list_getattribute_2 _ _) (meets_getattribute_miss_list a Y k eC (Str.ofString "keys") _ SO (by decide +kernel)) ⟨hx,hA,fun h' ku e vT=>?_⟩) | wp_step))
 refine eM vT.there fun bE gN he=>?_;unfold getattributeRaised
 repeat (any_goals (first | assumption | wp_step))
 exact h _ _ vT.keeps
variable {K:Type}[DecidableEq K]{knd:KeyKind prog w K}{ao:Result->Shared->Prop}{fp iw:List Addr}{G:Array GenState->Array GenState->Prop}{items:Array Value}{St:Nat->Shared->Prop}{bT:List (List K×Addr×Value)}
def s7(bT:List (List K×Addr×Value)):List (List K×Addr×Value):=bT.foldl (fun Y e=>storedH Y e.1 e.2.1 e.2.2) []
theorem Ha{x:List K×Addr×Value}:∀(bT acc:List (List K×Addr×Value)),x∈bT.foldl (fun Y e=>storedH Y e.1 e.2.1 e.2.2) acc->(∃y∈bT,x.2.1=y.2.1)\/∃y∈acc,x.2.1=y.2.1:=by
 intro bT
 induction bT with
 | nil=>intro acc h;exact .inr (aI x h rfl)
 | cons e bT af =>
  intro acc h;exact bZ (af _ h) (fun hl=>ay hl fun y J L=>(.inl (aI y (bx _ J) L))) (fun hr=>ay hr fun y J L=>bZ (mem_storedH J) (fun hl=>bw hl fun z au u aQ=>(.inr (aI z au (L.trans aQ)))) (fun hr=>aN hr fun u aQ=>.inl (aI e be (L.trans aQ))))
theorem Pj:∀(bT acc:List (List K×Addr×Value)),(bT.foldl (fun Y e=>storedH Y e.1 e.2.1 e.2.2) acc).length<=acc.length+bT.length:=by
 intro bT
 induction bT with
 | nil=>intro acc;exact bJ _
 | cons e bT af =>
  intro acc;apply aE (af _);rw[dD,Nat.add_comm bT.length 1,<- iJ];refine Nat.add_le_add_right ?_ _;show(storedH acc e.1 e.2.1 e.2.2).length<=_;unfold storedH
  split
  ·rw[a9];exact Nat.le_succ _
  ·rw[cD];exact bJ _
theorem DB{Y:List (List K×Addr×Value)}(hd:h.DictOfH (tupleKind knd) D Y)(hx:∀x∈Y,x.2.1<D)(hk:∀b o,b<=D->h.get? b=some o->h'.get? b=some o):h'.DictOfH (tupleKind knd) D Y:=by
 exact NT hd fun o Z c0 ho J L au aQ dk=>(DU o Z c0 (hk D o (bJ _) ho) J L au (fun x m=>tL (aQ x m) fun o=>hk _ o (b4 (hx x m))) dk)
structure sG(knd:KeyKind prog w K)(h₀:Heap)(D:Addr)(items:Array Value)(bT:List (List K×Addr×Value)):Prop where
 z:bT.length<=1000
 lt:∀e∈bT,e.2.1<D
 at_:∀(i:Nat) (v:Value),items[i]?=some v->∃c k b aa n,v=.ref c/\bT[i]?=some (k,b,aa)/\c<D/\h₀.get? c=some { cls:=.type "tuple",data:=.seq #[.ref b,aa] n }/\IsTupleKey knd h₀ k b
def m8(knd:KeyKind prog w K)(h₀:Heap)(D:Addr)(bT:List (List K×Addr×Value))(i:Nat)(h:Heap):Prop:=h.DictOfH (tupleKind knd) D (s7 (bT.take i))/\∀b o,b<D->h₀.get? b=some o->h.get? b=some o
theorem sG.flt(p:sG knd h₀ D items bT)(i:Nat):∀x∈s7 (bT.take i),x.2.1<D:=fun x hx=>by
 exact bZ (Ha _ _ hx) (fun hl=>ay hl fun y J L=>(L<&>p.lt y (List.mem_of_mem_take J))) (fun hr=>ay hr fun y J L=>absurd J dM)
theorem m8.keep(p:sG knd h₀ D items bT)(j:m8 knd h₀ D bT i h)(hk:∀b o,b<=D->h.get? b=some o->h'.get? b=some o):m8 knd h₀ D bT i h':=
 ⟨DB j.1 (p.flt i) hk,fun b o hb e=>hk b o (b4 hb) (j.2 b o hb e)⟩
theorem NJ(W:WalksS prog w A.in1 I fp iw G items.size (fun i v=>items[i]?=some v) St)(vE:D∉fp)(hw:∀b∈iw,D<b)(hu:A.in1.units<cLine)(p:sG knd h₀ D items bT) :
  ∀(k i:Nat) (j:Int) (s:Shared),items.size-i=k->i<=items.size->St i s->m8 knd h₀ D bT i s.heap ->
   (∀s',Moved (D::iw) G s s'->m8 knd h₀ D bT items.size s'.heap->ao (.ok (.ret .none)) s') ->
   codeAny (model prog w) A (.builtin "dict.update.loop" ⟨[.ref D,.ref I,rawInt j,.none],[]⟩) ao s:=by
 have uh:∀{s s':Shared} {i:Nat},Moved iw G s s'->m8 knd h₀ D bT i s.heap->m8 knd h₀ D bT i s'.heap:=fun hm iO =>
  iO.keep p fun b o hb e=>hm.heap b o (fun q=>absurd hb (Nat.not_le_of_lt (hw b q))) e
 intro k
 induction k with
 | zero =>
  intro i j s hk hi lP d7 pF;obtain rfl:i=items.size:=Nat.le_antisymm hi (Nat.le_of_sub_eq_zero hk);refine codeAny_builtin DY (Around.under_plainId wG _<&>?_);show wpAny _ A.in1 (pyNext (.ref I) >>= _) _ _ s;exact aK (W.done s _ _ lP fun s' hm=>aK (bh (bh (pF s' (hm.mono ((fun b hb=>bx _ hb):∀b∈iw,b∈D::iw)) (uh hm d7)))))
 | succ k af =>
  intro i j s hk hi lP d7 pF;apply codeAny_builtin DY;rw[Around.under_plainId wG _];show wpAny _ A.in1 (pyNext (.ref I) >>= _) _ _ s;refine aK (W.item i s _ _ ((Nat.lt_of_sub_pos (hk▸ft _)):i<items.size) lP fun v s' kX z7 hm=>aN (uh hm d7) fun hd vR=>NX (p.at_ i v kX) fun c k2 b aa n ae V ah bq eP=>ae▸(aK (fQ (aK (wpAny_tryCatch (df (fun u q=>wpAny_typeOf (aI _ (vR c _ ah bq) rfl) q) ?_))))));rw[aC ⋯];refine aK (wpAny_seqItems (vR c _ ah bq) rfl (bh (fQ (wpAny_dictSet_heap hu (tL eP fun o=>vR b o (p.lt _ (d0 V))) hd (fun h' fg mI=>?_) (aE (Pj _ _) ?_)))))
  ·have iO:m8 knd h₀ D bT (i+1) h':=by
    refine⟨?_,fun b o hb e=>(mI.2 b (eZ hb)).trans (vR b o hb e)⟩;unfold s7;rw[List.take_add_one,V,Option.toList_some,List.foldl_append];exact fg
   refine bh ⟨plainId_quiet wG _,af (i+1) _ _ (by refine Nat.sub_succ<&>hk<&>?_;rfl) ((Nat.lt_of_sub_pos (hk▸ft _)):i<items.size) (W.frame _ s' _ _ z7 (el _ _) fun b hb o e=>?_) iO fun kr zS zA=>?_⟩
   ·exact(mI.2 b (fun h:b=D=>vE (h▸hb)) ..).trans e
   ·exact pF kr (Moved.trans W.gtrans ((hm.mono ((fun b hb=>bx _ hb):∀b∈iw,b∈D::iw)).then_heap (el _ _) fun b o hb e=>((mI.2 b (fun h:b=D=>hb (h▸be)) ..).trans e)) zS) zA
  ·have:=p.z;refine kO<&>d1<&>gV<&>sizeLine_eq<&>?_;omega
theorem MZ{l:Addr}(aW:A.handled=none)(hu:A.units+10<cLine)(ho:s.heap.get? l=some { cls:=.type "list",data:=.seq items n })(a3:items.size=bT.length)(p:sG knd s.heap s.heap.objs.size items bT)
  (h:∀h' tk,h'.DictOfH (tupleKind knd) s.heap.objs.size (s7 bT)->(∀b o,s.heap.get? b=some o->h'.get? b=some o)->Q (.ref s.heap.objs.size) { s with heap:=h',toks:=tk }) :
  wpAny (model prog w) A (call (.type "dict") [.ref l]) Q E s:=by
 apply callType_codes (Q₁:=fun obj s₁=>obj=.ref s.heap.objs.size/\s₁={ s with heap:=s.heap.push { cls:=.type "dict",data:=.dict #[] } }) F.kt_called_dict (F.kt_typeCall_dict_1 _) F.entry_dict_init (kt_code_dict_new _ ⟨rfl,rfl⟩)
 rintro obj s₁ ⟨rfl,rfl⟩
 have fz:∀b o,s.heap.get? b=some o->(s.heap.push { cls:=.type "dict",data:=.dict #[] }).get? b=some o:=fun b o e=>cI _ e;have hn:(s.heap.push { cls:=.type "dict",data:=.dict #[] }).DictOfH (tupleKind knd) s.heap.objs.size []:=Heap.DictOfH.new _;have z9:(s.heap.push { cls:=.type "dict",data:=.dict #[] }).objs.size=s.heap.objs.size+1:=Heap.size_push _ _;have dP:Shared.TypeIs { s with heap:=s.heap.push { cls:=.type "dict",data:=.dict #[] } } (.ref s.heap.objs.size) "dict" := (aI _ (ew _ rfl) rfl);generalize s.heap.push { cls:=.type "dict",data:=.dict #[] }=aJ at fz hn z9 dP ⊢;have hl:=fz _ _ ho;refine⟨dP,F.args_dict_init_2 _ _,?_⟩;unfold Builtin.«dict.__init__»;apply aK;refine df (fun u q=>wpAny_notOrdered_dict dP q) (bh ?_);show wpAny _ _ (Builtin.Dict.updateFrom "dict.__init__" s.heap.objs.size (.ref l) [] .none) _ _ _;refine aK (wpAny_typeOf (aI _ hl rfl) ?_);rw[aC ⋯];refine aK (Ur hl rfl rfl rfl aW fun J tk k1=>aK (wpAny_rule ?_));have kk:J.IsList l items:=⟨_,k1 _ _ hl,rfl,n,rfl⟩
 have zu:s.heap.objs.size<J.objs.size:=by refine jc hn fun o u u e u=>?_;exact eo (k1 _ _ e)
 refine df (fun u q=>wpAny_pyIter_list (s:={ s with heap:=J,toks:=tk }) kk q) (bh ⟨plainId_quiet wG _,?_⟩);have R4:m8 knd s.heap s.heap.objs.size bT 0 J:=⟨DB hn (fun x hx=>absurd hx dM) fun b o u e=>k1 b o e,fun b o u e=>k1 b o (fz b o e)⟩;refine NJ ((Walks.list (A:=A.in1.in1) (aW) _ l (eZ (b9 ((eo ho):l<s.heap.objs.size) zu)) items).toS) ?_ ?_ (by dsimp only;omega) p (items.size-0) 0 _ _ rfl (ep _) ⟨(b3 _ (ew _ rfl) rfl rfl),kk.push _⟩ (R4.keep p fun b o u e=>cI _ e) fun s' hm iO=>?_
 ·simp only[bY,dM,or_false,not_or];exact⟨eZ zu,du ((eo ho):l<s.heap.objs.size)⟩
 ·intro b hb;refine di.mp hb<&>?_;exact zu
 ·obtain⟨h',eA,cZ,ku,r5⟩:=s';have yl:eA=s.gens:=hm.gens;have yj:cZ=s.drawn:=hm.drawn;have fS:r5=s.os:=hm.os;refine yl▸?_;refine yj▸?_;refine fS▸⟨rfl,h h' ku ?_ fun b o e=>iO.2 b o (eo e) e⟩;have:=iO.1;rw[a3,List.take_length]at this;exact this
end
theorem I3{U β:Type}{f:U->Option β}:∀{Y:List U} {ks:List β},Y.mapM f=some ks->Y.length=ks.length/\∀(i:Nat) (x:U),Y[i]?=some x->∃k,ks[i]?=some k/\f x=some k:=by
 intro Y
 induction Y with
 | nil=>intro ks h;refine oi h<$>?_;exact⟨rfl,fun i x e=>nomatch e⟩
 | cons x Y af =>
  intro ks h;rw[List.mapM_cons]at h;refine cw h fun k J h=>cw h fun r L h=>?_;refine oi h<$>?_;refine⟨congrArg (· + 1) (af L).1,fun i y e=>?_⟩
  cases i with
  | zero=>refine oi e<$>?_;exact aI k rfl J
  | succ i=>exact(af L).2 i y e
theorem aw.add_mem{b:Addr}(h:b∈(U.add D).all):b∈U.all\/b=D:=by
 unfold aw.all aw.add at *;simp only[dt,di]at h ⊢;grind
theorem US{p:H}{e:(Str×Int)×H}(h:r6 p=some e):∃q,p=.tup [q,e.2]/\fy q=some e.1:=by
 cases p with
 | tup Y =>
  cases Y with
  | nil=>exact nomatch h
  | cons a r =>
   cases r with
   | nil=>exact nomatch h
   | cons b r =>
    cases r with
    | nil=>exact ay (ol.mp h) fun k hk ae=>ae▸aI _ rfl hk
    | cons _ _=>exact nomatch h
 | _=>exact nomatch h
theorem UT{p:H}{e:(Str×Int)×H}(h:r6 p=some e)(v:am s.heap U p x):∃c b aa n,x=.ref c/\s.heap.get? c=some { cls:=.type "tuple",data:=.seq #[.ref b,aa] n }/\IsTupleKey (nF K.prog K.w) s.heap (ip e.1) b/\b∉U.all/\am s.heap U e.2 aa:=by
 refine ay (US h) fun q ae hq=>?_;subst ae;obtain⟨a,items,n,rfl,e,hn,w⟩:=v.tupE;refine cG w.inv_cons fun sr us ae bB=>?_;subst ae;obtain⟨j0,hS⟩:=bB;refine cG hS.inv_cons fun qC us ae bB=>?_;obtain rfl:=ae;obtain⟨nS,B4⟩:=bB;refine(hJ B4.1.symm:us=[])▸?_;obtain⟨b,rfl,nn,hb⟩:=rM hq j0;exact NZ a b qC n rfl e nn hb nS
structure kE(h:Heap)(U:aw)(Z:List ((Str×Int)×H))(ys:List (List (Str ⊕ Int)×Addr×Value)):Prop where
 k:(kvsOf ys).map (·.1)=Z.map (fun e=>ip e.1)
 n:∀y∈ys,y.2.1∉U.all
 v:bp h U (Z.map (·.2)) ((kvsOf ys).map (·.2))
theorem kE.fold:∀{ys:List (List (Str ⊕ Int)×Addr×Value)} {Z:List ((Str×Int)×H)} {acc:List (List (Str ⊕ Int)×Addr×Value)} {ac:List ((Str×Int)×H)},kE h U Z ys->kE h U ac acc->kE h U (Z.foldl (fun Z e=>ee e.1 e.2 Z) ac) (ys.foldl (fun Y e=>storedH Y e.1 e.2.1 e.2.2) acc):=by
 intro ys
 induction ys with
 | nil =>
  intro Z acc ac p q;have:=p.k
  cases Z with
  | nil=>exact q
  | cons=>exact nomatch this
 | cons y ys af =>
  intro Z acc ac p q
  cases Z with
  | nil=>exact nomatch p.k
  | cons e Z =>
   obtain⟨J,L⟩:=List.cons.inj p.k;refine gH p.v.inv_cons fun aa us ae aY v2=>?_;refine aN (List.cons.inj ae) fun q1 q2=>?_;apply af ⟨L,fun y aG=>p.n y (bx _ aG),q2▸v2⟩;have:=uY pY (k:=e.1) q.k q.v (q1▸aY);rw[<- show y.1=ip e.1 from J,<- kvsOf_storedH acc y.1 y.2.1]at this;exact⟨this.1,fun z a3=>(bZ (mem_storedH a3) (fun hl=>bw hl fun gc z9 u ah=>(ah<&>q.n gc z9)) (fun hr=>aN hr fun u ah=>ah<&>p.n y be)),this.2⟩
structure Lp(K:bc)(h:Heap)(U:aw)(vs:List Value)(Z:List ((Str×Int)×H))(ys:List (List (Str ⊕ Int)×Addr×Value)):Prop where
 pr:kE h U Z ys
 len:vs.length=ys.length
 lt:∀y∈ys,y.2.1<h.objs.size
 at_:∀(i:Nat) (v:Value),vs[i]?=some v->∃c k b aa n,v=.ref c/\ys[i]?=some (k,b,aa)/\c<h.objs.size/\h.get? c=some { cls:=.type "tuple",data:=.seq #[.ref b,aa] n }/\IsTupleKey (nF K.prog K.w) h k b
theorem all_cons{β:Type}{P:β->Prop}{a:β}{l:List β}(h:P a)(hl:∀y∈l,P y):∀y∈a::l,P y:=fun y aG=>(bY.mp aG).elim (fun e=>e▸h) (hl y)
theorem kE.of:∀{Y:List H} {vs:List Value} {Z:List ((Str×Int)×H)},bp s.heap U Y vs->Y.mapM r6=some Z->∃ys,Lp K s.heap U vs Z ys:=by
 intro Y
 induction Y with
 | nil =>
  intro vs Z w h;obtain rfl:=oi h;exact hJ w.1.symm<$>⟨[],⟨rfl,(fun y aG=>nomatch aG),.nil⟩,rfl,(fun y aG=>nomatch aG),fun i v e=>nomatch e⟩
 | cons x Y af =>
  intro vs Z w h;rw[List.mapM_cons]at h;refine cw h fun e J h=>cw h fun r L h=>?_;obtain rfl:=oi h;refine gH w.inv_cons fun aa us ae aY v2=>ae▸(aF (af v2 L) fun ys P=>NU (UT (K:=K) J aY) fun c b qC n c8 V ah bq eP=>⟨(ip e.1,b,qC)::ys,⟨congrArg (ip e.1::·) P.pr.k,all_cons bq P.pr.n,.cons eP P.pr.v⟩,congrArg (· + 1) P.len,all_cons ((kS ah fun o u u e u u u=>eo e):b<s.heap.objs.size) P.lt,fun i v DQ=>?_⟩)
  cases i with
  | zero=>exact N0 c _ b qC n ((oi DQ).symm.trans c8) rfl (eo V) V ah
  | succ i=>exact P.at_ i v DQ
theorem NK{ad:Addr}(hA:eJ A)(aW:A.handled=none)(r:ao K.hb s.heap S U)(V:s.heap.get? ad=some { cls:=.type "list",data:=.seq vs.toArray n })(v:bp s.heap U Y vs)(hk:t7 Y=some Z) :
  wpAny (model K.prog K.w) A (call (.type "dict") [.ref ad]) (cy K am (.ok (.ref S.length) (S++[.dp (Z.foldl (fun Z e=>ee e.1 e.2 Z) [])])) s U) E s:=by
 refine cw hk fun d3 J L=>mL L fun hl L=>oi L<$>(aF (kE.of (K:=K) v J) fun ys P=>?_);have p:=P.pr
 have QN:ys.length<=1000:=by
  have:=congrArg List.length p.k;rw[a9,a9,kvsOf,a9]at this;exact this▸hl
 refine MZ aW (by have:=hA.units;grind) V (eY.trans P.len) ⟨QN,P.lt,fun i v e=>P.at_ i v (e<$>List.getElem?_toArray<&>rfl)⟩ fun h' tk hd k=>?_;have hD:s.heap.get? s.heap.objs.size=none:=lV s;have p2:=p.fold (acc:=[]) (ac:=[]) ⟨rfl,(fun y aG=>nomatch aG),.nil⟩;refine aN (r.add (m:=.dp (d3.foldl (fun Z e=>ee e.1 e.2 Z) [])) k hD (pu (s7 ys) hd ?_ (fun x hx hm=>?_) ?_)) fun aO aS=>?_
 ·have:=p2.k;rw[kvsOf,fE]at this;exact this
 ·have:x.2.1∈U.all\/x.2.1=s.heap.objs.size:=aw.add_mem hm;refine bZ this (fun q=>?_) (fun q=>?_)
  ·exact p2.n x hx q
  ·refine bZ (Ha _ _ hx) (fun hl=>ay hl fun y J L=>?_) (fun hr=>ay hr fun y J L=>?_)
   ·exact absurd (P.lt y J) (by refine L<$>q<&>?_;exact i6 _)
   ·exact absurd J dM
 ·have:=p2.v;rw[kvsOf,fE]at this;exact this.ext (a4.add k hD)
 ·exact⟨_,_,_,rfl,aS,aO,.ref (by rw[r.len];simp[aw.add]),⟨rfl,rfl⟩⟩
theorem CR:∀{Y:List H} {l:List Int} {items:List Value},gF Y=some l->bp h U Y items->IntsAre items l:=by
 intro Y
 induction Y with
 | nil =>
  intro l items e v;obtain rfl:=oi e;have:items=[]:=hJ v.1.symm;exact this<&>.nil
 | cons x Y af =>
  intro l items e v;refine cG v.inv_cons fun aa us ae bB=>ae▸(aN bB fun aY v2=>?_)
  cases x with
  | int i =>
   refine aF aY.intE fun u ae=>ae▸?_;change(gF Y).map (i::·)=_ at e
   cases hr:gF Y with
   | none=>rw[hr]at e;contradiction
   | some lT=>rw[hr]at e;obtain rfl:=oi e;exact .cons _ _ (af hr v2)
  | _=>exact nomatch e
theorem LP:∀{Y:List H} {l:List Str} {items:List Value},ni Y=some l->bp h U Y items->StrsAre items l:=by
 intro Y
 induction Y with
 | nil =>
  intro l items e v;obtain rfl:=oi e;have:items=[]:=hJ v.1.symm;exact this<&>.nil
 | cons x Y af =>
  intro l items e v;refine cG v.inv_cons fun aa us ae bB=>ae▸(aN bB fun aY v2=>?_)
  cases x with
  | str i =>
   refine ay aY.strE fun u ae u=>ae▸?_;change(ni Y).map (i::·)=_ at e
   cases hr:ni Y with
   | none=>rw[hr]at e;contradiction
   | some lT=>rw[hr]at e;obtain rfl:=oi e;exact .cons _ _ (af hr v2)
  | _=>exact nomatch e
theorem WQ(x:String):PyData.strOk (Str.ofString x)=true:=by
 rw[Str.ofString_eq_toList];unfold PyData.strOk;rw[Array.all_eq_true'];intro c hc;simp at hc;refine ay hc fun d u ae=>ae▸?_;have:=d.valid;simp only[decide_eq_true_eq];exact bZ this (fun h=>(b9 h ⋯)) (fun hr=>aN hr fun u h=>h)
theorem Wq{i:Int}(h:0<=i/\i<1000000000):i.natAbs.log2<1920:=by
 by_cases h0:i.natAbs=0
 ·rw[h0];decide
 ·rw[Nat.log2_lt h0];exact de (show i.natAbs<1000000000 by grind) (aE (show 1000000000<=2 ^ 30 by decide) (Nat.pow_le_pow_right ⋯ ⋯))
theorem Iu:∀{items:List Value} {l:List Int},IntsAre items l->∃Y:Array (Int×Tok),items.toArray=intItems Y/\Y.toList.map (·.1)=l
 | _,_,.nil=>(aI (#[]) (by simp[intItems]) rfl)
 | _,_,.cons n t r=>by
  refine ay (Iu r) fun Y V ah=>(aI ⟨(n,t)::Y.toList⟩ ?_ (by simp[ah]));have:intItems Y=⟨_⟩:=V.symm;simp only[intItems]at V ⊢;rw[<- Array.toList_inj]at V ⊢;simp at V ⊢;exact V
theorem g9{a:Addr}{items:List Value}(e:s.heap.get? a=some { cls:=.type "list",data:=.seq items.toArray n }):s.heap.IsList a items.toArray:=⟨_,e,rfl,n,rfl⟩
theorem v9{a:Addr}{items:List Value}(e:s.heap.get? a=some { cls:=.type "tuple",data:=.seq items.toArray n }):IsTup s.heap a items.toArray:=⟨_,e,rfl,n,rfl⟩
def pg:c5->Value
 | .len=>.builtin "len" | .list _=>.type "list" | .tuple=>.type "tuple" | .all=>.builtin "all" | .int=>.type "int" | .str=>.type "str" | .lenset=>.none
 | .sum=>.builtin "sum"
 | .min=>.builtin "min" | .max=>.builtin "max"
 | .sorted=>.builtin "sorted"
 | .dict=>.type "dict"
theorem Hc{f:Int->Int->Int}{ao:Int->Int->Prop}(VK:∀a,ao a a)(tr:∀{a b c},ao a b->ao b c->ao a c)(J:∀x y,ao (f x y) x)(L:∀x y,ao (f x y) y)(au:∀x y,f x y=x\/f x y=y)(l:List Int):∀x,(∀a∈x::l,ao (l.foldl f x) a)/\l.foldl f x∈x::l:=by
 induction l with
 | nil=>exact fun x=>⟨fun a ha=>di.mp ha▸VK x,be⟩
 | cons y l af =>
  intro x;refine aN (af (f x y)) fun q1 q2=>⟨fun a ha=>?_,?_⟩
  ·refine bZ (bY.mp ha) (fun e=>?_) (fun ha=>?_)
   ·exact e<&>(tr (q1 _ be) (J x y))
   ·rcases bY.mp ha with e | ha
    ·rw[e];exact tr (q1 _ be) (L x y)
    ·exact q1 a (bx _ ha)
  ·rcases bY.mp q2 with e | q
   ·refine bZ (au x y) (fun z=>?_) (fun z=>?_)
    ·rw[i5,e.trans z];exact be
    ·rw[i5,e.trans z];exact bx _ be
   ·exact bx _ (bx _ q)
theorem Pm(l:List Int)(x:Int):(∀a∈x::l,l.foldl min x<=a)/\l.foldl min x∈x::l:=
 Hc Int.le_refl gE Int.min_le_left Int.min_le_right (fun x y=>by rcases Int.le_total x y with h | h;exact .inl (Int.min_eq_left h);exact .inr (Int.min_eq_right h)) l x
theorem Pl(l:List Int)(x:Int):(∀a∈x::l,a<=l.foldl max x)/\l.foldl max x∈x::l:=
 Hc (ao:=fun a b=>b<=a) Int.le_refl (fun p q=>gE q p) Int.le_max_left Int.le_max_right (fun x y=>by rcases Int.le_total x y with h | h;exact .inr (Int.max_eq_right h);exact .inl (Int.max_eq_left h)) l x
theorem Ip{x:Int}(h:x.natAbs<=1000*2 ^ 40):InLong x:=by unfold InLong;omega
theorem W8(J:l.length<=1000)(L:l.all (fun x=>decide (x.natAbs<2 ^ 40))=true):∀j,j<l.length->InLong (l.getD j 0)/\InLong ((l.take (j+1)).sum):=by
 have key:∀(m:List Int),(∀x∈m,x.natAbs<2 ^ 40)->m.sum.natAbs<=m.length*2 ^ 40:=by
  intro m
  induction m with
  | nil=>intro _;exact ep _
  | cons x m af =>
   intro h;rw[List.sum_cons,dD,Nat.succ_mul,Nat.add_comm];exact aE (Int.natAbs_add_le x m.sum) (Nat.add_le_add (b4 (h x be)) (af fun y aG=>h y (bx _ aG)))
 intro j aR;have kY:∀x∈l,x.natAbs<2 ^ 40:=fun x hx=>f0 (hN.mp L x hx);refine⟨Ip (aE (b4 (kY _ (getD_mem aR))) ⋯),Ip (aE (key (l.take (j+1)) fun x hx=>kY x (List.mem_of_mem_take hx)) (Nat.mul_le_mul_right _ (aE ?_ J)))⟩;rw[gV];exact Nat.min_le_right _ _
inductive CG(h:Heap)(U:aw)(a:H)(Y:List H)(x:Value):Prop
 | mk (l:Addr) (T:String) (vs:List Value) (n:Nat) (e:x=.ref l) (dP:T = "list" \/ T = "tuple") (ba:h.get? l=some { cls:=.type T,data:=.seq (List.toArray vs) n }) (v:bp h U Y vs) (ha:T = "tuple" -> a=.tup Y):CG h U a Y x
theorem wQ{a:H}(r:ao K.hb s.heap S U)(aA:am s.heap U a x)(e:eB S a=some Y) :
  CG s.heap U a Y x:=by
 cases a with
 | fl ys=>obtain rfl:=oi e;obtain⟨l,vs,n,rfl,V,_,v⟩:=aA.flE;exact⟨l,_,vs,n,rfl,.inl rfl,V,v,fun h=>(nomatch h)⟩
 | tup ys=>obtain rfl:=oi e;obtain⟨l,vs,n,rfl,V,_,v⟩:=aA.tupE;exact⟨l,_,vs,n,rfl,.inr rfl,V,v,fun u=>rfl⟩
 | ref i =>
  refine ay aA.refE fun l ae eb=>ae▸?_
  delta eB at e;dsimp only at e
  cases hs:S[i]? with
  | none=>rw[hs]at e;contradiction
  | some m =>
   rw[hs]at e
   cases m with
   | lst ys=>obtain rfl:=oi e;refine cG (r.obj i _ l hs eb) fun vs n V v=>?_;exact⟨l,_,vs,n,rfl,.inl rfl,V,v,fun h=>(nomatch h)⟩
   | _=>contradiction
 | _=>contradiction
theorem cy.list(hl:Y.length<=aL)(r:ao K.hb s.heap S U)(v:bp s.heap U Y vs)(k:∀b o,s.heap.get? b=some o->h'.get? b=some o)
  (hD:s.heap.get? D=none) (e:h'.get? D=some { cls:=.type "list",data:=.seq vs.toArray n }):cy K am (eO a5 Y S) s U (.ref D) { s with heap:=h',toks:=tk }:=by
 unfold eO;rw[aC hl]
 cases a5 with
 | true =>
  refine⟨_,_,_,rfl,.keeps k,r.keeps k,(am.flI e (fun hm=>?_) (v.ext (.keeps (F:=[]) k))),⟨rfl,rfl⟩⟩;refine aF (r.liveAll hm) fun o e=>?_;rw[hD]at e;contradiction
 | false =>
  refine aN (r.add (m:=.lst Y) k hD (fF vs n e (v.ext (.add k hD)))) fun aO x=>⟨_,_,_,rfl,x,aO,.ref ?_,⟨rfl,rfl⟩⟩;rw[r.len];simp[aw.add]
theorem TN(h:eO a5 Y S≠.stuck):Y.length<=aL:=by
 unfold eO at h;by_cases hl:Y.length<=aL
 ·exact hl
 ·rw[aV hl]at h;exact absurd rfl h
theorem SN{a:H}(r:ao K.hb s.heap S U)(aA:am s.heap U a x) :
  av K am A (call (.type "list") [x]) (dN (.list a5) a S) s U:=by
 intro hc
 cases he:eB S a with
 | none=>exact absurd (show(match eB S a with | some Y=>eO a5 Y S | none=>.stuck)=.stuck by rw[he]) hc
 | some Y =>
  rw[((show(match eB S a with | some Y=>eO a5 Y S | none=>.stuck)=_ by rw[he]):dN (.list a5) a S=eO a5 Y S)]at hc ⊢;have hl:=TN hc;obtain⟨l,T,vs,n,rfl,dP,V,v,_⟩:=wQ r aA he;refine call_list_seq l dP V rfl rfl (fun h' b5 k e=>?_) (by simpa[<- v.1]using iS hl);exact cy.list hl r v k (lV s) e
theorem Ww{m:List Int}(J:m.Perm l)(L:m.Pairwise (· <= ·)):m=eI l:=by
 unfold eI;refine List.Perm.eq_of_pairwise (fun a b u u J L=>?_) (L.imp fun h=>by simpa using h) (List.pairwise_mergeSort (fun a b c J L=>?_) (fun a b=>?_) l) (J.trans (List.mergeSort_perm l _).symm)
 ·simp at J L;(grind)
 ·simp at J L ⊢;(exact gE (by assumption) (by assumption))
 ·simp;(grind)
theorem Ry(q:IntsAre vs l):bp h U (l.map .int) vs:=by
 induction q with
 | nil=>exact .nil
 | cons n t r af=>exact .cons (.int n t) af
theorem p4(h:n<=aL):((n:Nat):Int)<2 ^ 63:=by
 have:aL=1000000:=rfl
 (grind)
theorem LO:∀{Y:List H} {l:List Bool} {vs:List Value},op Y=some l->bp h U Y vs->vs=l.map .bool:=by
 intro Y
 induction Y with
 | nil =>
  intro l vs e v;obtain rfl:=oi e;exact hJ v.1.symm
 | cons x Y af =>
  intro l vs e v;refine cG v.inv_cons fun aa us ae bB=>ae▸(aN bB fun aY v2=>?_)
  cases x with
  | bool b =>
   refine aY.boolE▸?_;change(op Y).map (b::·)=_ at e
   cases hr:op Y with
   | none=>rw[hr]at e;contradiction
   | some lT=>rw[hr]at e;obtain rfl:=oi e;refine af hr v2<&>?_;rfl
  | _=>exact nomatch e
theorem Vu(l:List Bool):(List.range l.length).all (fun i=>l.getD i false)=l.all id:=by
 induction l with
 | nil=>rfl
 | cons b l af=>rw[dD,List.range_succ_eq_map,List.all_cons,List.all_map,List.all_cons,<- af];rfl
theorem Sc(hk:∀b a8,b∉[s.heap.objs.size]->(s.heap.push o).get? b=some a8->h'.get? b=some a8):∀b a8,s.heap.get? b=some a8->h'.get? b=some a8:=
 fun b a8 e=>hk b a8 (by simp;exact eZ (eo e)) (cI _ e)
theorem MF(gY:List Bool):TruthOf K.prog K.w A.in1 (fun i v=>(gY.map Value.bool).toArray[i]?=some v) (fun i=>gY.getD i false):=fun i v s' iI dI kX bf=>by
 simp only[List.getElem?_toArray,fc]at kX;refine ay (ol.mp kX) fun b hb ae=>ae▸?_;apply wpAny_truthy_bool
 have:gY.getD i false=b:=by simp[List.getD,hb]
 exact this▸bf
theorem ME{l:Addr}{gY:List Bool}(V:s.heap.get? l=some { cls:=.type "list",data:=.seq (gY.map Value.bool).toArray n }) :
  (s.heap.push { cls:=.type "list_iterator",data:=.fields #[.ref l,.int 0 0] }).IsListIter s.heap.objs.size l 0/\(s.heap.push { cls:=.type "list_iterator",data:=.fields #[.ref l,.int 0 0] }).IsList l (gY.map Value.bool).toArray:=
 ⟨(b3 _ (ew _ rfl) rfl rfl),⟨_,cI _ V,rfl,n,rfl⟩⟩
theorem LU{l:Addr}{gY:List Bool}(hA:eJ A)(aW:A.handled=none)(V:s.heap.get? l=some { cls:=.type "list",data:=.seq (gY.map Value.bool).toArray n })
  (h:∀h' tk,(∀b a8,s.heap.get? b=some a8->h'.get? b=some a8)->Q (.bool (gY.all id)) { s with heap:=h',toks:=tk }):wpAny (model K.prog K.w) A (call (.builtin "all") [.ref l]) Q E s:=by
 refine call_all_walk (wpAny_pyIter_list (g9 V) (N2 _ _ _ _ _ _ _ rfl (Walks.list (A:=A.in1) aW _ l (eZ (eo V)) (gY.map Value.bool).toArray) (ME V) (MF gY) (fun h' tk hk=>?_)));have:=h h' tk (Sc hk);rw[show(gY.map Value.bool).toArray.size=gY.length by simp,Vu];exact this
theorem hF.inj{k bs:Str×Int}{v:Value}(a:hF h k v)(b:hF h bs v):k=bs:=by
 refine lH a fun x t aa n ae e=>?_;subst ae;refine lH b fun y bE gN d4 aP ah=>?_;obtain rfl:=Value.ref.inj aP;exact Prod.ext (Value.str.inj (List.cons.inj (congrArg Array.toList ((Data.seq.inj (congrArg Obj.data (oi (e.symm.trans ah)))).1))).1).1 (Value.int.inj (List.cons.inj (List.cons.inj (congrArg Array.toList ((Data.seq.inj (congrArg Obj.data (oi (e.symm.trans ah)))).1))).2).1).1
theorem SH{a:H}(hA:eJ A)(aW:A.handled=none)(r:ao K.hb s.heap S U)(aA:am s.heap U a x)(hl:(eB S a).bind p6=some n)
  (h:∀D h' tk,(∀b o,s.heap.get? b=some o->h'.get? b=some o)->(∀(iI:Value->Shared->Prop) (dI:Value->Shared->Prop),(∀t ku,iI (.int n t) { s with heap:=h',toks:=ku })->wpAny (model K.prog K.w) A (call (.builtin "len") [.ref D]) iI dI { s with heap:=h',toks:=tk })->Q (.ref D) { s with heap:=h',toks:=tk }) :
  wpAny (model K.prog K.w) A (call (.type "set") [x]) Q E s:=by
 refine ay (Option.bind_eq_some_iff.mp hl) fun Y J L=>?_;obtain⟨ad,T,vs,m,rfl,dP,V,v,_⟩:=wQ r aA J
 have fin:∀(h':Heap) (tk:Nat) (o:Obj) (Z:Array (Int×Value)) (c0:Nat) (t:SetTable),h'.get? s.heap.objs.size=some o->o.ExactSet->o.data=.set Z c0 t->t.fits Z.size=true->Z.size=n->Z.size<scanBound->(∀b o,b<s.heap.objs.size->s.heap.get? b=some o->h'.get? b=some o)->Q (.ref s.heap.objs.size) { s with heap:=h',toks:=tk }:=by
  intro h' tk o Z c0 t ho tb hd a7 k5 hb hk;refine h _ h' tk (fun b o e=>hk b o (eo e) e) fun iI dI hq=>?_;refine call_len_set ho tb hd a7 (by unfold scanBound at hb;(grind)) ?_;exact k5<&>(hq _ _)
 unfold p6 at L
 cases au:ni Y with
 | some l =>
  rw[au]at L;refine mL L fun hn L=>?_;cases(oi L);have d7:=LP au v;have a3:vs.toArray.size=l.length:=eY.trans (WT d7);refine Dp aW ((by have:=hA.units;grind):A.units+10<cLine) dP V (WN (by simpa using d7) (by refine a3<&>?_;unfold scanBound;(grind))) (fun led=>SetOf_congr ((setObjOf_fresh led).setOf (ew _ rfl) (by unfold scanBound;(decide))) (fun u=>rfl) rfl) fun h' tk rE hk=>?_;have rE:h'.SetOf (strKind K.prog K.w) s.heap.objs.size (fun z=>(mQ l vs.toArray.size).any (· == z)) (mQ l vs.toArray.size).length:=rE;rw[show mQ l vs.toArray.size=ow l by unfold mQ;refine a3<&>?_;rw[List.take_length]]at rE;exact NV rE fun o Z c0 t ho tb hd Y8 Zd hb a7 k5=>fin h' tk o Z c0 t ho tb hd a7 k5 hb hk
 | none =>
  rw[au]at L;refine cw L fun ks hk L=>mL L fun hq L=>?_;obtain rfl:=oi L;refine aN (I3 hk) fun QL hg=>?_;refine Dp aW ((by have:=hA.units;grind):A.units+10<cLine) dP V (Sd (knd:=nF K.prog K.w) (List.Pairwise.map _ (fun a b h e=>h (pY a b e)) hq.2) (by rw[a9];exact hq.1)) (Se fun i aa e=>?_) fun h' tk rE hk=>?_
  ·rw[List.getElem?_toArray]at e;have hi:=(dv e).1;rw[<- v.1]at hi;refine ay (hg i _ (cM hi)) fun k aQ dk=>?_;obtain⟨b,c8,nn,_⟩:=rM dk (v.2 i _ aa (cM hi) e);exact jF b (ip k) c8 (by rw[fc,aQ];rfl) nn
  ·obtain⟨⟨o,Z,c0,t,ho,tb,hd,O⟩,_⟩:=rE
   have k5:Z.size=ks.length:=by
    rw[O.n,List.length_reverse,gV,((by rw[eY,<- v.1,QL,a9]):vs.toArray.size=(ks.map ip).length),Nat.min_self,a9]
   exact fin h' tk o Z c0 t ho tb hd (O.fits (s:={ s with heap:=h' })) k5 (by rw[k5];unfold scanBound;omega) hk
theorem r0{β:Type}{g:List H->Option β}{f:β->aj H}{a:H}(h:fm g f a S≠.stuck)(k:∀Y l,cY S a=some Y->g Y=some l->f l≠.stuck->fm g f a S=f l->P):P:=by
 cases he:(cY S a).bind g with
 | none=>exact absurd (by unfold fm;exact he<&>rfl) h
 | some l =>
  have e:fm g f a S=f l:=by unfold fm;rw[he]
  exact cw he fun Y J L=>k Y l J L (e▸h) e
theorem Ao{a:H}(r:ao K.hb s.heap S U)(aA:am s.heap U a x)(J:cY S a=some Y)(L:gF Y=some l):∃ad ys,x=.ref ad/\s.heap.IsList ad (intItems ys)/\ys.toList.map (·.1)=l:=by
 obtain⟨ad,vs,n,rfl,V,v⟩:=lD r aA J;exact ay (Iu (CR L v)) fun ys au aQ=>(jF ad ys rfl (au▸g9 V) aQ)
theorem W9{a:H}(aW:A.handled=none)(r:ao K.hb s.heap S U)(aA:am s.heap U a x):av K am A (call (.builtin "sum") [x]) (dN .sum a S) s U:=by
 show av K am A _ (fm gF _ a S) s U;intro hc;refine r0 hc fun Y l J L hc e=>?_;rw[e];refine cG (Ao r aA J L) fun ad ys ae bB=>ae▸(aN bB fun eR aQ=>?_);by_cases hl:l.length<=1000/\l.all (fun x=>decide (x.natAbs<2 ^ 40))
 ·rw[aC hl];refine sum_intList aW eR (fun j aR=>?_) fun h' tk bE k=>?_
  ·refine numAt_eq<&>preSum_eq<&>aQ<&>?_;exact W8 hl.1 hl.2 j (by refine aQ▸?_;simpa using aR)
  ·rw[preSum_eq,aQ,List.take_of_length_le (by rw[<- aQ];simp)];exact⟨_,_,_,rfl,.keeps k,r.keeps k,.int _ _,⟨rfl,rfl⟩⟩
 ·exact absurd (aV hl) hc
theorem TH{a:H}(aW:A.handled=none)(r:ao K.hb s.heap S U)(aA:am s.heap U a x):av K am A (call (.builtin "min") [x]) (dN .min a S) s U:=by
 show av K am A _ (fm gF _ a S) s U;intro hc;refine r0 hc fun Y l J L hc e=>e<&>(cG (Ao r aA J L) fun ad ys ae bB=>ae▸(aN bB fun eR aQ=>?_))
 cases l with
 | nil=>exact absurd rfl hc
 | cons iX l =>
  have fG:ys.size=l.length+1:=by have:=congrArg List.length aQ;simpa using this
  refine min_intList aW eR (fG▸ft _) fun aa h' tk hv k=>aF (intItems_at hv) fun t ae=>ae▸(aN (argBest_lt (numAt ys) (ys.size-1)) fun q1 q2=>?_);rw[fG]at q1 q2 ⊢;refine aN (Pm l iX) fun aZ bH=>?_
  have hm:numAt ys (argBest (fun i j=>decide (numAt ys i<numAt ys j)) l.length)=l.foldl min iX:=by
   refine Int.le_antisymm ?_ (aZ _ ?_)
   ·refine ay (mem_getD bH) fun j aR e=>?_;have:=q2 j (lA aR);rw[numAt_eq ys j,aQ,e]at this;exact this
   ·rw[numAt_eq,aQ];exact getD_mem (Nat.lt_succ_of_le q1)
  exact⟨_,_,_,rfl,.keeps k,r.keeps k,((show l.length+1-1=l.length from rfl).symm▸hm.symm▸(.int _ _)),⟨rfl,rfl⟩⟩
theorem Th{a:H}(aW:A.handled=none)(r:ao K.hb s.heap S U)(aA:am s.heap U a x):av K am A (call (.builtin "max") [x]) (dN .max a S) s U:=by
 show av K am A _ (fm gF _ a S) s U;intro hc;refine r0 hc fun Y l J L hc e=>e<&>(cG (Ao r aA J L) fun ad ys ae bB=>ae▸(aN bB fun eR aQ=>?_))
 cases l with
 | nil=>exact absurd rfl hc
 | cons iX l =>
  have fG:ys.size=l.length+1:=by have:=congrArg List.length aQ;simpa using this
  refine max_intList aW eR (fG▸ft _) fun aa h' tk hv k=>aF (intItems_at hv) fun t ae=>ae▸(aN (argBest_gt (numAt ys) (ys.size-1)) fun q1 q2=>?_);rw[fG]at q1 q2 ⊢;refine aN (Pl l iX) fun aZ bH=>?_
  have hm:numAt ys (argBest (fun i j=>decide (numAt ys i > numAt ys j)) l.length)=l.foldl max iX:=by
   refine Int.le_antisymm (aZ _ ?_) ?_
   ·rw[numAt_eq,aQ];exact getD_mem (Nat.lt_succ_of_le q1)
   ·refine ay (mem_getD bH) fun j aR e=>?_;have:=q2 j (lA aR);rw[numAt_eq ys j,aQ,e]at this;exact this
  exact⟨_,_,_,rfl,.keeps k,r.keeps k,((show l.length+1-1=l.length from rfl).symm▸hm.symm▸(.int _ _)),⟨rfl,rfl⟩⟩
theorem Wx{ks:List (Str×Int)}{ad:Addr}(r:ao K.hb s.heap S U)(V:s.heap.get? ad=some { cls:=.type "list",data:=.seq vs.toArray n })(v:bp s.heap U Y vs)(hk:Y.mapM fy=some ks)(hn:ks.length<128)(hd:ks.Nodup) :
  wpAny (model K.prog K.w) A (call (.builtin "sorted") [.ref ad]) (cy K am (.ok (.fl ((nO ks).map we)) S) s U) E s:=by
 refine aN (I3 hk) fun hl hg=>?_
 have at_:∀(i:Nat) (aa:Value),vs[i]?=some aa->∃k,ks[i]?=some k/\hF s.heap k aa/\am s.heap U (we k) aa:=fun i aa e=>by
  have hi:=(dv e).1;rw[<- v.1]at hi;have ex:=cM hi;refine ay (hg i _ ex) fun k J L=>(b3 k J ?_ ?_)
  ·exact rg (IF L (v.2 i _ aa ex e)) fun a t gN m au aQ u=>(sZ a t gN m au aQ)
  ·have q:=v.2 i _ aa ex e;rw[ID L]at q;exact q
 have fI:∀{k:Str×Int} {aa:Value},hF s.heap k aa->Classical.epsilon (fun k=>hF s.heap k aa)=k:=fun{k aa} h=>hF.inj (Classical.epsilon_spec (p:=fun k=>hF s.heap k aa) ⟨k,h⟩) h
 have of:∀aa∈vs,hF s.heap (Classical.epsilon fun k=>hF s.heap k aa) aa/\am s.heap U (we (Classical.epsilon fun k=>hF s.heap k aa)) aa:=fun aa hu=>by
  refine aF (List.mem_iff_getElem?.mp hu) fun i e=>bw (at_ i aa e) fun k u L au=>?_;refine fI L<&>?_;exact⟨L,au⟩
 have em:vs.map (fun aa=>Classical.epsilon fun k=>hF s.heap k aa)=ks:=List.ext_getElem? fun i=>by
  rw[fc]
  cases e:vs[i]? with
  | none=>exact(List.getElem?_eq_none (by refine hl<$>v.1<&>?_;exact List.getElem?_eq_none_iff.mp e)).symm
  | some aa=>refine bw (at_ i aa e) fun k J L u=>?_;refine J<&>?_;exact congrArg some (fI L)
 refine Wy (g9 V) (fun aa hu=>(of aa hu).1) (by refine v.1<$>hl<&>?_;exact hn) (em<&>hd) fun out pm st=>?_;obtain⟨e,jh⟩:=sortedAll_at s.heap vs out;have k:∀b o,s.heap.get? b=some o->(sortedAll s.heap vs out).get? b=some o:=fun b o q=>sortedAll_old q;refine⟨_,_,_,rfl,.keeps k,r.keeps k,(Ko (em▸pm.map _) st<&>fE<&>(am.flI (by simpa using jh) (fun hm=>?_) ⟨a9 _,fun i a b J L=>?_⟩)),⟨rfl,rfl⟩⟩
 ·refine aF (r.liveAll hm) fun o q=>?_;exact absurd (eo q) (e0.mpr (Nat.le_succ _))
 ·rw[fc,L]at J;exact oi J<$>((of b (pm.mem_iff.mp (d0 L))).2.ext (.keeps (F:=[]) k))
theorem Wz{a:H}(r:ao K.hb s.heap S U)(aA:am s.heap U a x):av K am A (call (.builtin "sorted") [x]) (dN .sorted a S) s U:=by
 show av K am A _ (fm nP _ a S) s U;intro hc;refine r0 hc fun Y l J L hc e=>e<&>?_;obtain⟨ad,vs,n,rfl,V,v⟩:=lD r aA J;unfold nP at L
 cases dk:gF Y with
 | none =>
  rw[dk]at L
  exact cw L fun ks hk L=>mL L fun hq L=>by
   exact oi L<$>(Wx r V v hk hq.1 hq.2)
 | some m =>
  rw[dk]at L;dsimp only at L;refine mL L fun P6 L=>?_;refine oi L<$>?_;have bg:=CR dk v;refine sorted_ints (g9 V) bg (bg.length<&>P6) fun out Zz dL gU gD=>?_;obtain⟨e,jh⟩:=sortedAll_at s.heap vs out;rw[Ww gU gD]at dL;refine⟨_,_,_,rfl,.keeps ((fun b o q=>sortedAll_old q):∀b o,s.heap.get? b=some o->(sortedAll s.heap vs out).get? b=some o),r.keeps ((fun b o q=>sortedAll_old q):∀b o,s.heap.get? b=some o->(sortedAll s.heap vs out).get? b=some o),(am.flI (by simpa using jh) (fun hm=>?_) (Ry dL)),⟨rfl,rfl⟩⟩;refine aF (r.liveAll hm) fun o q=>?_;exact absurd (eo q) (e0.mpr (Nat.le_succ _))
theorem SD{P:H->aj H->Prop}(h0:∀a,P a .stuck)(J:∀z,z.length<=aL->P (.str z) (.ok (.int z.length) S))(L:∀a Y,eB S a=some Y->Y.length<=aL->P a (.ok (.int Y.length) S)):∀a,P a (dN .len a S):=by
 intro a
 have p5:P a (kq (fun Y=>if Y.length<=aL then aj.ok (H.int Y.length) S else .stuck) a S):=by
  unfold kq
  cases e:eB S a with
  | none=>exact h0 _
  | some Y =>
   dsimp only;by_cases hl:Y.length<=aL
   ·rw[aC hl];exact L a Y e hl
   ·rw[aV hl];exact h0 _
 cases a with
 | str z =>
  show P _ (if z.length<=aL then aj.ok (H.int z.length) S else .stuck);by_cases hl:z.length<=aL
  ·rw[aC hl];exact J z hl
  ·rw[aV hl];exact h0 _
 | _=>exact p5
theorem Yb{P:H->aj H->Prop}(h0:∀a,P a .stuck)(L:∀a Y,eB S a=some Y->Y.length<=aL->P a (.ok (.tup Y) S))(a:H):P a (dN .tuple a S):=by
 show P a (kq (fun Y=>if Y.length<=aL then aj.ok (H.tup Y) S else .stuck) a S);unfold kq
 cases e:eB S a with
 | none=>exact h0 _
 | some Y =>
  dsimp only;by_cases hl:Y.length<=aL
  ·rw[aC hl];exact L a Y e hl
  ·rw[aV hl];exact h0 _
theorem Mp{b:c5}{a:H}(hb:pg b≠.none)(hA:eJ A)(aW:vP b=true->A.handled=none)(r:ao K.hb s.heap S U)(aA:am s.heap U a x) :
  av K am A (call (pg b) [x]) (dN b a S) s U:=by
 cases b with
 | len =>
  refine SD (P:=fun a c=>am s.heap U a x->av K am A (call (.builtin "len") [x]) c s U) (fun u u hc=>absurd rfl hc) (fun z hl aA u=>?_) (fun a Y he hl aA u=>?_) a aA
  ·refine ay aA.strE fun u ae u=>ae▸?_;exact P.len_str (by have:=p4 hl;(grind)) (.here r (.int _ _))
  ·obtain⟨l,T,vs,n,rfl,dP,V,v,_⟩:=wQ r aA he;refine bZ dP (fun hl=>?_) (fun hr=>?_)
   ·subst hl;refine PyProof.Rows.len_list (g9 V) ((by rw[eY,<- v.1];exact p4 hl):(vs.toArray.size:Int)<2 ^ 63) ?_;simp only[eY,<- v.1];exact .here r (.int _ _)
   ·subst hr;refine PyProof.Rows.len_tuple (v9 V) ((by rw[eY,<- v.1];exact p4 hl):(vs.toArray.size:Int)<2 ^ 63) ?_;simp only[eY,<- v.1];exact .here r (.int _ _)
 | list a5=>exact SN r aA
 | tuple =>
  refine Yb (P:=fun a c=>am s.heap U a x->av K am A (call (.type "tuple") [x]) c s U) (fun u u hc=>absurd rfl hc) (fun a Y he hl aA u=>?_) a aA;obtain⟨l,T,vs,n,rfl,dP,V,v,ba⟩:=wQ r aA he;refine bZ dP (fun hl=>?_) (fun hr=>?_)
  ·subst hl;refine call_tuple_list (g9 V) (fun h' k=>?_) (by simpa[<- v.1]using iS hl);have bs:∀b o,s.heap.get? b=some o->(h'.push { cls:=.type "tuple",data:=.seq vs.toArray }).get? b=some o:=fun b o e=>cI _ (k b o e);refine⟨_,_,_,rfl,.keeps bs,r.keeps bs,(am.tupI (ew _ rfl) (fun hm=>?_) (v.ext (.keeps (F:=[]) bs))),⟨rfl,rfl⟩⟩;exact aF (r.liveAll hm) fun o e=>absurd (eo (k _ _ e)) (i6 _)
  ·subst hr;rw[ba rfl]at aA;exact call_tuple_tup (v9 V) ⟨_,_,_,rfl,.refl,r,aA,.refl s⟩
 | sum=>exact W9 (aW rfl) r aA
 | min=>exact TH (aW rfl) r aA
 | max=>exact Th (aW rfl) r aA
 | sorted=>exact Wz r aA
 | dict =>
  show av K am A _ (fm t7 _ a S) s U;intro hc;refine r0 hc fun Y l J L u e=>e<&>?_;obtain⟨ad,vs,n,rfl,V,v⟩:=lD r aA J;exact NK hA (aW rfl) r V v L
 | all =>
  show av K am A _ (fm op _ a S) s U;intro hc;refine r0 hc fun Y l J L u e=>?_;rw[e];obtain⟨ad,vs,n,rfl,V,v⟩:=lD r aA J;rw[LO L v]at V;exact LU hA (aW rfl) V fun h' tk k=>⟨_,_,_,rfl,.keeps k,r.keeps k,.bool _,⟨rfl,rfl⟩⟩
 | int =>
  intro hc
  cases a with
  | bool b=>refine aA.boolE▸?_;exact call_int_bool (.here r (.int _ _))
  | _=>exact absurd rfl hc
 | str =>
  intro hc
  cases a with
  | str z=>refine ay aA.strE fun u ae a3=>?_;refine ae▸?_;exact P.str_of_str ⟨_,_,_,rfl,.refl,r,.str _ _ a3,.refl s⟩
  | int i =>
   refine aF aA.intE fun u ae=>?_;refine ae▸?_
   have c8:dN .str (.int i) S=if 0<=i/\i<1000000000 then .ok (.str (Str.ofString (toString i))) S else .stuck:=rfl
   rw[c8]at hc ⊢;by_cases hl:0<=i/\i<1000000000
   ·rw[aC hl];exact P.str_of_int (Wq hl) (.here r (.str _ _ (WQ _)))
   ·rw[aV hl]at hc;exact absurd rfl hc
  | _=>exact absurd rfl hc
 | lenset=>exact absurd rfl hb
theorem ao.set{hb h h' S U}{a:Addr}{m:aX}{Jz:Obj}(r:ao hb h S U)(bP:U.ix[i]?=some a)(k:∀b o,b≠a->h.get? b=some o->h'.get? b=some o)(al:h'.get? a=some Jz)
  (o:a4 [] U h U h'->fM hb h' U m a):ao hb h' (S.set i m) U/\a4 [] U h U h':=by
 have ha:a∈U.ix:=d0 bP
 have x:a4 [] U h U h':=⟨rfl,(aI ([]) (by simp) (fun u hx=>(nomatch hx))),fun b o hb e u=>k b o (fun q=>hb (q▸ha)) e,fun b o hb u e=>.inl (k b o (fun q=>hb (q▸ha)) e),
  fun b o u e=>by
   by_cases q:b=a
   ·refine q▸?_;exact⟨Jz,al⟩
   ·exact⟨o,k b o q e⟩,rfl⟩
 refine⟨⟨fun b o e=>k b o (fun q=>?_) (r.base b o e),r.fresh,r.nodup,by simp[r.len],fun b hb=>⟨(r.hidden b hb).1,let⟨o,e⟩:=(r.hidden b hb).2;⟨o,k b o (fun q=>(r.hidden b hb).1 (q▸ha)) e⟩⟩,fun j bX cX V ah=>?_,r.hfr,r.fe,fun b hb=>⟨(r.frs b hb).1,let⟨o,e,d⟩:=(r.frs b hb).2;(aI o (k b o (fun q=>r.frNot b hb (q▸ha)) e) d)⟩,r.frNot⟩,x⟩
 ·rw[q,r.fresh a ha]at e;contradiction
 ·by_cases aR:j=i
  ·subst aR;rw[bP]at ah;refine oi ah<$>?_;rw[List.getElem?_set_self (by rw[r.len];exact(dv bP).1)]at V;refine oi V<$>?_;exact o x
  ·rw[List.getElem?_set_ne (Ne.symm aR)]at V
   have cQ:cX≠a:=fun q=>by
    subst q;exact aR ((List.getElem?_inj (dv ah).1 r.nodup).mp (ah.trans bP.symm))
   exact aF (r.live (d0 ah)) fun a8 aP=>(r.obj j bX cX V ah).ext x (aP<&>k cX a8 cQ aP<&>rfl)
theorem Js{a:H}(r:ao K.hb s.heap S U)(aA:am s.heap U a x):av K am A (unaryOp .USub x) (AT a S) s U:=by
 intro hc
 cases a with
 | int i=>refine aF aA.intE fun u ae=>?_;refine ae▸?_;exact P.neg_int (.here r (.int _ _))
 | _=>exact absurd rfl hc
theorem xa{a:H}(r:ao K.hb s.heap S U)(aA:am s.heap U a x):av K hW A (truthy x) (kv a S) s U:=by
 intro hc
 cases a with
 | bool b=>refine aA.boolE▸?_;exact wpAny_truthy_bool ⟨_,_,_,rfl,.refl,r,rfl,.refl s⟩
 | _=>exact absurd rfl hc
def BZ:oc->Option Value
 | .int=>some (.type "int") | .str=>some (.type "str") | .bool=>some (.type "bool") | .tuple=>some (.type "tuple")
 | .list=>some (.type "list")
section
variable {P:H->aj Bool->Prop}
theorem RI(h0:∀a,P a .stuck)(J:∀i,P (.int i) (.ok true S))(L:∀b,P (.bool b) (.ok true S))(au:P .none (.ok false S))(aQ:∀z,P (.str z) (.ok false S)):∀a,P a (oN a .int S):=by
 intro a
 cases a with
 | int i=>exact J i
 | bool b=>exact L b
 | none=>exact au
 | str z=>exact aQ z
 | _=>exact h0 _
theorem RH(h0:∀a,P a .stuck)(J:∀i,P (.int i) (.ok false S))(L:∀b,P (.bool b) (.ok true S))(au:P .none (.ok false S))(aQ:∀z,P (.str z) (.ok false S)):∀a,P a (oN a .bool S):=by
 intro a
 cases a with
 | int i=>exact J i
 | bool b=>exact L b
 | none=>exact au
 | str z=>exact aQ z
 | _=>exact h0 _
theorem RK(h0:∀a,P a .stuck)(J:∀i,P (.int i) (.ok false S))(L:∀b,P (.bool b) (.ok false S))(au:P .none (.ok false S))(aQ:∀z,P (.str z) (.ok true S))(dk:∀Y,P (.tup Y) (.ok false S)):∀a,P a (oN a .str S):=by
 intro a
 cases a with
 | int i=>exact J i
 | bool b=>exact L b
 | none=>exact au
 | str z=>exact aQ z
 | tup Y=>exact dk Y
 | _=>exact h0 _
theorem RL(h0:∀a,P a .stuck)(J:∀i,P (.int i) (.ok false S))(aQ:∀z,P (.str z) (.ok false S))(dk:∀Y,P (.tup Y) (.ok true S)):∀a,P a (oN a .tuple S):=by
 intro a
 cases a with
 | int i=>exact J i
 | str z=>exact aQ z
 | tup Y=>exact dk Y
 | _=>exact h0 _
theorem RJ(h0:∀a,P a .stuck)(J:∀Y,P (.tup Y) (.ok false S))(L:∀a Y,cY S a=some Y->P a (.ok true S)):∀a,P a (oN a .list S):=by
 intro a
 have p5:P a (match cY S a with | some _=>.ok true S | none=>.stuck):=by
  cases e:cY S a with
  | none=>exact h0 _
  | some Y=>exact L a Y e
 cases a with
 | tup Y=>exact J Y
 | _=>exact p5
end
theorem RO{t:oc}{ln:Value}{a:H}(ba:BZ t=some ln)(r:ao K.hb s.heap S U)(aA:am s.heap U a x) :
  av K e9 A (call (.builtin "isinstance") [x,ln]) (oN a t S) s U:=by
 have ok:∀{b:Bool} {tk:Nat},cy K e9 (.ok b S) s U (.bool b) { s with toks:=tk }:=⟨_,_,_,rfl,.refl,r,rfl,⟨rfl,rfl⟩⟩;have st:∀(ln:Value) (a:H),am s.heap U a x->av K e9 A (call (.builtin "isinstance") [x,ln]) .stuck s U:=fun u u u hc=>absurd rfl hc
 cases t with
 | int =>
  obtain rfl:=oi ba
  exact RI (P:=fun a c=>am s.heap U a x->av K e9 A (call (.builtin "isinstance") [x,.type "int"]) c s U) (st _)
   (fun i aA u=>by refine aF aA.intE fun u ae=>?_;subst ae;exact IsiPair.int_int (ok)) (fun b aA u=>by obtain rfl:=aA.boolE;exact IsiPair.bool_int (ok (tk:=s.toks)))
   (fun aA u=>by obtain rfl:=aA.noneE;exact IsiPair.NoneType_int ok) (fun z aA u=>by refine ay aA.strE fun u ae u=>?_;subst ae;exact IsiPair.str_int ok) a aA
 | bool =>
  obtain rfl:=oi ba
  exact RH (P:=fun a c=>am s.heap U a x->av K e9 A (call (.builtin "isinstance") [x,.type "bool"]) c s U) (st _)
   (fun i aA u=>by refine aF aA.intE fun u ae=>?_;obtain rfl:=ae;exact IsiPair.int_bool ok) (fun b aA u=>by obtain rfl:=aA.boolE;exact IsiPair.bool_bool (ok (tk:=s.toks)))
   (fun aA u=>by obtain rfl:=aA.noneE;exact IsiPair.NoneType_bool ok) (fun z aA u=>by refine ay aA.strE fun u ae u=>?_;obtain rfl:=ae;exact IsiPair.str_bool ok) a aA
 | str =>
  obtain rfl:=oi ba
  exact RK (P:=fun a c=>am s.heap U a x->av K e9 A (call (.builtin "isinstance") [x,.type "str"]) c s U) (st _)
   (fun i aA u=>by refine aF aA.intE fun u ae=>?_;obtain rfl:=ae;exact IsiPair.int_str ok) (fun b aA u=>by obtain rfl:=aA.boolE;exact IsiPair.bool_str ok)
   (fun aA u=>by obtain rfl:=aA.noneE;exact IsiPair.NoneType_str ok) (fun z aA u=>by refine ay aA.strE fun u ae u=>?_;exact ae▸(IsiPair.str_str (ok (tk:=s.toks))))
   (fun Y aA u=>by obtain⟨l,vs,n,rfl,V,_,v⟩:=aA.tupE;exact IsiPair.tuple_str V rfl ok) a aA
 | tuple =>
  obtain rfl:=oi ba
  exact RL (P:=fun a c=>am s.heap U a x->av K e9 A (call (.builtin "isinstance") [x,.type "tuple"]) c s U) (st _)
   (fun i aA u=>by refine aF aA.intE fun u ae=>?_;obtain rfl:=ae;exact IsiPair.int_tuple ok) (fun z aA u=>by refine ay aA.strE fun u ae u=>?_;obtain rfl:=ae;exact IsiPair.str_tuple ok)
   (fun Y aA u=>by obtain⟨l,vs,n,rfl,V,_,v⟩:=aA.tupE;exact IsiPair.tuple_tuple V rfl (ok (tk:=s.toks))) a aA
 | list =>
  obtain rfl:=oi ba
  exact RJ (P:=fun a c=>am s.heap U a x->av K e9 A (call (.builtin "isinstance") [x,.type "list"]) c s U) (st _)
   (fun Y aA u=>by obtain⟨l,vs,n,rfl,V,_,v⟩:=aA.tupE;exact IsiPair.tuple_list V rfl ok)
   (fun a Y e aA u=>by obtain⟨l,vs,n,rfl,V,v⟩:=lD r aA e;exact IsiPair.list_list V rfl (ok (tk:=s.toks))) a aA
theorem Br(i:Int)(n:Nat):fW i n=seqIndex? i n:=by
 unfold fW seqIndex?;by_cases h:0<=i
 ·have h':¬i<0:=by grind
  rw[aC h,aV h'];by_cases L:i.toNat<n
  ·exact(aC L ..).trans (aC (by simp;(grind)) ..).symm
  ·exact(aV L ..).trans (aV (by simp;(grind)) ..).symm
 ·have h':i<0:=by grind
  rw[aV h,aC h'];by_cases L:0<=i+n
  ·rw[aC L,aC (by simp;(grind))]
  ·rw[aV L,aV (by simp;(grind))]
theorem Kc{i:Int}(h:fW i n=some j):-(n:Int)<=i/\i<n:=by
 unfold fW at h
 split at h
 ·split at h
  ·(grind)
  ·contradiction
 ·split at h
  ·(grind)
  ·contradiction
theorem PF{l:Addr}{i:Int}{t:Tok}(V:s.heap.get? l=some { cls:=.type "list",data:=.seq vs.toArray n })
  (kl:vs.length<=aL) (aR:fW i vs.length=some j) (hu:vs[j]?=some aa) (h:Q aa s):wpAny (model K.prog K.w) A (getItem (.ref l) (.int i t)) Q E s:=by
 have hl:=p4 kl;unfold fW at aR;by_cases h0:0<=i
 ·rw[aC h0]at aR
  split at aR
  ·cases aR;exact wpAny_getItem_list (g9 V) h0 (by grind) (by simpa using hu) h
  ·cases aR
 ·rw[aV h0]at aR
  split at aR
  ·cases aR;exact wpAny_getItem_list_neg (g9 V) (by grind) (by simp;(grind)) (by grind) (by simpa using hu) h
  ·cases aR
theorem bp.get{p:H}(v:bp h U Y vs)(e:Y[j]?=some p):∃aa,vs[j]?=some aa/\am h U p aa:=by
 have hv:j<vs.length:=v.1▸((dv e).1);exact aI (vs[j]) (by simp[hv]) (v.2 j p vs[j] e (by simp[hv]))
theorem IB{slice:Expr}{l:Addr}{i:Int}{t:Tok}{T:String}(dP:T = "list" \/ T = "tuple")(hs:∀o i:Value,subscripted slice false o i=operate [o,i] (getItem o i))
  (r:ao K.hb s.heap S U) (V:s.heap.get? l=some { cls:=.type T,data:=.seq vs.toArray n }) (v:bp s.heap U Y vs):av K am A (subscriptTail jY slice (.ref l) (.int i t)) (nD Y i S) s U:=by
 intro hc;unfold nD at hc ⊢;by_cases hl:Y.length<=aL
 ·rw[aC hl]at hc ⊢
  cases aR:(fW i Y.length).bind (Y[·]?)with
  | none=>rw[aR]at hc;exact absurd rfl hc
  | some p =>
   refine ay (Option.bind_eq_some_iff.mp aR) fun j J L=>ay (v.get L) fun aa hu hv=>?_
   rcases dP with rfl | rfl
   ·exact tail_any (g9 V).typeIs slot_list_getitem.lookup (PF V ((v.1▸hl):vs.length<=aL) (v.1▸J) hu ⟨_,_,_,rfl,.refl,r,hv,.refl s⟩) (hs _ _)
   ·have QM:=p4 ((by exact v.1▸hl):vs.length<=aL);have hr:=Kc J;have fG:=v.1;exact item_tupleT (v9 V) (by grind) (by grind) (by refine Br<$>v.1<$>?_;exact J) hu ⟨_,_,_,rfl,.refl,r,hv,.refl s⟩ (hs _ _)
 ·rw[aV hl]at hc;exact absurd rfl hc
theorem WX{P:H->H->aj H->Prop}(h0:∀a b,P a b .stuck)(J:∀i Z k v,S[i]?=some (.ds Z)->aD k Z=some v->P (.ref i) (.str k) (.ok v S))(L:∀i b Z k v,S[i]?=some (.dp Z)->fy b=some k->aD k Z=some v->P (.ref i) b (.ok v S)):∀a b,P a b (nQ a b S):=by
 intro a b
 cases a with
 | ref i =>
  unfold nQ;dsimp only
  cases hq:S[i]? with
  | none=>exact h0 _ _
  | some m =>
   cases m with
   | ds Z =>
    cases b with
    | str k =>
     dsimp only
     cases hv:aD k Z with
     | none=>exact h0 _ _
     | some v=>exact J i Z k v hq hv
    | _=>exact h0 _ _
   | dp Z =>
    dsimp only
    cases hk:fy b with
    | none=>exact h0 _ _
    | some k =>
     show P _ _ (aj.ofOpt (aD k Z) S)
     cases hv:aD k Z with
     | none=>exact h0 _ _
     | some v=>exact L i b Z k v hq hk hv
   | _=>exact h0 _ _
 | _=>exact h0 _ _
theorem WY{slice:Expr}{a b:H}(hA:eJ A)(hs:∀o i:Value,subscripted slice false o i=operate [o,i] (getItem o i))(r:ao K.hb s.heap S U)(aA:am s.heap U a x)(br:am s.heap U b y) :
  av K am A (subscriptTail jY slice x y) (nQ a b S) s U:=
 WX (P:=fun a b c=>am s.heap U a x->am s.heap U b y->av K am A (subscriptTail jY slice x y) c s U) (fun u u u u hc=>absurd rfl hc)
  (fun i Z k v hq hv aA br u=>by
   exact ay aA.refE fun l ae eb=>ae▸(ay br.strE fun u ae u=>ae▸(ay (rc r hq eb) fun bT J u=>tail_any J.typeIs slot_dict_getitem.lookup (RZ r hq eb hv) (hs _ _))))
  (fun i b Z k v hq hk hv aA br u=>by
   refine ay aA.refE fun l ae eb=>?_;refine ae▸?_
   exact ay (rb r hq eb) fun Y J u=>tail_any J.typeIs slot_dict_getitem.lookup (RY hA r hq eb hk br hv) (hs _ _)) a b aA br
theorem W6{P:H->H->aj H->Prop}(h0:∀a b,P a b .stuck)(J:∀z i c,z.cps.size<=aL->(fW i z.cps.size).bind (z.cps[·]?)=some c->P (.str z) (.int i) (.ok (.str ⟨#[c]⟩) S))(L:∀Y i,P (.tup Y) (.int i) (nD Y i S))(au:∀a Y i,cY S a=some Y->P a (.int i) (nD Y i S))
  (aQ:∀a b,P a b (nQ a b S))
  : ∀a b,P a b (ga a b S):=by
 intro a b
 cases b with
 | int i =>
  have p5:P a (.int i) (match cY S a with | some Y=>nD Y i S | none=>.stuck):=by
   cases e:cY S a with
   | none=>exact h0 _ _
   | some Y=>exact au a Y i e
  cases a with
  | tup Y=>exact L Y i
  | str z =>
   show P _ _ (if z.cps.size<=aL then(match(fW i z.cps.size).bind (z.cps[·]?)with | some c=>aj.ok (.str ⟨#[c]⟩) S | none=>.stuck)else .stuck);by_cases hl:z.cps.size<=aL
   ·rw[aC hl]
    cases aR:(fW i z.cps.size).bind (z.cps[·]?)with
    | none=>exact h0 _ _
    | some c=>exact J z i c hl aR
   ·rw[aV hl];exact h0 _ _
  | _=>exact p5
 | _=>exact aQ a _
theorem W5{slice:Expr}{o i:Value}:(∀l aa p,slice≠.Slice l aa none p)->subscripted slice false o i=operate [o,i] (getItem o i):=by
 apply @PySem.Expr.casesOn (fun slice=>(∀l aa p,slice≠.Slice l aa none p)->subscripted slice false o i=operate [o,i] (getItem o i)) slice
 case Slice =>
  intro l aa st p h
  cases st with
  | none=>exact absurd rfl (h l aa p)
  | some _=>rfl
 all_goals (intros;rfl)
theorem W7{slice:Expr}{a b:H}(hA:eJ A)(zU:∀l aa p,slice≠.Slice l aa none p)(r:ao K.hb s.heap S U)(aA:am s.heap U a x)(br:am s.heap U b y) :
  av K am A (subscriptTail jY slice x y) (ga a b S) s U:=by
 have hs:=fun o i=>W5 (o:=o) (i:=i) zU
 refine W6 (P:=fun a b c=>am s.heap U a x->am s.heap U b y->av K am A (subscriptTail jY slice x y) c s U) (fun u u u u hc=>absurd rfl hc) (fun z i c hl aR aA br hc=>?_) (fun Y i aA br=>?_) (fun a Y i J aA br=>?_)
  (fun a b aA br=>WY hA hs r aA br)
  a b aA br
 ·refine ay aA.strE fun u ae a3=>?_;subst ae;refine aF br.intE fun t ae=>?_;subst ae;have QM:=p4 hl;refine ay (Option.bind_eq_some_iff.mp aR) fun j J L=>?_;have hr:=Kc J;refine tail_any (typeIs_str s z _) F.slot_str_getitem.lookup ?_ (hs _ _);refine P.getItem_str (by simp;(grind)) (by refine Br<$>?_;exact aR) (.here r (.str _ _ ?_));unfold PyData.strOk at a3 ⊢;simp only[Array.all_eq_true']at a3 ⊢;intro d hd;simp at hd;exact hd▸(a3 _ (Array.mem_of_getElem? L))
 ·obtain⟨l,vs,n,rfl,V,_,v⟩:=aA.tupE;refine aF br.intE fun t ae=>?_;obtain rfl:=ae;exact IB (.inr rfl) hs r V v
 ·obtain⟨l,vs,n,rfl,V,v⟩:=lD r aA J;exact aF br.intE fun t ae=>ae▸(IB (.inl rfl) hs r V v)
structure uG(env:Env):Prop where
 kind:env.scope.kind=.function
 glob:env.globals=mainGlobals
 bins:env.builtins=builtinsNs
 ws:∀(i:Nat) (x:Str) (k:NameKind),env.scope.names[i]?=some (x,k)->env.kindOf x=some k
 nodbg:∀(i:Nat) (x:Str) (k:NameKind),env.scope.names[i]?=some (x,k)->(x == ("__debug__" : Str))=false
structure a2(env:Env)(R:aB)(h:Heap)(U:aw):Prop where
 ok:uG env
 la:env.locals∉U.all
 ns:∃m,h.Ns env.locals m/\∀(i:Nat) (x:Str) (v:H),env.scope.names[i]?=some (x,.local)->R[i]?=some (some v)->∃aa,m x=some aa/\am h U v aa
 ca:∀x c,env.cells.lookup x=some c->c∉U.all/\c≠env.locals/\∃v,h.IsCell c v
 cd:∀x y c,env.cells.lookup x=some c->env.cells.lookup y=some c->x=y
 cv:∀(i:Nat) (x:Str),env.scope.names[i]?=some (x,.cell)->∃c,env.cells.lookup x=some c/\∀v,R[i]?=some (some v)->∃aa,h.IsCell c (some aa)/\am h U v aa
 inb:∀(i:Nat) (v:H),R[i]?=some (some v)->∃x k,env.scope.names[i]?=some (x,k)/\(k=.local\/k=.cell)
theorem M9{c:Addr}{v:Option Value}(Ly:h.get? c=some o)(xO:o.data=.cell v)(x:j7 fr h' c o):h'.get? c=some o:=x.same (by intro hq;refine eM hq fun Z n q=>?_;rw[xO]at q;cases q)
theorem rJ{F U h α' h'}{c:Addr}{v:Option Value}(x:a4 F U h α' h')(hc:c∉U.ix)(bW:c∉F)(i:h.IsCell c v):h'.IsCell c v:=by
 exact ay i fun o e d=>(aI o (M9 e d (x.rest c o hc bW e)) d)
theorem wB{F U h α' h'}{a:Addr}{m:Str->Option Value}(x:a4 F U h α' h')(ha:a∉U.ix)(bW:a∉F)(n:h.Ns a m):h'.Ns a m:=by
 exact jc (id n) fun o Z c0 e r=>(x.rest a o ha bW e).ns n e
def nW(env:Env)(F:List Addr):Prop:=env.locals∉F/\∀x c,env.cells.lookup x=some c->c∉F
theorem nW.nil:nW env []:=⟨(dM),fun u u u=>(dM)⟩
theorem a2.ext{F U h α' h'}(x:a4 F U h α' h')(ap:nW env F)(E:a2 env R h U):a2 env R h' α':=by
 exact ay E.ns fun m n hm=>jc (id n) fun UD u u yf u=>⟨E.ok,x.notAll E.la yf,(aI m (wB x (aw.not_ix E.la) ap.1 n) (fun i y v V ah=>(ay (hm i y v V ah) fun aa J L=>(aI aa J (L.ext x))))),fun y c hc=>(d6 (E.ca y c hc) fun J L bB=>aF bB fun v au=>ay (id au) fun o e d=>⟨x.notAll J e,L,v,rJ x (aw.not_ix J) (ap.2 y c hc) au⟩),E.cd,fun i y V=>(ay (E.cv i y V) fun c hc hv=>(aI c hc (fun v ah=>ay (hv v ah) fun aa J L=>(aI aa (rJ x (aw.not_ix (E.ca y c hc).1) (ap.2 y c hc) J) (L.ext x))))),E.inb⟩
set_option tactic.hygienic true in
theorem Jm{x:Str}{k:NameKind}{p:Pos}(r:ao K.hb s.heap S U)(E:a2 env R s.heap U)(hn:env.scope.names[i]?=some (x,k)) :
  av K am A (eval (.Name x p) env) (ev C (.v i) R S) s U:=by
 intro hc;simp only[Op,uy]at hc ⊢
 split at hc
 ·rename_i v hv;refine cG (E.inb i v hv) fun aS bs J L=>?_;rw[hn]at J;cases J;have hk:=E.ok.ws i x k hn;refine wpAny_Name (bZ L (fun hl=>?_) (fun hr=>?_)) (E.ok.nodbg i x k hn)
  ·subst hl;exact ay E.ns fun m n hm=>ay (hm i x v hn hv) fun aa au aQ=>wpAny_loadName_local E.ok.kind hk n au ⟨_,_,_,rfl,.refl,r,aQ,.refl s⟩
  ·subst hr;exact ay (E.cv i x hn) fun c au aQ=>ay (aQ v hv) fun aa dk g6=>wpAny_loadName_cell E.ok.kind hk au dk ⟨_,_,_,rfl,.refl,r,g6,.refl s⟩
 ·exact absurd rfl hc
theorem AQ{x:Str}{p:Pos}{v:Value}{X:Value->Shared->Prop}(hK:K.Ok)(r:ao K.hb s.heap S U)(E:uG env)(hn:env.scope.names[i]?=some (x,.globalImplicit))
  (hv:K.mg x=some v) (h:Q v s):wpAny (model K.prog K.w) A (eval (.Name x p) env) Q X s:=
 Calls.Name_function_global E.kind (E.ws i x _ hn) (Calls.loadGlobal_global (E.glob<&>(hK.g.keeps r.base)) hv h) (E.nodbg i x _ hn)
theorem T2{x:Str}{p:Pos}{v:Value}{X:Value->Shared->Prop}(hK:K.Ok)(r:ao K.hb s.heap S U)(E:uG env)(hn:env.scope.names[i]?=some (x,.globalImplicit))
  (hm:K.mg x=none) (hv:K.mb x=some v) (h:Q v s):wpAny (model K.prog K.w) A (eval (.Name x p) env) Q X s:=
 Calls.Name_function_global E.kind (E.ws i x _ hn) (Calls.loadGlobal_builtin (by rw[E.glob];exact hK.g.keeps r.base) hm (by rw[E.bins];exact hK.b.keeps r.base) hv h) (E.nodbg i x _ hn)
theorem am.re(J:∀(i:Nat) (a:Addr),U.ix[i]?=some a->α'.ix[i]?=some a)(L:∀a,a∈α'.all->a∈U.all){p:H}{v:Value}(r:am h U p v):am h α' p v:=by
 induction r with
 | none=>exact .none
 | bool b=>exact .bool b
 | int i t=>exact .int i t
 | str s t hs=>exact .str s t hs
 | tup e hn hl _ af=>exact .tup e (fun q=>hn (L _ q)) hl af
 | fl e hn hl _ af=>exact .fl e (fun q=>hn (L _ q)) hl af
 | exc e hc hd hn=>exact .exc e hc hd (fun q=>hn (L _ q))
 | inst e hn hi=>exact .inst e (fun q=>hn (L _ q)) (J _ _ hi)
 | ref e=>exact .ref (J _ _ e)
theorem am.hide(hD:h.get? D=Option.none){p:H}{v:Value}(r:am h U p v):am h ⟨U.ix,D::U.hid,U.fr⟩ p v:=by
 have key:∀{a:Addr} {o:Obj},h.get? a=some o->a∉U.all->a∉(⟨U.ix,D::U.hid,U.fr⟩:aw).all:=fun{a o} e hn q=>by
  rcases dt.mp q with q | q
  ·exact hn (hX _ q)
  ·rcases bY.mp q with q | q
   ·subst q;rw[hD]at e;contradiction
   ·exact hn (fb _ q)
 induction r with
 | none=>exact .none
 | bool b=>exact .bool b
 | int i t=>exact .int i t
 | str s t hs=>exact .str s t hs
 | tup e hn hl _ af=>exact .tup e (key e hn) hl af
 | fl e hn hl _ af=>exact .fl e (key e hn) hl af
 | exc e hc hd hn=>exact .exc e hc hd (key e hn)
 | inst e hn hi=>exact .inst e (key e hn) hi
 | ref e=>exact .ref e
theorem bp.re(J:∀(i:Nat) (a:Addr),U.ix[i]?=some a->α'.ix[i]?=some a)(L:∀a,a∈α'.all->a∈U.all){p:List H}{v:List Value}(r:bp h U p v):bp h α' p v:=
 ⟨r.1,fun i x y V ah=>(r.2 i x y V ah).re J L⟩
theorem aw.not_hide{a:Addr}(hD:h.get? D=none)(e:h.get? a=some o)(hn:a∉U.all):a∉(⟨U.ix,D::U.hid,U.fr⟩:aw).all:=fun q=>by
 rcases dt.mp q with q | q
 ·exact hn (hX _ q)
 ·rcases bY.mp q with q | q
  ·subst q;rw[hD]at e;contradiction
  ·exact hn (fb _ q)
theorem am.sameBut(hD:D∈U.all)(k:∀b,b≠D->h'.get? b=h.get? b){p:H}{v:Value}(r:am h U p v):am h' U p v:=by
 induction r with
 | none=>exact .none
 | bool b=>exact .bool b
 | int i t=>exact .int i t
 | str s t hs=>exact .str s t hs
 | tup e hn hl _ af=>exact .tup ((k _ (by rintro rfl;exact hn hD)).trans e) hn hl af
 | fl e hn hl _ af=>exact .fl ((k _ (by rintro rfl;exact hn hD)).trans e) hn hl af
 | exc e hc hd hn=>exact .exc ((k _ (by rintro rfl;exact hn hD)).trans e) hc hd hn
 | inst e hn hi=>exact .inst ((k _ (by rintro rfl;exact hn hD)).trans e) hn hi
 | ref e=>exact .ref e
theorem bp.sameBut(hD:D∈U.all)(k:∀b,b≠D->h'.get? b=h.get? b){p:List H}{v:List Value}(r:bp h U p v):bp h' U p v:=
 ⟨r.1,fun i x y V ah=>(r.2 i x y V ah).sameBut hD k⟩
def uM(K:bc)(A:Around)(it v:Value)(P:Shared->Prop)(s:Shared):Prop:=
 ∀(kT:List Expr) (k:Nat) (pos:Pos) (Q:Unit->Shared->Prop) (E:Value->Shared->Prop),(∀s',P s'->Q () s')->wpAny (model K.prog K.w) A (letOwnedTupleGo (.Tuple kT k pos) it v) Q E s
def A5:List String:=["enumerate", "zip", "dict_itemiterator", "dict_reverseitemiterator", "odict_iterator", "itertools.zip_longest", "itertools.pairwise"]
theorem t6{n:String}{v:Value}{P:Shared->Prop}(e:s.heap.get? I=some o)(hc:o.cls=.type n)(hn:A5.contains n=false)(h:P s):uM K A (.ref I) v P s:=by
 intro kT k pos Q E bf;have hq:=bf s h
 cases v with
 | ref a =>
  apply df (fun u q=>wpAny_load e q);obtain⟨c,d,DH,eC⟩:=o;dsimp only at hc;refine hc▸?_
  cases DH with
  | fields vs =>
   show wpAny _ A (if(A5.contains n&&vs[0]? == some (rawInt a))=true then _ else _) Q E s;exact hn<&>(bh hq)
  | _=>exact bh hq
 | _=>exact bh hq
structure hG(K:bc)(A:Around)(en:Bool)(own:List Addr)(it:Value)(Y:List H)(wt:Option (Nat×aX))(St:Nat->Heap->aw->Prop):Prop where
 live:∀i h U,St i h U->∀b∈own,∃o,h.get? b=some o
 apart:∀i h U,St i h U->∀b∈own,b∉U.all
 frame:∀i F U h α' h',St i h U->a4 F U h α' h'->(∀b∈own,b∉F)->St i h' α'
 but:∀i D U h h',St i h U->D∈U.all->(∀b,b≠D->h'.get? b=h.get? b)->St i h' U
 hide:∀i D U h,St i h U->h.get? D=none->St i h ⟨U.ix,D::U.hid,U.fr⟩
 item:∀(i:Nat) (s:Shared) (S:ab) (U:aw) (p:H),Y[i]?=some p->St i s.heap U->ao K.hb s.heap S U->hT wt S->∀(Q:Option Value->Shared->Prop) (E:Value->Shared->Prop),
  (∀v s',am s'.heap U p v->(en=false->St (i+1) s'.heap U)->uM K A it v (fun bi=>am bi.heap U p v/\St (i+1) bi.heap U/\a4 own U s'.heap U bi.heap/\ao K.hb bi.heap S U/\cC s' bi) s'->a4 own U s.heap U s'.heap->ao K.hb s'.heap S U->cC s s'->Q (some v) s')->wpAny (model K.prog K.w) A (pyNext it) Q E s
 done:∀(s:Shared) (S:ab) (U:aw),St Y.length s.heap U->ao K.hb s.heap S U->hT wt S->∀(Q:Option Value->Shared->Prop) (E:Value->Shared->Prop),
  (∀s',a4 own U s.heap U s'.heap->ao K.hb s'.heap S U->cC s s'->Q none s')->wpAny (model K.prog K.w) A (pyNext it) Q E s
 self:∀(i:Nat) (s:Shared) (U:aw),St i s.heap U->∀(Q:Value->Shared->Prop) (E:Value->Shared->Prop),Q it s->wpAny (model K.prog K.w) A (pyIter it) Q E s
theorem ao.but{hb h h' S U}(r:ao hb h S U)(Hw:I∉U.all)(g7:hb.get? I=none)(k:∀b o,b≠I->h.get? b=some o->h'.get? b=some o)
  (hs:∀o,h.get? I=some o->¬ly o) (hd:I∈hb.fr->∀o,h.get? I=some o->io o->∃a8,h'.get? I=some a8/\io a8):ao hb h' S U/\a4 [I] U h U h':=by
 have x:a4 [I] U h U h':=⟨rfl,(aI ([]) (by simp) (fun u hx=>(nomatch hx))),fun b o hb e q=>k b o (fun z=>by cases z;exact hs o e q) e,fun b o hb bW e=>.inl (k b o (by simpa using bW) e),fun b o bW e=>⟨o,k b o (by simpa using bW) e⟩,rfl⟩;refine⟨⟨fun b o e=>k b o (fun q=>by rw[q,g7]at e;contradiction) (r.base b o e),r.fresh,r.nodup,r.len,fun b hb=>⟨(r.hidden b hb).1,?_⟩,fun j m a V ah=>?_,r.hfr,r.fe,fun b hb=>⟨(r.frs b hb).1,?_⟩,r.frNot⟩,x⟩
 ·exact aF ((r.hidden b hb).2) fun o e=>⟨o,k b o (fun q=>((fun q=>Hw (fb _ q)):I∉U.hid) (q▸hb)) e⟩
 ·exact aF (r.live (d0 ah)) fun a8 aP=>(r.obj j m a V ah).ext x (aP<&>k a a8 (fun q=>((aw.not_ix Hw):I∉U.ix) (q▸d0 ah)) aP<&>rfl)
 ·obtain⟨_,o,e,d⟩:=r.frs b hb;by_cases q:b=I
  ·cases q;exact hd hb o e d
  ·exact aI o (k b o q e) d
theorem mF{c:Addr}{v:Array Value}(Ly:h.get? c=some o)(xO:o.data=.fields v)(x:j7 fr h' c o):h'.get? c=some o:=x.same (by intro hq;refine eM hq fun Z n q=>?_;rw[xO]at q;contradiction)
theorem je{v:Array Value}{T:String}(d:o.data=.fields v)(hc:o.cls=.type T):¬ly o:=by
 rintro(⟨Y,n,e⟩ | ⟨C,vs,e,_⟩ | ⟨C,e,_⟩)
 ·rw[d]at e;contradiction
 ·rw[hc]at e;contradiction
 ·rw[hc]at e;contradiction
theorem jd{v:Array Value}(d:o.data=.fields v):¬io o:=by
 intro hq;refine eM hq fun Y n e=>?_;rw[d]at e;contradiction
theorem hG.list(hA:eJ A)(aW:A.handled=none){l:Addr}(g7:K.hb.get? I=none) :
  hG K A en [I] (.ref I) Y none (fun i h U=>h.IsListIter I l i/\I∉U.all/\am h U (.fl Y) (.ref l)) where
 live:=fun i h U st b hb=>by simp at hb;subst hb;obtain⟨⟨o,e,_⟩,_⟩:=st;exact⟨o,e⟩
 apart:=fun i h U st b hb=>by simp at hb;subst hb;exact st.2.1
 frame:=fun i F U h α' h' st x bW=>by
  obtain⟨⟨o,e,hc,hd⟩,bg,v⟩:=st;exact⟨(b3 o (mF e hd (x.rest I o (aw.not_ix bg) (bW I (be)) e)) hc hd),x.notAll bg e,v.ext x⟩
 but:=fun i D U h h' st hD k=>by
  obtain⟨⟨o,e,hc,hd⟩,bg,v⟩:=st;exact⟨(b3 o ((k I (fun q=>bg (q▸hD))).trans e) hc hd),bg,v.sameBut hD k⟩
 hide:=fun i D U h st hD=>by
  obtain⟨⟨o,e,hc,hd⟩,bg,v⟩:=st;exact⟨⟨o,e,hc,hd⟩,aw.not_hide hD e bg,v.hide hD⟩
 item:=fun i s S U p hp st r u Q E bf=>by
  refine d6 st fun bS bg v=>?_;obtain⟨lT,vs,n,hl,V,hn,w⟩:=v.flE;cases hl;refine ay (w.get hp) fun aa hu hv=>bw (id bS) fun o e hc hd=>wpAny_pyNext_list_item bS (g9 V) (by simpa using hu) fun h' fh eS=>?_
  obtain⟨aO,x⟩:=r.but bg g7 (fun b o hb e=>(eS.2 b hb).trans e) (fun a8 aP=>by rw[e]at aP;obtain rfl:=oi aP;exact je hd hc) fun u a8 aP cZ=>by rw[e]at aP;obtain rfl:=oi aP;exact absurd cZ (jd hd)
  exact bw (id fh) fun a8 aP c1 u=>bf aa _ (hv.ext x) (fun u=>⟨fh,bg,v.ext x⟩) (t6 aP c1 ⋯ ⟨hv.ext x,⟨fh,bg,v.ext x⟩,.refl,aO,.refl _⟩) x aO ⟨rfl,rfl⟩
 done:=fun s S U st r u Q E bf=>by
  refine d6 st fun bS bg v=>?_;obtain⟨lT,vs,n,hl,V,hn,w⟩:=v.flE;cases hl;refine bw (id bS) fun o e hc hd=>wpAny_pyNext_list_end aW bS (g9 V) (by simp[w.1]) fun h' jh=>?_
  obtain⟨aO,x⟩:=r.but bg g7 (fun b o hb e=>jh b o hb e) (fun a8 aP=>by rw[e]at aP;obtain rfl:=oi aP;exact je hd hc) fun u a8 aP cZ=>by rw[e]at aP;obtain rfl:=oi aP;exact absurd cZ (jd hd)
  exact bf _ x aO ⟨rfl,rfl⟩
 self:=fun i s U st Q E bf=>wpAny_pyIter_listiter st.1 bf
theorem hG.mlist(hA:eJ A)(aW:A.handled=none){l:Addr}(g7:K.hb.get? I=none) :
  hG K A en [I] (.ref I) Y (some (j,.lst Y)) (fun i h U=>h.IsListIter I l i/\I∉U.all/\U.ix[j]?=some l) where
 live:=fun i h U st b hb=>by simp at hb;subst hb;obtain⟨⟨o,e,_⟩,_⟩:=st;exact⟨o,e⟩
 apart:=fun i h U st b hb=>by simp at hb;subst hb;exact st.2.1
 frame:=fun i F U h α' h' st x bW=>by
  obtain⟨⟨o,e,hc,hd⟩,bg,v⟩:=st;exact⟨(b3 o (mF e hd (x.rest I o (aw.not_ix bg) (bW I (be)) e)) hc hd),x.notAll bg e,x.get v⟩
 but:=fun i D U h h' st hD k=>by
  obtain⟨⟨o,e,hc,hd⟩,bg,v⟩:=st;exact⟨(b3 o ((k I (fun q=>bg (q▸hD))).trans e) hc hd),bg,v⟩
 hide:=fun i D U h st hD=>by
  obtain⟨⟨o,e,hc,hd⟩,bg,v⟩:=st;exact⟨⟨o,e,hc,hd⟩,aw.not_hide hD e bg,v⟩
 item:=fun i s S U p hp st r wt Q E bf=>by
  refine d6 st fun bS bg v=>cG (r.obj j _ l wt v) fun vs n V w=>ay (w.get hp) fun aa hu hv=>bw (id bS) fun o e hc hd=>wpAny_pyNext_list_item bS (g9 V) (by simpa using hu) fun h' fh eS=>?_
  obtain⟨aO,x⟩:=r.but bg g7 (fun b o hb e=>(eS.2 b hb).trans e) (fun a8 aP=>by rw[e]at aP;obtain rfl:=oi aP;exact je hd hc) fun u a8 aP cZ=>by rw[e]at aP;obtain rfl:=oi aP;exact absurd cZ (jd hd)
  exact bw (id fh) fun a8 aP c1 u=>bf aa _ (hv.ext x) (fun u=>⟨fh,bg,v⟩) (t6 aP c1 ⋯ ⟨hv.ext x,⟨fh,bg,v⟩,.refl,aO,.refl _⟩) x aO ⟨rfl,rfl⟩
 done:=fun s S U st r wt Q E bf=>by
  refine d6 st fun bS bg v=>cG (r.obj j _ l wt v) fun vs n V w=>bw (id bS) fun o e hc hd=>wpAny_pyNext_list_end aW bS (g9 V) (by simp[w.1]) fun h' jh=>?_
  obtain⟨aO,x⟩:=r.but bg g7 (fun b o hb e=>jh b o hb e) (fun a8 aP=>by rw[e]at aP;obtain rfl:=oi aP;exact je hd hc) fun u a8 aP cZ=>by rw[e]at aP;obtain rfl:=oi aP;exact absurd cZ (jd hd)
  exact bf _ x aO ⟨rfl,rfl⟩
 self:=fun i s U st Q E bf=>wpAny_pyIter_listiter st.1 bf
theorem hG.signs{x:Str}{t:Tok}{m0:String}(g7:K.hb.get? I=none)(hx:PyData.strOk x=true)(pR:A5.contains m0=false)
  (RR:∀(s:Shared) (i c:Nat) (Q:Option Value->Shared->Prop) (E:Value->Shared->Prop),s.heap.IsStrIter I m0 x t i->x.cps[i]?=some c ->
   (∀h',h'.IsStrIter I m0 x t (i+1)->Heap.SameBut I s.heap h'->Q (some (.str ⟨#[c]⟩ s.toks)) { s with heap:=h',toks:=s.toks+1 })->wpAny (model K.prog K.w) A (pyNext (.ref I)) Q E s)
  (RS:∀(s:Shared) (i:Nat) (Q:Option Value->Shared->Prop) (E:Value->Shared->Prop),s.heap.IsStrIter I m0 x t i->x.cps[i]?=none->(∀h',Heap.ExtBut I s.heap h'->Q none { s with heap:=h' })->wpAny (model K.prog K.w) A (pyNext (.ref I)) Q E s)
  (RT:∀(s:Shared) (i:Nat) (Q:Value->Shared->Prop) (E:Value->Shared->Prop),s.heap.IsStrIter I m0 x t i->Q (.ref I) s->wpAny (model K.prog K.w) A (pyIter (.ref I)) Q E s) :
  hG K A en [I] (.ref I) (wT x) none (fun i h U=>h.IsStrIter I m0 x t i/\I∉U.all) where
 live:=fun i h U st b hb=>by simp at hb;refine hb▸?_;obtain⟨⟨o,e,_⟩,_⟩:=st;exact⟨o,e⟩
 apart:=fun i h U st b hb=>by simp at hb;exact hb▸st.2
 frame:=fun i F U h α' h' st x bW=>by
  obtain⟨⟨o,e,hc,hd⟩,bg⟩:=st;exact⟨(b3 o (mF e hd (x.rest I o (aw.not_ix bg) (bW I (be)) e)) hc hd),x.notAll bg e⟩
 but:=fun i D U h h' st hD k=>by
  obtain⟨⟨o,e,hc,hd⟩,bg⟩:=st;exact⟨(b3 o ((k I (fun q=>bg (q▸hD))).trans e) hc hd),bg⟩
 hide:=fun i D U h st hD=>by
  obtain⟨⟨o,e,hc,hd⟩,bg⟩:=st;exact⟨⟨o,e,hc,hd⟩,aw.not_hide hD e bg⟩
 item:=fun i s S U p hp st r u Q E bf=>by
  refine aN st fun bS bg=>bw (id bS) fun o e hc hd=>?_;simp only[wT,fc]at hp;refine ay (ol.mp hp) fun c pI ae=>?_;subst ae;refine RR s i c Q E bS ((kb)▸pI) fun h' fh eS=>?_
  obtain⟨aO,aS⟩:=r.but bg g7 (fun b o hb e=>(eS.2 b hb).trans e) (fun a8 aP=>by rw[e]at aP;obtain rfl:=oi aP;exact je hd hc) fun u a8 aP cZ=>by rw[e]at aP;obtain rfl:=oi aP;exact absurd cZ (jd hd)
  refine bw (id fh) fun a8 aP c1 u=>?_
  have dg:PyData.strOk ⟨#[c]⟩=true:=by
   unfold PyData.strOk at hx ⊢;simp only[Array.all_eq_true']at hx ⊢;intro d fg;simp at fg;exact fg▸(hx _ (Array.mem_of_getElem? (by exact(kb)▸pI)))
  exact bf _ _ (.str _ _ dg) (fun u=>⟨fh,bg⟩) (t6 aP c1 pR ⟨.str _ _ dg,⟨fh,bg⟩,.refl,aO,.refl _⟩) aS aO ⟨rfl,rfl⟩
 done:=fun s S U st r u Q E bf=>by
  refine aN st fun bS bg=>bw (id bS) fun o e hc hd=>RS s _ Q E bS (by simp[wT]) fun h' jh=>?_
  obtain⟨aO,aS⟩:=r.but bg g7 (fun b o hb e=>jh b o hb e) (fun a8 aP=>by rw[e]at aP;obtain rfl:=oi aP;exact je hd hc) fun u a8 aP cZ=>by rw[e]at aP;obtain rfl:=oi aP;exact absurd cZ (jd hd)
  exact bf _ aS aO ⟨rfl,rfl⟩
 self:=fun i s U st Q E bf=>RT s i Q E st.1 bf
theorem rK{a:Addr}{items:List Value}(e:s.heap.get? a=some { cls:=.type "tuple",data:=.seq items.toArray n }):s.heap.IsTuple a items.toArray:=⟨_,e,rfl,n,rfl⟩
theorem hG.tuple(hA:eJ A)(aW:A.handled=none){l:Addr}(g7:K.hb.get? I=none) :
  hG K A en [I] (.ref I) Y none (fun i h U=>h.IsTupleIter I l i/\I∉U.all/\am h U (.tup Y) (.ref l)) where
 live:=fun i h U st b hb=>by simp at hb;subst hb;obtain⟨⟨o,e,_⟩,_⟩:=st;exact⟨o,e⟩
 apart:=fun i h U st b hb=>by simp at hb;subst hb;exact st.2.1
 frame:=fun i F U h α' h' st x bW=>by
  obtain⟨⟨o,e,hc,hd⟩,bg,v⟩:=st;exact⟨(b3 o (mF e hd (x.rest I o (aw.not_ix bg) (bW I (be)) e)) hc hd),x.notAll bg e,v.ext x⟩
 but:=fun i D U h h' st hD k=>by
  obtain⟨⟨o,e,hc,hd⟩,bg,v⟩:=st;exact⟨(b3 o ((k I (fun q=>bg (q▸hD))).trans e) hc hd),bg,v.sameBut hD k⟩
 hide:=fun i D U h st hD=>by
  obtain⟨⟨o,e,hc,hd⟩,bg,v⟩:=st;exact⟨⟨o,e,hc,hd⟩,aw.not_hide hD e bg,v.hide hD⟩
 item:=fun i s S U p hp st r u Q E bf=>by
  refine d6 st fun bS bg v=>?_;obtain⟨lT,vs,n,hl,V,hn,w⟩:=v.tupE;cases hl;refine ay (w.get hp) fun aa hu hv=>bw (id bS) fun o e hc hd=>wpAny_pyNext_tuple_item bS (rK V) (by simpa using hu) fun h' fh eS=>?_
  obtain⟨aO,x⟩:=r.but bg g7 (fun b o hb e=>(eS.2 b hb).trans e) (fun a8 aP=>by rw[e]at aP;obtain rfl:=oi aP;exact je hd hc) fun u a8 aP cZ=>by rw[e]at aP;obtain rfl:=oi aP;exact absurd cZ (jd hd)
  exact bw (id fh) fun a8 aP c1 u=>bf aa _ (hv.ext x) (fun u=>⟨fh,bg,v.ext x⟩) (t6 aP c1 ⋯ ⟨hv.ext x,⟨fh,bg,v.ext x⟩,.refl,aO,.refl _⟩) x aO ⟨rfl,rfl⟩
 done:=fun s S U st r u Q E bf=>by
  refine d6 st fun bS bg v=>?_;obtain⟨lT,vs,n,hl,V,hn,w⟩:=v.tupE;cases hl;refine bw (id bS) fun o e hc hd=>wpAny_pyNext_tuple_end aW bS (rK V) (by simp[w.1]) fun h' jh=>?_
  obtain⟨aO,x⟩:=r.but bg g7 (fun b o hb e=>jh b o hb e) (fun a8 aP=>by rw[e]at aP;obtain rfl:=oi aP;exact je hd hc) fun u a8 aP cZ=>by rw[e]at aP;obtain rfl:=oi aP;exact absurd cZ (jd hd)
  exact bf _ x aO ⟨rfl,rfl⟩
 self:=fun i s U st Q E bf=>wpAny_pyIter_tupleiter st.1 bf
theorem hG.range(hA:eJ A)(aW:A.handled=none){a c:Int}(g7:K.hb.get? I=none) :
  hG K A en [I] (.ref I) (cR a c n) none (fun i h U=>IsRangeIter h I (a+(i:Nat)*c) ((n:Int)-(i:Nat)) c/\I∉U.all) where
 live:=fun i h U st b hb=>by simp at hb;subst hb;exact⟨_,st.1⟩
 apart:=fun i h U st b hb=>by simp at hb;subst hb;exact st.2
 frame:=fun i F U h α' h' st x bW=>by
  exact aN st fun e bg=>⟨mF e rfl (x.rest I _ (aw.not_ix bg) (bW I (be)) e),x.notAll bg e⟩
 but:=fun i D U h h' st hD k=>by
  exact aN st fun e bg=>⟨(k I (fun q=>bg (q▸hD))).trans e,bg⟩
 hide:=fun i D U h st hD=>by
  exact aN st fun e bg=>⟨e,aw.not_hide hD e bg⟩
 item:=fun i s S U p hp st r u Q E bf=>by
  refine aN st fun bS bg=>?_
  have hi:i<n:=by have:=(dv hp).1;simpa[cR]using this
  have z0:p=.int (a+(i:Int)*c):=by
   simp only[cR,fc,List.getElem?_range hi,Option.map_some,Option.some.injEq]at hp;exact hp.symm
  subst z0;refine wpAny_pyNext_range_item bS (by grind) fun h' fh eS=>?_
  obtain⟨aO,x⟩:=r.but bg g7 (fun b o hb e=>(eS.2 b hb).trans e) (fun a8 aP=>by rw[show s.heap.get? I=_ from bS]at aP;refine oi aP<$>?_;exact je rfl rfl) fun u a8 aP cZ=>by rw[show s.heap.get? I=_ from bS]at aP;obtain rfl:=oi aP;exact absurd cZ (jd rfl)
  have dH:IsRangeIter h' I (a+((i+1:Nat):Int)*c) ((n:Int)-((i+1:Nat):Int)) c:=by exact((by push_cast;rw[Int.add_mul,Int.one_mul,Int.add_assoc]):a+((i+1:Nat):Int)*c=a+(i:Int)*c+c).symm▸((by push_cast;(grind)):(n:Int)-((i+1:Nat):Int)=(n:Int)-(i:Int)-1).symm▸fh
  exact bf _ _ (.int _ _) (fun u=>⟨dH,bg⟩) (t6 fh rfl ⋯ ⟨.int _ _,⟨dH,bg⟩,.refl,aO,.refl _⟩) x aO ⟨rfl,rfl⟩
 done:=fun s S U st r u Q E bf=>by
  refine aN st fun bS bg=>wpAny_pyNext_range_end aW bS (by simp[cR]) fun h' jh=>?_
  obtain⟨aO,x⟩:=r.but bg g7 (fun b o hb e=>jh b o hb e) (fun a8 aP=>by rw[show s.heap.get? I=_ from bS]at aP;obtain rfl:=oi aP;exact je rfl rfl) fun u a8 aP cZ=>by rw[show s.heap.get? I=_ from bS]at aP;obtain rfl:=oi aP;exact absurd cZ (jd rfl)
  exact bf _ x aO ⟨rfl,rfl⟩
 self:=fun i s U st Q E bf=>wpAny_pyIter_rangeiter st.1 bf
theorem fM.hide{B:gy}{m:aX}{a:Addr}(hD:h.get? D=none)(r:fM B h U m a):fM B h ⟨U.ix,D::U.hid,U.fr⟩ m a:=
 r.map (fun u u v=>v.hide hD) rfl fun b o hb e u=>⟨e,aw.not_hide hD e hb⟩
theorem fM.re{B:gy}{m:aX}{a:Addr}(J:∀(i:Nat) (a:Addr),U.ix[i]?=some a->α'.ix[i]?=some a)(L:∀a,a∈α'.all->a∈U.all)(r:fM B h U m a):fM B h α' m a:=
 r.map (fun u u v=>v.re J L) rfl fun b o hb e u=>⟨e,fun q=>hb (L b q)⟩
theorem a2.hide(hD:h.get? D=none)(E:a2 env R h U):a2 env R h ⟨U.ix,D::U.hid,U.fr⟩:=by
 refine ay E.ns fun m n hm=>jc (id n) fun UD u u yf u=>?_;refine⟨E.ok,aw.not_hide hD yf E.la,(aI m n (fun i x v V ah=>let⟨aa,a,b⟩:=hm i x v V ah;(aI aa a (b.hide hD)))),fun x c hc=>?_,E.cd,fun i x V=>?_,E.inb⟩
 ·exact d6 (E.ca x c hc) fun J L bB=>aF bB fun v au=>ay (id au) fun o e d=>⟨aw.not_hide hD e J,L,v,au⟩
 ·refine ay (E.cv i x V) fun c hc hv=>?_;exact aI c hc (fun v ah=>let⟨aa,a,b⟩:=hv v ah;⟨aa,a,b.hide hD⟩)
theorem ao.hide{hb h h' S U}(r:ao hb h S U)(hD:h.get? D=none)(k:∀b o,h.get? b=some o->h'.get? b=some o)(e:h'.get? D=some o):ao hb h' S ⟨U.ix,D::U.hid,U.fr⟩:=by
 have aO:=r.keeps k
 have rz:D∉U.ix:=fun q=>by refine aF (r.live q) fun o e=>?_;rw[hD]at e;cases e
 refine⟨aO.base,aO.fresh,aO.nodup,aO.len,fun a ha=>?_,fun i m a V ah=>?_,fun a ha=>?_,aO.fe,aO.frs,aO.frNot⟩
 ·rcases bY.mp ha with q | q
  ·refine q<&>?_;exact⟨rz,_,e⟩
  ·exact aO.hidden a q
 ·exact aF (r.live (d0 ah)) fun a8 aP=>((r.obj i m a V ah).hide hD).ext ((.keeps k):a4 [] (⟨U.ix,D::U.hid,U.fr⟩:aw) h ⟨U.ix,D::U.hid,U.fr⟩ h') (aP<&>k a a8 aP<&>rfl)
 ·rcases bY.mp ha with q | q
  ·subst q
   cases hq:hb.get? a with
   | none=>rfl
   | some o=>rw[r.base _ _ hq]at hD;cases hD
  ·exact r.hfr a q
inductive gP(K:bc)(A:Around)(en:Bool)(c:aj (List H×Option (Nat×aX)))(s:Shared)(U:aw)(it:Value)(s':Shared):Prop where
 | mk (Y:List H) (wt:Option (Nat×aX)) (σ':ab) (α':aw) (own:List Addr) (St:Nat->Heap->aw->Prop) (h:c=.ok (Y,wt) σ') (x:a4 [] U s.heap α' s'.heap) (r:ao K.hb s'.heap σ' α') (m:cC s s') (I:hG K A en own it Y wt St) (st:St 0 s'.heap α') (ho:∀b∈own,s.heap.get? b=none/\K.hb.get? b=none):gP K A en c s U it s'
theorem gP.lift{c:aj (List H×Option (Nat×aX))}{it:Value}(x:a4 [] U s.heap bn s₁.heap)(m:cC s s₁)(p:gP K A en c s₁ bn it s'):gP K A en c s U it s':=by
 obtain⟨Y,wt,σ',α',own,St,e,aS,r,bX,I,st,ho⟩:=p;refine⟨Y,wt,σ',α',own,St,e,x.trans aS,r,m.trans bX,I,st,fun b hb=>⟨?_,(ho b hb).2⟩⟩
 cases hq:s.heap.get? b with
 | none=>rfl
 | some o=>refine aF (x.alive b o (dM) hq) fun a8 aP=>?_;rw[(ho b hb).1]at aP;cases aP
def j6(K:bc)(A:Around)(en:Bool)(t:Sem Value)(c:aj (List H×Option (Nat×aX)))(s:Shared)(U:aw):Prop:=
 c≠.stuck->wpAny (model K.prog K.w) A t (fun x s₁=>wpAny (model K.prog K.w) A (pyIter x) (gP K A en c s U) (dS K A c s U) s₁) (dS K A c s U) s
theorem pH(r:ao K.hb s.heap S U):K.hb.get? s.heap.objs.size=none:=by
 cases hq:K.hb.get? s.heap.objs.size with
 | none=>rfl
 | some o=>exact absurd (eo (r.base _ _ hq)) (i6 _)
theorem gP.new{St:Nat->Heap->aw->Prop}(bg:I=s.heap.objs.size)(r:ao K.hb s.heap S U)(it:hG K A en [I] (.ref I) Y wt St)
  (st:∀h',h'=s.heap.push o->(∀b a8,s.heap.get? b=some a8->h'.get? b=some a8)->I∉U.all->St 0 h' U):gP K A en (.ok (Y,wt) S) s U (.ref I) { s with heap:=s.heap.push o,toks:=tk }:=by
 subst bg;have k:∀b a8,s.heap.get? b=some a8->(s.heap.push o).get? b=some a8:=fun b a8 e=>cI _ e;refine⟨Y,wt,S,U,_,St,rfl,.keeps k,r.keeps k,⟨rfl,rfl⟩,it,st _ rfl k (fun hm=>?_),fun b hb=>?_⟩
 ·refine aF (r.liveAll hm) fun o e=>?_;rw[lV]at e;cases e
 ·simp at hb;subst hb;exact⟨lV s,pH r⟩
theorem R2{a:H}(hA:eJ A)(aW:A.handled=none)(r:ao K.hb s.heap S U)(aA:am s.heap U a x)
  (hc:eh a S≠.stuck) :
  wpAny (model K.prog K.w) A (pyIter x) (gP K A en (eh a S) s U) E s:=by
 unfold eh at hc ⊢
 cases a with
 | fl Y =>
  obtain⟨l,vs,n,rfl,V,hn,v⟩:=aA.flE;refine wpAny_pyIter_list (g9 V) (gP.new rfl r (.list hA aW (l:=l) (pH r)) fun h' aW k bg=>?_);exact⟨(b3 _ (by rw[aW];exact ew _ rfl) rfl rfl),bg,aA.ext (.keeps (F:=[]) k)⟩
 | tup Y =>
  obtain⟨l,vs,n,rfl,V,hn,v⟩:=aA.tupE;refine wpAny_pyIter_tuple (rK V) (gP.new (tk:=s.toks) rfl r (.tuple hA aW (l:=l) (pH r)) fun h' aW k bg=>?_);exact⟨(b3 _ (by rw[aW];exact ew _ rfl) rfl rfl),bg,aA.ext (.keeps (F:=[]) k)⟩
 | ref i =>
  refine ay aA.refE fun l ae eb=>?_;refine ae▸?_
  delta items o2 at hc ⊢;dsimp only at hc ⊢
  cases hs:S[i]? with
  | none=>rw[hs]at hc;exact absurd rfl hc
  | some m =>
   cases m with
   | lst Y =>
    refine cG (r.obj i _ l hs eb) fun vs n V v=>wpAny_pyIter_list (g9 V) (gP.new (tk:=s.toks) rfl r (.mlist hA aW (l:=l) (pH r)) fun h' aW k bg=>?_);exact⟨⟨_,by rw[aW];exact ew _ rfl,rfl,rfl⟩,bg,eb⟩
   | _=>rw[hs]at hc;exact absurd rfl hc
 | str z =>
  refine ay aA.strE fun t ae a3=>?_;refine ae▸?_;cases ha:z.cps.all (· < 128)
  ·refine wpAny_pyIter_wide ha (gP.new (tk:=s.toks) rfl r (.signs (t:=t) (pH r) a3 ⋯ (fun s i c Q E J L au=>wpAny_pyNext_wide_item J L au) (fun s i Q E J L au=>wpAny_pyNext_wide_end aW J L au) fun s i Q E J L=>wpAny_pyIter_striter_wide J L) fun h' aW k bg=>?_);exact⟨⟨_,by rw[aW];exact ew _ rfl,rfl,rfl⟩,bg⟩
  ·refine wpAny_pyIter_ascii ha (gP.new (tk:=s.toks) rfl r (.signs (t:=t) (pH r) a3 ⋯ (fun s i c Q E J L au=>wpAny_pyNext_ascii_item J L au) (fun s i Q E J L au=>wpAny_pyNext_ascii_end aW J L au) fun s i Q E J L=>wpAny_pyIter_striter_ascii J L) fun h' aW k bg=>?_);exact⟨⟨_,by rw[aW];exact ew _ rfl,rfl,rfl⟩,bg⟩
 | _=>exact absurd rfl hc
theorem Wb{n:Int}(h0:0<=n):Builtin.Range.rangeSize 0 n 1=n:=by
 unfold Builtin.Range.rangeSize;simp;(grind)
theorem Wp{n:Int}(h0:0<=n)(J:n<=(aL:Int)):Builtin.Range.small 0 n 1=true:=
 small_one ⋯ ⋯ (gE ⋯ h0) (Int.lt_of_le_of_lt J ⋯)
def qD(s:Shared)(a b c:Int)(t aa v tk:Nat):Shared:={ s with heap:=s.heap.push { cls:=.type "range",data:=.fields #[.int a t,.int b aa,.int c v] },toks:=tk }
theorem B6{a b c:Int}{t aa v:Nat}{x:Addr}(e:s.heap.get? x=some o):(qD s a b c t aa v tk).heap.get? x=some o:=cI _ e
inductive n9(K:bc)(c:aj (List H×Option (Nat×aX)))(s:Shared)(U:aw)(y:Value)(s':Shared):Prop
 | mk (s₁:Shared) (ak:ab) (bn:aw) (a b d:Int) (t aa v tk n:Nat) (aG:y=.ref s₁.heap.objs.size) (hs:s'=qD s₁ a b d t aa v tk) (hc:c=.ok (cR a d n,none) ak) (x:a4 [] U s.heap bn s₁.heap) (r:ao K.hb s₁.heap ak bn) (m:cC s s₁) (jp:Builtin.Range.small a b d=true) (hn:Builtin.Range.rangeSize a b d=n) (hl:n<=2000000):n9 K c s U y s'
theorem n9.lift{c:aj (List H×Option (Nat×aX))}(x:a4 [] m5 s₀.heap U s.heap)(m:cC s₀ s)(p:n9 K c s U y s'):n9 K c s₀ m5 y s':=by
 obtain⟨s₁,ak,bn,a,b,d,t,aa,v,tk,n,aG,hs,hc,aS,r,bX,jp,hn,hl⟩:=p;exact⟨s₁,ak,bn,a,b,d,t,aa,v,tk,n,aG,hs,hc,x.trans aS,r,m.trans bX,jp,hn,hl⟩
theorem R1{a b c:Int}{t aa v:Nat}(hA:eJ A)(aW:A.handled=none)(r:ao K.hb s.heap S U)(hs:Builtin.Range.small a b c=true)(hn:Builtin.Range.rangeSize a b c=n) :
  wpAny (model K.prog K.w) A (pyIter (.ref s.heap.objs.size)) (gP K A en (.ok (cR a c n,none) S) s U) E (qD s a b c t aa v tk):=by
 refine wpAny_pyIter_range (IsRange.new _ _ _ _ _ _ _) hs (gP.lift (.keeps fun u u=>B6) ⟨rfl,rfl⟩ (gP.new (s:=qD s a b c t aa v tk) rfl ((r.keeps fun u u=>B6):ao K.hb (qD s a b c t aa v tk).heap S U) (.range hA aW (pH (s:=qD s a b c t aa v tk) ((r.keeps fun u u=>B6):ao K.hb (qD s a b c t aa v tk).heap S U))) fun h' aW bs bg=>⟨?_,bg⟩));rw[aW,hn];simp only[Int.ofNat_zero,Int.zero_mul,Int.add_zero,Int.sub_zero];exact ew _ rfl
theorem Vt{a:H}(h:qo a S≠.stuck)(k:∀n:Nat,a=.int n->n<=aL->qo a S=.ok (cR 0 1 n,none) S->P):P:=by
 cases a with
 | int i =>
  by_cases hl:0<=i/\i<=aL
  ·refine aF (jw hl.1) fun n ae=>?_;subst ae;exact k n rfl (ig.mp hl.2) (rfl.trans (aC hl))
  ·exact absurd (rfl.trans (aV hl)) h
 | _=>exact absurd rfl h
theorem n9.iter{c:aj (List H×Option (Nat×aX))}(hA:eJ A)(aW:A.handled=none)(p:n9 K c s U y s'):wpAny (model K.prog K.w) A (pyIter y) (gP K A en c s U) E s':=by
 obtain⟨s₁,ak,bn,a,b,d,t,aa,v,tk,n,rfl,rfl,rfl,x,r,m,jp,hn,hl⟩:=p;exact cu (R1 hA aW r jp hn) (fun it bi hp=>hp.lift x m) fun u u e=>e
theorem M2{a:H}(r:ao K.hb s.heap S U)(aA:am s.heap U a x)(hc:qo a S≠.stuck):wpAny (model K.prog K.w) A (call (.type "range") [x]) (n9 K (qo a S) s U) E s:=by
 refine Vt hc fun n ha hl e=>?_;subst ha;exact aF aA.intE fun t ae=>ae▸(e<&>(call_range_1 ⟨s,S,U,0,n,1,_,_,_,s.toks+1+1,n,rfl,rfl,rfl,.refl,r,.refl s,Wp (ea n) (ig.mpr hl),Wb (ea n),aE hl ⋯⟩))
section
variable {prog:Program}{w:World}
theorem Um{it t:Addr}{items:Array Value}(bS:s.heap.IsTupleIter it t i)(ba:s.heap.IsTuple t items)(hx:items[i]?=some x)
  (bf:∀h',h'.IsTupleIter it t (i+1)->Heap.SameBut it s.heap h'->Q x { s with heap:=h' }):wpAny (model prog w) A (Builtin.SmallTypes.nextOf (.ref it)) Q E s:=by
 refine bw (id bS) fun o ho hc hd=>bw ba fun nJ pO u bB=>aF bB fun hQ zJ=>?_
 refine aK (wpAny_callSpecial?_slot bS.typeIs F.slot_tuple_iterator_next
  (wpAny_call_entry F.slot_tuple_iterator_next bS.typeIs F.entry_tuple_iterator_next ?_ (F.args_tuple_iterator_next_1 _)))
 refine aK (m:=field (.ref it) 0) (wpAny_field ho hd (x:=.ref t) rfl (aV (show ¬((Value.ref t == Value.none)=true)from Bool.false_ne_true)<&>?_));show wpAny _ _ (field (.ref it) 1 >>= _) _ _ s;refine aK (wpAny_field ho hd (x:=.int i 0) rfl (df (fun u q=>wpAny_seqItems pO zJ q) ?_));simp only[kL,hx];refine aK (wpAny_setField ho hd (bJ _) (bh (aI x rfl (bh (bf _ ?_ (Heap.SameBut.update ..))))))
 exact⟨_,Heap.get?_update_self _ ho (Obj.isFreed_of_fields (Obj.data_mapFields hd _)),(Obj.cls_mapFields ..).trans hc,by
  rw[Obj.data_mapFields hd];simp[rawInt]⟩
theorem Ul{it t:Addr}{items:Array Value}(aW:A.handled=none)(bS:s.heap.IsTupleIter it t i)(ba:s.heap.IsTuple t items)(hx:items[i]?=none)
  (rA:∀h' e,Heap.ExtBut it s.heap h'->(∃o,h'.get? e=some o/\o.cls=.type "StopIteration")->E (.ref e) { s with heap:=h' }):wpAny (model prog w) A (Builtin.SmallTypes.nextOf (.ref it)) Q E s:=by
 refine bw (id bS) fun o ho hc hd=>bw ba fun nJ pO u bB=>aF bB fun hQ zJ=>?_
 refine aK (wpAny_callSpecial?_slot bS.typeIs F.slot_tuple_iterator_next
  (wpAny_call_entry F.slot_tuple_iterator_next bS.typeIs F.entry_tuple_iterator_next ?_ (F.args_tuple_iterator_next_1 _)))
 refine aK (m:=field (.ref it) 0) (wpAny_field ho hd (x:=.ref t) rfl (aV (show ¬((Value.ref t == Value.none)=true)from Bool.false_ne_true)<&>?_));show wpAny _ _ (field (.ref it) 1 >>= _) _ _ s;refine aK (wpAny_field ho hd (x:=.int i 0) rfl (df (fun u q=>wpAny_seqItems pO zJ q) ?_));simp only[kL,hx];refine aK (wpAny_rule (aK (wpAny_setField ho hd (Nat.zero_lt_succ _) ?_)));apply aK;refine aK (wpAny_newObj_type ?_ (by size_fits));refine aK (wpAny_of_eq (a:=Value.none) (by first | rfl | (simp only[firstArgMember];rfl)) ?_);refine wpAny_newObj_type ?_ (by size_fits);apply df (fun u q=>wpAny_handled q)
 first | refine(show A.in1.handled=none from aW ..).symm▸?_ | rw[aW]
 exact aK (bh (wpAny_throw (rA _ _ (((Heap.SameBut.update ..).extBut.push _).push _) (aI _ (ew _ rfl) rfl))))
structure j9(h:Heap)(z TI bO i1 i2 t l:Addr)(k:Nat)(kU:Value):Prop where
 z:IsZip h z TI bO kU
 ti:IsPair h TI (.ref i1) (.ref i2)
 it:h.IsTupleIter i1 t k
 il:h.IsListIter i2 l k
structure qY(z TI bO i1 i2:Addr):Prop where
 a:TI≠z
 b:bO≠z
 c:i1≠z
 d:i2≠z
 e:TI≠bO
 f:TI≠i1
 g:TI≠i2
 h:bO≠i1
 i:bO≠i2
 j:i1≠i2
theorem BV{t:Addr}{k:Nat}(x:h.IsTupleIter I t k)(g:∀o,h.get? I=some o->h'.get? I=some o):h'.IsTupleIter I t k:=by
 refine bw x fun o e c d=>?_;exact b3 o (g o e) c d
theorem AC{t:Addr}{k:Nat}(x:h.IsListIter I t k)(g:∀o,h.get? I=some o->h'.get? I=some o):h'.IsListIter I t k:=by
 refine bw x fun o e c d=>?_;exact b3 o (g o e) c d
theorem j9.keep{t l:Addr}{k:Nat}{kU:Value}(on:j9 h z TI bO i1 i2 t l k kU)(g:∀b,b=z\/b=TI\/b=i1\/b=i2->∀o,h.get? b=some o->h'.get? b=some o):j9 h' z TI bO i1 i2 t l k kU:=
 ⟨g z (.inl rfl) _ on.z,g TI (.inr (.inl rfl)) _ on.ti,BV on.it (g i1 (.inr (.inr (.inl rfl)))),AC on.il (g i2 (.inr (.inr (.inr rfl))))⟩
theorem YK{t l:Addr}{k:Nat}{Y ys:Array Value}{a b:Value}(D:qY z TI bO i1 i2)(on:j9 s.heap z TI bO i1 i2 t l k .none)(vH:IsPair s.heap bO a b)
  (ba:∀h':Heap,(∀c o,c≠z->c≠bO->c≠i1->c≠i2->s.heap.get? c=some o->h'.get? c=some o)->h'.IsTuple t Y/\h'.IsList l ys) (hx:Y[k]?=some x) (aG:ys[k]?=some y)
  (bf:∀h',j9 h' z TI bO i1 i2 t l (k+1) (rawInt s.heap.objs.size)->IsPair h' bO x y->IsPair h' s.heap.objs.size x y ->
   (∀c o,c≠z->c≠bO->c≠i1->c≠i2->s.heap.get? c=some o->h'.get? c=some o)->Q (.ref s.heap.objs.size) { s with heap:=h' }) :
  wpAny (model prog w) A (Builtin.«zip.__next__» ⟨[.ref z],[]⟩) (fun fin s'=>∃v,fin=.done (.ret v)/\Q v s') E s:=by
 obtain⟨a3,vG,J,L⟩:=on;show wpAny _ _ (field (.ref z) 2 >>= _) _ _ _;refine df (fun u q=>wpAny_field a3 rfl (x:=.bool false) rfl q) (df (fun u q=>wpAny_field a3 rfl (x:=.ref TI) rfl q) (aK (wpAny_seqItems vG rfl (aK (aK (wpAny_field a3 rfl (x:=.none) rfl (bh ?_)))))));refine aK (wpAny_rule (aK (wpAny_field a3 rfl (x:=.ref bO) rfl (aK (wpAny_setField_rec a3 (Nat.zero_lt_succ _) fun fi pT mJ=>?_)))))
 replace pT:IsZip fi z TI bO .ellipsis:=pT
 apply aK;refine aK (aK (wpAny_onRaise ?_));have IJ:∀c o,c≠z->s.heap.get? c=some o->fi.get? c=some o:=fun c o cs e=>mJ.extBut _ _ cs e;refine aK (Um (J.extBut mJ.extBut D.c) (ba fi fun c o cs u u u e=>IJ c o cs e).1 hx fun h₂ P2 ny=>bh (aK (wpAny_seqItems ((ny.extBut _ _ D.h (mJ.extBut _ _ D.b vH)):IsPair h₂ bO a b) rfl (aK (wpAny_updateSeq_pair ((ny.extBut _ _ D.h (mJ.extBut _ _ D.b vH)):IsPair h₂ bO a b) fun oL vI oK=>?_)))))
 replace vI:IsPair oL bO x b:=vI
 refine aK (wpAny_letGo (bh (aK (aK (wpAny_onRaise ?_)))));have IK:∀c o,c≠z->c≠bO->c≠i1->s.heap.get? c=some o->oL.get? c=some o:=fun c o cs eL ke e=>oK.extBut _ _ eL (ny.extBut _ _ ke (IJ c o cs e))
 refine aK (wpAny_nextOf_list_item (((L.extBut mJ.extBut D.d).extBut ny.extBut D.j.symm).extBut oK.extBut D.i.symm)
  (ba oL fun c o cs eL ke u e=>IK c o cs eL ke e).2 aG fun vW P5 rF=>bh ?_)
 refine aK (wpAny_seqItems ((rF.extBut _ _ D.i vI):IsPair vW bO x b) rfl (aK (wpAny_updateSeq_pair ((rF.extBut _ _ D.i vI):IsPair vW bO x b) fun k7 vJ tv=>?_)))
 replace vJ:IsPair k7 bO x y:=vJ
 refine aK (wpAny_letGo (bh (bh (aK (wpAny_seqItems vJ rfl (aK (wpAny_newTuple ?_)))))))
 have kl:k7.objs.size=s.heap.objs.size:=by rw[tv.1,rF.1,oK.1,ny.1,mJ.1]
 have Aa:IsZip k7 z TI bO .ellipsis:=tv.extBut _ _ D.b.symm (rF.extBut _ _ D.d.symm (oK.extBut _ _ D.b.symm (ny.extBut _ _ D.c.symm pT)))
 have HI:∀c o,c≠z->c≠bO->c≠i1->c≠i2->s.heap.get? c=some o->k7.get? c=some o:=fun c o cs eL ke nl e =>
  tv.extBut _ _ eL (rF.extBut _ _ nl (IK c o cs eL ke e))
 refine aK ?_;have Rl:IsZip (k7.push { cls:=.type "tuple",data:=.seq #[x,y] }) z TI bO .ellipsis:=cI _ Aa;refine aK (wpAny_setField_rec Rl (by simp) fun Rm Ab HV=>?_)
 replace Ab:IsZip Rm z TI bO (rawInt k7.objs.size):=Ab
 refine wpAny_setField_rec Ab (by simp) fun rG vV HW=>?_
 replace vV:IsZip rG z TI bO (rawInt k7.objs.size):=vV
 have up:∀c o,c≠z->k7.get? c=some o->rG.get? c=some o:=fun c o cs e=>HW.extBut _ _ cs (HV.extBut _ _ cs (cI _ e));have Hx:IsPair rG k7.objs.size x y:=HW.extBut _ _ (du (eo Aa)) (HV.extBut _ _ (du (eo Aa)) (ew _ rfl));rw[kl]at vV Hx;refine bh (aI _ rfl ?_);rw[kl];exact bf rG ⟨vV,((fun c o cs eL ke nl e=>up c o cs (HI c o cs eL ke nl e)):∀c o,c≠z->c≠bO->c≠i1->c≠i2->s.heap.get? c=some o->rG.get? c=some o) _ _ D.a D.e D.f D.g vG,BV (((P2.extBut oK.extBut D.h.symm).extBut rF.extBut D.j).extBut tv.extBut D.h.symm) fun o e=>up _ o D.c e,AC ((P5.extBut tv.extBut D.i.symm):k7.IsListIter i2 l (k+1)) fun o e=>up _ o D.d e⟩ (up _ _ D.b vJ) Hx ((fun c o cs eL ke nl e=>up c o cs (HI c o cs eL ke nl e)):∀c o,c≠z->c≠bO->c≠i1->c≠i2->s.heap.get? c=some o->rG.get? c=some o)
theorem YJ{t l:Addr}{k:Nat}{Y:Array Value}{Q:Fin->Shared->Prop}(aW:A.handled=none)(D:qY z TI bO i1 i2)(on:j9 s.heap z TI bO i1 i2 t l k .none)
  (ba:∀h':Heap,(∀c o,c≠z->c≠i1->s.heap.get? c=some o->h'.get? c=some o)->h'.IsTuple t Y) (hx:Y[k]?=none)
  (rA:∀(h':Heap) (e:Addr),(∀c o,c≠z->c≠i1->s.heap.get? c=some o->h'.get? c=some o)->(∃o,h'.get? e=some o/\o.cls=.type "StopIteration")->E (.ref e) { s with heap:=h' }) :
  wpAny (model prog w) A (Builtin.«zip.__next__» ⟨[.ref z],[]⟩) Q E s:=by
 obtain⟨a3,vG,J,L⟩:=on;show wpAny _ _ (field (.ref z) 2 >>= _) _ _ _;refine df (fun u q=>wpAny_field a3 rfl (x:=.bool false) rfl q) (df (fun u q=>wpAny_field a3 rfl (x:=.ref TI) rfl q) (aK (wpAny_seqItems vG rfl (aK (aK (wpAny_field a3 rfl (x:=.none) rfl (bh ?_)))))));refine aK (wpAny_rule (aK (wpAny_field a3 rfl (x:=.ref bO) rfl (aK (wpAny_setField_rec a3 (Nat.zero_lt_succ _) fun fi pT mJ=>?_)))))
 replace pT:IsZip fi z TI bO .ellipsis:=pT
 apply aK;refine aK (aK (wpAny_onRaise (aK (Ul aW (J.extBut mJ.extBut D.c) (ba fi fun c o cs u e=>mJ.extBut _ _ cs e) hx fun h₂ e ny he=>ay he fun tZ zY HA=>?_))));have H2:IsZip h₂ z TI bO .ellipsis:=ny _ _ D.c.symm pT
 have QC:e≠z:=fun x=>by cases x;rw[H2]at zY;cases zY;simp at HA
 exact wpAny_setField_rec H2 (by simp) fun oL u oK=>rA oL e (fun c o cs ke x=>oK.extBut _ _ cs (ny _ _ ke (mJ.extBut _ _ cs x))) (aI tZ (oK.extBut _ _ QC zY) HA)
theorem YM{t l:Addr}{k:Nat}{Y ys:Array Value}{a b:Value}{Q:Option Value->Shared->Prop}(D:qY z TI bO i1 i2)(on:j9 s.heap z TI bO i1 i2 t l k .none)(vH:IsPair s.heap bO a b)
  (ba:∀h':Heap,(∀c o,c≠z->c≠bO->c≠i1->c≠i2->s.heap.get? c=some o->h'.get? c=some o)->h'.IsTuple t Y/\h'.IsList l ys) (hx:Y[k]?=some x) (aG:ys[k]?=some y)
  (bf:∀h',j9 h' z TI bO i1 i2 t l (k+1) (rawInt s.heap.objs.size)->IsPair h' bO x y->IsPair h' s.heap.objs.size x y ->
   (∀c o,c≠z->c≠bO->c≠i1->c≠i2->s.heap.get? c=some o->h'.get? c=some o)->Q (some (.ref s.heap.objs.size)) { s with heap:=h' }) :
  wpAny (model prog w) A (pyNext (.ref z)) Q E s:=by
 unfold pyNext
 exact aK (wpAny_attempt (wpAny_callSpecial?_slot (⟨_,on.z,rfl⟩:s.TypeIs (.ref z) "zip") F.slot_zip_next
  (wpAny_call_entry F.slot_zip_next (⟨_,on.z,rfl⟩:s.TypeIs (.ref z) "zip") F.entry_zip_next
   (YK D on vH ba hx aG fun h' dL gU gD LB=>bh (bf h' dL gU gD LB)) (F.args_zip_next_1 _))))
theorem YL{t l:Addr}{k:Nat}{Y:Array Value}{Q:Option Value->Shared->Prop}(aW:A.handled=none)(D:qY z TI bO i1 i2)(on:j9 s.heap z TI bO i1 i2 t l k .none)
  (ba:∀h':Heap,(∀c o,c≠z->c≠i1->s.heap.get? c=some o->h'.get? c=some o)->h'.IsTuple t Y) (hx:Y[k]?=none)
  (bf:∀h':Heap,(∀c o,c≠z->c≠i1->s.heap.get? c=some o->h'.get? c=some o)->Q none { s with heap:=h' }):wpAny (model prog w) A (pyNext (.ref z)) Q E s:=by
 unfold pyNext
 refine aK (wpAny_attempt (wpAny_callSpecial?_slot (⟨_,on.z,rfl⟩:s.TypeIs (.ref z) "zip") F.slot_zip_next
  (wpAny_call_entry F.slot_zip_next (⟨_,on.z,rfl⟩:s.TypeIs (.ref z) "zip") F.entry_zip_next (YJ aW D on ba hx fun h' e hk he=>?_) (F.args_zip_next_1 _))))
 exact ay he fun o ho hc=>aK (wpAny_isInstance (aI o ho hc) isSubtype_stop (bh (bf _ hk)))
noncomputable abbrev xm(h:Heap)(t:Addr):Heap:=h.push { cls:=.type "tuple_iterator",data:=.fields #[.ref t,.int 0 0] }
noncomputable abbrev xn(h:Heap)(t l:Addr):Heap:=(xm h t).push { cls:=.type "list_iterator",data:=.fields #[.ref l,.int 0 0] }
noncomputable abbrev xo(h:Heap)(t l:Addr):Heap:=(xn h t l).push { cls:=.type "tuple",data:=.seq #[.ref h.objs.size,.ref (xm h t).objs.size] }
noncomputable abbrev uB(h:Heap)(t l:Addr):Heap:=(xo h t l).push { cls:=.type "tuple",data:=.seq #[.none,.none] }
noncomputable abbrev sv(h:Heap)(t l:Addr):Heap:=(uB h t l).push { cls:=.type "zip",data:=.fields #[.none,.bool false,.bool false,.ref (xn h t l).objs.size,.ref (xo h t l).objs.size] }
theorem Tm(t l:Addr)(Y ys:Array Value) :
  Meets (Builtin.«zip.__new__» ⟨[.type "zip",.ref t,.ref l],[]⟩) (fun u ao s=>s.heap.IsTuple t Y/\s.heap.IsList l ys ∧
   ao (.ok (.ret (.ref (uB s.heap t l).objs.size))) { s with heap:=sv s.heap t l }):=
 .of_wp fun prog w A ao s h=>by
  obtain⟨hp,g,d,tk,os⟩:=s;refine d6 h fun kk rD h=>?_;have Rb:=sub_zip;have P9:Heap.IsList (Shared.heap ⟨hp.push { cls:=.type "tuple_iterator",data:=.fields #[.ref t,.int 0 0] },g,d,tk,os⟩) l ys:=Heap.IsList.push rD _
  wp_walk using wpAny_pyIter_tuple (kk:Heap.IsTuple (Shared.heap ⟨hp,g,d,tk,os⟩) t Y),wpAny_pyIter_list P9
  exact aI _ rfl h
theorem M4{t l:Addr}{Y ys:Array Value}(kk:s.heap.IsTuple t Y)(rD:s.heap.IsList l ys)
  (h:∀h',j9 h' (s.heap.objs.size+4) (s.heap.objs.size+2) (s.heap.objs.size+3) s.heap.objs.size (s.heap.objs.size+1) t l 0 .none->IsPair h' (s.heap.objs.size+3) .none .none ->
   (∀c o,s.heap.get? c=some o->h'.get? c=some o)->Q (.ref (s.heap.objs.size+4)) { s with heap:=h' }) :
  wpAny (model prog w) A (call (.type "zip") [.ref t,.ref l]) Q E s:=by
 refine callType_new F.called_zip ⋯ (F.typeCall_zip_2 _ _) (F.newCall_zip_2 _ _) (fun obj=>F.args_object_init_3 obj _ _) F.entry_zip_new
  (Tm t l Y ys) ⟨kk,rD,?_⟩
 have eV:(xm s.heap t).objs.size=s.heap.objs.size+1:=Heap.size_push ..
 have gc:(xn s.heap t l).objs.size=s.heap.objs.size+2:=by rw[Heap.size_push,eV]
 have xk:(xo s.heap t l).objs.size=s.heap.objs.size+3:=by rw[Heap.size_push,gc]
 have pC:(sv s.heap t l).get? (uB s.heap t l).objs.size=some _:=ew _ rfl;have pB:(sv s.heap t l).get? (xo s.heap t l).objs.size=some _:=cI _ (ew _ rfl);have g3:(sv s.heap t l).get? (xn s.heap t l).objs.size=some _:=cI _ (cI _ (ew _ rfl));have g2:(sv s.heap t l).get? (xm s.heap t).objs.size=some _:=cI _ (cI _ (cI _ (ew _ rfl)));show _/\_;rw[gc,xk,((by rw[Heap.size_push,xk]):(uB s.heap t l).objs.size=s.heap.objs.size+4)]at pC;rw[eV,gc]at g3;rw[xk]at pB;rw[eV]at g2;rw[((by rw[Heap.size_push,xk]):(uB s.heap t l).objs.size=s.heap.objs.size+4)]
 exact⟨(aI _ pC rfl),h _ ⟨pC,g3,(b3 _ ((cI _ (cI _ (cI _ (cI _ (ew _ rfl))))):(sv s.heap t l).get? s.heap.objs.size=some _) rfl rfl),(b3 _ g2 rfl rfl)⟩ pB fun c o x =>
  cI _ (cI _ (cI _ (cI _ (cI _ x))))⟩
end
theorem Bs{a b:Addr}{v Y:Array Value}{c:Value}(V:h.get? a=some { cls:=c,data:=.seq Y n })(ah:h.get? b=some o)(hd:o.data=.fields v):a≠b:=fun q=>by
 rw[q,ah]at V;rw[oi V]at hd;contradiction
theorem ao.but2(r:ao hb h S U)(aR:S[j]?=some .tp)(eT:U.ix[j]?=some bO)(aP:IsPair h' bO x y)(bg:∀b∈own,b∉U.all)(g7:∀b∈own,hb.get? b=none)
  (k:∀b o,b∉own->b≠bO->h.get? b=some o->h'.get? b=some o) (hs:∀b∈own,∀o,h.get? b=some o->¬ly o/\¬io o):ao hb h' S U/\a4 own U h U h':=by
 have p8:bO∈U.ix:=d0 eT
 have al:∀b o,b∉own->h.get? b=some o->∃a8,h'.get? b=some a8:=fun b o bW e=>by
  by_cases q:b=bO
  ·refine q▸?_;exact⟨_,aP⟩
  ·exact⟨o,k b o bW q e⟩
 have z:a4 own U h U h':=⟨rfl,(aI ([]) (by simp) (fun u hx=>(nomatch hx))),fun b o hb e q=>k b o (fun z=>(hs b z o e).1 q) (fun z=>hb (z▸p8)) e,fun b o hb bW e=>.inl (k b o bW (fun z=>hb (z▸p8)) e),al,rfl⟩;refine⟨⟨fun b o e=>k b o (fun q=>by rw[g7 b q]at e;contradiction) (fun q=>by rw[q,r.fresh _ p8]at e;contradiction) (r.base b o e),r.fresh,r.nodup,r.len,fun b hb=>⟨(r.hidden b hb).1,?_⟩,fun i m a V ah=>?_,r.hfr,r.fe,fun b hb=>⟨(r.frs b hb).1,?_⟩,r.frNot⟩,z⟩
 ·exact aF ((r.hidden b hb).2) fun o e=>al b o (fun q=>bg b q (fb _ hb)) e
 ·by_cases q:a=bO
  ·subst q;obtain rfl:=(List.getElem?_inj (dv ah).1 r.nodup).mp (ah.trans eT.symm);exact oi (aR.symm.trans V)<$>(eQ x y aP)
  ·exact aF (r.live (d0 ah)) fun a8 JZ=>(r.obj i m a V ah).ext z (JZ<&>k a a8 (fun q=>aw.not_ix (bg a q) (d0 ah)) q JZ<&>rfl)
 ·obtain⟨_,o,e,d⟩:=r.frs b hb;exact aI o (k b o (fun q=>(hs b q o e).2 d) (fun q=>r.frNot b hb (q▸p8)) e) d
theorem YG:∀{Y ys:List H} {i:Nat} {p:H},(m4 Y ys)[i]?=some p->∃a b,Y[i]?=some a/\ys[i]?=some b/\p=.tup [a,b]:=by
 intro Y
 induction Y with
 | nil=>intro ys i p h;cases ys <;> contradiction
 | cons x Y af =>
  intro ys i p h
  cases ys with
  | nil=>contradiction
  | cons y ys =>
   cases i with
   | zero=>refine oi h<$>?_;exact jF x y rfl rfl rfl
   | succ i=>exact af h
theorem YH:∀{Y ys:List H},Y.length=ys.length->(m4 Y ys).length=Y.length:=by
 intro Y
 induction Y with
 | nil=>intro ys h;cases ys <;> rfl
 | cons x Y af =>
  intro ys h
  cases ys with
  | nil=>contradiction
  | cons y ys=>exact congrArg Nat.succ (af (Nat.succ.inj h))
structure Lx(z TI bO i1 i2 t l:Addr)(j:Nat)(Y ys:List H)(i:Nat)(h:Heap)(U:aw):Prop where
 on:j9 h z TI bO i1 i2 t l i .none
 eT:U.ix[j]?=some bO
 nT:TI∉U.all
 nz:z∉U.all
 n1:i1∉U.all
 n2:i2∉U.all
 vt:am h U (.tup Y) (.ref t)
 vl:am h U (.fl ys) (.ref l)
theorem hG.zip(aW:A.handled=none){t l:Addr}(D:qY z TI bO i1 i2)(hl:Y.length=ys.length)(hb:∀b∈[z,i1,i2],K.hb.get? b=none) :
  hG K A true [z,i1,i2] (.ref z) (m4 Y ys) (some (j,.tp)) (Lx z TI bO i1 i2 t l j Y ys):=by
 have qA:∀{P:Addr->Prop},P z->P i1->P i2->∀b∈[z,i1,i2],P b:=fun{P} J L au b hb=>by
  rcases bY.mp hb with rfl | hb
  ·exact J
  ·rcases bY.mp hb with rfl | hb
   ·exact L
   ·exact di.mp hb<&>au
 have qw:∀{h:Heap} {n:Nat} {kU:Value},j9 h z TI bO i1 i2 t l n kU->∀b∈[z,i1,i2],∀o,h.get? b=some o->¬ly o/\¬io o:=fun{h n kU} on=>qA
  (fun o q=>by rw[on.z]at q;refine oi q<$>?_;exact⟨je rfl rfl,jd rfl⟩)
  (fun o q=>by refine bw on.it fun a8 aP c1 fg=>?_;rw[aP]at q;obtain rfl:=oi q;exact⟨je fg c1,jd fg⟩)
  (fun o q=>by refine bw on.il fun a8 aP c1 fg=>?_;rw[aP]at q;obtain rfl:=oi q;exact⟨je fg c1,jd fg⟩)
 have apart:∀{h:Heap} {n:Nat} {kU:Value} {a:Addr} {c:Value} {us:Array Value} {m:Nat},j9 h z TI bO i1 i2 t l n kU->h.get? a=some { cls:=c,data:=.seq us m }->∀b∈[z,i1,i2],a≠b:=fun{h n kU a c us m} on e=>qA (Bs e on.z rfl)
  (by refine bw on.it fun a8 aP c1 fg=>?_;exact Bs e aP fg) (by refine bw on.il fun a8 aP c1 fg=>?_;exact Bs e aP fg)
 refine⟨fun i h U st=>?_,fun i h U st=>qA st.nz st.n1 st.n2,fun i F U h α' h' st x bW=>?_,fun i D U h h' st hD k=>?_,fun i D U h st hD=>?_,fun i s S U p hp st r hw Q E bf=>?_,fun s S U st r hw Q E bf=>?_,fun i s U st Q E bf=>?_⟩
 ·exact ay st.on.it fun ko V u=>ay st.on.il fun bN ah u=>qA ⟨_,st.on.z⟩ ⟨ko,V⟩ ⟨bN,ah⟩
 ·obtain⟨on,eT,nT,nz,n1,n2,vt,vl⟩:=st;obtain⟨xM,CI,⟨ko,V,cs,ij⟩,⟨bN,ah,eL,jD⟩⟩:=on
  exact⟨⟨mF xM rfl (x.rest z _ (aw.not_ix nz) (bW z (be)) xM),x.seqs TI _ (aw.not_ix nT) CI (.inl (eQ _ _ rfl)),(b3 ko (mF V ij (x.rest i1 ko (aw.not_ix n1) (bW i1 (bx _ be)) V)) cs ij),(b3 bN (mF ah jD (x.rest i2 bN (aw.not_ix n2) (bW i2 (by simp)) ah)) eL jD)⟩,
   x.get eT,x.notAll nT CI,x.notAll nz xM,x.notAll n1 V,x.notAll n2 ah,vt.ext x,vl.ext x⟩
 ·obtain⟨on,eT,nT,nz,n1,n2,vt,vl⟩:=st;refine⟨on.keep fun b hb o e=>(k b fun q=>?_).trans e,eT,nT,nz,n1,n2,vt.sameBut hD k,vl.sameBut hD k⟩;subst q
  rcases hb with rfl | rfl | rfl | rfl
  ·exact nz hD
  ·exact nT hD
  ·exact n1 hD
  ·exact n2 hD
 ·obtain⟨on,eT,nT,nz,n1,n2,vt,vl⟩:=st;exact ay on.it fun ko V u=>ay on.il fun bN ah u=>⟨on,eT,aw.not_hide hD on.ti nT,aw.not_hide hD on.z nz,aw.not_hide hD V n1,aw.not_hide hD ah n2,vt.hide hD,vl.hide hD⟩
 ·obtain⟨on,eT,nT,nz,n1,n2,vt,vl⟩:=st;have hw:S[j]?=some .tp:=hw;refine gH (YG hp) fun q1 q2 J L ae=>?_;subst ae;obtain⟨bE,us,n,ba,V,hn,w⟩:=vt.tupE;cases ba;obtain⟨lT,ws,m,zN,ah,hm,jZ⟩:=vl.flE;cases zN;refine ay (w.get J) fun aa hu hv=>ay (jZ.get L) fun gN nA nB=>eM (r.obj j _ bO hw eT) fun iz jr yg=>?_;have p8:bO∈U.all:=hX _ (d0 eT);have dL:=apart on V;have gU:=apart on ah;refine YM D on yg (fun h' k=>⟨rK (s:={ s with heap:=h' }) (k t _ (dL z (be)) (fun q=>hn (q▸p8)) (dL i1 (bx _ be)) (dL i2 (by simp)) V),g9 (s:={ s with heap:=h' }) (k l _ (gU z (be)) (fun q=>hm (q▸p8)) (gU i1 (bx _ be)) (gU i2 (by simp)) ah)⟩) (by simpa using hu) (by simpa using nA) fun h' dB KO dP k=>?_;refine aN (r.but2 hw eT KO (qA nz n1 n2) hb (fun b o hb Qd=>k b o (fun z=>hb (by simp[z])) Qd (fun z=>hb (by simp[z])) (fun z=>hb (by simp[z]))) (qw on)) fun aO x=>?_
  have fresh:s.heap.objs.size∉U.all:=fun z=>by
   exact aF (r.liveAll z) fun o e=>absurd (eo e) (i6 _)
  have m2:am h' U (.tup [q1,q2]) (.ref s.heap.objs.size):=am.tupI dP fresh #v[(hv.ext x),(nB.ext x)];refine bf _ _ m2 (fun z=>by contradiction) ?_ x aO ⟨rfl,rfl⟩;intro kT b7 pos iI dI zz;refine wpAny_letOwnedTupleGo_zip (s:={ s with heap:=h' }) dB.z fun h₂ ah sb=>aN (aO.but2 hw eT ((sb.2 bO D.b).trans KO) (qA nz n1 n2) hb (fun b o hb u q=>(sb.2 b (fun z=>hb (by simp[z]))).trans q) (qw dB)) fun r2 bv=>?_;exact zz _ ⟨m2.ext bv,⟨⟨ah,(sb.2 TI D.a).trans dB.ti,BV dB.it fun o e=>(sb.2 i1 D.c).trans e,AC dB.il fun o e=>(sb.2 i2 D.d).trans e⟩,eT,nT,nz,n1,n2,(vt.ext x).ext bv,(vl.ext x).ext bv⟩,bv,r2,⟨rfl,rfl⟩⟩
 ·obtain⟨on,eT,nT,nz,n1,n2,vt,vl⟩:=st;obtain⟨bE,us,n,ba,V,hn,w⟩:=vt.tupE;cases ba;refine eM (r.obj j _ bO (hw:S[j]?=some .tp) eT) fun iz jr yg=>?_;have dL:=apart on V;refine YL (Y:=us.toArray) aW D on (fun h' k=>rK (s:={ s with heap:=h' }) (k t _ (dL z (be)) (dL i1 (bx _ be)) V)) (by simp[YH hl,w.1]) fun h' k=>?_;refine aN (r.but2 (h':=h') (hw:S[j]?=some .tp) eT (k bO _ D.b D.h yg) (qA nz n1 n2) hb (fun b o hb u=>k b o (fun z=>hb (by simp[z])) (fun z=>hb (by simp[z]))) (qw on)) fun aO x=>?_;exact bf _ x aO ⟨rfl,rfl⟩
 ·exact wpAny_pyIter_zip st.on.z bf
theorem aw.not_add{b:Addr}(h:b∉U.all)(hD:b≠D):b∉(U.add D).all:=fun q=>by
 rcases dt.mp q with q | q
 ·rcases dt.mp q with q | q
  ·exact h (hX _ q)
  ·exact hD (di.mp q)
 ·exact h (fb _ q)
theorem YE(n:Nat):qY (n+4) (n+2) (n+3) n (n+1):=
 have h:∀a b:Nat,a≠b->(n+a:Nat)≠n+b:=fun a b h q=>h (Nat.add_left_cancel q)
 ⟨h 2 4 ⋯,h 3 4 ⋯,h 0 4 ⋯,h 1 4 ⋯,h 2 3 ⋯,h 2 0 ⋯,h 2 1 ⋯,h 3 0 ⋯,h 3 1 ⋯,h 0 1 ⋯⟩
theorem YC{a b:H}(h:qE a b S≠.stuck)(k:∀Y ys,a=.tup Y->b=.fl ys->Y.length=ys.length->qE a b S=.ok (m4 Y ys,some (S.length,.tp)) (S++[.tp])->P):P:=by
 cases a with
 | tup Y =>
  cases b with
  | fl ys =>
   by_cases hl:Y.length=ys.length/\ys.length<=aL
   ·exact k Y ys rfl rfl hl.1 ((rfl:qE (.tup Y) (.fl ys) S=if Y.length=ys.length/\ys.length<=aL then .ok (m4 Y ys,some (S.length,.tp)) (S++[.tp])else .stuck).trans (aC hl))
   ·exact absurd ((rfl:qE (.tup Y) (.fl ys) S=if Y.length=ys.length/\ys.length<=aL then .ok (m4 Y ys,some (S.length,.tp)) (S++[.tp])else .stuck).trans (aV hl)) h
  | _=>exact absurd rfl h
 | _=>exact absurd rfl h
theorem R3{a b:H}(aW:A.handled=none)(r:ao K.hb s.heap S U)(aA:am s.heap U a x)(br:am s.heap U b y)(hc:qE a b S≠.stuck) :
  wpAny (model K.prog K.w) A (call (.type "zip") [x,y]) (fun y s₁=>wpAny (model K.prog K.w) A (pyIter y) (gP K A true (qE a b S) s U) E s₁) E s:=by
 refine YC hc fun Y ys ha hb hl e=>?_;subst ha hb;refine e<&>?_;obtain⟨t,us,n,rfl,V,hn,w⟩:=aA.tupE;obtain⟨l,ws,m,rfl,ah,hm,jZ⟩:=br.flE;refine M4 (rK V) (g9 ah) fun h' on tp k=>wpAny_pyIter_zip on.z ?_
 have out:∀i,s.heap.get? (s.heap.objs.size+i)=none/\s.heap.objs.size+i∉U.all/\K.hb.get? (s.heap.objs.size+i)=none:=fun i=>by
  have qj:s.heap.get? (s.heap.objs.size+i)=none:=by
   cases q:s.heap.get? (s.heap.objs.size+i)with
   | none=>rfl
   | some o=>exact absurd (eo q) (e0.mpr (el _ _))
  refine⟨qj,fun z=>?_,?_⟩
  ·refine aF (r.liveAll z) fun o e=>?_;rw[qj]at e;contradiction
  ·cases q:K.hb.get? (s.heap.objs.size+i)with
   | none=>rfl
   | some o=>rw[r.base _ _ q]at qj;contradiction
 have D:=YE s.heap.objs.size;refine aN (r.add (m:=.tp) k (out 3).1 (eQ _ _ tp)) fun aO x=>?_
 have own:∀b∈[s.heap.objs.size+4,s.heap.objs.size,s.heap.objs.size+1],s.heap.get? b=none/\K.hb.get? b=none:=fun b hb=>by
  refine bZ (bY.mp hb) (fun hl=>?_) (fun hb=>?_)
  ·refine hl▸?_;exact⟨(out 4).1,(out 4).2.2⟩
  ·exact bZ (bY.mp hb) (fun hl=>(hl▸⟨(out 0).1,(out 0).2.2⟩)) (fun hb=>di.mp hb<&>(⟨(out 1).1,(out 1).2.2⟩))
 refine⟨_,_,_,_,_,_,rfl,x,aO,⟨rfl,rfl⟩,.zip aW D hl fun b hb=>(own b hb).2,⟨on,?_,aw.not_add (out 2).2.1 D.e,aw.not_add (out 4).2.1 D.b.symm,aw.not_add (out 0).2.1 D.h.symm,aw.not_add (out 1).2.1 D.i.symm,aA.ext x,br.ext x⟩,own⟩;show(U.ix++[s.heap.objs.size+3])[S.length]?=_;refine r.len<&>gh (bJ _)<&>Nat.sub_self<&>?_;rfl
theorem ao.buts(r:ao hb h S U)(bg:∀b∈own,b∉U.all)(g7:∀b∈own,hb.get? b=none)(k:∀b o,b∉own->h.get? b=some o->h'.get? b=some o)
  (hs:∀b∈own,∀o,h.get? b=some o->¬ly o/\¬io o):ao hb h' S U/\a4 own U h U h':=by
 have x:a4 own U h U h':=⟨rfl,(aI ([]) (by simp) (fun u hx=>(nomatch hx))),fun b o hb e q=>k b o (fun z=>(hs b z o e).1 q) e,fun b o hb bW e=>.inl (k b o bW e),fun b o bW e=>⟨o,k b o bW e⟩,rfl⟩;refine⟨⟨fun b o e=>k b o (fun q=>by rw[g7 b q]at e;contradiction) (r.base b o e),r.fresh,r.nodup,r.len,fun b hb=>⟨(r.hidden b hb).1,?_⟩,fun j m a V ah=>?_,r.hfr,r.fe,fun b hb=>⟨(r.frs b hb).1,?_⟩,r.frNot⟩,x⟩
 ·exact aF ((r.hidden b hb).2) fun o e=>⟨o,k b o (fun q=>bg b q (fb _ hb)) e⟩
 ·exact aF (r.live (d0 ah)) fun a8 aP=>(r.obj j m a V ah).ext x (aP<&>k a a8 (fun q=>aw.not_ix (bg a q) (d0 ah)) aP<&>rfl)
 ·obtain⟨_,o,e,d⟩:=r.frs b hb;exact aI o (k b o (fun q=>(hs b q o e).2 d) e) d
structure n5(K:bc)(l:Addr)(Y:List H)(wt:Option (Nat×aX))(aq:Heap->aw->Prop):Prop where
 frame:∀{F:List Addr} {U α':aw} {h h':Heap},aq h U->a4 F U h α' h'->aq h' α'
 but:∀{D:Addr} {U:aw} {h h':Heap},aq h U->D∈U.all->(∀b,b≠D->h'.get? b=h.get? b)->aq h' U
 hide:∀{D:Addr} {U:aw} {h:Heap},aq h U->h.get? D=none->aq h ⟨U.ix,D::U.hid,U.fr⟩
 has:∀{s:Shared} {S:ab} {U:aw},aq s.heap U->ao K.hb s.heap S U->hT wt S->∃(vs:List Value) (n:Nat),s.heap.get? l=some { cls:=.type "list",data:=.seq vs.toArray n }/\bp s.heap U Y vs
theorem n5.fl{l:Addr}:n5 K l Y none (fun h U=>am h U (.fl Y) (.ref l)) where
 frame v x:=v.ext x
 but v hD k:=v.sameBut hD k
 hide v hD:=v.hide hD
 has v r _:=by obtain⟨lT,vs,n,hl,V,hn,w⟩:=v.flE;cases hl;exact fF vs n V w
theorem n5.ref{l:Addr}:n5 K l Y (some (j,.lst Y)) (fun h U=>U.ix[j]?=some l) where
 frame v x:=x.get v
 but v _ _:=v
 hide v _:=v
 has v r wt:=by refine cG (r.obj j _ l wt v) fun vs n V w=>?_;exact fF vs n V w
theorem UA:∀{Y:List H} {k i:Nat} {p:H},(lW k Y)[i]?=some p->∃q,Y[i]?=some q/\p=.tup [.int ((k+i:Nat):Int),q]:=by
 intro Y
 induction Y with
 | nil=>intro k i p h;contradiction
 | cons x Y af =>
  intro k i p h
  cases i with
  | zero=>refine oi h<$>?_;exact aI x rfl rfl
  | succ i =>
   exact ay (af h) fun q J L=>(aI q J (by rw[L,show k+1+i=k+(i+1) by grind]))
theorem UB:∀{Y:List H} {k:Nat},(lW k Y).length=Y.length:=by
 intro Y
 induction Y with
 | nil=>intro k;rfl
 | cons x Y af=>intro k;exact congrArg Nat.succ af
theorem hG.enum(aW:A.handled=none){e it l:Addr}{aq:Heap->aw->Prop}(mj:n5 K l Y wt aq)(cQ:e≠it)(zG:K.hb.get? e=none)(oH:K.hb.get? it=none) :
  hG K A true [e,it] (.ref e) (lW 0 Y) wt (fun i h U=>(∃fz,IsEnum h e it ((i:Nat):Int) fz)/\h.IsListIter it l i/\e∉U.all/\it∉U.all/\aq h U):=by
 have two:∀{P:Addr->Prop},P e->P it->∀b∈[e,it],P b:=fun{P} J L b hb=>by
  refine bZ (bY.mp hb) (fun hl=>?_) (fun hb=>?_)
  ·refine hl▸?_;exact J
  ·exact di.mp hb<&>L
 have qw:∀{h:Heap} {i:Int} {n:Nat} {fz fY:Value},h.get? e=some { cls:=.type "enumerate",dict:=none,data:=.fields #[fY,.bool false,.ref it,rawInt i,.none,fz],slots:=#[] }->h.IsListIter it l n->∀b∈[e,it],∀o,h.get? b=some o->¬ly o/\¬io o:=fun{h i n fz fY} he hi=>two
  (fun o q=>by rw[he]at q;refine oi q<$>?_;exact⟨je rfl rfl,jd rfl⟩)
  (fun o q=>by refine bw hi fun a8 aP c1 fg=>?_;rw[aP]at q;obtain rfl:=oi q;exact⟨je fg c1,jd fg⟩)
 refine⟨fun i h U st=>?_,fun i h U st=>two st.2.2.1 st.2.2.2.1,fun i F U h α' h' st x bW=>?_,fun i D U h h' st hD k=>?_,fun i D U h st hD=>?_,fun i s S U p hp st r hw Q E bf=>?_,fun s S U st r hw Q E bf=>?_,fun i s U st Q E bf=>?_⟩
 ·obtain⟨⟨fz,en⟩,⟨o,fS,_⟩,_⟩:=st;exact two ⟨_,en⟩ ⟨o,fS⟩
 ·obtain⟨⟨fz,en⟩,⟨o,fS,hc,hd⟩,he,hi,k9⟩:=st;exact⟨⟨fz,mF en rfl (x.rest e _ (aw.not_ix he) (bW e (be)) en)⟩,(b3 o (mF fS hd (x.rest it o (aw.not_ix hi) (bW it (bx _ be)) fS)) hc hd),x.notAll he en,x.notAll hi fS,mj.frame k9 x⟩
 ·obtain⟨⟨fz,en⟩,⟨o,fS,hc,hd⟩,he,hi,k9⟩:=st;exact⟨⟨fz,(k e (fun q=>he (q▸hD))).trans en⟩,(b3 o ((k it (fun q=>hi (q▸hD))).trans fS) hc hd),he,hi,mj.but k9 hD k⟩
 ·obtain⟨⟨fz,en⟩,⟨o,fS,hc,hd⟩,he,hi,k9⟩:=st;exact⟨⟨fz,en⟩,⟨o,fS,hc,hd⟩,aw.not_hide hD en he,aw.not_hide hD fS hi,mj.hide k9 hD⟩
 ·obtain⟨⟨fz,en⟩,bS,he,hi,k9⟩:=st;refine ay (UA hp) fun q hq ae=>?_;subst ae;refine cG (mj.has k9 r hw) fun vs n V w=>ay (w.get hq) fun aa hu hv=>wpAny_pyNext_enum_item en bS (g9 V) (by simpa using hu) cQ fun h' fS fh ba a3 hk=>?_;refine aN (r.buts (two he hi) (two zG oH) (fun b o hb=>hk b o (fun z=>hb (by simp[z])) (fun z=>hb (by simp[z]))) (qw en bS)) fun aO x=>?_
  have fresh:s.heap.objs.size∉U.all:=fun z=>by
   exact aF (r.liveAll z) fun o e=>absurd (eo e) (i6 _)
  have vt:am h' U (.tup [.int ((0+i:Nat):Int),q]) (.ref s.heap.objs.size):=by
   rw[d1];exact am.tupI ba fresh #v[(.int _ _),(hv.ext x)]
  refine bf _ _ vt (fun z=>by contradiction) ?_ x aO ⟨rfl,rfl⟩;intro kT k pos iI dI zz;refine wpAny_letOwnedTupleGo_enum fS fun h₂ ah sb=>?_;refine aN (aO.buts (two he hi) (two zG oH) (fun b o hb q=>(sb.2 b (fun z=>hb (by simp[z]))).trans q) (qw fS fh)) fun r2 bv=>?_;refine zz _ ⟨vt.ext bv,⟨⟨aa,?_⟩,fh.extBut sb.extBut (Ne.symm cQ),he,hi,mj.frame (mj.frame k9 x) bv⟩,bv,r2,⟨rfl,rfl⟩⟩;rw[show((i+1:Nat):Int)=(i:Int)+1 by grind];exact ah
 ·obtain⟨⟨fz,en⟩,bS,he,hi,k9⟩:=st;refine cG (mj.has k9 r hw) fun vs n V w=>wpAny_pyNext_enum_end aW en bS (g9 V) (by simp[UB,w.1]) fun h' jh=>?_;refine aN (r.buts (h':=h') (two he hi) (two zG oH) (fun b o hb q=>jh b o (fun z=>hb (by simp[z])) q) (qw en bS)) fun aO x=>?_;exact bf _ x aO ⟨rfl,rfl⟩
 ·exact wpAny_pyIter_enum st.1.choose_spec bf
theorem IC{l:Addr}{aq:Heap->aw->Prop}(aW:A.handled=none)(mj:n5 K l Y wt aq)(k9:aq s.heap U)(r:ao K.hb s.heap S U)
  (V:s.heap.get? l=some { cls:=.type "list",data:=.seq vs.toArray n }) :
  wpAny (model K.prog K.w) A (call (.type "enumerate") [.ref l]) (fun y s₁=>wpAny (model K.prog K.w) A (pyIter y) (gP K A true (.ok (lW 0 Y,wt) S) s U) E s₁) E s:=by
 refine call_enumerate_list (g9 V) fun h' en bS a3 k=>wpAny_pyIter_enum en ?_
 have Ju:s.heap.get? (s.heap.objs.size+1)=none:=by
  cases q:s.heap.get? (s.heap.objs.size+1)with
  | none=>rfl
  | some o=>exact absurd (eo q) (e0.mpr (Nat.le_succ _))
 have out:∀b,s.heap.get? b=none->b∉U.all/\K.hb.get? b=none:=fun b hb=>⟨fun z=>by
  refine aF (r.liveAll z) fun o e=>?_
  rw[hb]at e;contradiction,by
  cases q:K.hb.get? b with
  | none=>rfl
  | some o=>rw[r.base _ _ q]at hb;contradiction⟩
 have qj:=out _ (lV s);have q1:=out _ Ju;refine⟨lW 0 Y,wt,S,U,[s.heap.objs.size+1,s.heap.objs.size],_,rfl,.keeps k,r.keeps k,⟨rfl,rfl⟩,.enum aW mj (Nat.succ_ne_self _) q1.2 qj.2,⟨⟨_,en⟩,bS,q1.1,qj.1,mj.frame k9 (.keeps (F:=[]) k)⟩,fun b hb=>?_⟩
 rcases bY.mp hb with rfl | hb
 ·exact⟨Ju,q1.2⟩
 ·exact di.mp hb<&>(⟨lV s,qj.2⟩)
theorem R0{a:H}(aW:A.handled=none)(r:ao K.hb s.heap S U)(aA:am s.heap U a x)(hc:pw a S≠.stuck) :
  wpAny (model K.prog K.w) A (call (.type "enumerate") [x]) (fun y s₁=>wpAny (model K.prog K.w) A (pyIter y) (gP K A true (pw a S) s U) E s₁) E s:=by
 unfold pw at hc ⊢
 cases a with
 | fl Y =>
  dsimp only[cY,o2]at hc ⊢;by_cases hl:Y.length<=aL
  ·rw[aC hl];obtain⟨l,vs,n,rfl,V,hn,v⟩:=aA.flE;exact IC aW n5.fl aA r V
  ·rw[aV hl]at hc;exact absurd rfl hc
 | ref i =>
  refine ay aA.refE fun l ae eb=>ae▸?_
  cases hs:S[i]? with
  | none=>simp only[cY,hs]at hc;exact absurd rfl hc
  | some m =>
   cases m with
   | lst Y =>
    simp only[cY,o2,hs]at hc ⊢;by_cases hl:Y.length<=aL
    ·rw[aC hl];exact cG (r.obj i _ l hs eb) fun vs n V v=>IC aW (n5.ref) eb r V
    ·rw[aV hl]at hc;exact absurd rfl hc
   | _=>simp only[cY,hs]at hc;exact absurd rfl hc
 | _=>exact absurd rfl hc
structure cU(hb:gy)(env:Env):Prop where
 l:hb.get? env.locals=none
 c:∀x c,env.cells.lookup x=some c->hb.get? c=none
 f:∃aq r,env.frame=some aq/\hb.fr=aq::r
theorem fM.sameBut{B:gy}{m:aX}{a:Addr}(hD:D∈U.all)(cQ:a≠D)(k:∀b,b≠D->h'.get? b=h.get? b)(r:fM B h U m a):fM B h' U m a:=
 r.map (fun u u v=>v.sameBut hD k) (k a cQ) fun b o hb e u=>⟨(k b (by rintro rfl;exact hb hD)).trans e,hb⟩
theorem a2.sameBut(hD:D∈U.all)(k:∀b,b≠D->h'.get? b=h.get? b)(E:a2 env R h U):a2 env R h' U:=by
 refine ay E.ns fun m n hm=>?_;refine⟨E.ok,E.la,(aI m ?_ (fun i x v V ah=>let⟨aa,a,b⟩:=hm i x v V ah;(aI aa a (b.sameBut hD k)))),fun x c hc=>?_,E.cd,fun i x V=>?_,E.inb⟩
 ·refine jc n fun o Z c0 e r=>?_;exact oz o Z c0 ((k _ ((by intro q;exact E.la (q▸hD)):env.locals≠D)).trans e) r
 ·refine d6 (E.ca x c hc) fun J L bB=>cG bB fun v o e d=>?_;exact⟨J,L,v,o,(k _ (by intro q;exact J (q▸hD))).trans e,d⟩
 ·refine ay (E.cv i x V) fun c hc hv=>(aI c hc (fun v ah=>?_));obtain⟨aa,⟨o,e,d⟩,b⟩:=hv v ah;exact aI aa (aI o ((k _ (by intro q;exact(E.ca x c hc).1 (q▸hD))).trans e) d) (b.sameBut hD k)
theorem ao.sameHid{hb h h' S U}(r:ao hb h S U)(hD:D∈U.hid)(hbD:hb.get? D=none)(k:∀b,b≠D->h'.get? b=h.get? b)(al:∃o,h'.get? D=some o)(nd:∀o,h.get? D=some o->¬io o):ao hb h' S U:=by
 have rz:=(r.hidden D hD).1;refine⟨fun b o e=>(k b (by rintro rfl;rw[hbD]at e;contradiction)).trans (r.base b o e),r.fresh,r.nodup,r.len,fun b im=>⟨(r.hidden b im).1,?_⟩,fun j m a V ah=>?_,r.hfr,r.fe,fun b im=>⟨(r.frs b im).1,?_⟩,r.frNot⟩
 ·by_cases q:b=D
  ·refine q▸?_;exact al
  ·exact k b q<&>((r.hidden b im).2)
 ·exact(r.obj j m a V ah).sameBut ((fb _ hD):D∈U.all) (by rintro rfl;exact rz (d0 ah)) k
 ·obtain⟨_,o,e,d⟩:=r.frs b im;exact aI o ((k b (by rintro rfl;exact nd o e d)).trans e) d
theorem a4.sameBut{F U h α' h' lJ}(x:a4 F U h α' h')(hD:h.get? D=none)(k:∀b,b≠D->lJ.get? b=h'.get? b):a4 F U h α' lJ:=by
 have ne:∀b o,h.get? b=some o->b≠D:=fun b o e q=>by rw[q,hD]at e;contradiction
 refine⟨x.hid,x.pre,fun b o hb e hs=>(k b (ne b o e)).trans (x.seqs b o hb e hs),fun b o hb bW e=>?_,fun b o bW e=>?_,x.fre⟩
 ·rcases x.rest b o hb bW e with q | ⟨f,d,eC,q⟩
  ·exact .inl ((k b (ne b o e)).trans q)
  ·exact .inr ⟨f,d,eC,(k b (ne b o e)).trans q⟩
 ·exact aF (x.alive b o bW e) fun a8 aP=>⟨a8,(k b (ne b o e)).trans aP⟩
theorem a4.rehid{F U h α' h'}(x:a4 F U h α' h')(hid:List Addr):a4 F ⟨U.ix,hid,U.fr⟩ h ⟨α'.ix,hid,α'.fr⟩ h':=
 ⟨rfl,x.pre,x.seqs,x.rest,x.alive,x.fre⟩
def pd(names:List (Str×NameKind)):Prop:=∀(i j:Nat) (x:Str) (k bs:NameKind),names[i]?=some (x,k)->names[j]?=some (x,bs)->i=j
theorem ru{v w:H}(e:(R.set i (some v))[j]?=some (some w)):(j=i/\w=v)\/(j≠i/\R[j]?=some (some w)):=by
 by_cases q:j=i
 ·subst q;rw[List.getElem?_set_self']at e
  cases hq:R[j]? with
  | none=>rw[hq]at e;contradiction
  | some o=>rw[hq]at e;simp at e;exact .inl ⟨rfl,e.symm⟩
 ·rw[List.getElem?_set_ne (Ne.symm q)]at e;exact .inr ⟨q,e⟩
theorem BA{x:Str}{v:H}{Q:Unit->Shared->Prop}{X:Value->Shared->Prop}(er:pd env.scope.names)(r:ao K.hb s.heap S U)(E:a2 env R s.heap U)(eR:K.hb.get? env.locals=none)
  (hn:env.scope.names[i]?=some (x,.local)) (dU:am s.heap U v aa)
  (bf:∀s',ao K.hb s'.heap S U->a2 env (R.set i (some v)) s'.heap U->a4 [env.locals] U s.heap U s'.heap->(∀b,b≠env.locals->s'.heap.get? b=s.heap.get? b)->cC s s'->Q () s') :
  wpAny (model K.prog K.w) A (storeName env x aa) Q X s:=by
 refine ay E.ns fun m n hm=>?_;refine wpAny_storeName_local (E.ok.ws i x _ hn) n (fun h' k5 eS=>?_) (by refine E.ok.kind<&>?_;rfl)
 obtain⟨aO,aS⟩:=r.but E.la eR (fun b o hb e=>(eS.2 b hb).trans e) (fun o e=>by
  refine kR (id n) fun a8 Z c0 aP d u=>?_;rw[e]at aP;refine oi aP<$>?_
  exact io.notSolid (eQ _ _ d)) fun u o e u=>by
  exact kR (id k5) fun a8 Z c0 aP d u=>⟨a8,aP,Z,c0,d⟩
 refine bf _ aO ⟨E.ok,E.la,(aI _ k5 (fun j y w V ah=>?_)),fun y c hc=>?_,E.cd,fun j y V=>?_,fun j w e=>?_⟩ aS (fun b hb=>eS.2 b hb) ⟨rfl,rfl⟩
 ·rcases ru ah with⟨rfl,rfl⟩ | ⟨cQ,ah⟩
  ·rw[hn]at V;cases V;exact aI aa (by simp) (dU.ext aS)
  ·refine ay (hm j y w V ah) fun gN J L=>?_
   have:y≠x:=by rintro rfl;exact cQ (er j i _ _ _ V hn)
   exact aI gN (by simp[this,J]) (L.ext aS)
 ·exact d6 (E.ca y c hc) fun J L bB=>aF bB fun w au=>⟨J,L,w,rJ aS (aw.not_ix J) (by simpa using L) au⟩
 ·refine ay (E.cv j y V) fun c hc hv=>(aI c hc (fun w ah=>?_))
  rcases ru ah with⟨rfl,rfl⟩ | ⟨cQ,ah⟩
  ·rw[hn]at V;cases V
  ·exact ay (hv w ah) fun gN J L=>d6 (E.ca y c hc) fun q1 q2 u=>(aI gN (rJ aS (aw.not_ix q1) (by simpa using q2) J) (L.ext aS))
 ·rcases ru e with⟨rfl,rfl⟩ | ⟨cQ,ah⟩
  ·exact fF x _ hn (.inl rfl)
  ·exact E.inb j w ah
theorem WL{x:Str}{v:H}{Q:Unit->Shared->Prop}{X:Value->Shared->Prop}(er:pd env.scope.names)(r:ao K.hb s.heap S U)(E:a2 env R s.heap U)(ax:cU K.hb env)
  (hn:env.scope.names[i]?=some (x,.cell)) (dU:am s.heap U v aa)
  (bf:∀c s',env.cells.lookup x=some c->ao K.hb s'.heap S U->a2 env (R.set i (some v)) s'.heap U->a4 [c] U s.heap U s'.heap->cC s s'->Q () s') :
  wpAny (model K.prog K.w) A (storeName env x aa) Q X s:=by
 refine ay E.ns fun m n hm=>ay (E.cv i x hn) fun c hc hv=>d6 (E.ca x c hc) fun q1 q2 bB=>aF bB fun fY q3=>wpAny_storeName_cell E.ok.kind (E.ok.ws i x _ hn) hc q3 fun h' c1 eS=>?_
 obtain⟨aO,aS⟩:=r.but q1 (ax.c x c hc) (fun b o hb e=>(eS.2 b hb).trans e) (fun o e=>by
  refine ay q3 fun a8 aP d=>?_;rw[e]at aP;refine oi aP<$>?_
  rintro(⟨Y,n,q⟩ | ⟨C,vs,_,q⟩ | ⟨C,_,q⟩) <;> rw[d]at q <;> contradiction) fun u o e NE=>by
  refine ay q3 fun a8 aP d=>?_;rw[e]at aP;obtain rfl:=oi aP;refine eM NE fun Y n q=>?_;rw[d]at q;contradiction
 refine bf c _ hc aO ⟨E.ok,E.la,(aI m ((wB aS (aw.not_ix E.la) (by simpa using(Ne.symm q2)) n):h'.Ns env.locals m) (fun j y w V ah=>?_)),fun y b5 aG=>?_,E.cd,fun j y V=>?_,fun j w e=>?_⟩ aS ⟨rfl,rfl⟩
 ·rcases ru ah with⟨rfl,rfl⟩ | ⟨cQ,ah⟩
  ·rw[hn]at V;cases V
  ·exact ay (hm j y w V ah) fun gN J L=>(aI gN J (L.ext aS))
 ·refine d6 (E.ca y b5 aG) fun J L bB=>aF bB fun w au=>?_;by_cases q:b5=c
  ·subst q;exact⟨J,L,_,c1⟩
  ·exact⟨J,L,w,rJ aS (aw.not_ix J) (by simpa using q) au⟩
 ·refine ay (E.cv j y V) fun b5 aG nB=>(aI b5 aG (fun w ah=>?_))
  rcases ru ah with⟨rfl,rfl⟩ | ⟨cQ,ah⟩
  ·rw[hn]at V;cases V;rw[hc]at aG;exact oi aG<$>(aI aa c1 (dU.ext aS))
  ·refine ay (nB w ah) fun gN J L=>?_
   have:b5≠c:=by
    rintro rfl
    have:=E.cd _ _ _ aG hc;subst this;exact cQ (er j i _ _ _ V hn)
   exact aI gN (rJ aS (aw.not_ix (E.ca y b5 aG).1) (by simpa using this) J) (L.ext aS)
 ·refine bZ (ru e) (fun hl=>aN hl fun ae qk=>?_) (fun hr=>aN hr fun cQ ah=>?_)
  ·refine ae▸?_;subst qk;exact fF x _ hn (.inr rfl)
  ·exact E.inb j w ah
def h1(cells:List (Str×Addr)):List (Str×NameKind)->List (Str×Addr)->List (Str×Addr)
 | [],acc=>acc
 | (n,k)::r,acc=>if k == .free then h1 cells r ((n,(cells.lookup n).getD 0)::acc)else h1 cells r acc
theorem u7{n:Str}{k:NameKind}{r:List (Str×NameKind)}{acc:List (Str×Addr)}:h1 cells ((n,k)::r) acc=if k == .free then h1 cells r ((n,(cells.lookup n).getD 0)::acc)else h1 cells r acc:=rfl
theorem Nh(f:Str×NameKind->List (Str×Addr)->Sem (ForInStep (List (Str×Addr))))
  (a7:∀n k po,f (n,k) po=if k == .free then(do let c <- cellOf env n;pure (.yield ((n,c)::po)))else pure (.yield po)) :
  ∀(names:List (Str×NameKind)) (acc:List (Str×Addr)),(∀n,(n,NameKind.free)∈names->(env.cells.lookup n).isSome)->(forIn names acc f)=pure (h1 env.cells names acc):=by
 intro r
 induction r with
 | nil=>intro acc _;rw[List.forIn_nil];rfl
 | cons e r af =>
  obtain⟨n,k⟩:=e;intro acc h;rw[List.forIn_cons,a7];rw[u7]
  cases hk:k == .free with
  | true =>
   have tg:k=.free:=by simpa using hk
   subst tg;refine aF (Option.isSome_iff_exists.mp (h n be)) fun c hc=>?_;simp only[if_true];unfold cellOf;rw[hc];simp only[Option.getD_some,pure_bind];exact af _ fun n hn=>h n (bx _ hn)
  | false =>
   simp only[Bool.false_eq_true,if_false,pure_bind];exact af _ fun n hn=>h n (bx _ hn)
theorem Dr(h:∀n,(n,NameKind.free)∈scope.names->(env.cells.lookup n).isSome):closureFor scope env=pure (h1 env.cells scope.names []):=by
 unfold closureFor;refine(congrArg (· >>= fun po=>pure po) (Nh _ (fun n k po=>?_) scope.names [] h)).trans (pure_bind _ _);cases hk:k == NameKind.free <;> simp[hk]
set_option tactic.hygienic true in
theorem Nf:∀(names:List (Str×NameKind)) (acc:List (Str×Addr)),(∀n,(n,NameKind.free)∈names->(cells.lookup n).isSome)->(∀n c,(n,c)∈acc->cells.lookup n=some c) ->
  ∀n c,(n,c)∈h1 cells names acc->cells.lookup n=some c:=by
 intro r
 induction r with
 | nil =>
  intro _ _ L n c h;exact L n c h
 | cons c8 r af =>
  obtain⟨d4,k⟩:=c8;intro acc J L n c h;rw[u7]at h
  split at h
  ·rename_i hk
   have tg:k=.free:=by simpa using hk
   subst tg;refine af _ (fun n hn=>J n (bx _ hn)) (fun m d hm=>?_) n c h
   rcases bY.mp hm with e | hm
   ·cases e;refine aF (Option.isSome_iff_exists.mp (J d4 be)) fun b5 c1=>?_;refine c1<&>?_;rfl
   ·exact L m d hm
  ·exact af _ (fun n hn=>J n (bx _ hn)) L n c h
theorem Nc:∀(names:List (Str×NameKind)) (acc:List (Str×Addr)) (n:Str) (c:Addr),(n,c)∈acc->(n,c)∈h1 cells names acc:=by
 intro r
 induction r with
 | nil =>
  intro _ _ _ h;exact h
 | cons c8 r af =>
  obtain⟨_,k⟩:=c8;intro acc n c h;rw[u7]
  split
  ·exact af _ n c (bx _ h)
  ·exact af _ n c h
theorem x7{cells:List (Str×Addr)}:∀(names:List (Str×NameKind)) (acc:List (Str×Addr)) (n:Str),(n,NameKind.free)∈names->∃c,(n,c)∈h1 cells names acc
 | (d4,k)::r,acc,n,h=>by
  rw[u7];refine bZ (bY.mp h) (fun e=>?_) (fun h=>?_)
  ·cases e;exact⟨_,Nc r _ _ _ be⟩
  ·split
   ·exact x7 r _ n h
   ·exact x7 r _ n h
theorem IX{l:List (Str×Addr)}{n:Str}{c:Addr}(h:(n,c)∈l):∃b5,l.lookup n=some b5:=by
 induction l with
 | nil=>(exact nomatch h)
 | cons p r af =>
  obtain⟨k,v⟩:=p;rw[List.lookup_cons]
  cases hb:n == k with
  | true=>exact⟨v,rfl⟩
  | false =>
   refine bZ (bY.mp h) (fun e=>?_) (fun h=>?_)
   ·cases e;simp at hb
   ·exact af h
theorem pi{names:List (Str×NameKind)}(h:∀n,(n,NameKind.free)∈names->(cells.lookup n).isSome){n:Str}{c:Addr}(e:(h1 cells names []).lookup n=some c):cells.lookup n=some c:=
 Nf names [] h (fun u u h=>(nomatch h)) n c (mem_of_lookup e)
theorem Nd{names:List (Str×NameKind)}(h:∀n,(n,NameKind.free)∈names->(cells.lookup n).isSome){n:Str}(hn:(n,NameKind.free)∈names):(h1 cells names []).lookup n=cells.lookup n:=by
 exact aF (x7 names [] n hn) fun c hc=>aF (IX hc) fun b5 c1=>c1.trans (pi h c1 ..).symm
structure xK(names:List (Str×NameKind)):Prop where
 uniq:pd names
 nodbg:∀(i:Nat) (x:Str) (k:NameKind),names[i]?=some (x,k)->(x == ("__debug__" : Str))=false
 kinds:∀(i:Nat) (x:Str) (k:NameKind),names[i]?=some (x,k)->k=.local\/k=.cell\/k=.globalImplicit
theorem tP:∀{names:List (Str×NameKind)},pd names->∀{i:Nat} {x:Str} {k:NameKind},names[i]?=some (x,k)->names.lookup x=some k:=by
 intro r
 induction r with
 | nil =>
  intro _ i x k h
  (exact nomatch h)
 | cons c8 r af =>
  obtain⟨y,bs⟩:=c8;intro er i x k h;rw[List.lookup_cons]
  cases i with
  | zero=>simp at h;obtain⟨rfl,rfl⟩:=h;simp
  | succ i =>
   have cQ:(x == y)=false:=by
    cases hb:x == y with
    | false=>rfl
    | true =>
     have:x=y:=by simpa using hb
     subst this;exact absurd (er 0 (i+1) x bs k (by rfl) h) (by omega)
   refine cQ<&>?_;exact af (fun i j x k bs J L=>by have:=er (i+1) (j+1) x k bs (by simpa using J) (by simpa using L);omega) ((by simpa using h):r[i]?=some (x,k))
theorem An:∀{names:List (Str×NameKind)} {x:Str} {k:NameKind},names.lookup x=some k->∃i,names.findIdx? (·.1 == x)=some i/\names[i]?=some (x,k):=by
 intro r
 induction r with
 | nil =>
  intro _ _ h
  (exact nomatch h)
 | cons c8 r af =>
  obtain⟨y,bs⟩:=c8;intro x k h;rw[List.lookup_cons]at h;refine List.findIdx?_cons<&>?_
  cases hb:x == y with
  | true =>
   rw[hb]at h;refine oi h<&>?_
   have:x=y:=by simpa using hb
   exact this<&>(aI 0 (by simp) (by rfl))
  | false =>
   rw[hb]at h;refine ay (af h) fun i J L=>?_
   have:(y == x)=false:=by
    cases hq:y == x with
    | false=>rfl
    | true =>
     have:y=x:=by simpa using hq
     subst this;simp at hb
   exact aI (i+1) (by simp[this,J]) (by simpa using L)
theorem Bk(hk:env.scope.kind=.function):(relabel scope env).names=cK env.scope.names scope.names:=by
 unfold relabel cK Env.kindOf;simp[hk]
structure lu(N:List (Str×NameKind))(scope:Scope):Prop where
 kind:scope.kind=.function
 sc:xK (cK N scope.names)
 nocell:∀y∈scope.names,y.2≠.cell
section
variable {t:Nat}{x:Str}
theorem lu.free(c:lu N scope){n:Str}(h:(n,NameKind.free)∈scope.names):N.lookup n=some .cell:=by
 refine aF (List.mem_iff_getElem?.mp h) fun i hi=>?_;by_cases hq:N.lookup n=some .cell
 ·exact hq
 ·have:(cK N scope.names)[i]?=some (n,.free):=by simp[cK,hi,hq]
  rcases c.sc.kinds i n _ this with q | q | q <;> contradiction
set_option tactic.hygienic true in
theorem lu.cell_(c:lu N scope){y:Str}(h:(cK N scope.names)[i]?=some (y,.cell)):(y,NameKind.free)∈scope.names/\N.lookup y=some .cell:=by
 simp only[cK,fc]at h
 cases hq:scope.names[i]? with
 | none=>rw[hq]at h;contradiction
 | some p =>
  obtain⟨n,k⟩:=p;rw[hq]at h;simp only[Option.map_some,Option.some.injEq]at h
  split at h
  ·rename_i hc
   (first | contradiction | (obtain rfl:=oi h) | cases h)
   simp at hc;exact⟨hc.1▸d0 hq,hc.2⟩
  ·(first | contradiction | (obtain rfl:=oi h) | cases h)
   exact absurd rfl (c.nocell _ (d0 hq))
theorem lu.names(c:lu N scope):∀y∈scope.names,y.2=.local->scope.names.lookup y.1=some .local:=by
 rintro⟨y,k⟩ aG rfl
 refine aF (List.mem_iff_getElem?.mp aG) fun i hi=>tP (fun i j z k bs J L=>?_) hi
 have V:∃q,(cK N scope.names)[i]?=some (z,q):=by
  simp only[cK,fc,J];simp only[Option.map_some,Option.some.injEq];split <;> exact⟨_,rfl⟩
 have ah:∃q,(cK N scope.names)[j]?=some (z,q):=by
  simp only[cK,fc,L];simp only[Option.map_some,Option.some.injEq];split <;> exact⟨_,rfl⟩
 exact aF V fun u V=>aF ah fun u ah=>c.sc.uniq i j z _ _ V ah
end
section
variable {t:Nat}{x:Str}
theorem sS(c:lu env.scope.names scope)(E:a2 env R h U):∀n,(n,NameKind.free)∈scope.names->(env.cells.lookup n).isSome:=fun n hn=>by
 refine ay (An (c.free hn)) fun i u hi=>ay (E.cv i n hi) fun a ha u=>?_;refine ha<&>?_;rfl
theorem Nx{C:Addr}{m:Str->Option Value}(c:lu env.scope.names scope)(E:a2 env R h U)(hC:h.Ns C m)(zs:C∉U.all)(cQ:∀y a,env.cells.lookup y=some a->a≠C) :
  a2 (compEnvC scope (h1 env.cells scope.names []) C env) (dz (hO env.scope.names (cK env.scope.names scope.names)) R) h U:=by
 have s9:=sS c E;have fT:(compEnvC scope (h1 env.cells scope.names []) C env).scope.names=cK env.scope.names scope.names:=Bk E.ok.kind;refine⟨⟨?_,E.ok.glob,E.ok.bins,?_,?_⟩,zs,(aI m hC (fun i y v V ah=>?_)),fun y a ha=>?_,fun y z a J L=>?_,fun i y V=>?_,fun i v e=>?_⟩
 ·exact c.kind
 ·intro i y k hi;rw[fT]at hi;show(compEnvC scope (h1 env.cells scope.names []) C env).scope.names.lookup y=some k;exact fT<&>(tP c.sc.uniq hi)
 ·intro i y k hi;rw[fT]at hi;exact c.sc.nodbg i y k hi
 ·rw[fT]at V;exfalso;simp only[dz,hO,fc,V]at ah
  (exact nomatch ah)
 ·exact d6 (E.ca y a (pi s9 ha)) fun J L au=>⟨J,cQ y a (pi s9 ha),au⟩
 ·exact E.cd y z a (pi s9 J) (pi s9 L)
 ·rw[fT]at V;refine aN (c.cell_ V) fun J L=>ay (An L) fun j aR td=>ay (E.cv j y td) fun a ha hv=>(aI a ((Nd s9 J).trans ha) (fun v ah=>hv v ?_));simp only[dz,hO,fc,V]at ah;simp[aR]at ah
  cases hq:R[j]? with
  | none=>rw[hq]at ah;contradiction
  | some o=>rw[hq]at ah;simp at ah;exact congrArg _ ah
 ·refine fT<&>?_;simp only[dz,hO,fc]at e
  cases hq:(cK env.scope.names scope.names)[i]? with
  | none=>rw[hq]at e;contradiction
  | some p =>
   obtain⟨y,k⟩:=p;rw[hq]at e;by_cases hk:k=.cell
   ·exact fF y k rfl (.inr hk)
   ·simp[hk]at e
end
structure iC(K:bc)(A:Around):Prop where
 ex:∃l,A.frames=some l/\l.map (·.frame)=K.hb.fr.map some/\∀e∈l,e.scope.kind≠.module
def i9(c2:H->ab->aj Bool)(c9:H->ab->aj H)(x:H)(S:ab):aj (Option H):=
 (c2 x S).bind fun b S=>if b then(c9 x S).bind fun v S=>.ok (some v) S else .ok none S
theorem bp.snoc{p:H}{v:Value}(a:bp h U Y vs)(b:am h U p v):bp h U (Y++[p]) (vs++[v]):=
 a.append #v[b]
section
variable {t:Nat}{x:Str}
inductive uE(K:bc)(s:Shared)(U:aw)(c:aj H)(acc:Value)(C:Addr)(r:Result)(s':Shared):Prop
 | inl (e:r=.ok .next) (v:H) (σ':ab) (α':aw) (m:Str->Option Value) (hc:c=.ok v σ') (x:a4 [] U s.heap α' s'.heap) (bB:ao K.hb s'.heap σ' α') (vr:am s'.heap α' v acc) (jp:cC s s') (ns:s'.heap.Ns C m) (J:C∉α'.all) (L:s.heap.get? C=none) (au:K.hb.get? C=none) (aQ:C∉K.hb.fr):uE K s U c acc C r s'
theorem ao.unhide{hb h S U}{hid:List Addr}(r:ao hb h S U)(hs:∀a∈hid,a∈U.hid):ao hb h S ⟨U.ix,hid,U.fr⟩:=
 ⟨r.base,r.fresh,r.nodup,r.len,fun a ha=>r.hidden a (hs a ha),fun j m a V ah=>(r.obj j m a V ah).re (U:=U) (fun u u e=>e) (fun a ha=>by
  rcases dt.mp ha with q | q
  ·exact hX _ q
  ·exact fb _ (hs a q)),fun a ha=>r.hfr a (hs a ha),r.fe,r.frs,r.frNot⟩
def jf(n:Nat)(a5:Bool)(w:Option (Nat×aX))(c2:H->ab->aj Bool)(c9:H->ab->aj H)(ys Y:List H)(S:ab):aj H:=
 h3 n (dY w (i9 c2 c9) Y S) fun l9 S=>eO a5 (ys++l9) S
theorem zn{n a5 w c2 c9 ys Y S}(h:jf n a5 w c2 c9 ys Y S≠.stuck):hT w S:=by
 by_cases hw:hT w S
 ·exact hw
 ·refine absurd ?_ h;unfold jf
  cases Y with
  | nil=>refine(show dY w (i9 c2 c9) [] S=.stuck from aV hw ..).symm▸?_;rfl
  | cons x Y=>rw[show dY w (i9 c2 c9) (x::Y) S=.stuck from aV hw];rfl
theorem PS{n a5 w c2 c9 ys p Y S}(hw:hT w S):jf n a5 w c2 c9 ys (p::Y) S=h3 n ((i9 c2 c9 p S).bind fun y S=>(dY w (i9 c2 c9) Y S).bind fun l9 S=>.ok (x8 y l9) S) fun l9 S=>eO a5 (ys++l9) S:=by
 unfold jf;rw[show dY w (i9 c2 c9) (p::Y) S=_ from aC hw]
def UE(f g:ab->aj H):aj Bool->aj H
 | .ok true S=>g S
 | .ok false S=>f S
 | _=>.stuck
def A1(f:H->ab->aj H):aj H->aj H
 | .ok v S=>f v S
 | _=>.stuck
theorem PR{n a5 w c2 c9 ys p Y S c}(h:jf n a5 w c2 c9 ys (p::Y) S=c)(hc:c≠.stuck):hT w S/\UE (jf n a5 w c2 c9 ys Y) (fun S=>A1 (fun v=>jf n a5 w c2 c9 (ys++[v]) Y) (c9 p S)) (c2 p S)=c:=by
 refine⟨(zn (h▸hc)),?_⟩;rw[<- h,PS (zn (h▸hc))];unfold i9
 cases c2 p S with
 | exc i S=>rfl
 | stuck=>rfl
 | ok b S =>
  cases b with
  | false =>
   show h3 n _ _=h3 n ((dY w (i9 c2 c9) Y S).bind fun l9 S=>.ok l9 S) _;cases dY w (i9 c2 c9) Y S <;> rfl
  | true =>
   show A1 _ (c9 p S)=h3 n (((c9 p S).bind fun v S=>.ok (some v) S).bind _) _
   cases c9 p S with
   | exc i S=>rfl
   | stuck=>rfl
   | ok v S =>
    show h3 n _ _=h3 n ((dY w (i9 c2 c9) Y S).bind fun l9 S=>.ok (v::l9) S) _
    cases dY w (i9 c2 c9) Y S with
    | ok l9 S=>show eO _ _ _=eO _ _ _;refine cN<&>?_;rfl
    | exc i S=>rfl
    | stuck=>rfl
set_option tactic.hygienic true in
theorem Ho{n a5 w c2 c9 ys Y S}(hn:ys.length<=n)(h:jf n a5 w c2 c9 ys Y S≠.stuck):ys.length<=aL:=by
 unfold jf at h
 cases hq:dY w (i9 c2 c9) Y S with
 | ok l9 σ' =>
  rw[hq]at h
  delta h3 eO at h;dsimp only at h
  split at h
  ·rename_i hl;simp at hl;(grind)
  ·exact absurd rfl h
 | exc i σ'=>rw[hq]at h;exact absurd rfl h
 | stuck=>rw[hq]at h;exact absurd rfl h
end
def Sub(fL R:aB):Prop:=∀(i:Nat) (v:H),fL[i]?=some (some v)->R[i]?=some (some v)
theorem Sub.refl:Sub R R:=fun u u h=>h
theorem a2.weak(E:a2 env R h U)(hs:Sub fL R):a2 env fL h U:=by
 exact ay E.ns fun m n hm=>⟨E.ok,E.la,(aI m n (fun i x v J L=>hm i x v J (hs i v L))),E.ca,E.cd,fun i x h=>(ay (E.cv i x h) fun c J L=>(aI c J (fun v hv=>L v (hs i v hv)))),fun i v h=>E.inb i v (hs i v h)⟩
def nX(K:bc)(A:Around)(fr:List Addr)(env:Env)(target:Expr)(bd:H->aB->Option aB):Prop:=
 ∀(s:Shared) (S:ab) (U:aw) (R ρ':aB) (p:H) (aa:Value),bd p R=some ρ'->a2 env R s.heap U->ao K.hb s.heap S U->am s.heap U p aa ->
  ∀(Q:Unit->Shared->Prop) (X:Value->Shared->Prop),(∀s',ao K.hb s'.heap S U->a2 env ρ' s'.heap U->a4 fr U s.heap U s'.heap->cC s s'->Q () s')->wpAny (model K.prog K.w) A (assign target env aa) Q X s
def sD(target:Expr):Prop:=(∀it v,letOwnedTupleGo target it v=pure ())\/∃kT k pos,target=.Tuple kT k pos
theorem Nu{prog:Program}{w:World}{ao:Result->Shared->Prop}{iter:Expr}{it acc:Value}(I:Nat->Shared->Prop)
  (Yd:∀n s,I n s->wpAny (model prog w) A (pyNext it) (fun r s₁=>match r with
   | none=>ao (.ok .next) s₁
   | some v=>wpAny (model prog w) A (letOwnedTupleGo target it v) (fun u s₁=>wpAny (model prog w) A (assign target env v) (fun u bi =>
     wpAny (model prog w) A (forIn ifs true fun c r=>if r=true then do let ok <- isTrue c env (eval c env);pure (ForInStep.yield ok)else pure (ForInStep.yield r)) (fun ok fX =>
      if ok=true then wpAny (model prog w) A (eval elt env) (fun x l7 =>
       wpAny (model prog w) A (call (.builtin "list.append") [acc,x]) (fun u ul=>∃m,m<n/\I m ul) (notedBy (model prog w) A env fun e s'=>ao (.error e) s') l7) (notedBy (model prog w) A env fun e s'=>ao (.error e) s') fX
      else ∃m,m<n/\I m fX) (notedBy (model prog w) A env fun e s'=>ao (.error e) s') bi) (notedBy (model prog w) A env fun e s'=>ao (.error e) s') s₁) (notedBy (model prog w) A env fun e s'=>ao (.error e) s') s₁) (notedBy (model prog w) A env fun e s'=>ao (.error e) s') s)
  (n:Nat) (h:I n s):codeAny (model prog w) A (.compLoop (.ListComp elt [⟨target,iter,ifs,0⟩] scope pos) 0 it acc env) ao s:=by
 refine codeAny_loop rfl I (fun n s bg=>?_) n h;show wpAny _ A ((compTurn (.ListComp elt [⟨target,iter,ifs,0⟩] scope pos) 0 it acc env).onRaise (fun x=>do noteFrame x env;theTreesLotGoes x)) _ _ s;refine wpAny_noted ?_;refine compTurn_list<&>(aK (wpAny_standAt (aK (cu (Yd n s bg) (fun r s₁ fi=>?_) fun u u h'=>h'))))
 cases r with
 | none=>exact bh fi
 | some v =>
  refine aK (cu fi (fun u s₁ fi=>(aK (cu fi (fun u bi h₂=>aK (cu h₂ (fun ok fX oL=>?_) fun u u h'=>h')) fun u u h'=>h'))) fun u u h'=>h')
  cases ok with
  | false=>exact bh ⟨rfl,oL⟩
  | true =>
   exact aK (aK (cu oL (fun x l7 vW=>aK (cu vW (fun u ul k7=>bh (bh ⟨rfl,k7⟩)) fun u u h'=>h')) fun u u h'=>h'))
structure uF where
 K:bc
 s:Shared
 U:aw
 D:Addr
 cenv:Env
 bd:H->aB->Option aB
 ρc:aB
 own:List Addr
structure qI(P:uF):Prop where
 hown:∀b∈P.own,P.s.heap.get? b=none
 hD:P.s.heap.get? P.D=none
 hC:P.s.heap.get? P.cenv.locals=none
 hbD:P.K.hb.get? P.D=none
 hbC:P.K.hb.get? P.cenv.locals=none
 hDx:P.D∉P.U.hid
 ap:nW P.cenv P.own
 hCf:P.cenv.locals∉P.K.hb.fr
structure gz(P:uF)(ys:List H)(us:List Value)(n:Nat)(R:aB)(S:ab)(s:Shared)(U:aw):Prop where
 hid:U.hid=P.D::P.U.hid
 x:a4 [] P.U P.s.heap ⟨U.ix,P.U.hid,U.fr⟩ s.heap
 r:ao P.K.hb s.heap S U
 E:a2 P.cenv R s.heap U
 hρ:Sub P.ρc R
 hl:s.heap.get? P.D=some { cls:=.type "list",data:=.seq us.toArray n }
 vs:bp s.heap U ys us
 m:cC P.s s
theorem ao.show{hid:List Addr}(r:ao hb h S U)(e:U.hid=D::hid)(hDx:D∉hid)(hl:h.get? D=some { cls:=.type "list",data:=.seq us.toArray n })(vs:bp h U ys us):ao hb h (S++[.lst ys]) ⟨U.ix++[D],hid,U.fr⟩:=by
 have aW:∀a∈hid,a∈U.hid:=fun a ha=>e<&>bx _ ha;have zv:D∈U.hid:=e<&>be;have one:∀{a:Addr} {p:Prop},a∈U.ix++[D]->(a∈U.ix->p)->(a=D->p)->p:=fun h J L=>(dt.mp h).elim J fun q=>L (di.mp q);have Kx:∀a,a∈(⟨U.ix++[D],hid,U.fr⟩:aw).all->a∈U.all:=fun a ha=>(dt.mp ha).elim (fun q=>one q (hX _) fun q=>fb _ (q▸zv)) fun q=>fb _ (aW a q);refine⟨r.base,fun a ha=>one ha (r.fresh a) fun q=>q▸r.hfr D zv,?_,?_,fun a ha=>⟨fun q=>one q (r.hidden a (aW a ha)).1 fun q=>hDx (q▸ha),(r.hidden a (aW a ha)).2⟩,fun j m a V ah=>?_,fun a ha=>r.hfr a (aW a ha),r.fe,r.frs,fun a ha q=>one q (r.frNot a ha) fun q=>?_⟩
 ·exact jz.mpr ⟨r.nodup,List.pairwise_singleton _ _,fun a ha b hb z=>(r.hidden D zv).1 (di.mp hb▸z▸ha)⟩
 ·show _=(U.ix++[D]).length;refine cD<&>?_;rw[cD,r.len];rfl
 ·change(U.ix++[D])[j]?=some a at ah;by_cases aR:j<S.length
  ·rw[fZ aR]at V;rw[fZ (r.len▸aR)]at ah;exact(r.obj j m a V ah).re ((fun j a e=>(fZ (dv e).1).trans e):∀(j:Nat) (a:Addr),U.ix[j]?=some a->(U.ix++[D])[j]?=some a) Kx
  ·have aR:=e0.mp aR;rw[gh aR]at V;rw[gh (r.len▸aR),<- r.len]at ah;generalize j-S.length=k at V ah
   cases k with
   | zero =>
    exact oi V<$>(oi ah<$>(fF us n hl (vs.re ((fun j a e=>(fZ (dv e).1).trans e):∀(j:Nat) (a:Addr),U.ix[j]?=some a->(U.ix++[D])[j]?=some a) Kx)))
   | succ k=>exact nomatch V
 ·subst q;obtain⟨_,o,e,Z,d4,d⟩:=r.frs a ha;rw[hl]at e;obtain rfl:=oi e;contradiction
section
variable {P:uF}
theorem gz.hD(aq:gz P ys us n R S s U):P.D∈U.hid:=aq.hid<&>be
theorem gz.ha(aq:gz P ys us n R S s U):P.D∈U.all:=fb _ aq.hD
theorem gz.ext(aq:gz P ys us n R S s U)(x:a4 [] U s.heap α' s'.heap)(r:ao P.K.hb s'.heap σ' α')(m:cC s s'):gz P ys us n R σ' s' α':=
 ⟨x.hid.trans aq.hid,aq.x.trans (x.rehid _),r,aq.E.ext x .nil,aq.hρ,x.seqs _ _ (aq.r.hidden _ aq.hD).1 aq.hl .seq,aq.vs.ext x,aq.m.trans m⟩
theorem gz.item(aq:gz P ys us n R S s U)(c:qI P)(x:a4 P.own U s.heap U s'.heap)(r:ao P.K.hb s'.heap S U)(m:cC s s'):gz P ys us n R S s' U:=
 ⟨aq.hid,a4.drop aq.x c.hown (fun u q=>absurd q dM) (fD P.own<&>x.rehid P.U.hid),r,aq.E.ext x c.ap,aq.hρ,x.seqs _ _ (aq.r.hidden _ aq.hD).1 aq.hl .seq,aq.vs.ext x,aq.m.trans m⟩
theorem gz.store(aq:gz P ys us n R S s U)(c:qI P)(x:a4 [P.cenv.locals] U s.heap U s'.heap)(r:ao P.K.hb s'.heap S U)(E:a2 P.cenv ρ' s'.heap U)(hs:Sub P.ρc ρ')(m:cC s s'):gz P ys us n ρ' S s' U:=
 ⟨aq.hid,a4.drop aq.x (fun b q=>di.mp q▸c.hC) (fun u q=>absurd q dM) (fD [P.cenv.locals]<&>x.rehid P.U.hid),r,E,hs,x.seqs _ _ (aq.r.hidden _ aq.hD).1 aq.hl .seq,aq.vs.ext x,aq.m.trans m⟩
theorem gz.app(aq:gz P ys us n R S s U)(c:qI P){v:H}{d4:Nat}(wc:∀b,b≠P.D->h'.get? b=s.heap.get? b)(hl:h'.get? P.D=some { cls:=.type "list",data:=.seq (us++[aa]).toArray d4 })(vr:am s.heap U v aa):gz P (ys++[v]) (us++[aa]) d4 R S { s with heap:=h' } U:=
 ⟨aq.hid,aq.x.sameBut c.hD wc,aq.r.sameHid aq.hD c.hbD wc ⟨_,hl⟩ (fun o e=>by rw[aq.hl]at e;refine oi e<$>?_;intro hq;refine eM hq fun u u q=>?_;contradiction),aq.E.sameBut aq.ha wc,aq.hρ,hl,(aq.vs.snoc vr).sameBut aq.ha wc,aq.m.trans ⟨rfl,rfl⟩⟩
theorem gz.done(aq:gz P ys us n R S s U)(c:qI P)(a5:Bool):uE P.K P.s P.U (.ok (if a5 then .fl ys else .ref S.length) (if a5 then S else S++[.lst ys])) (.ref P.D) P.cenv.locals (.ok .next) s:=by
 refine ay aq.E.ns fun I1 Jk u=>?_;have aW:∀a∈P.U.hid,a∈U.hid:=fun a ha=>aq.hid<&>bx _ ha
 cases a5 with
 | true =>
  have Kw:∀a,a∈(⟨U.ix,P.U.hid,U.fr⟩:aw).all->a∈U.all:=fun a ha=>(dt.mp ha).elim (hX _) fun q=>fb _ (aW a q);exact .inl rfl _ _ ⟨U.ix,P.U.hid,U.fr⟩ I1 rfl aq.x (aq.r.unhide aW) (am.flI aq.hl (fun q=>(dt.mp q).elim ((aq.r.hidden P.D aq.hD).1) c.hDx) (aq.vs.re (U:=U) (α':=⟨U.ix,P.U.hid,U.fr⟩) (fun u u e=>e) Kw)) aq.m Jk (fun q=>aq.E.la (Kw _ q)) c.hC c.hbC c.hCf
 | false =>
  refine .inl rfl _ _ ⟨U.ix++[P.D],P.U.hid,U.fr⟩ I1 rfl ?_ (aq.r.show aq.hid c.hDx aq.hl aq.vs) (.ref ?_) aq.m Jk (fun q=>?_) c.hC c.hbC c.hCf
  ·refine ay aq.x.pre fun β q1 q2=>⟨rfl,(aI (β++[P.D]) ?_ (fun a ha=>(dt.mp ha).elim (q2 a) fun q=>di.mp q▸⟨c.hD,dM⟩)),aq.x.seqs,aq.x.rest,aq.x.alive,aq.x.fre⟩;show U.ix++[P.D]=_;exact(show U.ix=P.U.ix++β from q1 ..).symm▸(cN ..).symm▸rfl
  ·refine aq.r.len<&>gh (bJ _)<&>Nat.sub_self<&>?_;rfl
  ·refine aq.E.la ((dt.mp q).elim (fun q=>(dt.mp q).elim (hX _) fun q=>?_) fun q=>fb _ (aW _ q));refine di.mp q<&>?_;exact aq.ha
inductive xF(P:uF)(Y:List H)(St:Nat->Heap->aw->Prop)(go:List H->List H->ab->aj H)(c:aj H)(k:Nat)(s:Shared):Prop
 | mk (i:Nat) (S:ab) (U:aw) (ys:List H) (us:List Value) (R:aB) (n:Nat) (hk:k=Y.length-i) (hi:i<=Y.length) (aq:gz P ys us n R S s U) (st:St i s.heap U) (bM:go ys (Y.drop i) S=c) (pS:ys.length<=i):xF P Y St go c k s
theorem SJ{eh v:Value}{P:Shared->Prop}{Q:Unit->Shared->Prop}{X:Value->Shared->Prop}(lm:sD target)(L:uM K A eh v P s)(J:P s)(bf:∀s',P s'->Q () s'):wpAny (model K.prog K.w) A (letOwnedTupleGo target eh v) Q X s:=by
 exact bZ lm (fun bM=>(wpAny_of_eq (bM eh v) (bf s J))) (fun hr=>lG hr fun kT k pos ae=>ae▸(L kT k pos _ _ bf))
theorem NA{bR:Sem Bool}{it:Value}{w:Option (Nat×aX)}{St:Nat->Heap->aw->Prop}
  {c2:H->ab->aj Bool} {c9:H->ab->aj H} {a5:Bool} {o:aj H} {Q:Option Value->Shared->Prop} {sH:Unit->Shared->Prop} {qS:Bool->Shared->Prop} {Cy:Value->Shared->Prop} {Cz:Value->Shared->Prop} {X:Value->Shared->Prop} (c:qI P) (I:hG P.K A false P.own it Y w St) (dP:nX P.K A [P.cenv.locals] P.cenv target P.bd) (mG:sD target) (d7:∀v ρ',P.bd v P.ρc=some ρ'->Sub P.ρc ρ') (pN:∀v S,P.bd v P.ρc=none->c2 v S=.stuck) (hc:o≠.stuck)
  (pQ:∀v ρ' s S U,P.bd v P.ρc=some ρ'->a2 P.cenv ρ' s.heap U->ao P.K.hb s.heap S U->av P.K hW A bR (c2 v S) s U)
  (pJ:∀v ρ' s S U,P.bd v P.ρc=some ρ'->a2 P.cenv ρ' s.heap U->ao P.K.hb s.heap S U->av P.K am A (eval elt P.cenv) (c9 v S) s U)
  (fx:i<Y.length) (aq:gz P ys us n R S s U) (st:St i s.heap U) (bM:jf Y.length a5 w c2 c9 ys (Y.drop i) S=o) (pS:ys.length<=i)
  (J:∀v s,wpAny (model P.K.prog P.K.w) A (letOwnedTupleGo target it v) (fun u s=>wpAny (model P.K.prog P.K.w) A (assign target P.cenv v) sH X s) X s->Q (some v) s) (L:∀s,wpAny (model P.K.prog P.K.w) A bR qS X s->sH () s) (au:∀s,wpAny (model P.K.prog P.K.w) A (eval elt P.cenv) Cy X s->qS true s)
  (aQ:∀v s,wpAny (model P.K.prog P.K.w) A (call (.builtin "list.append") [.ref P.D,v]) Cz X s->Cy v s) (hn:∀s,xF P Y St (jf Y.length a5 w c2 c9) o (Y.length-(i+1)) s->qS false s/\∀v,Cz v s):wpAny (model P.K.prog P.K.w) A (pyNext it) Q X s:=by
 rw[List.drop_eq_getElem_cons fx]at bM;have lN:=Ho (aE pS (b4 fx)) (bM<&>hc);refine aN (PR bM hc) fun hw bM=>?_
 cases hb:P.bd Y[i] P.ρc with
 | none=>rw[pN _ S hb]at bM;exact absurd bM.symm hc
 | some ρ' =>
 refine I.item i s S U Y[i] (cM fx) st aq.r hw _ _ fun v s₁ vr WV own a1 wM AN=>J _ _ ?_;refine SJ mG own ⟨vr,WV rfl,.refl,wM,.refl _⟩ fun bi q=>ve q fun vr WW o4 hR h5=>?_;have j3:=(aq.item c a1 wM AN).item c o4 hR h5;refine dP bi S U P.ρc ρ' Y[i] v hb (j3.E.weak j3.hρ) hR vr _ _ fun fX l2 qJ La mS=>L _ ?_;have uJ:=j3.store c La l2 qJ (d7 _ _ hb) mS;have ba:=pQ Y[i] ρ' fX S U hb uJ.E l2;generalize c2 Y[i] S=ND at bM ba;refine cu (ba fun q=>hc (by rw[<- bM];refine q<&>?_;rfl)) (fun ok l7 hp=>?_) fun e l7 hx=>?_
 ·obtain⟨b,sx,xp,rfl,o3,J7,eP,TV⟩:=hp;obtain rfl:ok=b:=eP;have mh:=uJ.ext o3 J7 TV;have Kv:=I.frame _ _ _ _ _ _ (I.frame _ _ _ _ _ _ WW La fun b hb q=>c.ap.1 (di.mp q▸hb)) o3 fun u u=>dM
  cases ok with
  | false=>exact(hn _ ⟨i+1,sx,xp,ys,us,_,n,rfl,fx,mh,Kv,bM,Nat.le_succ_of_le pS⟩).1
  | true =>
   have he:=pJ Y[i] ρ' l7 sx xp hb mh.E J7;change A1 _ (c9 Y[i] sx)=o at bM;generalize c9 Y[i] sx=YT at bM he;refine au _ (cu (he fun q=>hc (by rw[<- bM,q];rfl)) (fun aa ul hp=>aQ _ _ ?_) fun e ul hx=>?_)
   ·obtain⟨jX,Cd,YO,rfl,xi,wN,Ym,TX⟩:=hp;have xE:=mh.ext xi wN TX;refine wpAny_list_append_plain ⟨_,xE.hl⟩ (fun Zj zR J8=>?_) (by refine eY<&>aq.vs.1<$>?_;exact iS lN);refine aF zR fun TZ zR=>?_;exact(hn _ ⟨i+1,Cd,YO,ys++[jX],us++[aa],_,TZ,rfl,fx,(xE.app c J8.2 (by rw[zR];simp) Ym),I.but _ _ _ _ _ (I.frame _ _ _ _ _ _ Kv xi fun u u=>dM) xE.ha J8.2,bM,by rw[cD];exact Nat.succ_le_succ pS⟩).2 _
   ·obtain⟨j,Cd,rfl,_⟩:=hx;exact absurd bM.symm hc
 ·obtain⟨j,Cd,rfl,_⟩:=hx;exact absurd bM.symm hc
theorem Ny{iter:Expr}{it:Value}{w:Option (Nat×aX)}{St:Nat->Heap->aw->Prop}
  {c2:H->ab->aj Bool} {c9:H->ab->aj H} {a5:Bool} {o:aj H} (c:qI P) (I:hG P.K A false P.own it Y w St) (dP:nX P.K A [P.cenv.locals] P.cenv target P.bd) (mG:sD target) (d7:∀v ρ',P.bd v P.ρc=some ρ'->Sub P.ρc ρ') (pN:∀v S,P.bd v P.ρc=none->c2 v S=.stuck) (hc:o≠.stuck)
  (pQ:∀v ρ' s S U,P.bd v P.ρc=some ρ'->a2 P.cenv ρ' s.heap U->ao P.K.hb s.heap S U ->
   av P.K hW A (forIn ifs true fun c r=>if r=true then do let ok <- isTrue c P.cenv (eval c P.cenv);pure (ForInStep.yield ok)else pure (ForInStep.yield r)) (c2 v S) s U)
  (pJ:∀v ρ' s S U,P.bd v P.ρc=some ρ'->a2 P.cenv ρ' s.heap U->ao P.K.hb s.heap S U->av P.K am A (eval elt P.cenv) (c9 v S) s U)
  (aq:gz P [] [] n R S s U) (st:St 0 s.heap U) (bM:jf Y.length a5 w c2 c9 [] Y S=o) :
  codeAny (model P.K.prog P.K.w) A (.compLoop (.ListComp elt [⟨target,iter,ifs,0⟩] scope pos) 0 it (.ref P.D) P.cenv) (uE P.K P.s P.U o (.ref P.D) P.cenv.locals) s:=by
 refine Nu (xF P Y St (jf Y.length a5 w c2 c9) o) (fun n s₁ inv=>?_) _ ⟨0,S,U,[],[],R,n,rfl,ep _,aq,st,bM,bJ _⟩;clear bM st aq;obtain⟨i,ak,bn,ys,us,cL,AV,rfl,hi,aq,st,bM,pS⟩:=inv;by_cases fx:i<Y.length
 ·exact NA c I dP mG d7 pN hc pQ pJ fx aq st bM pS (fun u u h=>h) (fun u h=>h) (fun u h=>h) (fun u u h=>h) fun u h=>⟨(aI _ (Nat.sub_succ_lt_self _ _ fx) h),fun u=>(aI _ (Nat.sub_succ_lt_self _ _ fx) h)⟩
 ·have e:=Nat.le_antisymm hi (e0.mp fx);rw[e,List.drop_length]at bM;have hw:=zn (bM<&>hc);refine I.done s₁ ak bn (e▸st) aq.r hw _ _ fun bi o4 hR h5=>?_
  have QG:aj.ok (if a5 then H.fl ys else .ref ak.length) (if a5 then ak else ak++[.lst ys])=o:=by
   refine bM▸?_;unfold jf;rw[show dY w (i9 c2 c9) [] ak=.ok [] ak from aC hw];show _=eO a5 (ys++[]) ak;rw[fD];unfold eO;rw[aC (Ho (e▸pS) (bM<&>hc))];cases a5 <;> rfl
  exact QG▸(aq.item c o4 hR h5).done c a5
end
section
variable {bd:H->aB->Option aB}
noncomputable abbrev e1(scope:Scope)(C:Addr)(env:Env):Env:=compEnvC scope (h1 env.cells scope.names []) C env
noncomputable abbrev ja(scope:Scope)(env:Env)(R:aB):aB:=dz (hO env.scope.names (cK env.scope.names scope.names)) R
def pj(a5:Bool)(c2:H->ab->aj Bool)(c9:H->ab->aj H)(lF:aj (List H×Option (Nat×aX))):aj H:=
 lF.bind fun p S=>jf p.1.length a5 p.2 c2 c9 [] p.1 S
theorem Dx{iter:Expr}{lF:aj (List H×Option (Nat×aX))}
  {c2:H->ab->aj Bool} {c9:H->ab->aj H} {a5:Bool} {xJ:Value->Addr->Result->Shared->Prop} {E:Value->Shared->Prop}
  (c:lu env.scope.names scope) (nZ:a2 env R s.heap U) (bS:j6 K A false (eval iter env) lF s U) (hc:pj a5 c2 c9 lF≠.stuck)
  (dP:∀C,cU K.hb (e1 scope C env)->(e1 scope C env).scope.names=cK env.scope.names scope.names->nX K A [C] (e1 scope C env) target bd) (mG:sD target) (d7:∀v ρ',bd v (ja scope env R)=some ρ'->Sub (ja scope env R) ρ') (pN:∀v S,bd v (ja scope env R)=none->c2 v S=.stuck)
  (pQ:∀C v ρ' s S U,cU K.hb (e1 scope C env)->bd v (ja scope env R)=some ρ'->a2 (e1 scope C env) ρ' s.heap U->ao K.hb s.heap S U ->
   av K hW A (forIn ifs true fun c r=>if r=true then do let ok <- isTrue c (e1 scope C env) (eval c (e1 scope C env));pure (ForInStep.yield ok)else pure (ForInStep.yield r)) (c2 v S) s U)
  (pJ:∀C v ρ' s S U,cU K.hb (e1 scope C env)->bd v (ja scope env R)=some ρ'->a2 (e1 scope C env) ρ' s.heap U->ao K.hb s.heap S U->av K am A (eval elt (e1 scope C env)) (c9 v S) s U)
  (bW:iC K A) (ax:cU K.hb env) (qt:∃S,ao K.hb s.heap S U)
  (rA:∀e s',dS K A lF s U e s'->E e s') (Qe:∀acc C r s',uE K s U (pj a5 c2 c9 lF) acc C r s'->xJ acc C r s') :
  wpAny (model K.prog K.w) A (eval iter env) (fun B9 s₁=>wpAny (model K.prog K.w) A (pyIter B9) (fun it bi=>wpAny (model K.prog K.w) A (newList []) (fun acc fX =>
   wpAny (model K.prog K.w) A (newFunctionEnv scope env.globals (h1 env.cells scope.names []) [] env.qual none .none (some env)) (fun cenv l7 =>
    codeAny (model K.prog K.w) A (.compStart (.ListComp elt [⟨target,iter,ifs,0⟩] scope pos) 0 it acc { cenv with scope:=relabel scope env }) (xJ acc cenv.locals) l7) E fX) E bi) E s₁) E s:=by
 refine cu (bS ((by rintro rfl;exact hc rfl):lF≠.stuck)) (fun B9 s₁ fi=>cu fi (fun it bi h₂=>?_) rA) rA;obtain⟨Y,w,aH,α₂,own,St,Qx,iy,hR,h5,I,st,ho⟩:=h₂;refine wpAny_newObj_type (wpAny_newFunctionEnv (c.nocell:∀y∈scope.names,y.2≠.cell) (by intro y aG;(exact nomatch aG)) (fun fi zV vS=>?_) c.kind);dsimp only at zV vS ⊢;generalize zw:bi.heap.push { cls:=.type "list",dict:=none,data:=.seq ([]:List Value).toArray }=eE at zV vS ⊢;have zt:eE.objs.size=bi.heap.objs.size+1:=zw<$>Heap.size_push<&>rfl
 have Hu:bi.heap.objs.size≠eE.objs.size:=by rw[zt];exact eZ (ic _)
 have fz:∀b o,bi.heap.get? b=some o->fi.get? b=some o:=fun b o e=>vS.extBut b o (zt<&>(eZ (Nat.lt_succ_of_lt (eo e)))) (cI _ (zw▸cI _ e));have zC:fi.get? bi.heap.objs.size=some { cls:=.type "list",data:=.seq ([]:List Value).toArray }:=vS.extBut _ _ Hu (cI _ (zw▸ew _ rfl))
 have fresh:∀a,bi.heap.objs.size<=a->bi.heap.get? a=none:=fun a ha=>by
  cases e:bi.heap.get? a with
  | none=>rfl
  | some a8=>exact absurd (eo e) (e0.mpr ha)
 have ry:=fresh bi.heap.objs.size (bJ _);have oF:bi.heap.get? eE.objs.size=none:=fresh _ (by rw[zt];exact Nat.le_succ _)
 have u2:∀a,bi.heap.get? a=none->s.heap.get? a=none:=fun a ha=>by
  cases e:s.heap.get? a with
  | none=>rfl
  | some o=>refine aF (iy.alive a o (dM) e) fun a8 aP=>?_;rw[ha]at aP;contradiction
 have base:∀a,bi.heap.get? a=none->K.hb.get? a=none:=fun a ha=>by
  cases e:K.hb.get? a with
  | none=>rfl
  | some o=>rw[hR.base a o e]at ha;contradiction
 have cells:∀y a,env.cells.lookup y=some a->∃o,s.heap.get? a=some o:=fun y a ha=>by
  refine d6 (nZ.ca y a ha) fun u u bB=>?_;refine cG bB fun v o e u=>?_;exact⟨o,e⟩
 have zs:eE.objs.size∉(⟨α₂.ix,bi.heap.objs.size::α₂.hid,α₂.fr⟩:aw).all:=fun q=>by
  rcases dt.mp q with q | q
  ·refine aF (hR.live q) fun o e=>?_;rw[oF]at e;contradiction
  ·rcases bY.mp q with q | q
   ·exact Hu q.symm
   ·refine aF ((hR.hidden _ q).2) fun o e=>?_;rw[oF]at e;contradiction
 have cQ:∀y a,env.cells.lookup y=some a->a≠eE.objs.size:=fun y a ha q=>by
  refine aF (cells y a ha) fun o e=>?_;rw[q,u2 _ oF]at e;contradiction
 have apart:nW (e1 scope eE.objs.size env) own:=by
  refine⟨fun q=>?_,fun y a ha q=>?_⟩
  ·refine aF (I.live _ _ _ st _ q) fun o e=>?_;have aP:bi.heap.get? eE.objs.size=some o:=e;rw[oF]at aP;contradiction
  ·refine aF (cells y a (pi (sS c nZ) ha)) fun o e=>?_;rw[(ho a q).1]at e;contradiction
 have zx:cU K.hb (e1 scope eE.objs.size env):=⟨base _ oF,fun y a ha=>ax.c y a (pi (sS c nZ) ha),ax.f⟩
 have hCf:eE.objs.size∉K.hb.fr:=fun q=>by
  obtain⟨_,o,e,_⟩:=hR.frs _ q;rw[oF]at e;contradiction
 have wX:St 0 fi ⟨α₂.ix,bi.heap.objs.size::α₂.hid,α₂.fr⟩:=I.frame _ [] _ _ _ _ (I.hide _ _ _ _ st ry) (.keeps fz) (by simp)
 have IY:∀fX:Shared,fX={ bi with heap:=fi,toks:=bi.toks+([]:List (Str×Value)).length } ->
   codeAny (model K.prog K.w) A (.compLoop (.ListComp elt [⟨target,iter,ifs,0⟩] scope pos) 0 it (.ref bi.heap.objs.size) (compEnvC scope (h1 env.cells scope.names []) eE.objs.size env))
    (xJ (.ref bi.heap.objs.size) eE.objs.size) fX:=by
  rintro fX rfl
  refine codeAny_mono (Ny (P:=⟨K,s,U,bi.heap.objs.size,e1 scope eE.objs.size env,bd,ja scope env R,own⟩) (a5:=a5) (R:=ja scope env R)
   ⟨fun b hb=>(ho b hb).1,u2 _ ry,u2 _ oF,base _ ry,base _ oF,?_,apart,hCf⟩ I (dP _ zx ((Bk nZ.ok.kind):(e1 scope eE.objs.size env).scope.names=cK env.scope.names scope.names)) mG d7 pN hc
   (fun v ρ' s S U=>pQ _ v ρ' s S U zx) (fun v ρ' s S U=>pJ _ v ρ' s S U zx) ⟨by show _::α₂.hid=_;exact congrArg _ iy.hid,?_,((hR.hide ry fz zC):ao K.hb fi aH ⟨α₂.ix,bi.heap.objs.size::α₂.hid,α₂.fr⟩),(Nx c ((((nZ.ext iy .nil).hide ry).ext (.keeps fz) .nil):a2 env R fi ⟨α₂.ix,bi.heap.objs.size::α₂.hid,α₂.fr⟩) zV zs cQ),.refl,zC,.nil,h5.gens,h5.os⟩ wX ?_) (fun r s'=>Qe _ _ r s')
  ·refine aF qt fun S qt=>?_;intro q;refine aF ((qt.hidden _ q).2) fun o e=>?_;rw[u2 _ ry]at e;contradiction
  ·have au:a4 [] U s.heap ⟨α₂.ix,U.hid,α₂.fr⟩ bi.heap:=by
    have:=iy.rehid U.hid;exact this
   exact au.trans (.keeps fz)
  ·rw[Qx];rfl
 exact codeAny_compStart_list (IY _ rfl) (I.self 0 _ _ wX _ _ (IY _ rfl))
theorem IS{iter:Expr}{lF:aj (List H×Option (Nat×aX))}
  {c2:H->ab->aj Bool} {c9:H->ab->aj H} {a5:Bool}
  (c:lu env.scope.names scope) (nZ:a2 env R s.heap U) (bS:j6 K A false (eval iter env) lF s U)
  (dP:∀C,cU K.hb (e1 scope C env)->(e1 scope C env).scope.names=cK env.scope.names scope.names->nX K A [C] (e1 scope C env) target bd) (mG:sD target) (d7:∀v ρ',bd v (ja scope env R)=some ρ'->Sub (ja scope env R) ρ') (pN:∀v S,bd v (ja scope env R)=none->c2 v S=.stuck)
  (pQ:∀C v ρ' s S U,cU K.hb (e1 scope C env)->bd v (ja scope env R)=some ρ'->a2 (e1 scope C env) ρ' s.heap U->ao K.hb s.heap S U ->
   av K hW A (forIn ifs true fun c r=>if r=true then do let ok <- isTrue c (e1 scope C env) (eval c (e1 scope C env));pure (ForInStep.yield ok)else pure (ForInStep.yield r)) (c2 v S) s U)
  (pJ:∀C v ρ' s S U,cU K.hb (e1 scope C env)->bd v (ja scope env R)=some ρ'->a2 (e1 scope C env) ρ' s.heap U->ao K.hb s.heap S U->av K am A (eval elt (e1 scope C env)) (c9 v S) s U)
  (bW:iC K A) (ax:cU K.hb env) (qt:ao K.hb s.heap S U) (hs:∀x,foldedSetIterable iter env x=pure x) :
  av K am A (eval (.ListComp elt [⟨target,iter,ifs,0⟩] scope pos) env) (pj a5 c2 c9 lF) s U:=by
 intro hc;refine eval_ListComp<&>(wpAny_comprehension_free rfl hs (Dr (sS c nZ)) c.kind c.names (Dx c nZ bS hc dP mG d7 pN pQ pJ bW ax ⟨_,qt⟩ (fun e s' hx=>?_) ?_))
 ·obtain⟨i,σ',V,f5⟩:=hx;exact⟨i,σ',by refine V<&>?_;rfl,f5⟩
 ·rintro acc C r s' ⟨rfl,v,σ',α',m,e,aS,aO,vr,jp,ns,ha,hC,hbC,hCf⟩
  ·refine aI m ns (fun h' eS=>?_)
   obtain⟨Bg,B8⟩:=aO.but ha hbC (fun b o hb e=>(eS.2 b hb).trans e) (fun o e=>by
    refine kR (id ns) fun a8 Z c0 aP d u=>?_;rw[e]at aP;refine oi aP<$>?_
    exact io.notSolid (eQ _ _ d)) fun q=>absurd q hCf
   exact⟨v,σ',α',e,aS.sameBut hC (fun b hb=>eS.2 b hb),Bg,vr.ext B8,jp.trans ⟨rfl,rfl⟩⟩
end
theorem pW{q:Str×Pos}(h:pV e=some q):e=.Name q.1 q.2:=p9 (o:=Jl e) h
theorem Io{x:Str}{q:Str×NameKind}(hi:N.findIdx? (·.1 == x)=some i)(hq:N[i]?=some q):q.1=x:=by
 refine ay (List.findIdx?_eq_some_iff_getElem.mp hi) fun J L u=>?_;refine oi ((cM J).symm.trans hq)<$>?_;exact eq_of_beq L
theorem Kn{x:Str}(h:mV N x=some i):∃k,N[i]?=some (x,k)/\(k=NameKind.local\/k=.cell):=by
 unfold mV at h;refine cw h fun j aR J=>cw J fun q hq L=>dc L fun hk au=>?_;clear h J L;have hx:=Io aR hq;obtain⟨z,k⟩:=q;dsimp only at hx;refine hx▸?_;refine oi au<$>?_;refine aI k hq ?_
 cases k with
 | «local»=>exact .inl rfl
 | cell=>exact .inr rfl
 | _=>contradiction
theorem wU{x:Str}(ax:env.scope.names=N)(h:mV N x=some i):∃k,env.scope.names[i]?=some (x,k)/\(k=NameKind.local\/k=.cell):=by
 refine ax▸?_;exact Kn h
section
variable {aq:Nat->Prop}
theorem MB{t:Nat}{x:Str}(er:pd env.scope.names)(eR:K.hb.get? env.locals=none)(hn:env.scope.names[t]?=some (x,.local)):nX K A [env.locals] env (.Name x gL) (dj t):=
 fun s S U R ρ' p aa hb E r v Q X bf=>by
  obtain rfl:=oi hb;exact wpAny_assign_Name (BA er r E eR hn v fun s' aO dI aS u bX=>bf s' aO dI aS bX)
theorem Dq{uL:List (Str×NameKind)}{t:Nat}{x:Str}{aa:H}(h:uL[t]?=some (x,.local)):(dz (hO N uL) R)[t]?≠some (some aa):=by
 intro e;simp only[dz,hO,fc,h]at e;exact nomatch e
theorem Sub.set{t:Nat}{v:H}(h:Sub fL R)(hn:∀aa,fL[t]?≠some (some aa)):Sub fL (R.set t (some v)):=fun i aa e=>by
 by_cases q:t=i
 ·subst q;exact absurd e (hn aa)
 ·exact(List.getElem?_set_ne q ..).trans (h i aa e)
theorem Kf{fL:aB}:∀{is:List Nat} {Y:List H} {R ρ':aB},qv is Y R=some ρ'->(∀i∈is,∀aa,fL[i]?≠some (some aa))->Sub fL R->Sub fL ρ'
 | [],[],_,_,h,_,s=>oi h▸s
 | i::is,x::Y,_,_,h,hn,s=>Kf (is:=is) h (fun j aR=>hn j (bx _ aR)) (s.set (hn i be))
 | [],_::_,_,_,h,_,_=>nomatch h
 | _::_,[],_,_,h,_,_=>nomatch h
set_option tactic.hygienic true in
theorem Dd{is:List Nat}{p:H}{M:Prop}(h:eG is p R=some ρ')(k:∀Y,p=.tup Y->qv is Y R=some ρ'->M):M:=by
 unfold eG at h
 split at h
 ·next Y=>exact mL h fun u h=>k Y rfl h
 ·contradiction
theorem Mh(lP:∀{i:Nat} {x:Str},mV N x=some i->aq i->∀{R:aB} {p:H} {aa:Value} {s:Shared} {Q:Unit->Shared->Prop} {X:Value->Shared->Prop},a2 env R s.heap U->ao K.hb s.heap S U->am s.heap U p aa->(∀s',ao K.hb s'.heap S U->a2 env (R.set i (some p)) s'.heap U->a4 fr U s.heap U s'.heap->cC s s'->Q () s')->wpAny (model K.prog K.w) A (storeName env x aa) Q X s):∀{is:List Nat} {Y:List H} {us:List Value} {R ρ':aB} {s:Shared} {Q:Unit->Shared->Prop} {X:Value->Shared->Prop},l4 N ts=some is->(∀i∈is,aq i)->qv is Y R=some ρ'->bp s.heap U Y us->a2 env R s.heap U->ao K.hb s.heap S U ->
  (∀s',ao K.hb s'.heap S U->a2 env ρ' s'.heap U->a4 fr U s.heap U s'.heap->cC s s'->Q () s')->wpAny (model K.prog K.w) A (assignInOrder ((assignEach ts env).map (·.2)) us) Q X s:=by
 induction ts with
 | nil =>
  intro is Y us R ρ' s Q X J eR L v E r bf;obtain rfl:=oi J
  cases Y with
  | nil=>obtain rfl:=oi L;exact assignInOrder_nil (bf s r E .refl (.refl s))
  | cons _ _=>contradiction
 | cons t ts af =>
  intro is Y us R ρ' s Q X J eR L v E r bf;change bN _ _ _=_ at J;refine gK (M:=fun is=>(∀i∈is,aq i)->qv is Y R=some ρ'->wpAny (model K.prog K.w) A (assignInOrder ((assignEach (t::ts) env).map (·.2)) us) Q X s) J (fun i l hi hl eR L=>(cw hi fun q hq hi=>(pW hq<$>?_))) eR L
  cases Y with
  | nil=>contradiction
  | cons p bk =>
   exact cG v.inv_cons fun aa ZI ae bB=>ae▸(aN bB fun aY v2=>assignInOrder_cons (wpAny_assign_Name (lP hi (eR i be) E r aY fun s₁ aM js a1 aZ=>af hl (fun j aR=>eR j (bx _ aR)) L (v2.ext a1) js aM fun s' aO dI aS bX=>bf s' aO dI (a1.trans aS) (aZ.trans bX))))
theorem Ua:∀{is:List Nat},l4 N ts=some is->(assignEach ts env).length=is.length/\(assignEach ts env).findIdx? (·.1)=none:=by
 induction ts with
 | nil=>intro is h;refine oi h<$>?_;exact⟨rfl,rfl⟩
 | cons t ts af =>
  intro is h;change bN _ _ _=_ at h;refine gK (M:=fun is=>(assignEach (t::ts) env).length=List.length is/\(assignEach (t::ts) env).findIdx? (·.1)=none) h fun i l hi hl=>cw hi fun q hq hi=>pW hq<$>(aN (af hl) fun J L=>⟨congrArg Nat.succ J,?_⟩);show((false,assign (.Name q.1 q.2) env)::assignEach ts env).findIdx? (·.1)=none;rw[List.findIdx?_cons,L];rfl
theorem Ke:∀{is:List Nat} {Y:List H} {R ρ':aB},qv is Y R=some ρ'->is.length=Y.length
 | [],[],_,_,_=>rfl
 | i::is,x::Y,_,_,h=>congrArg Nat.succ (Ke (is:=is) h)
 | [],_::_,_,_,h=>nomatch h
 | _::_,[],_,_,h=>nomatch h
theorem De{b7:Nat}{is:List Nat}(aW:A.handled=none)(zD:∀{R:aB} {h:Heap} {U:aw},a2 env R h U->∀b∈fr,∃o,h.get? b=some o)
  (lP:∀{S:ab} {U:aw} {i:Nat} {x:Str},mV N x=some i->aq i->∀{R:aB} {p:H} {aa:Value} {s:Shared} {Q:Unit->Shared->Prop} {X:Value->Shared->Prop},a2 env R s.heap U->ao K.hb s.heap S U->am s.heap U p aa->(∀s',ao K.hb s'.heap S U->a2 env (R.set i (some p)) s'.heap U->a4 fr U s.heap U s'.heap->cC s s'->Q () s')->wpAny (model K.prog K.w) A (storeName env x aa) Q X s)
  (J:l4 N ts=some is) (eR:∀i∈is,aq i):nX K A fr env (.Tuple ts b7 pp) (eG is):=
 fun s S U R ρ' pv aa hb E r v Q X bf=>by
  refine Dd hb fun Y ae hb2=>?_;subst ae;obtain⟨t,us,k,rfl,ba,Zf,vs⟩:=v.tupE;refine aN (Ua (env:=env) J) fun g1 g2=>?_;refine wpAny_assign_Tuple aW ⟨_,ba,rfl,k,rfl⟩ (by refine g1<&>Ke hb2<&>vs.1<&>?_;rfl) g2 fun h' hx=>?_;have kp:∀b o,s.heap.get? b=some o->h'.get? b=some o:=fun b o e=>hx b o (eZ (eo e)) e;have bv:a4 [] U s.heap U h':=.keeps kp;exact Mh lP J eR hb2 (vs.ext bv) (E.ext bv .nil) (r.keeps kp) fun s' aO dI aS bX=>bf s' aO dI ((bv.mono (fun u q=>absurd q dM) (zD E)).trans aS) ⟨bX.gens,bX.os⟩
end
def jR:Expr->Bool
 | .Set ..=>false
 | .Starred ..=>false
 | _=>true
theorem wI(h:jR e=true):behindInMarks hh e=false:=by
 cases e <;> first | rfl | contradiction
theorem wH(h:jR e=true)(x:Value):foldedSetIterable e env x=pure x:=by
 cases e <;> first | rfl | contradiction
theorem jn{rest:List Expr}(h:jR e=true):starEach (e::rest) env=(false,eval e env)::starEach rest env:=by
 cases e <;> first | rfl | contradiction
open PySem.W in
structure ls(K:bc)(F:Frag)(b:Str)(c:Addr):Prop where
 mg:K.mg b=some (.ref c)
 inn:F.In K.hb.h
 keep:keepIn F (.ref c)=true
 makes:makesIn F c=true
 plain:plainOver F c=true
 hasd:(clsIn F c).any (·.hasDict)=true
 seta:findIn F (.ref c) "__setattr__" = some (some (.builtin "object.__setattr__"))
 free:∀n∈mw,takerIn F c n=some none
 geta:findIn F (.ref c) "__getattribute__" = some (some (.builtin "object.__getattribute__"))
 getr:findIn F (.ref c) "__getattr__" = some none
 none:∀n∈mw,findIn F (.ref c) n=some none
structure cF(K:bc)(A:Around)(T:bF)(C:bG):Prop where
 hK:K.Ok
 hA:eJ A
 hd:C.hd=false->A.handled=none
 fr:iC K A
 cst:∀x v,T.cst.lookup x=some v->∃aa,K.mg x=some aa/\∀h S U,ao K.hb h S U->am h U v aa
 fn:∀f x,T.fns[f]?=some x->∃a o fd,K.mg x=some (.ref a)/\K.hb.get? a=some o/\o.data=.func fd/\∀vs us s S U,ao K.hb s.heap S U->bp s.heap U vs us->av K am A (call (.ref a) us) (C.call f vs S) s U
 bin:∀x,x∈T.bins->K.mg x=none/\∃v,mx x=some v/\K.mb x=some v
 brd:∀b c,T.brd=some (b,c)->∃F,ls K F b c/\(∀j,T.meths[j]?=some ("__init__" : Str)->∀vs us s S U,ao K.hb s.heap S U->bp s.heap U vs us->av K am A (call (.ref c) us) (qf C c (T.fns.length+j) vs S) s U)
  /\ ∀j n,T.meths[j]?=some n->∃a o fd,PySem.W.findIn F (.ref c) n=some (some (.ref a))/\PySem.W.typeIn F (.ref a)=some (.type "function")/\K.hb.get? a=some o/\o.data=.func fd/\∀vs us s S U,ao K.hb s.heap S U->bp s.heap U vs us->av K am A (call (.ref a) us) (C.call (T.fns.length+j) vs S) s U
def j1(K:bc)(A:Around)(C:bG)(N:List (Str×NameKind))(e:Expr)(x:X):Prop:=
 ∀env R S s U,env.scope.names=N->cU K.hb env->a2 env R s.heap U->ao K.hb s.heap S U ->
  av K am A (eval e env) (ev C x R S) s U/\av K hW A (isTrue e env (eval e env)) (tst C x R S) s U
def cc(K:bc)(A:Around)(C:bG)(f:List (Str×NameKind)->Expr->Option X):Prop:=
 ∀N e x,f N e=some x->jR e=true/\j1 K A C N e x
section
variable {β γ m6 sw:Type}{ej:Heap->aw->β->γ->Prop}{uO:Heap->aw->m6->sw->Prop}
theorem av.operate{t:Sem Value}{ej:Heap->aw->β->Value->Prop}{c:aj β}(aJ:av K ej A t c s U):av K ej A (operate vs t) c s U:=
 fun h=>wpAny_operating (aJ h)
theorem PD{t:Sem Value}{c:aj H}{p:Pos}(aJ:av K am A t c s U):av K hW A (do let v <- t;standAt p;holding [v] (truthy v)) (c.bind kv) s U:=
 av.bind aJ fun b σ' α' y s' u x r v m=>av.standAt (av.holding (xa r v))
theorem e9.vr{b:Bool}(v:e9 h U b y):am h U (.bool b) y:=by
 have:y=.bool b:=v;refine this▸?_;exact .bool b
end
theorem DA{c:Const}{v:H}{k:Nat}{p:Pos}(h:w8 c=some v)(r:ao K.hb s.heap S U):av K am A (eval (.Constant c k p) env) (.ok v S) s U:=by
 intro _
 cases c with
 | none=>refine oi h<$>?_;exact wpAny_Constant_none (cy.here r .none)
 | bool b=>obtain rfl:=oi h;exact wpAny_Constant_bool (cy.here (tk:=s.toks) r (.bool b))
 | int i=>obtain rfl:=oi h;exact wpAny_Constant_int (cy.here r (.int i _))
 | str x =>
  change cn _ _=_ at h
  exact dc h fun hx h=>by obtain rfl:=oi h;exact wpAny_Constant_str (cy.here r (.str x _ hx))
 | _=>contradiction
theorem fR{y:X}(he:∀env uA,isTrue e env uA=(do let v <- uA;standAt e.pos;holding [v] (truthy v)))(ba:∀R S,tst C y R S=(ev C y R S).bind kv)
  (aJ:∀{env R S s U},env.scope.names=N->cU K.hb env->a2 env R s.heap U->ao K.hb s.heap S U->av K am A (eval e env) (ev C y R S) s U):j1 K A C N e y:=fun env R S s U ax hn E r =>
 ⟨aJ ax hn E r,by rw[he,ba];exact PD (aJ ax hn E r)⟩
theorem XM{x:Str}{y:X}{p:Pos}(c:cF K A T C)(h:BM T N x=some y):j1 K A C N (.Name x p) y:=by
 unfold BM at h;refine cw h fun i hi h=>cw h fun q hq h=>?_;have hx:=Io hi hq;obtain⟨z,k⟩:=q;dsimp only at hx;subst hx
 cases k with
 | «local»=>obtain rfl:=oi h;exact fR (fun u u=>rfl) (fun u u=>rfl) fun ax u E r=>Jm r E (by rw[ax];exact hq)
 | cell=>obtain rfl:=oi h;exact fR (fun u u=>rfl) (fun u u=>rfl) fun ax u E r=>Jm r E (by rw[ax];exact hq)
 | globalImplicit =>
  change(T.cst.lookup z).map X.k=_ at h;exact gI h fun v hv=>ay (c.cst z v hv) fun aa J L=>fR (fun u u=>rfl) (fun u u=>rfl) fun{env R S s U} ax _ E r _=>AQ c.hK r E.ok (ax<&>hq) J ⟨v,S,U,rfl,.refl,r,L _ _ _ r,.refl s⟩
 | _=>contradiction
theorem o0{g:Expr->Option X}{Z:List Expr}{Y:X}(h:gb g (e::Z)=some Y):∃a b,g e=some a/\gb g Z=some b/\Y=.cons a b:=by
 change bN _ _ _=_ at h;exact gK (M:=fun Y=>∃a b,g e=some a/\gb g Z=some b/\Y=.cons a b) h fun a b J L=>(jF a b J L rfl)
theorem rm{Z:List Expr}{Y:X}(O:cc K A C f)(h:gb (f N) Z=some Y)(ax:env.scope.names=N)(hn:cU K.hb env) :
  ∀{S s U},a2 env R s.heap U->ao K.hb s.heap S U->av K bp A (spliced (backTo pos (starEach Z env))) (evs C Y R S) s U:=by
 induction Z generalizing Y with
 | nil =>
  obtain rfl:=oi h;intro S s U E r;simp only[iM,mD];exact fun u=>wpAny_items_nil ⟨[],S,U,rfl,.refl,r,.nil,.refl s⟩
 | cons e Z af =>
  obtain⟨a,b,ha,hb,rfl⟩:=o0 h
  ·skip
   intro S s U E r;obtain⟨hp,aJ⟩:=O N e a ha;simp only[iM,mD];intro hc;refine wpAny_items_cons ?_ (jn hp);refine cu (((aJ env R S s U ax hn E r).1) ((by intro q;rw[q]at hc;exact hc rfl):ev C a R S≠.stuck)) (fun v s₁ hp=>?_) fun e s₁ hx=>?_
   ·obtain⟨pv,ak,bn,V,a1,aM,aY,aZ⟩:=hp;rw[V]at hc ⊢;refine cu (af hb (E.ext a1 .nil) aM ((by intro q;simp[aj.bind,q]at hc):evs C b R ak≠.stuck)) (fun vs bi hp=>?_) fun e bi hx=>?_
    ·obtain⟨Vs,aH,α₂,ah,bv,r2,v2,bH⟩:=hp;refine⟨pv::Vs,aH,α₂,by simp[aj.bind,ah],a1.trans bv,r2,.cons (aY.ext bv) v2,aZ.trans bH⟩
    ·obtain⟨i,aH,ah,gJ,f5⟩:=hx;exact⟨i,aH,by simp[aj.bind,ah],gJ,f5.lift a1 aZ⟩
   ·obtain⟨i,ak,V,gJ,f5⟩:=hx;exact⟨i,ak,by refine V<&>?_;rfl,gJ,f5⟩
theorem LV{Z:List Expr}{Y:X}(O:cc K A C f)(h:gb (f N) Z=some Y)(ax:env.scope.names=N)(hn:cU K.hb env) :
  ∀{S s U},a2 env R s.heap U->ao K.hb s.heap S U->av K am A (boolOp pos .And (evalEach Z env)) (evAnd C Y R S) s U/\av K hW A (allTrue .And Z env) (tstAnd C Y R S) s U:=by
 induction Z generalizing Y with
 | nil =>
  obtain rfl:=oi h;intro S s U E r;refine⟨fun hc=>absurd (rfl) hc,?_⟩;simp only[KW,so];exact fun u=>wpAny_allTrue_And_nil ⟨true,S,U,rfl,.refl,r,rfl,.refl s⟩
 | cons e Z af =>
  obtain⟨a,b,ha,hb,rfl⟩:=o0 h
  ·skip
   intro S s U E r;obtain⟨hp,aJ⟩:=O N e a ha;have aJ:=aJ env R S s U ax hn E r;constructor
   ·cases Z with
    | nil =>
     refine oi hb<$>?_;simp only[D5,D6,vg];exact aJ.1
    | cons ah Oa =>
     have zF:∃b1 b2,b=.cons b1 b2:=by
      exact gH (o0 hb) fun b1 b2 u u ae=>ae▸(eQ _ _ rfl)
     refine eM zF fun b1 b2 ae=>?_;subst ae;simp only[D5,D6,vg];refine av.bind aJ.1 fun v ak bn y s₁ V a1 aM aY aZ=>av.standAt (av.bind (av.holding (xa aM aY)) fun t aH α₂ jr bi ah bv r2 v2 bH=>?_);have:jr=t:=v2;refine this▸?_
     cases jr with
     | false=>simp only[Bool.false_eq_true,if_false];exact av.pure r2 (aY.ext bv)
     | true=>simp only[if_true];exact(af hb ((E.ext a1 .nil).ext bv .nil) r2).1
   ·simp only[KW,so];refine av.bind aJ.2 fun t ak bn y s₁ V a1 aM aY aZ=>?_;have:y=t:=aY;refine this▸?_
    cases y with
    | false=>simp only[Bool.false_eq_true,if_false];exact av.pure aM rfl
    | true=>simp only[if_true];exact(af hb (E.ext a1 .nil) aM).2
theorem UH{Z:List Expr}{Y:X}(O:cc K A C f)(h:gb (f N) Z=some Y)(ax:env.scope.names=N)(hn:cU K.hb env) :
  ∀{S s U},a2 env R s.heap U->ao K.hb s.heap S U->av K am A (boolOp pos .Or (evalEach Z env)) (evOr C Y R S) s U/\av K hW A (allTrue .Or Z env) (tstOr C Y R S) s U:=by
 induction Z generalizing Y with
 | nil =>
  obtain rfl:=oi h;intro S s U E r;refine⟨fun hc=>absurd (rfl) hc,?_⟩;simp only[KY,uv];exact fun u=>wpAny_allTrue_Or_nil ⟨false,S,U,rfl,.refl,r,rfl,.refl s⟩
 | cons e Z af =>
  obtain⟨a,b,ha,hb,rfl⟩:=o0 h
  ·skip
   intro S s U E r;obtain⟨hp,aJ⟩:=O N e a ha;have aJ:=aJ env R S s U ax hn E r;constructor
   ·cases Z with
    | nil =>
     refine oi hb<$>?_;simp only[D7,D8,yp];exact aJ.1
    | cons ah Oa =>
     have zF:∃b1 b2,b=.cons b1 b2:=by
      exact gH (o0 hb) fun b1 b2 u u ae=>ae▸(eQ _ _ rfl)
     refine eM zF fun b1 b2 ae=>?_;subst ae;simp only[D7,D8,yp];refine av.bind aJ.1 fun v ak bn y s₁ V a1 aM aY aZ=>av.standAt (av.bind (av.holding (xa aM aY)) fun t aH α₂ jr bi ah bv r2 v2 bH=>?_);have:jr=t:=v2;refine this▸?_
     cases jr with
     | true=>simp only[if_true];exact av.pure r2 (aY.ext bv)
     | false=>simp only[Bool.false_eq_true,if_false];exact(af hb ((E.ext a1 .nil).ext bv .nil) r2).1
   ·simp only[KY,uv];refine av.bind aJ.2 fun t ak bn y s₁ V a1 aM aY aZ=>?_;have:y=t:=aY;refine this▸?_
    cases y with
    | true=>simp only[if_true];exact av.pure aM rfl
    | false=>simp only[Bool.false_eq_true,if_false];exact(af hb (E.ext a1 .nil) aM).2
set_option maxRecDepth 100000
section
open PySem.W
end
section
variable {β γ m6 sw:Type}{ej:Heap->aw->β->γ->Prop}{uO:Heap->aw->m6->sw->Prop}
theorem MC{a:β}{f:β->ab->aj m6}:(aj.ok a S).bind f=f a S:=rfl
theorem cy.lift{c:aj β}{y:γ}(x:a4 [] U s.heap bn s₁.heap)(m:cC s s₁)(p:cy K ej c s₁ bn y s'):cy K ej c s U y s':=by
 obtain⟨b,σ',α',e,aS,r,v,bX⟩:=p;exact⟨b,σ',α',e,x.trans aS,r,v,m.trans bX⟩
theorem dS.bind{c:aj β}{f:β->ab->aj m6}(p:dS K A c s U y s'):dS K A (c.bind f) s U y s':=by
 obtain⟨i,σ',e,f5⟩:=p;exact⟨i,σ',by refine e<&>?_;rfl,f5⟩
theorem av.useL{t:Sem γ}{c:aj β}{f:β->ab->aj m6}{W:γ->Shared->Prop}(xj:a4 [] m5 s₀.heap U s.heap)(wv:cC s₀ s)(aJ:av K ej A t c s U)(hc:c.bind f≠.stuck)
  (N:∀b σ' α' y s',c=.ok b σ'->f b σ'≠.stuck->a4 [] U s.heap α' s'.heap->ao K.hb s'.heap σ' α'->ej s'.heap α' b y->cC s s'->W y s'):wpAny (model K.prog K.w) A t W (dS K A (c.bind f) s₀ m5) s:=by
 refine cu (aJ ((by rintro rfl;exact hc rfl):c≠.stuck)) (fun y s' hp=>?_) fun e s' hx=>(hx.lift xj wv).bind;obtain⟨b,σ',α',rfl,x,r,v,m⟩:=hp;exact N b σ' α' y s' rfl hc x r v m
theorem av.endL{t:Sem γ}{c:aj β}(xj:a4 [] m5 s₀.heap U s.heap)(wv:cC s₀ s)(aJ:av K ej A t c s U)(hc:c≠.stuck):wpAny (model K.prog K.w) A t (cy K ej c s₀ m5) (dS K A c s₀ m5) s:=
 cu (aJ hc) (fun u u h=>h.lift xj wv) fun u u h=>h.lift xj wv
theorem av.use{t:Sem γ}{c:aj β}{f:β->ab->aj m6}{W:γ->Shared->Prop}(aJ:av K ej A t c s U)(hc:c.bind f≠.stuck)
  (N:∀b σ' α' y s',c=.ok b σ'->f b σ'≠.stuck->a4 [] U s.heap α' s'.heap->ao K.hb s'.heap σ' α'->ej s'.heap α' b y->cC s s'->W y s'):wpAny (model K.prog K.w) A t W (dS K A (c.bind f) s U) s:=aJ.useL .refl (.refl s) hc N
theorem av.boolV{t:Sem Value}{c:aj Bool}(aJ:av K e9 A t c s U):av K am A t (c.bind fun b S=>.ok (.bool b) S) s U:=by
 intro hc;refine cu (aJ ((by rintro rfl;exact hc rfl):c≠.stuck)) (fun y s' hp=>?_) fun e s' hx=>hx.bind;obtain⟨b,σ',α',rfl,x,r,v,m⟩:=hp;exact⟨_,_,_,rfl,x,r,v.vr,m⟩
end
theorem Ap(h:g8 N g=true):∃i:Nat,N[i]?=some (g,NameKind.globalImplicit):=by
 unfold g8 at h;refine ay (An (by simpa using h)) fun i u hi=>?_;exact⟨i,hi⟩
theorem nj{ou:Value}{p:Pos}{X:Value->Shared->Prop}(c:cF K A T C)(hg:g8 N g=true)(jg:g∈T.bins)(hv:mx g=some ou)(ax:env.scope.names=N)(E:uG env)(r:ao K.hb s.heap S U)(h:Q ou s):wpAny (model K.prog K.w) A (eval (.Name g p) env) Q X s:=by
 obtain⟨hm,v,Rd,QT⟩:=c.bin _ jg;refine aF (Ap hg) fun j aR=>?_;obtain rfl:=oi (hv.symm.trans Rd);exact T2 c.hK r E (ax▸aR) hm QT h
theorem MV{p:Pos}{Y:X}(c:cF K A T C)(O:cc K A C f)(hi:T.fns[i]?=some g)(hg:g8 N g=true)(cQ:args≠[])(h:gb (f N) args=some Y)
  (ax:env.scope.names=N) (hn:cU K.hb env) (E:a2 env R s.heap U) (r:ao K.hb s.heap S U) :
  av K am A (eval (.Call (.Name g p) args [] pos) env) ((evs C Y R S).bind fun vs S=>C.call i vs S) s U:=by
 intro hc;refine kS (c.fn i g hi) fun a o fd hm ho hd mH=>aF (Ap hg) fun j aR=>ms (AQ c.hK r E.ok (ax<&>aR) hm ?_)
 cases args with
 | nil=>exact absurd rfl cQ
 | cons e Z =>
  have aJ:=rm (pos:=pos) O h ax hn E r;refine gH (o0 h) fun cX cz ki im u=>?_;rw[jn (O N e cX ki).1]at aJ ⊢;exact Calls.callWith_function (Calls.evalArgs_plain (av.use aJ hc fun vs σ' α' us s' V c1 aS aO c4 bX=>⟨⟨aO.base _ _ ho,hd⟩,(V<&>((mH vs us s' σ' α' aO c4).endL aS bX c1))⟩))
theorem Mu{b:c5}(h:u1 a5 g=some b):mx g=some (pg b):=
 (show ∀p∈xZ a5,mx p.1=some (pg p.2)from(by repeat (first | refine List.forall_mem_cons.mpr ⟨rfl,?_⟩ | exact fun u h=>nomatch h))) _ (rQ h)
theorem Mv{t:oc}(h:BY g=some t):mx g=BZ t:=
 (show ∀p∈K2,mx p.1=BZ p.2 from(by repeat (first | refine List.forall_mem_cons.mpr ⟨rfl,?_⟩ | exact fun u h=>nomatch h))) _ (rQ h)
def Ix(b:c5):Bool:=
 match pg b with
 | .none=>true
 | _=>false
theorem C1{b:c5}(h:u1 a5 g=some b):pg b≠.none:=by
 have h:=(show ∀p∈xZ a5,Ix p.2=false from(by repeat (first | refine List.forall_mem_cons.mpr ⟨rfl,?_⟩ | exact fun u h=>nomatch h))) _ (rQ h);intro e;unfold Ix at h;rw[e]at h;contradiction
theorem C2{hd:Bool}{b:c5}{a:H}(h:jB hd b a S≠.stuck):(vP b=true->hd=false)/\jB hd b a S=dN b a S:=by
 unfold jB at h ⊢
 cases hd with
 | false=>exact⟨fun u=>rfl,rfl⟩
 | true =>
  cases hb:vP b with
  | false=>exact⟨fun q=>(by contradiction),rfl⟩
  | true=>rw[hb]at h;exact absurd rfl h
theorem Mn{a:Expr}{p:Pos}{b:c5}{x:X}(c:cF K A T C)(O:cc K A C f)(hb:u1 a5 g=some b)(hg:g8 N g=true)(jg:g∈T.bins)(h:f N a=some x)
  (ax:env.scope.names=N) (hn:cU K.hb env) (E:a2 env R s.heap U) (r:ao K.hb s.heap S U) :
  av K am A (eval (.Call (.Name g p) [a] [] pos) env) ((ev C x R S).bind fun v S=>jB C.hd b v S) s U:=by
 intro hc;refine aN (O N a x h) fun hp aJ=>ms (nj c hg jg (Mu hb) ax E.ok r (jn hp<&>?_))
 have fin:wpAny (model K.prog K.w) A (eval a env) (fun y s'=>wpAny (model K.prog K.w) A (call (pg b) [y]) (cy K am ((ev C x R S).bind fun v S=>jB C.hd b v S) s U) (dS K A ((ev C x R S).bind fun v S=>jB C.hd b v S) s U) s') (dS K A ((ev C x R S).bind fun v S=>jB C.hd b v S) s U) s:=by
  refine av.use ((aJ env R S s U ax hn E r).1) hc fun v σ' α' y s' V c1 aS aO c4 bX=>V<&>(aN (C2 c1) fun eV gc=>?_);show wpAny _ _ _ (cy K am (jB C.hd b v σ') s U) (dS K A (jB C.hd b v σ') s U) _;rw[gc]at c1 ⊢;exact(Mp (C1 hb) c.hA (fun q=>c.hd (eV q)) aO c4).endL aS bX c1
 cases b with
 | lenset=>exact absurd rfl (C1 hb)
 | dict=>exact PySem.callWith_type1 fin
 | len=>exact PySem.callWith_builtin1 fin
 | sum=>exact PySem.callWith_builtin1 fin
 | min=>exact PySem.callWith_builtin1 fin
 | max=>exact PySem.callWith_builtin1 fin
 | sorted=>exact PySem.callWith_builtin1 fin
 | all=>exact PySem.callWith_builtin1 fin
 | list _=>exact PySem.callWith_type1 fin
 | tuple=>exact PySem.callWith_type1 fin
 | int=>exact PySem.callWith_type1 fin
 | str=>exact PySem.callWith_type1 fin
theorem RN{t:Str}{m0:oc}{a:Expr}{p p2:Pos}{x:X}(c:cF K A T C)(O:cc K A C f)(hb:BY t=some m0)(hg:g8 N "isinstance" = true)(jg:("isinstance" : Str)∈T.bins)
  (zM:g8 N t=true) (vL:t∈T.bins) (h:f N a=some x)
  (ax:env.scope.names=N) (hn:cU K.hb env) (E:a2 env R s.heap U) (r:ao K.hb s.heap S U) :
  av K am A (eval (.Call (.Name "isinstance" p) [a,.Name t p2] [] pos) env) ((ev C x R S).bind fun v S=>(oN v m0 S).bind fun b S=>.ok (.bool b) S) s U:=by
 intro hc;obtain⟨_,v2,HZ,_⟩:=c.bin _ vL;exact aN (O N a x h) fun hp aJ=>ms (nj c hg jg rfl ax E.ok r (jn hp<&>(Calls.callWith_builtin rfl (Calls.evalArgs_plain (Calls.spliced_cons (av.use ((aJ env R S s U ax hn E r).1) hc fun v σ' α' y s' V c1 aS aO c4 bX=>V<&>(Calls.spliced_cons (nj c zM vL HZ ax E.ok aO (Calls.spliced_nil ((RO ((Mv hb).symm.trans HZ) aO c4).boolV.endL aS bX c1))))))))))
theorem Mw{o:n8}{l:Expr}{hh:Operator}{a b:X}(c:cF K A T C)(O:cc K A C f)(ho:KU hh=some o)(J:f N l=some a)(L:f N aO=some b)
  (ax:env.scope.names=N) (hn:cU K.hb env) (E:a2 env R s.heap U) (r:ao K.hb s.heap S U) :
  av K am A (eval (.BinOp l hh aO pos) env) (ev C (.bin o a b) R S) s U:=by
 have zZ:hh=JD o:=by cases hh <;> cases ho <;> rfl
 subst zZ;rw[arm_eval_BinOp];exact av.bind ((O N l a J).2 env R S s U ax hn E r).1 fun aA ak bn y s₁ V a1 aM aY aZ=>av.bind (av.holding ((O N aO b L).2 env R ak s₁ bn ax hn (E.ext a1 .nil) aM).1) fun br aH α₂ jr bi ah bv r2 v2 bH=>av.standAt (av.operate (MD c.hA r2 (aY.ext bv) v2))
theorem Nj{o:iY}{l:Expr}{a b:X}(c:cF K A T C)(O:cc K A C f)(ho:sm hh=some o)(J:f N l=some a)(L:f N aO=some b)
  (ax:env.scope.names=N) (hn:cU K.hb env) (E:a2 env R s.heap U) (r:ao K.hb s.heap S U) :
  av K am A (eval (.Compare l [hh] [aO] pos) env) (ev C (.cmp a o b) R S) s U/\av K hW A (isTrue (.Compare l [hh] [aO] pos) env (eval (.Compare l [hh] [aO] pos) env)) (tst C (.cmp a o b) R S) s U:=by
 refine((by cases hh <;> cases ho <;> rfl):hh=h2 o)▸?_;refine aN (O N aO b L) fun pP eE=>?_;constructor
 ·rw[arm_eval_Compare];refine av.bind ((O N l a J).2 env R S s U ax hn E r).1 fun aA ak bn y s₁ V a1 aM aY aZ=>?_;show av K am A (do let f9 <- holding [y] (markedBehindIn (h2 o) aO (eval aO env));standAt pos;operate [y,f9] (compareOp (h2 o) y f9)) _ _ _;rw[((by unfold markedBehindIn;exact wI pP<&>rfl):markedBehindIn (h2 o) aO (eval aO env)=eval aO env)];exact av.bind (av.holding (eE env R ak s₁ bn ax hn (E.ext a1 .nil) aM).1) fun br aH α₂ jr bi ah bv r2 v2 bH=>av.standAt (av.operate ((ra c.hK c.hA r2 (aY.ext bv) v2).boolV))
 ·rw[arm_isTrue_Compare];refine av.bind ((O N l a J).2 env R S s U ax hn E r).1 fun aA ak bn y s₁ V a1 aM aY aZ=>?_;show av K hW A (do let f9 <- holding [y] (markedBehindIn (h2 o) aO (eval aO env));standAt pos;let c <- operate [y,f9] (compareOp (h2 o) y f9);holding [c] (truthy c)) _ _ _;rw[((by unfold markedBehindIn;exact wI pP<&>rfl):markedBehindIn (h2 o) aO (eval aO env)=eval aO env)];refine av.bind (av.holding (eE env R ak s₁ bn ax hn (E.ext a1 .nil) aM).1) fun br aH α₂ jr bi ah bv r2 v2 bH=>av.standAt ?_;intro hc;refine aK (wpAny_operating (cu (ra c.hK c.hA r2 (aY.ext bv) v2 hc) (fun y kr hp=>?_) fun e kr hx=>hx));obtain⟨iL,lq,ky,bq,fK,e4,v3,jL⟩:=hp;have:y=.bool iL:=v3;exact this▸(fQ (wpAny_truthy_bool ⟨iL,lq,ky,bq,fK,e4,rfl,jL⟩))
theorem av.release{ks:List Value}{β γ:Type}{ej:Heap->aw->β->γ->Prop}{t:Sem γ}{c:aj β}
  (aJ:av K ej A t c s U):av K ej A (do PySem.release vs ks;t) c s U:=
 fun h=>aK (wpAny_release' (aJ h))
theorem Ni{o bN:iY}{l jo:Expr}{r3:CmpOp}{a b b2:X}(c:cF K A T C)(O:cc K A C f)(ho:sm hh=some o)(lO:sm r3=some bN)(J:f N l=some a)(L:f N aO=some b)(au:f N jo=some b2)
  (ax:env.scope.names=N) (hn:cU K.hb env) (E:a2 env R s.heap U) (r:ao K.hb s.heap S U) :
  av K am A (eval (.Compare l [hh,r3] [aO,jo] pos) env) (ev C (.cmp2 a o b bN b2) R S) s U/\av K hW A (isTrue (.Compare l [hh,r3] [aO,jo] pos) env (eval (.Compare l [hh,r3] [aO,jo] pos) env)) (tst C (.cmp2 a o b bN b2) R S) s U:=by
 have zZ:hh=h2 o:=by cases hh <;> cases ho <;> rfl
 refine zZ▸(((by cases r3 <;> cases lO <;> rfl):r3=h2 bN)▸?_);refine aN (O N aO b L) fun pP eE=>aN (O N jo b2 au) fun HQ qO=>?_;constructor
 ·rw[arm_eval_Compare];refine av.bind ((O N l a J).2 env R S s U ax hn E r).1 fun aA ak bn y s₁ V a1 aM aY aZ=>?_;show av K am A (do let f9 <- holding [y] (eval aO env);standAt pos;let c <- holding [y,f9] (compareOp (h2 o) y f9);release [y,f9] [c];if <- holding [c,f9] (truthy c)then(do let uf <- holding [f9] (markedBehindIn (h2 bN) jo (eval jo env));standAt pos;operate [f9,uf] (compareOp (h2 bN) f9 uf))else pure c) _ _ _;rw[((by unfold markedBehindIn;rw[wI HQ]):markedBehindIn (h2 bN) jo (eval jo env)=eval jo env)];refine av.bind (av.holding (eE env R ak s₁ bn ax hn (E.ext a1 .nil) aM).1) fun br aH α₂ jr bi ah bv r2 v2 bH=>av.standAt (av.bind (av.holding (ra c.hK c.hA r2 (aY.ext bv) v2)) fun iL lr qF Ca fX bq fK e4 v3 jL=>av.release ?_);have:Ca=.bool iL:=v3;subst this;intro hc;refine aK (fQ (wpAny_truthy_bool ?_))
  cases iL with
  | false=>exact bh ⟨_,_,_,rfl,.refl,e4,.bool _,.refl _⟩
  | true =>
   exact(av.bind (av.holding (qO env R lr fX qF ax hn (((E.ext a1 .nil).ext bv .nil).ext fK .nil) e4).1) fun xb sx xp Yz l7 eP o3 oT v4 oP=>av.standAt (av.operate ((ra c.hK c.hA oT ((v2.ext fK).ext o3) v4).boolV))) hc
 ·rw[arm_isTrue_Compare];refine av.bind ((O N l a J).2 env R S s U ax hn E r).1 fun aA ak bn y s₁ V a1 aM aY aZ=>?_;show av K hW A (do let f9 <- holding [y] (eval aO env);standAt pos;let c <- holding [y,f9] (compareOp (h2 o) y f9);release [y,f9] [c];if <- holding [c,f9] (truthy c)then(do let uf <- holding [f9] (markedBehindIn (h2 bN) jo (eval jo env));standAt pos;let c <- operate [f9,uf] (compareOp (h2 bN) f9 uf);holding [c] (truthy c))else pure false) _ _ _;rw[((by unfold markedBehindIn;rw[wI HQ]):markedBehindIn (h2 bN) jo (eval jo env)=eval jo env)];refine av.bind (av.holding (eE env R ak s₁ bn ax hn (E.ext a1 .nil) aM).1) fun br aH α₂ jr bi ah bv r2 v2 bH=>av.standAt (av.bind (av.holding (ra c.hK c.hA r2 (aY.ext bv) v2)) fun iL lr qF Ca fX bq fK e4 v3 jL=>av.release ?_);have:Ca=.bool iL:=v3;subst this;intro hc;refine aK (fQ (wpAny_truthy_bool ?_))
  cases iL with
  | false=>exact bh ⟨_,_,_,rfl,.refl,e4,rfl,.refl _⟩
  | true =>
   refine(av.bind (av.holding (qO env R lr fX qF ax hn (((E.ext a1 .nil).ext bv .nil).ext fK .nil) e4).1) fun xb sx xp Yz l7 eP o3 oT v4 oP=>av.standAt ?_) hc;intro hc;refine aK (wpAny_operating (cu (ra c.hK c.hA oT ((v2.ext fK).ext o3) v4 hc) (fun y kr hp=>?_) fun e kr hx=>hx));obtain⟨iL,lq,ky,bq,fK,e4,v3,jL⟩:=hp;have:y=.bool iL:=v3;exact this▸(fQ (wpAny_truthy_bool ⟨iL,lq,ky,bq,fK,e4,rfl,jL⟩))
theorem Ut{x:X}(O:cc K A C f)(J:f N e=some x)
  (ax:env.scope.names=N) (hn:cU K.hb env) (E:a2 env R s.heap U) (r:ao K.hb s.heap S U) :
  av K am A (eval (.UnaryOp .Not e pos) env) (ev C (.not x) R S) s U/\av K hW A (isTrue (.UnaryOp .Not e pos) env (eval (.UnaryOp .Not e pos) env)) (tst C (.not x) R S) s U:=by
 constructor
 ·rw[arm_eval_UnaryOp];refine av.bind ((O N e x J).2 env R S s U ax hn E r).1 fun v ak bn y s₁ V a1 aM aY aZ=>av.standAt (av.holding ?_);intro hc;refine not_value (cu (xa aM aY (by intro q;rw[q]at hc;exact hc rfl)) (fun b kr hp=>?_) fun e kr hx=>hx.bind);obtain⟨iL,lq,ky,bq,fK,e4,v3,jL⟩:=hp;have:b=iL:=v3;subst this;exact⟨.bool (!b),lq,ky,by simp[aj.bind,bq],fK,e4,.bool _,jL⟩
 ·rw[arm_isTrue_UnaryOp];refine av.bind ((O N e x J).2 env R S s U ax hn E r).2 fun b ak bn y s₁ V a1 aM aY aZ=>?_;have:y=b:=aY;exact this▸(av.pure aM rfl)
theorem Ug{x:X}(O:cc K A C f)(J:f N e=some x)
  (ax:env.scope.names=N) (hn:cU K.hb env) (E:a2 env R s.heap U) (r:ao K.hb s.heap S U) :
  av K am A (eval (.UnaryOp .USub e pos) env) (ev C (.neg x) R S) s U:=by
 rw[arm_eval_UnaryOp];exact av.bind ((O N e x J).2 env R S s U ax hn E r).1 fun v ak bn y s₁ V a1 aM aY aZ=>av.standAt (av.holding (Js aM aY))
theorem SM{Z:List Expr}{Y:X}(O:cc K A C f)(h:gb (f N) Z=some Y)
  (ax:env.scope.names=N) (hn:cU K.hb env) (E:a2 env R s.heap U) (r:ao K.hb s.heap S U) :
  av K am A (eval (.List Z pos) env) (ev C (.lst a5 Y) R S) s U:=by
 rw[arm_eval_List];exact av.standAt (av.bind (rm O h ax hn E r) fun vs ak bn us s₁ V a1 aM aY aZ=>Ui aM aY)
theorem X7{Z:List Expr}{k:Nat}{Y:X}(O:cc K A C f)(h:gb (f N) Z=some Y)
  (ax:env.scope.names=N) (hn:cU K.hb env) (E:a2 env R s.heap U) (r:ao K.hb s.heap S U) :
  av K am A (eval (.Tuple Z k pos) env) (ev C (.tup Y) R S) s U:=by
 rw[arm_eval_Tuple];exact av.standAt (av.bind (rm O h ax hn E r) fun vs ak bn us s₁ V a1 aM aY aZ=>Uj aM aY)
theorem WZ{o i:Expr}{x y:X}(c:cF K A T C)(O:cc K A C f)(zU:∀l aa st p,i≠.Slice l aa st p)(J:f N o=some x)(L:f N i=some y)
  (ax:env.scope.names=N) (hn:cU K.hb env) (E:a2 env R s.heap U) (r:ao K.hb s.heap S U) :
  av K am A (eval (.Subscript o i pos) env) (ev C (.sub x y) R S) s U:=by
 rw[arm_eval_Subscript];exact av.bind ((O N o x J).2 env R S s U ax hn E r).1 fun aA ak bn iz s₁ V a1 aM aY aZ=>av.bind (av.holding ((O N i y L).2 env R ak s₁ bn ax hn (E.ext a1 .nil) aM).1) fun br aH α₂ jr bi ah bv r2 v2 bH=>av.standAt (W7 c.hA (fun l aa p=>zU l aa none p) r2 (aY.ext bv) v2)
theorem x0{o:Expr}{m:Str}{uA:Sem Value}(h:rY o=true):attributeBase o m env uA=uA:=by
 cases o with
 | Call f a k p =>
  cases a with
  | nil=>contradiction
  | cons x r=>cases f <;> rfl
 | _=>rfl
theorem LZ{a:Addr}{v:H}(oa:ao K.hb s.heap S U)(bP:U.ix[r]?=some a)(hs:S[r]?=some (.lst Y))(hl:Y.length<aL)(dU:am s.heap U v aa){X:Value->Shared->Prop} :
  wpAny (model K.prog K.w) A (call (.builtin "list.append") [.ref a,aa]) (cy K am (.ok .none (S.set r (.lst (Y++[v])))) s U) X s:=by
 refine cG (oa.obj r _ a hs bP) fun items n V w=>?_;refine wpAny_list_append_plain ⟨n,V⟩ (fun h' zN sb=>?_) (by simp;exact w.1▸(iS (b4 hl)));refine aF zN fun d4 aP=>?_;refine aN (oa.set (m:=.lst (Y++[v])) bP (fun b o hb e=>(sb.2 b hb).trans e) aP fun aS=>(fF (items++[aa]) d4 (by rw[aP];simp) ((w.snoc dU).ext aS))) fun aO aS=>?_;exact⟨.none,_,U,rfl,aS,aO,.none,⟨rfl,rfl⟩⟩
def wp:iE->String
 | .get => "dict"
 | _ => "list"
def wo:iE->String
 | .append => "list.append" | .extend => "list.extend"
 | .pop => "list.pop"
 | .get => "dict.get"
def AE:iE->Str
 | .append => "append" | .extend => "extend"
 | .pop => "pop"
 | .get => "get"
theorem Tj{x:Str}{m:iE}(h:AF x=some m):x=AE m:=
 (show ∀p∈I5,p.1=AE p.2 from(by repeat (first | refine List.forall_mem_cons.mpr ⟨rfl,?_⟩ | exact fun u h=>nomatch h))) _ (rQ h)
theorem bp.eraseIdx:∀{Y:List H} {vs:List Value} (k:Nat),bp h U Y vs->bp h U (Y.eraseIdx k) (vs.eraseIdx k)
 | [],vs,k,v=>by
  have:vs=[]:=hJ v.1.symm;subst this;simpa using v
 | x::Y,vs,0,v=>by
  exact cG v.inv_cons fun aa us ae bB=>ae▸(aN bB fun aY v2=>v2)
 | x::Y,vs,k+1,v=>by
  exact cG v.inv_cons fun aa us ae bB=>ae▸(aN bB fun aY v2=>.cons aY (v2.eraseIdx k))
theorem K4{a:Addr}{items:Array Value}{g:Array Value->Array Value}(e:h.get? a=some { cls:=.type "list",data:=.seq items n }) :
  ∃d4,(h.update a (Obj.mapSeq g)).get? a=some { cls:=.type "list",data:=.seq (g items) d4 }:=by
 exact⟨_,Heap.get?_update_self (Obj.mapSeq g) e rfl⟩
theorem K5{a b:Addr}{g:Obj->Obj}(hb:b≠a):(h.update a g).get? b=h.get? b:=Heap.get?_update_ne h b a g hb
theorem U8{a:Addr}{i:Int}{t:Tok}{v:H}(oa:ao K.hb s.heap S U)(bP:U.ix[r]?=some a)(hs:S[r]?=some (.lst Y))(h0:0<=i)(hl:Y.length<=aL)(hv:Y[i.toNat]?=some v){X:Value->Shared->Prop} :
  wpAny (model K.prog K.w) A (call (.builtin "list.pop") [.ref a,.int i t]) (cy K am (.ok v (S.set r (.lst (Y.eraseIdx i.toNat)))) s U) X s:=by
 refine cG (oa.obj r _ a hs bP) fun items n V w=>ay (w.get hv) fun aa hu dU=>?_;have hi:=(dv hv).1;have Za:=p4 hl;have fG:=w.1;refine call_meets F.slot_list_pop (aI _ V rfl) F.entry_list_pop (F.args_list_pop_2 _ _) (MeetsSeq.list_pop_at a items.toArray n i t i.toNat aa ?_ ?_ (by simpa using hu) (eY<&>w.1<$>(iS hl))) ⟨V,?_⟩
 ·unfold Builtin.List.listFitsIndex;simp;(grind)
 ·rw[<- Br];unfold fW;exact(aC h0 ..).trans (aC (by simp;(grind)) ..)
 ·refine aF (K4 (g:=fun Y=>Y.eraseIdxIfInBounds i.toNat) V) fun d4 aP=>?_
  have ah:(items.toArray.eraseIdxIfInBounds i.toNat)=(items.eraseIdx i.toNat).toArray:=by
   simp
  rw[ah]at aP;exact aN (oa.set (m:=.lst (Y.eraseIdx i.toNat)) bP (fun b o hb e=>(K5 hb).trans e) aP fun aS=>(fF _ d4 aP ((w.eraseIdx _).ext aS))) fun aO aS=>⟨v,_,U,rfl,aS,aO,dU.ext aS,⟨rfl,rfl⟩⟩
theorem Ei{a b:Addr}{T:String}(dP:T = "tuple" \/ T = "list")(oa:ao K.hb s.heap S U)(bP:U.ix[r]?=some a)(hs:S[r]?=some (.lst Y))(hl:Y.length+ys.length<=aL)
  (ah:s.heap.get? b=some { cls:=.type T,data:=.seq vs.toArray m }) (hS:bp s.heap U ys vs) {X:Value->Shared->Prop} :
  wpAny (model K.prog K.w) A (call (.builtin "list.extend") [.ref a,.ref b]) (cy K am (.ok .none (S.set r (.lst (Y++ys)))) s U) X s:=by
 refine cG (oa.obj r _ a hs bP) fun items n V w=>?_;have fG:=w.1;have QO:=hS.1;have QP:=iS hl
 have DF:¬(!items.toArray.isEmpty&&Builtin.List.listTooLong (items.toArray.size+vs.toArray.size))=true:=by
  refine eY<&>eY<&>fG<$>QO<$>?_
  have:Builtin.List.listTooLong (Y.length+ys.length)=false:=by unfold Builtin.List.listTooLong;simpa using QP
  refine this<&>?_;simp
 have fin:cy K am (.ok .none (S.set r (.lst (Y++ys)))) s U .none { s with heap:=s.heap.update a (Obj.mapSeq fun x=>x++vs.toArray) }:=by
  refine aF (K4 (g:=fun x=>x++vs.toArray) V) fun d4 aP=>?_
  have bq:items.toArray++vs.toArray=(items++vs).toArray:=by simp
  simp only[bq]at aP;exact aN (oa.set (m:=.lst (Y++ys)) bP (fun b o hb e=>(K5 hb).trans e) aP fun aS=>(fF _ d4 aP ((w.append hS).ext aS))) fun aO aS=>⟨.none,_,U,rfl,aS,aO,.none,⟨rfl,rfl⟩⟩
 rcases dP with rfl | rfl
 ·exact call_meets F.slot_list_extend ⟨_,V,rfl⟩ F.entry_list_extend (F.args_list_extend_2 _ _) (AutoSeq1.list_extend_list_tuple_0 a items.toArray n b vs.toArray m DF (by rw[eY];(grind)) (by rw[eY,eY];(grind))) ⟨V,ah,fin⟩
 ·exact call_meets F.slot_list_extend ⟨_,V,rfl⟩ F.entry_list_extend (F.args_list_extend_2 _ _) (AutoSeq1.list_extend_list_list_0 a items.toArray n b vs.toArray m DF (by rw[eY];(grind)) (by rw[eY,eY];(grind))) ⟨V,ah,fin⟩
section
variable {v:H}{P:H->aj H->Prop}
theorem LY(h0:∀o,P o .stuck)(J:∀r Y,S[r]?=some (.lst Y)->Y.length<aL->P (.ref r) (.ok .none (S.set r (.lst (Y++[v]))))):∀o,P o (lC o v S):=by
 intro o
 cases o with
 | ref r =>
  unfold lC;dsimp only
  cases hs:S[r]? with
  | none=>exact h0 _
  | some m =>
   cases m with
   | lst Y =>
    dsimp only;by_cases hl:Y.length<aL
    ·rw[aC hl];exact J r Y hs hl
    ·rw[aV hl];exact h0 _
   | _=>exact h0 _
 | _=>exact h0 _
theorem Oy{Q:H->H->aj H->Prop}(h0:∀o v,Q o v .stuck)(J:∀r Y ys,S[r]?=some (.lst Y)->Y.length+ys.length<=aL->Q (.ref r) (.tup ys) (.ok .none (S.set r (.lst (Y++ys)))))(L:∀r Y ys,S[r]?=some (.lst Y)->Y.length+ys.length<=aL->Q (.ref r) (.fl ys) (.ok .none (S.set r (.lst (Y++ys))))):∀o v,Q o v (nq o v S):=by
 intro o v
 cases o with
 | ref r =>
  unfold nq;dsimp only
  cases hs:S[r]? with
  | none=>exact h0 _ _
  | some m =>
   cases m with
   | lst Y =>
    cases v with
    | tup ys =>
     dsimp only;by_cases hl:Y.length+ys.length<=aL
     ·rw[aC hl];exact J r Y ys hs hl
     ·rw[aV hl];exact h0 _ _
    | fl ys =>
     dsimp only;by_cases hl:Y.length+ys.length<=aL
     ·rw[aC hl];exact L r Y ys hs hl
     ·rw[aV hl];exact h0 _ _
    | _=>exact h0 _ _
   | _=>exact h0 _ _
 | _=>exact h0 _ _
theorem U6{Q:H->H->aj H->Prop}(h0:∀o v,Q o v .stuck)(J:∀r Y i w,S[r]?=some (.lst Y)->0<=i->Y.length<=aL->Y[i.toNat]?=some w->Q (.ref r) (.int i) (.ok w (S.set r (.lst (Y.eraseIdx i.toNat))))):∀o v,Q o v (qh o v S):=by
 intro o v
 cases o with
 | ref r =>
  unfold qh;dsimp only
  cases hs:S[r]? with
  | none=>exact h0 _ _
  | some m =>
   cases m with
   | lst Y =>
    cases v with
    | int i =>
     dsimp only;by_cases hl:0<=i/\Y.length<=aL
     ·rw[aC hl]
      cases hw:Y[i.toNat]? with
      | none=>exact h0 _ _
      | some w=>exact J r Y i w hs hl.1 hl.2 hw
     ·rw[aV hl];exact h0 _ _
    | _=>exact h0 _ _
   | _=>exact h0 _ _
 | _=>exact h0 _ _
theorem PI{Q:H->H->aj H->Prop}(h0:∀o v,Q o v .stuck)(J:∀r Z k,S[r]?=some (.ds Z)->Q (.ref r) (.str k) (.ok ((aD k Z).getD .none) S))(L:∀r Z v k,S[r]?=some (.dp Z)->fy v=some k->Q (.ref r) v (.ok ((aD k Z).getD .none) S)):∀o v,Q o v (s8 o v S):=by
 intro o v
 cases o with
 | ref r =>
  unfold s8;dsimp only
  cases hs:S[r]? with
  | none=>exact h0 _ _
  | some m =>
   cases m with
   | ds Z =>
    cases v with
    | str k=>exact J r Z k hs
    | _=>exact h0 _ _
   | dp Z =>
    dsimp only
    cases hk:fy v with
    | none=>exact h0 _ _
    | some k=>exact L r Z v k hs hk
   | _=>exact h0 _ _
 | _=>exact h0 _ _
end
theorem Tz{m:iE}{o v:H}(hK:K.Ok)(hA:eJ A)(r:ao K.hb s.heap S U)(aA:am s.heap U o x)(cA:am s.heap U v aa):av K am A (call (.builtin (wo m)) [x,aa]) (kn m o [v] S) s U:=by
 cases m with
 | append =>
  exact LY (P:=fun o c=>am s.heap U o x->av K am A (call (.builtin "list.append") [x,aa]) c s U) (fun u u hc=>absurd rfl hc) (fun q Y hs hl aA u=>by
   refine ay aA.refE fun a ae bP=>?_;refine ae▸?_;exact LZ r bP hs hl cA) o aA
 | extend =>
  exact Oy (Q:=fun o v c=>am s.heap U o x->am s.heap U v aa->av K am A (call (.builtin "list.extend") [x,aa]) c s U) (fun u u u u hc=>absurd rfl hc)
   (fun q Y ys hs hl aA cA u=>by
    refine ay aA.refE fun a ae bP=>?_;subst ae;obtain⟨b,vs,n,rfl,V,_,w⟩:=cA.tupE
    exact Ei (.inl rfl) r bP hs hl V w)
   (fun q Y ys hs hl aA cA u=>by
    refine ay aA.refE fun a ae bP=>?_;obtain rfl:=ae;obtain⟨b,vs,n,rfl,V,_,w⟩:=cA.flE
    exact Ei (.inr rfl) r bP hs hl V w) o v aA cA
 | pop =>
  exact U6 (Q:=fun o v c=>am s.heap U o x->am s.heap U v aa->av K am A (call (.builtin "list.pop") [x,aa]) c s U) (fun u u u u hc=>absurd rfl hc) (fun q Y i w hs h0 hl hw aA cA u=>by
   refine ay aA.refE fun a ae bP=>?_;obtain rfl:=ae;refine aF cA.intE fun u ae=>?_;obtain rfl:=ae
   exact U8 r bP hs h0 hl hw) o v aA cA
 | get =>
  exact PI (Q:=fun o v c=>am s.heap U o x->am s.heap U v aa->av K am A (call (.builtin "dict.get") [x,aa]) c s U) (fun u u u u hc=>absurd rfl hc)
   (fun q Z k hs aA cA u=>by
    refine ay aA.refE fun a ae bP=>?_;obtain rfl:=ae
    refine ay cA.strE fun u ae u=>?_;exact ae▸(PH hK r hs bP))
   (fun q Z w k hs hk aA cA u=>by
    refine ay aA.refE fun a ae bP=>?_;obtain rfl:=ae
    exact PG hK hA r hs bP hk cA) o v aA cA
theorem Tl(m:iE):PlainAttrs (wp m)/\Slot (wp m) (AE m) (wo m)/\typeOf (.builtin (wo m))=pure (.type "method_descriptor"):=by
 cases m
 ·exact⟨F.plainAttrs_list,F.slot_list_append,F.type_list_append⟩
 ·exact⟨F.plainAttrs_list,F.slot_list_extend,F.type_list_extend⟩
 ·exact⟨F.plainAttrs_list,F.slot_list_pop,F.type_list_pop⟩
 ·exact⟨F.plainAttrs_dict,F.slot_dict_get,F.type_dict_get⟩
set_option tactic.hygienic true in
theorem Tk{m:iE}{o:H}(r:ao K.hb s.heap S U)(aA:am s.heap U o x)(h:qa m o S=true):s.TypeIs x (wp m)/\∀a,x=.ref a->∃tY,s.heap.get? a=some tY/\tY.dict=none:=by
 have lst:∀Y,cY S o=some Y->s.TypeIs x "list" /\ ∀a,x=.ref a->∃tY,s.heap.get? a=some tY/\tY.dict=none:=fun Y e=>by
  obtain⟨l,vs,n,rfl,V,_⟩:=lD r aA e;exact⟨(aI _ V rfl),fun a ha=>by cases ha;exact(aI _ V rfl)⟩
 have AM:jH o S=true->∃Y,cY S o=some Y:=fun h=>by
  unfold jH at h
  split at h
  ·split at h
   ·rename_i Y hs;exact⟨Y,by simp[cY,hs]⟩
   ·contradiction
  ·contradiction
 cases m with
 | append=>refine aF (AM h) fun Y e=>?_;exact lst Y e
 | extend=>refine aF (AM h) fun Y e=>?_;exact lst Y e
 | pop=>refine aF (AM h) fun Y e=>?_;exact lst Y e
 | get =>
  change tK o S=true at h;unfold tK at h
  split at h
  ·refine ay aA.refE fun a ae bP=>ae▸?_
   split at h
   ·rename_i hs;exact ay (rc r hs bP) fun bT J u=>⟨J.typeIs,J.mapOf.noDict⟩
   ·rename_i hs;exact ay (rb r hs bP) fun Y J u=>⟨J.typeIs,dictOfH_noDict J⟩
   ·contradiction
  ·contradiction
set_option tactic.hygienic true in
theorem Ti{m:iE}{jN:Str}{o a:Expr}{x y:X}(c:cF K A T C)(O:cc K A C f)(hm:AF jN=some m)(pL:(gG.endLine == pos.line)=true)(tj:rY o=true)(J:f N o=some x)(L:f N a=some y)
  (ax:env.scope.names=N) (hn:cU K.hb env) (E:a2 env R s.heap U) (r:ao K.hb s.heap S U) :
  av K am A (eval (.Call (.Attribute o jN gG) [a] [] pos) env) (ev C (.me m x #v[y]) R S) s U:=by
 refine Tj hm<&>Ec<&>?_;intro hc;refine aN (O N a y L) fun hp eE=>Call_method1 (x0 tj) (jn hp) pL (av.use ((O N o x J).2 env R S s U ax hn E r).1 hc fun aA ak bn iz s₁ V dw a1 aM aY aZ=>V<&>?_)
 split at dw
 ·rename_i dg;refine d6 (Tl m) fun q1 q2 q3=>aN (Tk aM aY dg) fun q4 q5=>(DS (wp m) (wo m) q1 q2 q3 q4 q5 (Calls.callWith_builtin (by cases m <;> rfl) (Calls.evalArgs_plain (Calls.spliced_cons ?_))))
  have DO:∀{S:ab},((evs C #v[y] R S).bind fun vs S=>kn m aA vs S)=(ev C y R S).bind fun v S=>kn m aA [v] S:=fun{S}=>by
   show((ev C y R S).bind fun v S=>.ok [v] S).bind _=_;cases ev C y R S <;> rfl
  refine MC<&>aC dg<&>DO<&>?_;rw[DO]at dw;refine av.useL a1 aZ (eE env R ak s₁ bn ax hn (E.ext a1 .nil) aM).1 dw fun pv aH α₂ aa bi ah ff bv r2 v2 bH=>Calls.spliced_nil ?_;show wpAny _ _ _ (cy K am ((ev C y R ak).bind fun v S=>kn m aA [v] S) _ _) (dS K A ((ev C y R ak).bind fun v S=>kn m aA [v] S) _ _) _;exact ah<&>((Tz c.hK c.hA r2 (aY.ext bv) v2).endL (a1.trans bv) (aZ.trans bH) ff)
 ·exact absurd rfl dw
theorem bp.drop:∀{Y:List H} {vs:List Value} (k:Nat),bp h U Y vs->bp h U (Y.drop k) (vs.drop k)
 | _,_,0,v=>v
 | [],vs,k+1,v=>by
  have:vs=[]:=hJ v.1.symm;refine this▸?_;exact .nil
 | x::Y,vs,k+1,v=>by
  exact cG v.inv_cons fun aa us ae bB=>ae▸(aN bB fun aY v2=>v2.drop k)
theorem bp.take:∀{Y:List H} {vs:List Value} (k:Nat),bp h U Y vs->bp h U (Y.take k) (vs.take k)
 | _,_,0,v=>.nil
 | [],vs,k+1,v=>by
  have:vs=[]:=hJ v.1.symm;refine this▸?_;exact .nil
 | x::Y,vs,k+1,v=>by
  exact cG v.inv_cons fun aa us ae bB=>ae▸(aN bB fun aY v2=>.cons aY (v2.take k))
theorem JM{p:H}{v:Value}{k:Option Int}(h:t2 p=some k)(r:am s.heap U p v):IsPart v k:=by
 cases p with
 | none=>obtain rfl:=oi h;refine r.noneE▸?_;exact .none
 | int i=>obtain rfl:=oi h;refine aF r.intE fun u ae=>?_;refine ae▸?_;exact .int _ _
 | _=>contradiction
theorem bp.slice(v:bp h U Y vs)(lo hi:Option Int):bp h U (h6 Y lo hi) (h6 vs lo hi):=by
 unfold h6;exact v.1▸((v.drop _).take _)
theorem U0{lo hi:Option Int}:slicePick vs.toArray lo hi none=(h6 vs lo hi).toArray:=by
 rw[slicePick_plain];simp[h6]
theorem Kl{v:Value}{k:Option Int}{Q:Option Int->Shared->Prop}(p:IsPart v k)(h:Q k s):wpAny (model K.prog K.w) A (Builtin.Slice.slicePartIndex v) Q E s:=by
 cases p with
 | none=>exact slicePart_none h
 | int i t=>exact slicePart_int h
def jl(lo:Option Int)(n:Nat):Nat:=lo.elim 0 (clipAt n)
def nx(hi:Option Int)(n:Nat):Nat:=hi.elim n (clipAt n)
theorem Ng(n:Nat)(i:Int):(if i<0 then max (i+n) 0 else min i n)=((clipAt n i:Nat):Int):=by
 rw[clipAt_cast];by_cases h:i<0
 ·rw[aC h,aC h];(grind)
 ·rw[aV h,aV h];(grind)
theorem LK(lo hi:Option Int)(n:Nat):Builtin.Slice.sliceAdjust lo hi 1 (n:Int)=(((jl lo n:Nat):Int),((nx hi n:Nat):Int)):=by
 unfold Builtin.Slice.sliceAdjust jl nx;simp only[(⋯:¬((1:Int)<0)),if_false];cases lo <;> cases hi <;> simp only[Option.elim,Ng] <;> rfl
theorem U2(a b:Nat):Builtin.Slice.slicePlaces (a:Int) (b:Int) 1=b-a:=by
 unfold Builtin.Slice.slicePlaces;simp only[(⋯:(1:Int) > 0),if_true,Int.ediv_one]
 split <;> (grind)
theorem Wh{eC:Addr}{vl dU:Value}{lo hi:Option Int}{Q:Int×Int×Nat->Shared->Prop}(hs:s.heap.IsSliceOf eC vl dU .none)(pl:IsPart vl lo)(Bd:IsPart dU hi)
  (h:Q (((jl lo n:Nat):Int),1,nx hi n-jl lo n) s):wpAny (model K.prog K.w) A (Builtin.Slice.sliceApplied (.ref eC) (pure (n:Int))) Q E s:=by
 refine bw (id hs) fun os tn ta vO=>df (fun u q=>aK (wpAny_field tn vO (x:=vl) rfl (aK (wpAny_field tn vO (x:=dU) rfl (aK (wpAny_field tn vO (x:=.none) rfl (bh q))))))) (df (fun u q=>slicePart_none q) ?_);rw[aV ⋯];refine aK (Kl pl (aK (Kl Bd (aK (bh ?_)))));show wpAny _ _ (match Builtin.Slice.sliceAdjust lo hi 1 (n:Int)with | (lo,hi)=>pure (lo,(1:Int),Builtin.Slice.slicePlaces lo hi 1)) _ _ s;rw[LK];show wpAny _ _ (pure (((jl lo n:Nat):Int),(1:Int),Builtin.Slice.slicePlaces ((jl lo n:Nat):Int) ((nx hi n:Nat):Int) 1)) _ _ s;exact U2<&>(bh h)
theorem UY(Y:List Value)(a k:Nat):((List.range k).filterMap fun(j:Nat)=>Y.toArray[((a:Int)+(j:Int)*1).toNat]?).toArray=((Y.drop a).take k).toArray:=by
 have e:(fun(j:Nat)=>Y.toArray[((a:Int)+(j:Int)*1).toNat]?)=fun j=>Y.toArray[a+j]?:=by
  funext j
  have:((a:Int)+(j:Int)*1).toNat=a+j:=((iJ _ _ _).symm);exact congrArg _ this
 refine e<&>?_;have:=pick_run Y.toArray a k;rw[List.filterMap_map]at this;have ah:((fun x=>Y.toArray[x]?)∘fun x=>a+x)=fun j=>Y.toArray[a+j]?:=rfl;rw[ah]at this;rw[this]
theorem Wj{β:Type}(Y:List β)(lo hi:Option Int):(h6 Y lo hi).length<=Y.length:=by
 exact aE (List.length_take_le' _ _) (by rw[List.length_drop];exact Nat.sub_le _ _)
theorem X9{t eC:Addr}{vl dU:Value}{lo hi:Option Int}(ba:s.heap.get? t=some { cls:=.type "tuple",data:=.seq vs.toArray n })
  (hs:s.heap.IsSliceOf eC vl dU .none) (pl:IsPart vl lo) (Bd:IsPart dU hi) (kl:vs.length<=sizeLine)
  (J:h6 vs lo hi=vs->Q (.ref t) s) (L:Q (.ref s.heap.objs.size) { s with heap:=s.heap.push { cls:=.type "tuple",data:=.seq (h6 vs lo hi).toArray } }) :
  wpAny (model K.prog K.w) A (getItem (.ref t) (.ref eC)) Q E s:=by
 have tw:=v9 ba;refine bw (id hs) fun os tn ta vO=>?_
 have dg:sizeOk (.seq (h6 vs lo hi).toArray):=by
  show(h6 vs lo hi).toArray.size<=sizeLine;rw[eY];exact aE (Wj vs lo hi) kl
 unfold getItem
 try with_reducible apply fQ
 first | refine aK (bh ?_) | skip
 refine aK (wpAny_sequenceKey tw.typeIs ⋯ ?_)
 refine aK (wpAny_callSpecial?_slot tw.typeIs slot_tuple_getitem
  (wpAny_call_entry slot_tuple_getitem tw.typeIs entry_tuple_getitem ?_ (args_tuple_getitem _ _)))
 show wpAny _ _ (Builtin.Tuple.tupleItemsOf (.ref t) >>= _) _ _ s;refine df (fun u q=>tupleItemsOf_ tw q) (df (fun u q=>wpAny_typeOf (aI os tn ta) q) ?_);rw[aC ⋯];refine aK (Wh hs pl Bd ?_);rw[eY]
 have fin:∀(B:Around),wpAny (model K.prog K.w) B (Builtin.Tuple.tupleExact ((List.range (nx hi vs.length-jl lo vs.length)).filterMap fun(k:Nat)=>vs.toArray[(((jl lo vs.length:Nat):Int)+(k:Int)*1).toNat]?).toArray) (fun v s'=>v=.ref s.heap.objs.size/\s'={ s with heap:=s.heap.push { cls:=.type "tuple",data:=.seq (h6 vs lo hi).toArray } }) (fun u u=>False) s:=fun B=>by
  rw[UY];exact wpAny_newObj_type ⟨rfl,rfl⟩ dg
 show wpAny _ _ (if(((jl lo vs.length:Nat):Int) == 0&&(1:Int) == 1&&(nx hi vs.length-jl lo vs.length) == vs.length)=true then _ else _) _ _ s;by_cases hc:(((jl lo vs.length:Nat):Int) == 0&&(1:Int) == 1&&(nx hi vs.length-jl lo vs.length) == vs.length)=true
 ·rw[aC hc];simp only[kM,beq_iff_eq]at hc
  have hw:h6 vs lo hi=vs:=by
   have eV:jl lo vs.length=0:=by have:=hc.1.1;(grind)
   show(vs.drop (jl lo vs.length)).take (nx hi vs.length-jl lo vs.length)=vs;refine eV.symm▸((by have:=hc.2;rw[eV]at this;(assumption)):nx hi vs.length=vs.length).symm▸?_;simp
  refine df (fun u q=>aK (wpAny_typeOf tw.typeIs (bh q))) ?_;rw[aC ⋯]
  first
   | exact aK (wpAny_rule (bh (aI _ rfl (bh (J hw)))))
   | exact aK (aK (wpAny_rule (bh (bh ⟨_,rfl,bh (J hw)⟩))))
   | exact aK (wpAny_rule (aK (bh (bh ⟨_,rfl,bh (J hw)⟩))))
 ·rw[aV hc]
  first
   | exact aK (cu (fin _) (fun v s' e=>by obtain⟨rfl,rfl⟩:=e;exact bh (aI _ rfl (bh L))) fun u u e=>e.elim)
   | exact aK (cu (fin _) (fun v s' e=>by obtain⟨rfl,rfl⟩:=e;exact aK (bh (bh ⟨_,rfl,bh L⟩))) fun u u e=>e.elim)
   | exact aK (aK (cu (fin _) (fun v s' e=>by obtain⟨rfl,rfl⟩:=e;exact bh (bh ⟨_,rfl,bh L⟩)) fun u u e=>e.elim))
def kx(s:Shared)(y z:Value):Shared:={ s with heap:=s.heap.push { cls:=.type "slice",data:=.fields #[y,z,.none] } }
section
variable {a v:H}{lo hi:Option Int}{z:Value}{l aa:Option Expr}{p:Pos}
theorem B7{b:Addr}(e:s.heap.get? b=some o):(kx s y z).heap.get? b=some o:=cI _ e
theorem We(r:ao K.hb s.heap S U)(aA:am s.heap U a x)(pb:IsPart y lo)(mU:IsPart z hi)(e:cY S a=some Y)(hl:Y.length<=aL) :
  wpAny (model K.prog K.w) A (subscriptTail jY (.Slice l aa none p) x (.ref s.heap.objs.size)) (cy K am (.ok (.fl (h6 Y lo hi)) S) (kx s y z) U) E (kx s y z):=by
 obtain⟨ad,vs,n,rfl,V,w⟩:=lD r aA e;have k:∀b o,s.heap.get? b=some o->(kx s y z).heap.get? b=some o:=fun u u=>B7;have eR:(kx s y z).heap.IsList ad vs.toArray:=⟨_,k _ _ V,rfl,n,rfl⟩;refine tail_any eR.typeIs slot_list_getitem.lookup (wpAny_getItem_list_slice eR (Heap.IsSliceOf.new ..) pb mU .none (by trivial) ?_ (eY<&>w.1<$>(iS hl))) rfl;exact U0<&>(cy.fl (r.keeps k) ((w.ext (.keeps (F:=[]) k)).slice lo hi))
theorem Wf(r:ao K.hb s.heap S U)(aA:am s.heap U (.tup Y) x)(pb:IsPart y lo)(mU:IsPart z hi)(hl:Y.length<=aL) :
  wpAny (model K.prog K.w) A (subscriptTail jY (.Slice l aa none p) x (.ref s.heap.objs.size)) (cy K am (.ok (.tup (h6 Y lo hi)) S) (kx s y z) U) E (kx s y z):=by
 obtain⟨t,vs,n,rfl,V,hn,w⟩:=aA.tupE;have k:∀b o,s.heap.get? b=some o->(kx s y z).heap.get? b=some o:=fun u u=>B7;have yc:=k _ _ V;have c4:=w.ext (.keeps (F:=[]) k);refine tail_any (aI _ yc rfl) slot_tuple_getitem.lookup (X9 yc (Heap.IsSliceOf.new ..) pb mU (w.1▸(iS hl)) (fun hw=>?_) ?_) rfl
 ·refine⟨_,S,U,rfl,.refl,r.keeps k,?_,.refl _⟩;have Rg:h6 Y lo hi=Y:=((List.take_sublist _ _).trans (List.drop_sublist _ _)).eq_of_length (((c4.slice lo hi).1.trans (congrArg List.length hw)).trans w.1.symm);exact Rg<&>(am.tupI yc hn c4)
 ·exact cy.tup (r.keeps k) (c4.slice lo hi)
theorem Wg(h:Bu S a lo hi=some v)(r:ao K.hb s.heap S U)(aA:am s.heap U a x)(pb:IsPart y lo)(mU:IsPart z hi) :
  wpAny (model K.prog K.w) A (subscriptTail jY (.Slice l aa none p) x (.ref s.heap.objs.size)) (cy K am (.ok v S) (kx s y z) U) E (kx s y z):=by
 have gen:((cY S a).bind fun Y=>if Y.length<=aL then some (H.fl (h6 Y lo hi))else none)=some v->wpAny (model K.prog K.w) A (subscriptTail jY (.Slice l aa none p) x (.ref s.heap.objs.size)) (cy K am (.ok v S) (kx s y z) U) E (kx s y z):=fun h =>
  cw h fun Y e h=>mL h fun hl h=>oi h▸We r aA pb mU e hl
 cases a with
 | tup Y=>exact mL h fun hl h=>oi h▸Wf r aA pb mU hl
 | _=>exact gen h
end
theorem Wk{l aa:Option Expr}{p:Pos}{a b c:H}{z:Value}(r:ao K.hb s.heap S U)(aA:am s.heap U a x)(br:am s.heap U b y)(xb:am s.heap U c z) :
  av K am A (subscriptTail jY (.Slice l aa none p) x (.ref s.heap.objs.size)) (si a b c S) (kx s y z) U:=by
 intro hc
 cases h:(t2 b).bind fun lo=>(t2 c).bind fun hi=>Bu S a lo hi with
 | none=>unfold si at hc;rw[h]at hc;exact absurd rfl hc
 | some v =>
  unfold si;rw[h];exact cw h fun lo J h=>cw h fun hi L h=>Wg h r aA (JM J br) (JM L xb)
set_option tactic.hygienic true in
theorem TF{a b:H}(hA:eJ A)(aW:A.handled=none)(r:ao K.hb s.heap S U)(aA:am s.heap U a x)(br:am s.heap U b y):av K am A (call (.builtin "min") [x,y]) (rV a b S) s U:=by
 intro hc
 cases a with
 | int i =>
  cases b with
  | int j =>
   refine aF aA.intE fun u ae=>?_;refine ae▸?_;refine aF br.intE fun u ae=>?_;refine ae▸(min_two_ints aW fun h' tk k=>?_);have:∀{q:H} {w:Value},q=.int (min i j)->am h' U q w->cy K am (rV (.int i) (.int j) S) s U w { s with heap:=h',toks:=tk }:=fun{q w} e v=>⟨q,S,U,by refine e<&>?_;rfl,.keeps k,r.keeps k,v,⟨rfl,rfl⟩⟩
   split
   ·rename_i h;exact this (by congr 1;(grind)) (.int j _)
   ·rename_i h;exact this (by congr 1;(grind)) (.int i _)
  | _=>exact absurd rfl hc
 | _=>exact absurd rfl hc
theorem JN{o:Option Expr}{x:X}(O:cc K A C f)(h:ur (f N) o=some x)(ax:env.scope.names=N)(hn:cU K.hb env)(E:a2 env R s.heap U)(r:ao K.hb s.heap S U) :
  av K am A (valueOrNone (evalOpt o env)) (ev C x R S) s U:=by
 cases o with
 | none=>refine oi h<$>?_;exact av.pure r .none
 | some e=>exact((O N e x h).2 env R S s U ax hn E r).1
theorem Wi{o:Expr}{lo hi:Option Expr}{p:Pos}{x y z:X}(O:cc K A C f)(J:f N o=some x)(L:ur (f N) lo=some y)(au:ur (f N) hi=some z)
  (ax:env.scope.names=N) (hn:cU K.hb env) (E:a2 env R s.heap U) (r:ao K.hb s.heap S U) :
  av K am A (eval (.Subscript o (.Slice lo hi none p) pos) env) (ev C (.slice x y z) R S) s U:=by
 rw[Om,arm_eval_Subscript];refine av.bind ((O N o x J).2 env R S s U ax hn E r).1 fun aA ak bn sr s₁ V a1 aM aY aZ=>arm_eval_Slice<&>?_;intro hc;refine aK (fQ (aK (av.use (JN O L ax hn (E.ext a1 .nil) aM) hc fun br aH α₂ qC bi ah ff bv r2 v2 bH=>aK (fQ (ah<&>?_)))));show wpAny _ _ _ _ (dS K A ((ev C z R aH).bind fun b S=>si aA br b S) _ _) _;refine av.useL bv bH (JN O au ax hn ((E.ext a1 .nil).ext bv .nil) r2) ff fun xb lr qF ZF fX bq zH fK e4 v3 jL=>df (fun u q=>fQ (bh q)) (wpAny_newObj_type ?_ (by size_fits));refine aK (wpAny_standAt ?_);show wpAny _ _ _ (cy K am ((ev C z R aH).bind _) _ _) (dS K A ((ev C z R aH).bind _) _ _) _;exact bq<&>((Wk e4 ((aY.ext bv).ext fK) (v2.ext fK) v3).endL ((bv.trans fK).trans (.keeps fun u u=>B7)) ⟨(bH.trans jL).gens,(bH.trans jL).os⟩ zH)
theorem TD{a b:Expr}{p:Pos}{x y:X}(c:cF K A T C)(O:cc K A C f)(hg:g8 N "min" = true)(jg:("min" : Str)∈T.bins)(J:f N a=some x)(L:f N b=some y)
  (ax:env.scope.names=N) (hn:cU K.hb env) (E:a2 env R s.heap U) (r:ao K.hb s.heap S U) :
  av K am A (eval (.Call (.Name "min" p) [a,b] [] pos) env) (ev C (.min2 x y) R S) s U:=by
 rw[Ed]
 cases dQ:C.hd with
 | true=>exact fun hc=>absurd rfl hc
 | false =>
 simp only[cond_false];intro hc;refine aN (O N a x J) fun z1 kB=>aN (O N b y L) fun pP eE=>ms (nj c hg jg rfl ax E.ok r (jn z1<&>jn pP<&>(Calls.callWith_builtin rfl (Calls.evalArgs_plain (Calls.spliced_cons (av.use (kB env R S s U ax hn E r).1 hc fun aY ak bn sr s₁ V dw a1 aM j0 aZ=>V<&>?_))))));apply Calls.spliced_cons;show wpAny _ _ _ _ (dS K A ((ev C y R ak).bind fun y S=>rV aY y S) _ _) _;refine av.useL a1 aZ (eE env R ak s₁ bn ax hn (E.ext a1 .nil) aM).1 dw fun v2 aH α₂ qC bi ah ff bv r2 hS bH=>Calls.spliced_nil ?_;show wpAny _ _ _ (cy K am ((ev C y R ak).bind _) _ _) (dS K A ((ev C y R ak).bind _) _ _) _;exact ah<&>((TF c.hA (c.hd dQ) r2 (j0.ext bv) hS).endL (a1.trans bv) (aZ.trans bH) ff)
theorem SE{a:Expr}{p p2 Bc:Pos}{x:X}(c:cF K A T C)(O:cc K A C f)(hg:g8 N "len" = true)(jg:("len" : Str)∈T.bins)(zL:g8 N "set" = true)(Qr:("set" : Str)∈T.bins)(h:f N a=some x)
  (ax:env.scope.names=N) (hn:cU K.hb env) (E:a2 env R s.heap U) (r:ao K.hb s.heap S U) :
  av K am A (eval (.Call (.Name "len" p) [.Call (.Name "set" p2) [a] [] Bc] [] pos) env) (ev C (.b1 .lenset x) R S) s U:=by
 rw[Ea];intro hc;refine aN (O N a x h) fun hp aJ=>ms (nj c hg jg rfl ax E.ok r (jn (e:=.Call (.Name "set" p2) [a] [] Bc) rfl<&>(PySem.callWith_builtin1 (ms (nj c zL Qr rfl ax E.ok r (jn hp<&>?_))))));apply PySem.callWith_type1;refine av.use (aJ env R S s U ax hn E r).1 hc fun aY ak bn sr s₁ V dw a1 aM j0 aZ=>V<&>?_
 have q:dN .lenset aY ak=p7 ak (eB ak aY):=by cases aY <;> rfl
 refine aN (C2 dw) fun eV gc=>?_;show wpAny _ _ _ (fun v s₁=>wpAny _ _ _ (cy K am (jB C.hd .lenset aY ak) s U) (dS K A (jB C.hd .lenset aY ak) s U) s₁) _ _;rw[gc,q]at dw ⊢;unfold p7 at dw ⊢
 cases hl:(eB ak aY).bind p6 with
 | none=>rw[hl]at dw;exact absurd rfl dw
 | some l =>
  exact SH c.hA (c.hd (eV rfl)) aM j0 hl fun D h' tk k fG=>fG _ _ fun t ku=>⟨_,ak,bn,rfl,a1.trans (.keeps k),aM.keeps k,.int _ _,⟨aZ.gens,aZ.os⟩⟩
theorem A9{Z:List Expr}{Y:X}(O:cc K A C f)(h:gb (f N) Z=some Y):(backTo pos (starEach Z env)).all (fun x=>!x.1)=true/\(backTo pos (starEach Z env)).any (·.1)=false:=by
 have:∀{Z:List Expr} {Y:X},gb (f N) Z=some Y->∀x∈starEach Z env,x.1=false:=by
  intro Z
  induction Z with
  | nil=>intro Y h x hx;contradiction
  | cons e Z af =>
   intro Y h x hx;refine gH (o0 h) fun a b ha hb u=>?_;rw[jn (O N e a ha).1]at hx
   rcases bY.mp hx with q | q
   ·exact congrArg _ q
   ·exact af hb x q
 have key:∀x∈backTo pos (starEach Z env),x.1=false:=by
  intro x hx;unfold backTo at hx
  first
   | (refine ay (c7.mp hx) fun y aG ae=>?_;refine ae▸?_;exact this h y aG)
   | (split at hx <;> first | (obtain⟨y,aG,rfl⟩:=c7.mp hx;exact this h y aG) | exact this h x hx)
 exact⟨hN.mpr fun x hx=>by rw[key x hx];rfl,List.any_eq_false.mpr fun x hx=>by rw[key x hx];(trivial)⟩
theorem CV{F:Value}{Z:List Expr}{Q:Args->Shared->Prop}(h:wpAny (model K.prog K.w) A (spliced (backTo pos (starEach Z env))) (fun vs s₁=>Q ⟨vs,[]⟩ s₁) E s)
  (pl:(backTo pos (starEach Z env)).any (·.1)=false):wpAny (model K.prog K.w) A (evalArgs F true (backTo pos (starEach Z env)) []) Q E s:=by
 cases hq:backTo pos (starEach Z env)with
 | nil =>
  rw[hq]at h;exact aK (cu h (fun vs s' h'=>(aK (bh (fQ (aK (bh (aK (bh (bh h'))))))))) fun u u x=>x)
 | cons p r =>
  rw[hq]at h pl;obtain⟨b,t⟩:=p;rw[List.any_cons,Bool.or_eq_false_iff]at pl;obtain rfl:b=false:=pl.1;exact Calls.evalArgs_plain h
theorem Mx{ou:Value}{Z:List Expr}{Y:X}{p:Pos}{β:Type}{F:List H->ab->aj β}{W:Value->Shared->Prop}(c:cF K A T C)(O:cc K A C f)(hg:g8 N g=true)(jg:g∈T.bins)(hv:mx g=some ou)(ba:(∃t,ou=.type t)\/∃b,ou=.builtin b)
  (h:gb (f N) Z=some Y) (ax:env.scope.names=N) (hn:cU K.hb env) (E:a2 env R s.heap U) (r:ao K.hb s.heap S U) (hc:(evs C Y R S).bind F≠.stuck)
  (k:∀vs σ' α' us s',evs C Y R S=.ok vs σ'->F vs σ'≠.stuck->a4 [] U s.heap α' s'.heap->ao K.hb s'.heap σ' α'->bp s'.heap α' vs us->cC s s'->wpAny (model K.prog K.w) A (call ou us) W (dS K A ((evs C Y R S).bind F) s U) s') :
  wpAny (model K.prog K.w) A (eval (.Call (.Name g p) Z [] pos) env) W (dS K A ((evs C Y R S).bind F) s U) s:=by
 refine aN (A9 (env:=env) (pos:=pos) O h) fun u t9=>ms (nj c hg jg hv ax E.ok r ?_)
 have Cn:∀{PA:Value},wpAny (model K.prog K.w) A (evalArgs PA true (backTo pos (starEach Z env)) []) (fun a s₁=>wpAny (model K.prog K.w) A (call ou ([]++a.pos) a.kw) W (dS K A ((evs C Y R S).bind F) s U) s₁) (dS K A ((evs C Y R S).bind F) s U) s:=
  CV (av.use (rm (pos:=pos) O h ax hn E r) hc fun vs σ' α' us s' V c1 aS aO c4 bX=>k vs σ' α' us s' V c1 aS aO c4 bX) t9
 rcases ba with⟨t,rfl⟩ | ⟨b,rfl⟩
 ·exact PySem.callWith_type t9 Cn
 ·exact Calls.callWith_builtin t9 Cn
set_option tactic.hygienic true in
theorem VJ{o:Expr}{p p1 p2:Pos}{k:Nat}{x:X}(O:cc K A C f)(J:f N o=some x)
  (ax:env.scope.names=N) (hn:cU K.hb env) (E:a2 env R s.heap U) (r:ao K.hb s.heap S U) :
  av K am A (eval (.Subscript o (.Slice none none (some (.UnaryOp .USub (.Constant (.int 1) k p1) p2)) p) pos) env) (ev C (.rev x) R S) s U:=by
 rw[Ef,arm_eval_Subscript];refine av.bind ((O N o x J).2 env R S s U ax hn E r).1 fun aA ak bn sr s₁ V a1 aM aY aZ=>arm_eval_Slice<&>?_;intro hc;refine aK (fQ (aK (bh (aK (fQ (bh (aK (fQ ?_))))))))
 have QX:av K am A (eval (.UnaryOp .USub (.Constant (.int 1) k p1) p2) env) (.ok (.int (-1)) ak) s₁ bn:=by
  rw[arm_eval_UnaryOp];exact av.bind (f:=AT) (DA (c:=.int 1) (v:=.int 1) (k:=k) (p:=p1) (env:=env) rfl aM) fun v σ' α' y s' e aS aO c4 bX=>av.standAt (av.holding (Js aO c4))
 refine cu (QX (by(intro q;exact nomatch q))) (fun aa bi hp=>?_) fun e bi hx=>?_
 ·obtain⟨cA,aH,α₂,ah,bv,r2,v2,bH⟩:=hp
  (first | contradiction | (obtain rfl:=oi ah) | cases ah)
  refine aF v2.intE fun bR ae=>ae▸(wpAny_newObj_type ?_ (by size_fits));refine aK (wpAny_standAt ?_);have kp:∀b o,bi.heap.get? b=some o->(bi.heap.push { cls:=.type "slice",data:=.fields #[.none,.none,.int (-1) bR] }).get? b=some o:=fun b o e=>cI _ e;unfold uc at hc ⊢
  cases hl:cY ak aA with
  | none=>rw[hl]at hc;exact absurd rfl hc
  | some Y =>
   rw[hl]at hc;dsimp only at hc ⊢
   split at hc
   ·rename_i lN;refine aC lN<&>?_;obtain⟨ad,vs,n,rfl,bq,v⟩:=lD r2 (aY.ext bv) hl;have eR:(bi.heap.push { cls:=.type "slice",data:=.fields #[.none,.none,.int (-1) bR] }).IsList ad vs.toArray:=⟨_,kp _ _ bq,rfl,n,rfl⟩
    refine tail_any eR.typeIs slot_list_getitem.lookup
     (wpAny_getItem_list_slice eR (Heap.IsSliceOf.new ..) .none .none (.int (-1) bR) (by trivial) ?_ (eY<&>v.1<$>(iS lN))) rfl
    rw[W.krv_pick]
    have vr:bp (bi.heap.push { cls:=.type "slice",data:=.fields #[.none,.none,.int (-1) bR] }) α₂ Y.reverse vs.reverse:=by
     have c4:=v.ext (.keeps (F:=[]) kp);refine⟨by simp[c4.1],fun i a b J L=>?_⟩
     have hi:i<Y.length:=by have:=(dv J).1;simpa using this
     rw[List.getElem?_reverse hi]at J;rw[List.getElem?_reverse (c4.1<$>hi)]at L;rw[<- c4.1]at L;exact c4.2 _ a b J L
    exact cy.lift (s₁:={ bi with heap:=bi.heap.push { cls:=.type "slice",data:=.fields #[.none,.none,.int (-1) bR] } }) (bv.trans (.keeps kp)) ⟨bH.gens,bH.os⟩ (cy.fl (s:={ bi with heap:=bi.heap.push { cls:=.type "slice",data:=.fields #[.none,.none,.int (-1) bR] } }) (r2.keeps kp) vr)
   ·exact absurd rfl hc
 ·obtain⟨i,aH,ah,_⟩:=hx;contradiction
def uI(b7:List Str)(cA:List H)(us:List (Value×Value)):Prop:=
 us.length=b7.length/\∀(i:Nat) k v,b7[i]?=some k->cA[i]?=some v->∃t aa,us[i]?=some (Value.str k t,aa)/\∀h U,am h U v aa
theorem uI.cons{us:List (Value×Value)}{k:Str}{v:H}{t:Tok}(hu:∀h U,am h U v aa)(aJ:uI b7 cA us):uI (k::b7) (v::cA) ((.str k t,aa)::us):=by
 refine⟨congrArg Nat.succ aJ.1,fun i bs c4 V ah=>?_⟩
 cases i with
 | zero=>refine oi V<$>?_;refine oi ah<$>?_;exact fF t aa rfl hu
 | succ i=>exact aJ.2 i bs c4 V ah
theorem SR{v:H}(h:IT e=some v){X:Value->Shared->Prop}(bf:∀aa tk,(∀h U,am h U v aa)->Q aa { s with toks:=tk }):wpAny (model K.prog K.w) A (eval e env) Q X s:=by
 cases e with
 | Constant c YU YV =>
  change w8 c=_ at h
  cases c with
  | none=>obtain rfl:=oi h;exact wpAny_Constant_none (bf _ s.toks fun h U=>.none)
  | bool b=>obtain rfl:=oi h;exact wpAny_Constant_bool (bf _ s.toks fun h U=>.bool b)
  | int i=>obtain rfl:=oi h;exact wpAny_Constant_int (bf _ _ fun h U=>.int i _)
  | str z =>
   change cn _ _=_ at h
   exact dc h fun a3 h=>by obtain rfl:=oi h;exact wpAny_Constant_str (bf _ _ fun h U=>.str z _ a3)
  | _=>contradiction
 | _=>contradiction
theorem SU{x:Str}(h:IV e=some x):∃k p,e=.Constant (.str x) k p/\PyData.strOk x=true:=by
 cases e with
 | Constant c k p =>
  cases c with
  | str z =>
   change cn _ _=_ at h
   exact dc h fun a3 h=>by refine oi h<$>?_;exact fF _ _ rfl a3
  | _=>contradiction
 | _=>contradiction
def Cv(K:bc)(A:Around)(env:Env)(pos:Pos)(ks:List (Option Expr))(vs:List Expr)(b7:List Str)(cA:List H):Prop:=
 ∃r7:List (Sem Value×Sem Value),(evalEachOpt ks env).zip ((evalEach vs env).map fun v=>do let x <- v;standAt pos;pure x)=r7.map (fun p=>(some p.1,p.2))/\r7.length=b7.length/\cA.length=b7.length ∧
   ∀{s:Shared} {Q:List (Value×Value)->Shared->Prop} {X:Value->Shared->Prop},(∀us tk,uI b7 cA us->Q us { s with toks:=tk })->wpAny (model K.prog K.w) A (evalPairs r7) Q X s
theorem UV:∀{vs:List Expr} {b7:List Str} {cA:List H},sV ks=some b7->Az vs=some cA->vs.length=ks.length->Cv K A env pos ks vs b7 cA:=by
 induction ks with
 | nil =>
  intro vs b7 cA J L hl;obtain rfl:=oi J;obtain rfl:=hJ hl;refine oi L<$>?_;exact pu ([]) rfl rfl rfl (fun bf=>evalPairs_nil (bf [] _ ⟨rfl,fun i k v e=>nomatch e⟩))
 | cons k ks af =>
  intro vs b7 cA J L hl
  cases vs with
  | nil=>contradiction
  | cons e Z =>
   change bN _ _ _=_ at J L;refine gK (M:=fun b7=>Cv K A env pos (k::ks) (e::Z) b7 cA) J fun ce IG hs hr=>gK L fun v ZL hc hv=>cw hs fun Zo hk hs=>cG (SU hs) fun kp p ae dg=>?_;subst ae;refine hk▸(oy (af hr hv (Nat.succ.inj hl)) fun r7 V ah bq aJ=>?_);refine pu ((eval (.Constant (.str ce) kp p) env,do let x <- eval e env;standAt pos;pure x)::r7) ?_ (congrArg Nat.succ ah) (congrArg Nat.succ bq) (fun bf=>?_)
   ·rw[dX,<- V];rfl
   ·exact evalPairs_cons (wpAny_Constant_str (aK (SR hc fun aa tk hu=>aK (wpAny_standAt (bh (aJ fun us ku hk=>bf _ ku (hk.cons hu)))))))
theorem V8:∀{ks:List Str} {vals:List H} {us:List (Value×Value)} {bT:List (Str×Value)} {k:Str},ks.length=us.length->vals.length=ks.length->bT=(ks.zip us).map (fun p=>(p.1,p.2.2)) ->
  (∀(i:Nat) k v,ks[i]?=some k->vals[i]?=some v->∃t aa,us[i]?=some (Value.str k t,aa)/\∀h U,am h U v aa) ->
  (∀v,jU k (ks.zip vals)=some v->∃aa,valueAt bT k=some aa/\∀h U,am h U v aa)/\(jU k (ks.zip vals)=none->valueAt bT k=none):=by
 intro ks
 induction ks with
 | nil =>
  intro vals us bT k J L au aQ;subst au;exact⟨fun v e=>(by contradiction),fun u=>rfl⟩
 | cons a ks af =>
  intro vals us bT k J L au aQ
  cases vals with
  | nil=>contradiction
  | cons v vals =>
   cases us with
   | nil=>contradiction
   | cons aa us =>
    subst au;refine cG (aQ 0 a v rfl rfl) fun t gN q1 q2=>oi q1<$>?_;refine List.zip_cons_cons<&>?_;refine List.zip_cons_cons<&>?_;refine dX<&>?_;rw[K6];show(∀w,(if a=k then some v else jU k (ks.zip vals))=some w->_)/\((if a=k then some v else jU k (ks.zip vals))=none->_);by_cases hk:a=k
    ·rw[aC hk,aC hk];exact⟨fun w hw=>by refine oi hw<$>?_;exact(aI gN rfl q2),fun hw=>nomatch hw⟩
    ·rw[aV hk,aV hk];exact af (Nat.succ.inj J) (Nat.succ.inj L) rfl (fun i k v V ah=>aQ (i+1) k v V ah)
theorem M7:∀{ks:List Str} {vals:List H} {us:List (Value×Value)},ks.length=us.length->vals.length=ks.length ->
  (∀(i:Nat) k v,ks[i]?=some k->vals[i]?=some v->∃t aa,us[i]?=some (Value.str k t,aa)/\∀h U,am h U v aa)->Carries (strKind K.prog K.w) us ((ks.zip us).map fun p=>(p.1,p.2.2)):=by
 intro ks
 induction ks with
 | nil =>
  intro vals us J L aQ
  cases us with
  | nil=>trivial
  | cons aa us=>contradiction
 | cons a ks af =>
  intro vals us J L aQ
  cases vals with
  | nil=>contradiction
  | cons v vals =>
   cases us with
   | nil=>contradiction
   | cons aa us =>
    refine cG (aQ 0 a v (by rfl) (by rfl)) fun t gN q1 q2=>?_;simp at q1;refine q1▸?_;refine⟨?_,rfl,af (by simpa using J) (by simpa using L) fun i k v V ah=>by have:=aQ (i+1) k v (by simpa using V) (by simpa using ah);simpa using this⟩;show Value.isStrOf a (.str a t)=true;simp[Value.isStrOf]
theorem Uu(hK:K.Ok)(r:ao K.hb s.heap S U):(s.heap.objs.size == sysModules)=false:=by
 refine jc hK.g fun o Z c0 e u=>?_;have:s.heap.objs.size≠sysModules:=du (dW ⋯ ((eo (r.base _ _ e)):mainGlobals<s.heap.objs.size));simpa using this
theorem WB{a b:Expr}(J:jR a=true)(L:jR b=true):starEach [a,b] env=[(false,eval a env),(false,eval b env)]:=by
 rw[jn J,jn L];rfl
theorem O5{vs:List Expr}{X:Value->Shared->Prop}(hk:sV ks=some b7)(hv:ya ks.length vs=some cA)(tm:b7.Nodup)(fG:b7.length<=15)(cQ:b7≠[])
  (bf:∀s₀ bT,(∀b o,s.heap.get? b=some o->s₀.heap.get? b=some o)->cC s s₀->s₀.heap.DictOf (strKind K.prog K.w) s.heap.objs.size bT->(∀k,(∀v,jU k (b7.zip cA)=some v->∃aa,valueAt bT k=some aa/\∀h U,am h U v aa)/\(jU k (b7.zip cA)=none->valueAt bT k=none))->Q (.ref s.heap.objs.size) s₀) :
  wpAny (model K.prog K.w) A (eval (.Dict ks vs pos) env) Q X s:=by
 refine dc hv fun Rf hv=>oy (UV hk hv (eq_of_beq Rf)) fun r7 V9 pl vl aJ=>wpAny_Dict_pairs V9 (fun q=>cQ (hJ (pl.symm.trans (congrArg List.length q)))) (pl<&>fG) (aJ fun us tk tM=>(b3 _ (M7 (K:=K) tM.1.symm vl tM.2) (Heap.DictOf.new _) (fun h' fg sb=>?_)))
 have QK:((b7.zip us).map fun p=>(p.1,p.2.2)).map (·.1)=b7:=by
  exact fE.trans (List.map_fst_zip (i7 tM.1.symm))
 exact bf _ _ (fun b o e=>(sb.2 b (eZ (eo e))).trans (cI _ e)) ⟨rfl,rfl⟩ (merged_nil_of_nodup _ (QK<&>tm)▸fg) fun k=>V8 tM.1.symm vl rfl tM.2
theorem O7{k d:H}(h:s6 b7 cA k d S≠.stuck)(g:∀q,k=.str q->P):P:=by
 cases k with
 | str q=>exact g q rfl
 | _=>exact absurd rfl h
theorem O6{vs:List Expr}{yb:Pos}{k d:Expr}{x y:X}(c:cF K A T C)(O:cc K A C f)(pL:(gG.endLine == pos.line)=true)
  (hk:sV ks=some b7) (hv:ya ks.length vs=some cA) (tm:b7.Nodup) (fG:b7.length<=15) (cQ:b7≠[]) (J:f N k=some x) (L:f N d=some y)
  (ax:env.scope.names=N) (hn:cU K.hb env) (E:a2 env R s.heap U) (r:ao K.hb s.heap S U) :
  av K am A (eval (.Call (.Attribute (.Dict ks vs yb) "get" gG) [k,d] [] pos) env) ((ev C x R S).bind fun k S=>(ev C y R S).bind fun d S=>s6 b7 cA k d S) s U:=by
 intro hc;refine aN (O N k x J) fun z1 kB=>aN (O N d y L) fun pP eE=>Call_method2 rfl (WB z1 pP) pL (O5 hk hv tm fG cQ fun s₀ bT kp lb hd g=>?_);have hm:=Uu c.hK r;have hD:=lV s;generalize s.heap.objs.size=D at hd hm hD;have iX:a4 [] U s.heap U s₀.heap:=.keeps kp;refine DS ("dict") ("dict.get") F.plainAttrs_dict F.slot_dict_get F.type_dict_get hd.typeIs hd.mapOf.noDict (wpAny_dict_get2 (knd:=strKind K.prog K.w) hm (av.useL iX lb (kB env R S s₀ U ax hn (E.ext iX .nil) (r.keeps kp)).1 hc fun pk ak bn ZH s₁ V dw a1 aM aY aZ=>V<&>(av.useL (f:=fun d S=>s6 b7 cA pk d S) (iX.trans a1) (lb.trans aZ) (eE env R ak s₁ bn ax hn ((E.ext iX .nil).ext a1 .nil) aM).1 dw fun oS aH α₂ ZG bi ah ff bv r2 v2 bH=>O7 ff fun rN Q2=>?_)));subst Q2;refine ay aY.strE fun Xo ae hq=>ae▸(jc hd fun lZ Z c0 pq vb=>?_);have rz:D∉U.ix:=fun q=>aF (r.live q) fun o e=>nomatch hD.symm.trans e
 have vE:D∉U.fr:=fun q=>by
  obtain⟨_,o,e,_⟩:=r.frs _ (r.fe▸q);exact nomatch hD.symm.trans e
 refine jF rN _ (by show Value.isStrOf rN (.str rN Xo)=true;simp[Value.isStrOf]) (Heap.DictOf.mapOf (oz _ Z c0 ((bv.rest _ _ (a1.notMem rz pq) dM ((a1.rest _ _ rz dM pq).not vE)).not (a1.fre▸vE)) vb)) ?_;show cy K am ((ev C y R ak).bind _) _ _ _ _;refine ah<&>⟨_,aH,α₂,rfl,(iX.trans a1).trans bv,r2,?_,(lb.trans aZ).trans ⟨bH.gens,bH.os⟩⟩
 cases HS:jU rN (b7.zip cA)with
 | none=>exact((g rN).2 HS).symm▸v2
 | some w=>exact ay ((g rN).1 w HS) fun aa q1 q2=>q1<&>(q2 _ _)
theorem RE{x:X}(h:Aq x=false):evIt C x R S=(ev C x R S).bind eh:=by
 cases x <;> first | (contradiction;done) | (rfl)
theorem RV{x:X}(c:cF K A T C)(dQ:C.hd=false)(O:cc K A C f)(h:f N e=some x)(hi:Aq x=false)(ax:env.scope.names=N)(hn:cU K.hb env)(E:a2 env R s.heap U)(r:ao K.hb s.heap S U) :
  j6 K A en (eval e env) (evIt C x R S) s U:=by
 refine RE hi<&>?_;intro hc;exact av.use ((O N e x h).2 env R S s U ax hn E r).1 hc fun v ak bn y s₁ V dw a1 aM aY aZ=>V<&>(cu (R2 c.hA (c.hd dQ) aM aY dw) (fun it bi hp=>hp.lift a1 aZ) fun u u e=>e)
def qU(K:bc)(A:Around)(t:Sem Value)(c:aj (List H×Option (Nat×aX)))(s:Shared)(U:aw):Prop:=c≠.stuck->wpAny (model K.prog K.w) A t (n9 K c s U) (dS K A c s U) s
theorem RW{a:Expr}{p:Pos}{x:X}(c:cF K A T C)(O:cc K A C f)(h:f N a=some x)(hg:g8 N "range" = true)(jg:("range" : Str)∈T.bins)(ax:env.scope.names=N)(hn:cU K.hb env)(E:a2 env R s.heap U)(r:ao K.hb s.heap S U) :
  qU K A (eval (.Call (.Name "range" p) [a] [] pos) env) (evIt C (.range1 x) R S) s U:=by
 show qU K A _ ((ev C x R S).bind qo) s U;intro hc;exact aN (O N a x h) fun hp aJ=>ms (nj c hg jg rfl ax E.ok r (jn hp<&>(PySem.callWith_type1 (av.use (aJ env R S s U ax hn E r).1 hc fun v ak bn y s₁ V dw a1 aM aY aZ=>V<&>(cu (M2 aM aY dw) (fun it bi hp=>hp.lift a1 aZ) fun u u e=>e)))))
theorem RU{a:Expr}{p:Pos}{x:X}(c:cF K A T C)(dQ:C.hd=false)(O:cc K A C f)(h:f N a=some x)(hg:g8 N "enumerate" = true)(jg:("enumerate" : Str)∈T.bins)(ax:env.scope.names=N)(hn:cU K.hb env)(E:a2 env R s.heap U)(r:ao K.hb s.heap S U) :
  j6 K A true (eval (.Call (.Name "enumerate" p) [a] [] pos) env) (evIt C (.enum x) R S) s U:=by
 show j6 K A true _ ((ev C x R S).bind pw) s U;intro hc;exact aN (O N a x h) fun hp aJ=>ms (nj c hg jg rfl ax E.ok r (jn hp<&>(PySem.callWith_type1 (av.use (aJ env R S s U ax hn E r).1 hc fun v ak bn y s₁ V dw a1 aM aY aZ=>V<&>(cu (R0 (c.hd dQ) aM aY dw) (fun it bi hp=>cu hp (fun y fX hp=>hp.lift a1 aZ) fun u u e=>e) fun u u e=>e)))))
theorem Dn{U:Type}{g:{ q:Cg // e=.Call q.f q.as q.ks q.pos }->Option U}{a:U}{M:Prop}(h:(u5 e).bind g=some a)(k:∀c,g c=some a->M):M:=by
 cases hc:u5 e with
 | none=>rw[hc]at h;exact nomatch h
 | some c=>rw[hc]at h;exact k c h
theorem x4{q:xu}(h:u4 e=some q):e=.Call (.Name q.g q.p) [q.a] [] q.pos:=by
 exact Dn h fun c h=>dc h fun h0 h=>gK (M:=fun q:xu=>e=.Call (.Name q.g q.p) [q.a] [] q.pos) h fun n a J L=>c.2.trans (pW J<&>t1 L<&>ie.mp h0<&>rfl)
theorem MY{q:xv}(h:callN? e=some q):e=.Call (.Name q.g q.p) q.as [] q.pos:=by
 exact Dn h fun c h=>dc h fun h0 h=>gI (M:=fun q:xv=>e=.Call (.Name q.g q.p) q.as [] q.pos) h fun n J=>c.2.trans (pW J<&>ie.mp h0<&>rfl)
theorem Xs{k:Nat}{Y:X}(h:BG T N (f N) g k e=some Y)(b7:∀p as pos,e=.Call (.Name g p) as [] pos->g8 N g=true->g∈T.bins->as.length=k->gb (f N) as=some Y->P):P:=by
 refine cw h fun q hq h'=>dc h' fun hc g6=>aN (dE hc) fun hc au=>aN (dE hc) fun J L=>aN (dE L) fun aQ dk=>?_;obtain rfl:=eq_of_beq J;exact b7 q.p q.as q.pos (MY hq) aQ (by simpa using dk) (eq_of_beq au) g6
theorem YA{vs:List H}(h:xl vs S≠.stuck)(k:∀a b,vs=[a,b]->P):P:=by
 cases vs with
 | nil=>exact absurd rfl h
 | cons a l =>
  cases l with
  | nil=>exact absurd rfl h
  | cons b l =>
   cases l with
   | nil=>exact k a b rfl
   | cons c l=>exact absurd rfl h
theorem RX{Y:X}(c:cF K A T C)(dQ:C.hd=false)(O:cc K A C f)(h:BG T N (f N) "zip" 2 e=some Y)(ax:env.scope.names=N)(hn:cU K.hb env)(E:a2 env R s.heap U)(r:ao K.hb s.heap S U) :
  j6 K A true (eval e env) (evIt C (.zip Y) R S) s U/\jR e=true:=by
 refine Xs h fun p as pos he hg hb hl g6=>he▸⟨?_,rfl⟩;show j6 K A true _ ((evs C Y R S).bind xl) s U;intro hc;refine Mx c O hg hb rfl (.inl ⟨_,rfl⟩) g6 ax hn E r hc fun vs ak bn us s₁ V dw a1 aM aY aZ=>V<&>(YA dw fun a b hv=>?_);subst hv;refine cG aY.inv_cons fun x ZJ ae bB=>ae▸?_;refine aN bB fun aA aY=>?_;refine cG aY.inv_cons fun y ZK ae bB=>ae▸?_;refine aN bB fun br aY=>?_;exact hJ aY.1.symm<$>(cu (R3 (c.hd dQ) aM aA br dw) (fun it bi hp=>cu hp (fun y fX hp=>hp.lift a1 aZ) fun u u e=>e) fun u u e=>e)
theorem XQ{x:X}{P:X->Prop}(h:BP T N (f N) e=some x)(k:∀p a pos y,e=.Call (.Name "range" p) [a] [] pos->g8 N "range" = true->("range" : Str)∈T.bins->f N a=some y->P (.range1 y)):P x:=by
 unfold BP at h;refine cw h fun q hq h=>dc h fun hc h=>aN (dE hc) fun J L=>aN (dE L) fun aQ dk=>?_;have he:=x4 hq;rw[eq_of_beq J]at he aQ dk;exact gI h fun y aG=>k q.p q.a q.pos y he aQ (by simpa using dk) aG
theorem XR{x:X}(c:cF K A T C)(O:cc K A C f)(h:BQ T N (f N) e=some x)(ax:env.scope.names=N)(hn:cU K.hb env)(E:a2 env R s.heap U)(r:ao K.hb s.heap S U) :
  qU K A (eval e env) (evIt C x R S) s U/\jR e=true:=by
 unfold BQ at h
 exact XQ (P:=fun x=>qU K A (eval e env) (evIt C x R S) s U/\jR e=true) h fun p a pos y he hg hb g6=>by refine he▸?_;exact⟨RW c O g6 hg hb ax hn E r,rfl⟩
theorem qU.it{fv:aj (List H×Option (Nat×aX))}(c:cF K A T C)(dQ:C.hd=false)(aJ:qU K A (eval e env) fv s U):j6 K A en (eval e env) fv s U:=fun hc =>
 cu (aJ hc) (fun u u p=>p.iter c.hA (c.hd dQ)) fun u u e=>e
theorem uq{x:X}(c:cF K A T C)(dQ:C.hd=false)(O:cc K A C f)(h:nR T N (f N) e=some x)(ax:env.scope.names=N)(hn:cU K.hb env)(E:a2 env R s.heap U)(r:ao K.hb s.heap S U) :
  j6 K A en (eval e env) (evIt C x R S) s U/\jR e=true:=by
 unfold nR at h;refine l0 h (fun y aG h=>?_) fun u h=>?_
 ·exact oi h<$>(aN (XR c O aG ax hn E r) fun q1 q2=>⟨q1.it c dQ,q2⟩)
 ·unfold KS at h;refine cw h fun y hq h=>dc h fun hi h=>?_;refine oi h<$>?_;exact⟨RV c dQ O hq (by simpa using hi) ax hn E r,(O N e _ hq).1⟩
theorem XG{x:X}(c:cF K A T C)(dQ:C.hd=false)(O:cc K A C f)(h:w9 T N (f N) e=some x)(ax:env.scope.names=N)(hn:cU K.hb env)(E:a2 env R s.heap U)(r:ao K.hb s.heap S U) :
  ∃en,j6 K A en (eval e env) (evIt C x R S) s U/\jR e=true:=by
 unfold w9 at h;refine l0 h (fun y aG h=>?_) fun u h=>?_
 ·refine oi h<$>?_;unfold KR at aG;refine cw aG fun q hq vU=>dc vU fun hg Rk=>?_;clear vU aG;simp only[kM,pU,beq_iff_eq]at hg;have hq:=x4 hq;obtain⟨g,p,a,pos⟩:=q;refine d6 hg fun J hg hb=>?_;dsimp only at J;subst J hq;refine gI (M:=fun y=>∃en,j6 K A en (eval (.Call (.Name "enumerate" p) [a] [] pos) env) (evIt C y R S) s U/\jR (.Call (.Name "enumerate" p) [a] [] pos)=true) Rk fun z a3=>(aI true (RU c dQ O a3 hg (by simpa using hb) ax hn E r) rfl)
 refine l0 h (fun y aG h=>?_) fun u h=>?_
 ·refine oi h<$>?_;exact gI (M:=fun y=>∃en,j6 K A en (eval e env) (evIt C y R S) s U/\jR e=true) aG fun Y hx=>⟨true,RX c dQ O hx ax hn E r⟩
 exact⟨false,uq c dQ O h ax hn E r⟩
theorem NM{pk:Bool}(r:ao K.hb s.heap S U):av K am A (eval (.Dict [] [] pos) env) (ev C (.dnew pk) R S) s U:=by
 intro hc;apply wpAny_Dict_empty;have k:∀b o,s.heap.get? b=some o->(s.heap.push { cls:=.type "dict",data:=.dict #[] }).get? b=some o:=fun b o e=>cI _ e
 cases pk with
 | true =>
  refine aN (r.add (m:=.dp []) k (lV s) (pu ([]) (Heap.DictOfH.new _) rfl (fun x hx=>nomatch hx) .nil)) fun aO x=>⟨_,_,_,rfl,x,aO,.ref ?_,⟨rfl,rfl⟩⟩;rw[r.len];simp[aw.add]
 | false =>
  refine aN (r.add (D:=s.heap.objs.size) (m:=.ds []) k (lV s) (b3 ([]) (Heap.DictOf.new _) rfl .nil)) fun aO x=>⟨_,_,_,rfl,x,aO,.ref ?_,⟨rfl,rfl⟩⟩;rw[r.len];simp[aw.add]
theorem XN{p:Pos}{x:X}(c:cF K A T C)(O:cc K A C f)(hg:g8 N g=true)(h:BN T (f N) g args=some x):j1 K A C N (.Call (.Name g p) args [] pos) x:=by
 unfold BN at h;refine cw h fun q hb h=>dc h fun hc h=>cw h fun j aR h=>gI h fun Y H1=>fR (fun u u=>rfl) (fun u u=>rfl) fun{env R S s U} ax hn E r c1=>?_;obtain⟨b,cl⟩:=q;rw[Ee]at c1 ⊢;refine aN (dE hc) fun J L=>?_;obtain rfl:=eq_of_beq J
 have td:T.meths[j]?=some ("__init__" : Str):=by
  refine ay (List.findIdx?_eq_some_iff_getElem.mp aR) fun J L u=>?_;exact(cM J ..).trans (eq_of_beq L ..)
 refine bw (c.brd _ cl hb) fun F B mH u=>aF (Ap hg) fun i hi=>ms (AQ c.hK r E.ok (ax<&>hi) B.mg ?_)
 cases args with
 | nil=>contradiction
 | cons e Z =>
  have aJ:=rm (pos:=pos) O H1 ax hn E r;exact gH (o0 H1) fun cX cz ki im u=>PySem.W.callWith_K B.inn B.keep (av.use aJ c1 fun vs σ' α' us s' V dw aS aO c4 bX=>⟨fun a o e=>aO.base a o (B.inn a o e),(V<&>(cu ((mH j td) vs us s' σ' α' aO c4 dw) (fun y kr hp=>hp.lift aS bX) fun e kr hx=>hx.lift aS bX))⟩) (jn (O N e cX ki).1) (A9 O im).2
section
open PySem.W
theorem ao.frag{F:Frag}(x:F.In K.hb.h)(r:ao K.hb h S U):F.In h:=fun a o e=>r.base a o (x a o e)
theorem Ir{c:Nat}(v:am s.heap U (.inst c i) x):∃a D,x=.ref a/\s.heap.get? a=some (instObj c D)/\a∉U.all/\U.ix[i]?=some D:=by
 cases v with | inst e hn hi=>exact kh _ _ rfl e hn hi
theorem S0{Z:Array DictEntry}{n:Str}(hd:o.data=.dict Z c0)(hk:StrKeys Z):lookIn n o=some (nsFind Z n):=by
 unfold lookIn;rw[hd];dsimp only;unfold nsFind findBy
 have h0:(Z.toList.any fun x=>x.refKey)=false:=by
  rw[List.any_eq_false];intro e he;refine eM (hk e (by simpa using he)) fun m t h=>?_;simp[DictEntry.refKey,h]
 refine h0<&>Array.find?_toList<$>?_;cases Z.toList.find? (fun e=>e.key.isStr n) <;> rfl
theorem Iq{c:Nat}(r:ao K.hb s.heap S U)(o1:am s.heap U (.inst c i) x)(hs:S[i]?=some (.ns fs)) :
  ∃a D lZ,x=.ref a/\InstAt s.heap a (instObj c D) c (some lZ)/\∀n,∃q,lookIn n lZ=some q/\(∀v,aD n fs=some v->∃aa,q=some aa/\am s.heap U v aa)/\(aD n fs=none->q=none):=by
 exact cG (Ir o1) fun a D ae bB=>ae▸(d6 bB fun bP ha hi=>bw (r.obj i _ D hs hi) fun m wA ko bN=>sY wA fun lZ Ob N5 pq vb Sb u OA=>(mC a D lZ rfl ⟨bP,rfl,rfl,pq⟩ (fun n=>(b3 (m n) (S0 vb Sb<&>OA<&>rfl) (ko n) (bN n)))))
theorem Qk{v:H}(h:am s.heap U v aa):handedIn aa=true:=by cases h <;> rfl
theorem Ml{F:Frag}{b n:Str}{c:Nat}{o:H}(B:ls K F b c)(hn:n∈mw)(r:ao K.hb s.heap S U)(o1:am s.heap U o x):av K am A (getAttr x n true) (sQ c o n S) s U:=by
 intro hc;unfold sQ at hc ⊢
 cases o with
 | inst b5 i =>
  dsimp only at hc ⊢;by_cases q:b5=c
  ·subst q;rw[aC rfl]at hc ⊢
   cases hs:S[i]? with
   | none=>rw[hs]at hc;exact absurd rfl hc
   | some qc =>
    rw[hs]at hc
    cases qc with
    | ns fs =>
     dsimp only at hc ⊢
     cases hv:aD n fs with
     | none=>rw[hv]at hc;exact absurd rfl hc
     | some v =>
      refine jc (Iq r o1 hs) fun a D lZ ae bB=>ae▸(aN bB fun I aJ=>bw (aJ n) fun q J L u=>ay (L v hv) fun aa ae dU=>?_);subst ae;exact get_value (r.frag B.inn) I B.geta (findObj_own B.hasd (B.none n hn) rfl J) (Qk dU) (.here r dU)
    | _=>exact absurd rfl hc
  ·rw[aV q]at hc;exact absurd rfl hc
 | _=>exact absurd rfl hc
theorem Mk{o:Expr}{n:Str}{x:X}{b:Str}{cl:Nat}(c:cF K A T C)(O:cc K A C f)(hb:T.brd=some (b,cl))(tj:rY o=true)(hm:n∈mw)(J:f N o=some x)
  (ax:env.scope.names=N) (hn:cU K.hb env) (E:a2 env R s.heap U) (r:ao K.hb s.heap S U):av K am A (eval (.Attribute o n pos) env) (ev C (.attr cl x n) R S) s U:=by
 refine ay (c.brd b cl hb) fun F B u=>?_;rw[D9,arm_eval_Attribute,x0 tj];refine av.bind ((O N o x J).2 env R S s U ax hn E r).1 fun aA ak bn sr s₁ V a1 aM aY aZ=>av.standAt ?_;intro hc;exact aK (fQ (cu (Ml B hm aM aY hc) (fun aa s' hp=>aK (wpAny_letTemporaryGo (bh hp))) fun u u e=>e))
theorem M1{prog:Program}{w:World}{o:Expr}{name:Str}
  (Qo:attributeBase o name env (eval o env)=eval o env)
  (QD:methodCallForm (args.length+([]:List Keyword).length) (backTo pos (starEach args env)) (backToKw pos (keywordEach [] env))=true) (pL:(gG.endLine == pos.line)=true)
  (h:wpAny (model prog w) A (eval o env) (fun JI s₁=>∀pl,wpAny (model prog w) A (getMethod JI name pl) (fun q bi=>wpAny (model prog w) A (callWith pos q.1 q.2 (backTo pos (starEach args env)) []) Q E bi) E s₁) E s) :
  wpAny (model prog w) A (eval (.Call (.Attribute o name gG) args [] pos) env) Q E s:=by
 rw[arm_eval_Call,Qo];refine aK (cu h (fun JI s₁ fi=>aK (wpAny_standAt ?_)) fun u u e=>e);unfold methodCall;refine QD<&>(aK (fQ ?_));exact cu (fi _) (fun q bi h₂=>aK (wpAny_of_eq ((by unfold methodCallPos;simp[pL]):methodCallPos true o env gG pos=pure pos) h₂)) fun u u e=>e
theorem Tw{Z:List Expr}(h:(backTo pos (starEach Z env)).all (fun x=>!x.1)=true)(hl:Z.length<20):methodCallForm (Z.length+([]:List Keyword).length) (backTo pos (starEach Z env)) (backToKw pos (keywordEach [] env))=true:=by
 show((backTo pos (starEach Z env)).all (fun x=>!x.1)&&true&&decide (Z.length<30))=true;exact h<&>(c6 (de hl ⋯))
theorem Tx{c:Nat}{n:Str}{x:H}{g:ab->aj (List H)}{M:aj H->Prop}(h:qb C c j n x g S≠.stuck)
  (k:∀i fs,x=.inst c i->S[i]?=some (.ns fs)->aD n fs=none->((g S).bind fun vs S=>C.call j (.inst c i::vs) S)≠.stuck->M ((g S).bind fun vs S=>C.call j (.inst c i::vs) S)):M (qb C c j n x g S):=by
 unfold qb at h ⊢
 cases x with
 | inst b5 i =>
  dsimp only at h ⊢;by_cases q:b5=c
  ·subst q;rw[aC rfl]at h ⊢
   cases hs:S[i]? with
   | none=>rw[hs]at h;exact absurd rfl h
   | some qc =>
    rw[hs]at h
    cases qc with
    | ns fs =>
     dsimp only at h ⊢
     cases hv:aD n fs with
     | some v=>rw[hv]at h;exact absurd rfl h
     | none=>rw[hv]at h;exact k i fs rfl hs hv h
    | _=>exact absurd rfl h
  ·rw[aV q]at h;exact absurd rfl h
 | _=>exact absurd rfl h
theorem Tv{o:Expr}{Z:List Expr}{jN:Str}{x Y:X}{b:Str}{cl:Nat}(c:cF K A T C)(O:cc K A C f)(hb:T.brd=some (b,cl))(aR:T.meths[j]?=some jN)(tj:rY o=true)(pL:(gG.endLine == pos.line)=true)(fG:Z.length<20)
  (J:f N o=some x) (L:gb (f N) Z=some Y) (ax:env.scope.names=N) (hn:cU K.hb env) (E:a2 env R s.heap U) (r:ao K.hb s.heap S U) :
  av K am A (eval (.Call (.Attribute o jN gG) Z [] pos) env) ((ev C x R S).bind fun v S=>qb C cl (T.fns.length+j) jN v (fun S=>evs C Y R S) S) s U:=by
 refine bw (c.brd b cl hb) fun F B u Ll=>sY (Ll j jN aR) fun Zu qc fd q1 q2 q3 q4 mH=>?_;intro hc;refine aN (A9 O L) fun U1 t9=>M1 (x0 tj) (Tw U1 fG) pL (av.use ((O N o x J).2 env R S s U ax hn E r).1 hc fun aA ak bn iz s₁ V dw a1 aM aY aZ pl=>V<&>(Tx (M:=fun o=>wpAny (model K.prog K.w) A (getMethod iz jN pl) (fun q bi=>wpAny (model K.prog K.w) A (callWith pos q.1 q.2 (backTo pos (starEach Z env)) []) (cy K am o s U) (dS K A o s U) bi) (dS K A o s U) s₁) dw fun i fs Re hs hv cQ=>?_));subst Re;refine jc (Iq aM aY hs) fun a D lZ ae bB=>?_;subst ae;refine aN bB fun I aJ=>bw (aJ jN) fun q g1 u g2=>?_;obtain rfl:=g2 hv;refine method_fn (aM.frag B.inn) I B.geta B.getr q1 q2 (by show(lookIn jN lZ).map (·.isSome)=_;refine g1<&>?_;rfl) (Calls.callWith_function (o:=qc) (fd:=fd) (CV ?_ t9));exact av.useL a1 aZ (rm (pos:=pos) O L ax hn (E.ext a1 .nil) aM) cQ fun vs aH α₂ us bi ah ff bv r2 v2 bH=>⟨⟨r2.base _ _ q3,q4⟩,(ah<&>((mH (.inst cl i::vs) _ bi aH α₂ r2 (.cons (aY.ext bv) v2)).endL (a1.trans bv) (aZ.trans bH) ff))⟩
end
theorem oU:∀{names:List (Str×NameKind)},nN names=true->xK names:=by
 intro r
 induction r with
 | nil =>
  intro _;exact⟨fun i j x k bs h=>(nomatch h),fun i x k h=>(nomatch h),fun i x k h=>(nomatch h)⟩
 | cons c8 r af =>
  obtain⟨y,k0⟩:=c8;intro h;simp only[nN,kM,Bool.not_eq_true',Bool.or_eq_true,beq_iff_eq]at h;obtain⟨⟨⟨J,L⟩,au⟩,aQ⟩:=h;have af:=af aQ
  have no:∀(i:Nat) (k:NameKind),r[i]?≠some (y,k):=fun i k e=>by
   rw[List.any_eq_false]at J;exact J _ (d0 e) (by simp)
  refine⟨fun i j x k bs V ah=>?_,fun i x k e=>?_,fun i x k e=>?_⟩
  ·cases i with
   | zero =>
    cases j with
    | zero=>rfl
    | succ j =>
     simp at V ah;obtain⟨rfl,rfl⟩:=V;exact absurd ah (no j bs)
   | succ i =>
    cases j with
    | zero =>
     simp at V ah;obtain⟨rfl,rfl⟩:=ah;exact absurd V (no i k)
    | succ j =>
     simp at V ah;exact congrArg _ (af.uniq i j x k bs V ah ..)
  ·cases i with
   | zero=>simp at e;obtain⟨rfl,rfl⟩:=e;exact L
   | succ i=>simp at e;exact af.nodbg i x k e
  ·cases i with
   | zero =>
    simp at e;obtain⟨rfl,rfl⟩:=e
    rcases au with(au | au) | au
    ·exact .inl au
    ·exact .inr (.inl au)
    ·exact .inr (.inr au)
   | succ i=>simp at e;exact af.kinds i x k e
theorem Dv{t:Nat}{elt it:X}(dQ:C.hd=false):ev C (.comp a5 t cP elt cond it) R S =
  pj a5 (fun v S=>tst C cond ((dz cP R).set t (some v)) S) (fun v S=>ev C elt ((dz cP R).set t (some v)) S) (evIt C it R S):=by
 rw[np,dQ];refine cond_false<&>?_;congr 1
structure o5(T:bF)(N:List (Str×NameKind))(f:List (Str×NameKind)->Expr->Option X)(elt:Expr)(x:Str)(iter:Expr)(ifs:List Expr)(scope:Scope)(a5:Bool)(t:Nat)(e c i:X):Prop where
 kind:scope.kind=.function
 sc:nN (cK N scope.names)=true
 cells:∀p∈scope.names,p.2≠.cell
 tgt:(cK N scope.names)[t]?=some (x,NameKind.local)
 it:nR T N (f N) iter=some i
 elt:f (cK N scope.names) elt=some e
 cond:BK (f (cK N scope.names)) ifs=some c
theorem KQ{iter:Expr}{x:Str}{y:X}{P:X->Prop}(h:w5 T N f elt x iter ifs scope pos=some y)
  (k:∀t e c i,o5 T N f elt x iter ifs scope (!(T.muts.contains (pos.line,pos.col))) t e c i->P (.comp (!(T.muts.contains (pos.line,pos.col))) t (hO N (cK N scope.names)) e c i)):P y:=by
 unfold w5 at h;exact dc h fun hk h=>cw h fun t u h=>dc h fun ba h=>lY h fun i e c J L au=>k t e c i (aN (dE hk) fun hk th=>aN (dE hk) fun k4 iP=>⟨eq_of_beq k4,iP,fun p hp=>bne_iff_ne.mp (hN.mp th p hp),eq_of_beq ba,J,L,au⟩)
theorem o5.ok{iter:Expr}{x:Str}{t:Nat}{e c i:X}(q:o5 T N f elt x iter ifs scope a5 t e c i)(ax:env.scope.names=N):lu env.scope.names scope:=by
 refine ax▸?_;exact⟨q.kind,oU q.sc,q.cells⟩
theorem C7{x:Str}{t:Nat}(ax:env.scope.names=N)(tgt:(cK N scope.names)[t]?=some (x,NameKind.local))(v:H)(ρ':aB)(e:dj t v (ja scope env R)=some ρ'):Sub (ja scope env R) ρ':=by
 subst ax;exact oi e<$>(Sub.refl.set fun aa=>Dq tgt)
theorem o5.bind{iter:Expr}{x:Str}{t:Nat}{e c i:X}(q:o5 T N f elt x iter ifs scope a5 t e c i)(ax:env.scope.names=N)(C:Addr)(n:cU K.hb (e1 scope C env))(h:(e1 scope C env).scope.names=cK env.scope.names scope.names):nX K A [C] (e1 scope C env) (.Name x gL) (dj t):=by
 subst ax;exact MB (h<&>(oU q.sc).uniq) n.l (h<&>q.tgt)
theorem sT{kA:Addr}(ax:env.scope.names=N)(E:a2 env R s.heap U):(e1 scope kA env).scope.names=cK N scope.names:=by exact ax▸(Bk E.ok.kind)
theorem u9(ax:env.scope.names=N):ja scope env R=dz (hO N (cK N scope.names)) R:=by exact ax▸rfl
theorem Dz{M:List (Str×NameKind)}{cenv:Env}(O:cc K A C f)(h:BK (f M) ifs=some cond)(Qb:cenv.scope.names=M)(d4:cU K.hb cenv)(dI:a2 cenv R s.heap U)(aO:ao K.hb s.heap S U) :
  av K hW A (forIn ifs true fun c r=>if r=true then do let ok <- isTrue c cenv (eval c cenv);pure (ForInStep.yield ok)else pure (ForInStep.yield r)) (tst C cond R S) s U:=by
 cases ifs with
 | nil =>
  exact oi h<$>(fun u=>wpAny_tests_nil ⟨true,S,U,rfl,.refl,aO,rfl,.refl _⟩)
 | cons cs po =>
  change cn _ _=_ at h;exact dc h fun h0 h=>ie.mp h0<&>(fun hc=>wpAny_tests_one (((O _ cs cond h).2 _ _ S s U Qb d4 dI aO).2 hc))
theorem Dt{iter:Expr}{x:Str}{t:Nat}{e fv i:X}(c:cF K A T C)(O:cc K A C f)(q:o5 T N f elt x iter ifs scope a5 t e fv i)
  (ax:env.scope.names=N) (hn:cU K.hb env) (E:a2 env R s.heap U) (r:ao K.hb s.heap S U) :
  av K am A (eval (.ListComp elt [⟨.Name x gL,iter,ifs,0⟩] scope pos) env) (ev C (.comp a5 t (hO N (cK N scope.names)) e fv i) R S) s U:=by
 cases dQ:C.hd with
 | true=>rw[np,dQ];exact fun hc=>absurd rfl hc
 | false =>
 rw[Dv dQ];obtain⟨fh,hpl⟩:=uq c dQ O q.it ax hn E r;refine IS (q.ok ax) E fh (q.bind ax) (.inl fun u u=>rfl) (C7 ax q.tgt) (fun u u e=>nomatch e) (fun kA v ρ' s' σ' α' d4 e dI aO=>?_) (fun kA v ρ' s' σ' α' d4 e dI aO=>?_) c.fr hn r (wH hpl)
 ·obtain rfl:=oi e;rw[u9 ax]at dI;exact Dz O q.cond (sT ax E) d4 dI aO
 ·obtain rfl:=oi e;rw[u9 ax]at dI;exact((O _ elt _ q.elt).2 _ _ σ' s' α' (sT ax E) d4 dI aO).1
theorem Nv{ts:List Nat}{elt it:X}(dQ:C.hd=false):ev C (.compT a5 ts cP elt it) R S =
  pj a5 (fun v S=>mT (fun u=>.ok true S) (eG ts v (dz cP R))) (fun v S=>mT (fun R=>ev C elt R S) (eG ts v (dz cP R))) (evIt C it R S):=by
 rw[yq,dQ];refine cond_false<&>?_
 have:(fun(x:H) (S:ab)=>mT (fun R=>(ev C elt R S).bind fun v S=>aj.ok (some v) S) (eG ts x (dz cP R)))=i9 (fun v S=>mT (fun u=>.ok true S) (eG ts v (dz cP R))) (fun v S=>mT (fun R=>ev C elt R S) (eG ts v (dz cP R))):=funext fun v=>funext fun S=>by
  unfold i9;dsimp only;cases eG ts v (dz cP R) <;> rfl
 refine this<&>?_;rfl
theorem L4{q:List Expr×Nat×Pos}(h:xY e=some q):e=.Tuple q.1 q.2.1 q.2.2:=p9 (o:=K0 e) h
structure Ch(T:bF)(N:List (Str×NameKind))(f:List (Str×NameKind)->Expr->Option X)(elt:Expr)(ts:List Expr)(iter:Expr)(scope:Scope)(is:List Nat)(e i:X):Prop where
 kind:scope.kind=.function
 sc:nN (cK N scope.names)=true
 cells:∀p∈scope.names,p.2≠.cell
 slots:l4 (cK N scope.names) ts=some is
 loc:∀i∈is,∃x,(cK N scope.names)[i]?=some (x,NameKind.local)
 it:nR T N (f N) iter=some i
 elt:f (cK N scope.names) elt=some e
theorem LW{o:Option (Str×NameKind)}(h:(o.any fun q=>q.2 == .local)=true):∃x,o=some (x,NameKind.local):=by
 cases o with
 | none=>contradiction
 | some q=>exact⟨q.1,congrArg some (Prod.ext rfl (eq_of_beq h))⟩
theorem XA{iter:Expr}{y:X}{P:X->Prop}(h:w7 T N f elt ts iter scope pos=some y)
  (k:∀is e i,Ch T N f elt ts iter scope is e i->P (.compT (!(T.muts.contains (pos.line,pos.col))) is (hO N (cK N scope.names)) e i)):P y:=by
 unfold w7 at h;exact dc h fun hk h=>cw h fun is QJ h=>dc h fun zD h=>gK h fun i e J L=>k is e i (aN (dE hk) fun hk th=>aN (dE hk) fun k4 iP=>⟨eq_of_beq k4,iP,fun p hp=>bne_iff_ne.mp (hN.mp th p hp),QJ,fun i hi=>LW (hN.mp zD i hi),J,L⟩)
theorem Xy{x:X}(h:w6 T N f elt gens scope pos=some x):∃ts b7 pp iter,gens=[⟨.Tuple ts b7 pp,iter,[],0⟩]/\w7 T N f elt ts iter scope pos=some x:=by
 unfold w6 at h;refine cw h fun g hg h=>dc h fun ha h=>cw h fun q hq h=>?_;obtain⟨lm,iter,ifs,Mi⟩:=g;obtain rfl:=L4 hq;exact aN (dE ha) fun ha QH=>eq_of_beq ha<$>(ie.mp QH<$>(sZ q.1 q.2.1 q.2.2 iter (t1 hg) h))
theorem Nw{iter:Expr}{b7:Nat}{is:List Nat}{e i:X}(c:cF K A T C)(O:cc K A C f)(q:Ch T N f elt ts iter scope is e i)
  (ax:env.scope.names=N) (hn:cU K.hb env) (E:a2 env R s.heap U) (r:ao K.hb s.heap S U) :
  av K am A (eval (.ListComp elt [⟨.Tuple ts b7 pp,iter,[],0⟩] scope pos) env) (ev C (.compT a5 is (hO N (cK N scope.names)) e i) R S) s U:=by
 cases dQ:C.hd with
 | true=>rw[yq,dQ];exact fun hc=>absurd rfl hc
 | false =>
 rw[Nv dQ];subst ax;obtain⟨fh,hpl⟩:=uq c dQ O q.it rfl hn E r;have sc:=oU q.sc;refine IS (bd:=eG is) ⟨q.kind,sc,q.cells⟩ E fh (fun kA d4 fT=>?_) (.inr (ri _ _ _ rfl)) (fun v ρ' e=>Dd e fun Y u e=>Kf e (fun i hi aa=>aF (q.loc i hi) fun x hx=>Dq hx) .refl) (fun v S e=>congrArg (mT _) e) (fun kA v ρ' s' σ' α' d4 e dI aO=>?_) (fun kA v ρ' s' σ' α' d4 e dI aO=>?_) c.fr hn r (wH hpl)
 ·refine De (c.hd dQ) (fun{R h U} E b hb=>?_) (fun{S U i x} hi eR {R p aa s Q X} E r v bf=>?_) q.slots q.loc
  ·obtain⟨m,⟨o,_,_,e,_⟩,_⟩:=E.ns;exact di.mp hb▸⟨o,e⟩
  ·refine ay (Kn hi) fun k hk u=>aF eR fun aS hx=>?_;rw[hk]at hx;refine aN (Prod.mk.inj (oi hx)) fun u z=>?_;rw[z]at hk;exact BA (fT<&>sc.uniq) r E d4.l (fT<&>hk) v fun s' aO dI aS u bX=>bf s' aO dI aS bX
 ·exact fun u=>wpAny_tests_nil ⟨true,σ',α',congrArg (mT _) e,.refl,aO,rfl,.refl _⟩
 ·exact(congrArg (fun o=>av K am A (eval elt _) (mT (fun R=>ev C _ R σ') o) s' α') e).mpr ((O _ elt _ q.elt).2 _ _ σ' s' α' (sT rfl E) d4 dI aO).1
theorem Xz{x:X}(c:cF K A T C)(O:cc K A C f)(h:w6 T N f elt gens scope pos=some x):j1 K A C N (.ListComp elt gens scope pos) x:=by
 exact lH (Xy h) fun ts b7 pp iter ae h=>ae▸(XA h fun is e i q=>fR (fun u u=>rfl) (fun u u=>rfl) fun ax hn E r=>Nw c O q ax hn E r)
theorem Xw{l:Expr}{os:List CmpOp}{iT:List Expr}{x:X}(c:cF K A T C)(O:cc K A C f)(h:BI (f N) l os iT=some x):j1 K A C N (.Compare l os iT pos) x:=by
 unfold BI at h
 cases os with
 | nil=>contradiction
 | cons o os =>
  cases iT with
  | nil=>contradiction
  | cons aM iT =>
   cases os with
   | nil =>
    change cn _ _=_ at h;exact dc h fun h0 h=>ie.mp h0<&>(lY h fun a8 a b J L au env R S s U ax hn E r=>Nj c O J L au ax hn E r)
   | cons bN os =>
    cases iT with
    | nil=>contradiction
    | cons r2 iT =>
     change cn _ _=_ at h;exact dc h fun h0 h=>cw h fun a8 J h=>aN (dE h0) fun h0 PY=>ie.mp h0<&>ie.mp PY<&>(UC h fun a b ZA b2 L au aQ dk env R S s U ax hn E r=>Ni c O J aQ L au dk ax hn E r)
theorem XO{a:Expr}{p:Pos}{x:X}(c:cF K A T C)(O:cc K A C f)(hg:g8 N g=true)(im:g∈T.bins)(h:BO T N (f N) pos g a=some x):j1 K A C N (.Call (.Name g p) [a] [] pos) x:=by
 unfold BO at h;refine l0 h (fun y zQ h'=>?_) fun u h=>?_
 rotate_left
 ·exact gK h fun b1 a1 lL ty=>fR (fun u u=>rfl) (fun u u=>rfl) fun ax hn E r=>Mn c O lL hg im ty ax hn E r
 unfold IN at zQ;clear h;refine cw zQ fun q hq HK=>dc HK fun lM QQ=>?_;clear HK zQ;have hq:=x4 hq;obtain⟨g2,p2,gU,Bc⟩:=q;obtain rfl:=oi QQ;simp only[kM,beq_iff_eq,pU]at lM;obtain⟨⟨J,L⟩,zL,hb2⟩:=lM;subst J L hq;exact gI h' fun z a3=>fR (fun u u=>rfl) (fun u u=>rfl) fun ax hn E r=>SE c O hg im zL (by simpa using hb2) a3 ax hn E r
theorem XX{a b:Expr}{p:Pos}{x:X}(c:cF K A T C)(O:cc K A C f)(hg:g8 N g=true)(im:g∈T.bins)(h:BU T N (f N) g a b=some x):j1 K A C N (.Call (.Name g p) [a,b] [] pos) x:=by
 unfold BU at h;refine Dy h (fun lM h=>?_) fun h=>dc h fun lM h=>?_
 ·obtain rfl:=eq_of_beq lM;exact cw h fun q hq h=>pW hq<&>(dc h fun lM h=>aN (dE lM) fun zM vL=>gK h fun a1 m0 ty pR=>fR (fun u u=>rfl) (fun u u=>rfl) fun ax hn E r=>RN c O pR hg im zM (by simpa using vL) ty ax hn E r)
 ·obtain rfl:=eq_of_beq lM;exact gK h fun a1 iz ty vU=>fR (fun u u=>rfl) (fun u u=>rfl) fun ax hn E r=>TD c O hg im ty vU ax hn E r
theorem Xv{p:Pos}{x:X}(c:cF K A T C)(O:cc K A C f)(h:BH T N (f N) pos g args=some x):j1 K A C N (.Call (.Name g p) args [] pos) x:=by
 unfold BH at h;refine dc h fun hg h=>l0 h (fun i hi h=>dc h fun cQ h=>gI h fun Y hq=>fR (fun u u=>rfl) (fun u u=>rfl) fun ax hn E r=>?_) fun u h=>l0 h (fun y aG h=>by cases(oi h);exact XN c O hg aG) fun u h=>dc h fun hb h=>?_
 ·have pK:T.fns[i]?=some g:=by
   refine ay (List.findIdx?_eq_some_iff_getElem.mp hi) fun J L u=>?_;exact(cM J ..).trans (eq_of_beq L ..)
  exact MV c O pK hg (fun q=>by subst q;contradiction) hq ax hn E r
 ·have im:g∈T.bins:=by simpa using hb
  cases args with
  | nil=>contradiction
  | cons a r =>
   cases r with
   | nil=>exact XO c O hg im h
   | cons b r =>
    change cn _ _=_ at h;exact dc h fun h0 h=>ie.mp h0<&>(XX c O hg im h)
theorem RD{q:List (Option Expr)×List Expr×Pos}(h:Iv e=some q):e=.Dict q.1 q.2.1 q.2.2:=p9 (o:=DC e) h
theorem SS(h:IU e=true):∃k p,e=.Constant (.int 1) k p:=by
 cases e with
 | Constant c k p =>
  cases c with
  | int i=>refine eq_of_beq (show(i == 1)=true from h)<&>?_;exact eQ _ _ rfl
  | _=>contradiction
 | _=>contradiction
theorem XE{vs:List Expr}{m:Str}{yb:Pos}{x:X}(c:cF K A T C)(O:cc K A C f)(hl:(gG.endLine == pos.line)=true)(h:BJ (f N) ks vs m args=some x):j1 K A C N (.Call (.Attribute (.Dict ks vs yb) m gG) args [] pos) x:=by
 unfold BJ at h
 cases args with
 | nil=>contradiction
 | cons k aM =>
  dsimp only at h;refine cw h fun d h0 h=>dc h fun hm h=>cw h fun l J h=>dc h fun hc h'=>eq_of_beq hm<$>(t1 h0<$>?_);simp only[kM,decide_eq_true_eq,Bool.not_eq_true',List.isEmpty_eq_false_iff]at hc;obtain⟨⟨q1,q2⟩,q3⟩:=hc;exact lY h' fun cA Zr Y2 L au aQ=>fR (fun u u=>rfl) (fun u u=>rfl) fun ax hn E r=>O6 c O hl J L q1 q2 q3 au aQ ax hn E r
theorem XJ{o:Expr}{m:Str}{x:X}(c:cF K A T C)(O:cc K A C f)(hl:(gG.endLine == pos.line)=true)(h:BL T (f N) o m args=some x):j1 K A C N (.Call (.Attribute o m gG) args [] pos) x:=by
 unfold BL at h;refine l0 h (fun q hd h=>?_) fun u h=>dc h fun HM h=>?_
 ·refine RD hd<&>?_;exact XE c O hl h
 ·refine Dy h (fun hm h=>cw h fun q hb h=>cw h fun j aR h=>dc h fun fG h=>gK h fun A6 Y J L=>fR (fun u u=>rfl) (fun u u=>rfl) fun ax hn E r=>?_) fun h=>?_
  ·have td:T.meths[j]?=some m:=by
    refine ay (List.findIdx?_eq_some_iff_getElem.mp aR) fun g1 g2 u=>?_;exact(cM g1 ..).trans (eq_of_beq g2 ..)
   exact Tv c O hb td HM hl (f0 fG) J L ax hn E r
  cases args with
  | nil=>contradiction
  | cons a r =>
   cases r with
   | nil=>exact lY h fun AJ A6 YR h0 J L=>fR (fun u u=>rfl) (fun u u=>rfl) fun ax hn E r=>Ti c O h0 hl HM J L ax hn E r
   | cons b r =>
    contradiction
theorem RF(h:Iw e=true):∃k p p2,e=.UnaryOp .USub (.Constant (.int 1) k p) p2:=by
 refine aF (Option.isSome_iff_exists.mp h) fun a ha=>cw ha fun b hb h=>dc h fun h u=>eM (SS h) fun k p ae=>?_;subst ae
 cases e with
 | UnaryOp o a p2 =>
  cases o with
  | USub=>refine oi hb<$>?_;exact ri _ _ _ rfl
  | _=>contradiction
 | _=>contradiction
theorem L3{q:Option Expr×Option Expr×Option Expr×Pos}(h:CX e=some q):e=.Slice q.1 q.2.1 q.2.2.1 q.2.2.2:=p9 (o:=Km e) h
theorem XW{o i:Expr}{x:X}(c:cF K A T C)(O:cc K A C f)(h:BS (f N) o i=some x):j1 K A C N (.Subscript o i pos) x:=by
 unfold BS at h;refine l0 h (fun q hi h=>?_) fun hi h=>gK h fun a b J L=>fR (fun u u=>rfl) (fun u u=>rfl) fun ax hn E r=>WZ c O (fun l aa st p q=>by subst q;contradiction) J L ax hn E r;have hi:=L3 hi;obtain⟨lo,hi,st,p⟩:=q;refine hi▸?_
 cases st with
 | none=>exact lY h fun A6 ir hx J L au=>fR (fun u u=>rfl) (fun u u=>rfl) fun ax hn E r=>Wi O J L au ax hn E r
 | some st =>
  change cn _ _=_ at h;refine dc h fun lM h=>?_;simp only[kM,oj]at lM;obtain⟨⟨J,L⟩,hm⟩:=lM;refine lG (RF hm) fun k p1 p2 ae=>?_;subst ae;subst J L;exact gI h fun y aG=>fR (fun u u=>rfl) (fun u u=>rfl) fun ax hn E r=>VJ O aG ax hn E r
theorem KP{x:X}(h:un T N f elt gens scope pos=some x):∃z p iter ifs,gens=[⟨.Name z p,iter,ifs,0⟩]/\w5 T N f elt z iter ifs scope pos=some x:=by
 unfold un at h;refine cw h fun g hg h=>dc h fun ha h=>cw h fun q hq h=>?_;obtain⟨lm,iter,ifs,Mi⟩:=g;obtain rfl:=pW hq;exact eq_of_beq ha<$>(sZ q.1 q.2 iter ifs (t1 hg) h)
theorem Xx{x:X}(c:cF K A T C)(O:cc K A C f)(h:un T N f elt gens scope pos=some x):j1 K A C N (.ListComp elt gens scope pos) x:=by
 exact lH (KP h) fun z p iter ifs ae h=>ae▸(KQ h fun t e fv i q=>fR (fun u u=>rfl) (fun u u=>rfl) fun ax hn E r=>Dt c O q ax hn E r)
theorem XV(c:cF K A T C)(O:cc K A C f):cc K A C (KV T f):=by
 intro N e x h
 cases e with
 | Constant fv _ _=>exact⟨rfl,gI h fun v hq=>fR (fun u u=>rfl) (fun u u=>rfl) fun u u u r=>DA hq r⟩
 | Name z p=>exact⟨rfl,XM c h⟩
 | BoolOp o Z pos =>
  cases o with
  | And=>exact⟨rfl,gI h fun v hq env R S s U ax hn E r=>LV O hq ax hn E r⟩
  | Or=>exact⟨rfl,gI h fun v hq env R S s U ax hn E r=>UH O hq ax hn E r⟩
 | UnaryOp o a pos =>
  cases o with
  | Not=>exact⟨rfl,gI h fun v hq env R S s U ax hn E r=>Ut O hq ax hn E r⟩
  | USub=>exact⟨rfl,gI h fun v hq=>fR (fun u u=>rfl) (fun u u=>rfl) fun ax hn E r=>Ug O hq ax hn E r⟩
  | _=>contradiction
 | BinOp l o aO pos=>exact⟨rfl,lY h fun u u u ho ha hb=>fR (fun u u=>rfl) (fun u u=>rfl) fun ax hn E r=>Mw c O ho ha hb ax hn E r⟩
 | Compare l os iT pos=>exact⟨rfl,Xw c O h⟩
 | List Z pos=>exact⟨rfl,gI h fun v hq=>fR (fun u u=>rfl) (fun u u=>rfl) fun ax hn E r=>SM O hq ax hn E r⟩
 | Tuple Z k pos=>exact⟨rfl,gI h fun v hq=>fR (fun u u=>rfl) (fun u u=>rfl) fun ax hn E r=>X7 O hq ax hn E r⟩
 | Call fn args II pos =>
  refine⟨rfl,?_⟩;change cn _ _=_ at h;refine dc h fun hk h=>ie.mp hk<&>?_
  cases fn with
  | Name g p=>exact Xv c O h
  | Attribute o m gG =>
   change cn _ _=_ at h;exact dc h fun hl h=>XJ c O hl h
  | _=>contradiction
 | Attribute o n pos =>
  exact⟨rfl,cw h fun q hb h=>dc h fun hc h=>gI h fun A6 J=>(aN (dE hc) fun dw ff=>fR (fun u u=>rfl) (fun u u=>rfl) fun ax hn E r=>Mk c O hb dw (List.contains_iff_mem.mp ff) J ax hn E r)⟩
 | Subscript o i pos=>exact⟨rfl,XW c O h⟩
 | Dict ks vs pos =>
  change cn _ _=_ at h;exact⟨rfl,dc h fun hc h=>(aN (dE hc) fun J L=>ie.mp J<&>ie.mp L<&>(oi h<$>(fR (fun u u=>rfl) (fun u u=>rfl) fun u u u r=>NM r)))⟩
 | ListComp elt gens scope pos =>
  refine⟨rfl,?_⟩;change jP _ _ _=_ at h;refine l0 h (fun y aG h=>?_) fun u h=>Xz c O h;refine oi h<$>?_;exact Xx c O aG
 | _=>contradiction
theorem XB(c:cF K A T C):∀n,cc K A C (uo T n):=by
 intro n
 induction n with
 | zero =>
  exact fun N e x h=>by contradiction
 | succ n af =>
  exact XV c (af)
def g4(env:Env):List Addr:=env.locals::env.cells.map (·.2)
theorem nt(E:a2 env R h U)(hd:∀p∈env.cells,env.cells.lookup p.1=some p.2):∀b∈g4 env,∃o,h.get? b=some o:=by
 intro b hb
 rcases bY.mp hb with q | q
 ·refine q▸?_;obtain⟨m,⟨o,_,_,e,_⟩,_⟩:=E.ns;exact⟨o,e⟩
 ·exact ay (c7.mp q) fun p hp ae=>ae▸(d6 (E.ca p.1 p.2 (hd p hp)) fun u u bB=>cG bB fun v o e u=>⟨o,e⟩)
structure e6(hb:gy)(env:Env):Prop where
 sc:xK env.scope.names
 new:cU hb env
 cl:∀p∈env.cells,env.cells.lookup p.1=some p.2
 inter:interactive env=false
inductive qL(h:Heap)(U:aw)(R:aB)(S:ab):cq->Flow->Prop
 | next:qL h U R S (.next R S) .next
 | brk:qL h U R S (.brk R S) .brk
 | cont:qL h U R S (.cont R S) .cont
 | ret {v:H} {aa:Value} (r:am h U v aa):qL h U R S (.ret v R S) (.ret aa)
inductive iG(K:bc)(env:Env)(c:cq)(s:Shared)(U:aw)(fl:Flow)(s':Shared):Prop where
 | mk (ρ':aB) (σ':ab) (α':aw) (x:a4 (g4 env) U s.heap α' s'.heap) (r:ao K.hb s'.heap σ' α') (yo:a2 env ρ' s'.heap α') (m:cC s s') (kW:qL s'.heap α' ρ' σ' c fl):iG K env c s U fl s'
inductive kG(K:bc)(xN:Around)(env:Env)(c:cq)(s:Shared)(U:aw)(e:Value)(s':Shared):Prop where
 | mk (i:Nat) (R:aB) (σ':ab) (s₁:Shared) (bn:aw) (gJ:Bool) (h:c=.exc i R σ') (x:a4 (g4 env) U s.heap bn s₁.heap) (yo:a2 env R s₁.heap bn) (m:cC s s₁) (f5:qK K s₁ bn i σ' gJ e s'):kG K xN env c s U e s'
def gB(K:bc)(env:Env)(A:Around)(t:Sem Flow)(c:cq)(s:Shared)(U:aw):Prop:=
 c≠.stuck->wpAny (model K.prog K.w) A t (iG K env c s U) (kG K A env c s U) s
theorem iG.lift{c:cq}{fl:Flow}(x:a4 (g4 env) U s.heap bn s₁.heap)(m:cC s s₁)(p:iG K env c s₁ bn fl s'):iG K env c s U fl s':=by
 obtain⟨ρ',σ',α',aS,r,E,bX,kW⟩:=p;exact⟨ρ',σ',α',x.trans aS,r,E,m.trans bX,kW⟩
theorem kG.lift{c:cq}{e:Value}(x:a4 (g4 env) U s.heap bn s₁.heap)(m:cC s s₁)(p:kG K A env c s₁ bn e s'):kG K A env c s U e s':=by
 obtain⟨i,R,σ',bi,α₂,gJ,h,aS,E,bX,f5⟩:=p;exact⟨i,R,σ',bi,α₂,gJ,h,x.trans aS,E,m.trans bX,f5⟩
theorem dS.toS{β:Type}{c:aj β}{f:β->ab->cq}{e:Value}(E:a2 env R s.heap U)(p:dS K A c s U e s'):kG K A env (c.toS R f) s U e s':=by
 obtain⟨i,σ',h,gJ,f5⟩:=p;exact⟨i,R,σ',s,U,gJ,by refine h<&>?_;rfl,.refl,E,.refl s,f5⟩
theorem iN(F:e6 K.hb env)(E:a2 env R s.heap U)(x:a4 [] U s.heap α' h'):a4 (g4 env) U s.heap α' h':=
 x.mono (fun u q=>absurd q dM) (nt E F.cl)
theorem av.useS{β γ:Type}{ej:Heap->aw->β->γ->Prop}{t:Sem γ}{c:aj β}{f:β->ab->cq}{W:γ->Shared->Prop}(E:a2 env R s.heap U)(aJ:av K ej A t c s U)(hc:c.toS R f≠.stuck)
  (N:∀b σ' α' y s',c=.ok b σ'->f b σ'≠.stuck->a4 [] U s.heap α' s'.heap->ao K.hb s'.heap σ' α'->ej s'.heap α' b y->cC s s'->W y s'):wpAny (model K.prog K.w) A t W (kG K A env (c.toS R f) s U) s:=by
 refine cu (aJ ((by rintro rfl;exact hc rfl):c≠.stuck)) (fun y s' hp=>?_) fun e s' hx=>hx.toS E;obtain⟨b,σ',α',rfl,x,r,v,m⟩:=hp;exact N b σ' α' y s' rfl hc x r v m
theorem uj{x:Str}{k:NameKind}{v:H}{Q:Unit->Shared->Prop}{X:Value->Shared->Prop}(F:e6 K.hb env)(r:ao K.hb s.heap S U)(E:a2 env R s.heap U)
  (hn:env.scope.names[i]?=some (x,k)) (hk:k=.local\/k=.cell) (dU:am s.heap U v aa)
  (bf:∀s',ao K.hb s'.heap S U->a2 env (R.set i (some v)) s'.heap U->a4 (g4 env) U s.heap U s'.heap->cC s s'->Q () s') :
  wpAny (model K.prog K.w) A (storeName env x aa) Q X s:=by
 rcases hk with rfl | rfl
 ·refine BA F.sc.uniq r E F.new.l hn dU fun s' aO dI aS u bX=>bf s' aO dI (aS.mono (by simp[g4]) (nt E F.cl)) bX
 ·refine WL F.sc.uniq r E F.new hn dU fun c s' hc aO dI aS bX=>bf s' aO dI (aS.mono ?_ (nt E F.cl)) bX;intro b hb;simp at hb;exact hb▸(bx _ (c7.mpr (aI _ (mem_of_lookup hc) rfl)))
theorem wY{t:Option Expr}{line:Nat}(h:nC e=false):swapsWith e t line env=pure false:=by
 cases e <;> first | rfl | contradiction
theorem Ma{x:Str}{p:Pos}{k:NameKind}{y:X}(F:e6 K.hb env)(kj:nC e=false)(hn:env.scope.names[i]?=some (x,k))(hk:k=.local\/k=.cell)
  (aJ:av K am A (eval e env) (ev C y R S) s U) (E:a2 env R s.heap U) {n:Nat} :
  gB K env A (exec (.Assign [.Name x p] e pos) env) (ex C n (.asg i y) R S) s U:=by
 change gB K env A _ ((ev C y R S).toS R fun v S=>.next (R.set i (some v)) S) s U;intro hc;exact wpAny_Assign_Name (av.useS E aJ hc fun v ak bn aa s₁ V dw a1 aM aY aZ=>(uj F aM (E.ext a1 .nil) hn hk aY fun bi r2 nY bv bH=>V<&>(⟨_,_,_,(iN F E a1).trans bv,r2,nY,aZ.trans bH,.next⟩))) (wY kj)
theorem Ox{y:X}(F:e6 K.hb env)(kj:nC e=false)
  (aJ:av K am A (eval e env) (ev C y R S) s U) (E:a2 env R s.heap U) {n:Nat} :
  gB K env A (exec (.Expr e pos) env) (ex C n (.expr y) R S) s U:=by
 change gB K env A _ ((ev C y R S).toS R fun u S=>.next R S) s U;intro hc;exact wpAny_Expr_any (av.useS E aJ hc fun v ak bn aa s₁ V dw a1 aM aY aZ=>(V<&>(⟨R,ak,bn,iN F E a1,aM,E.ext a1 .nil,aZ,.next⟩))) F.inter (wY kj)
theorem VI{y:X}(F:e6 K.hb env)
  (aJ:av K am A (eval e env) (ev C y R S) s U) (E:a2 env R s.heap U) {n:Nat} :
  gB K env A (exec (.Return (some e) pos) env) (ex C n (.ret y) R S) s U:=by
 change gB K env A _ ((ev C y R S).toS R fun v S=>.ret v R S) s U;intro hc;exact wpAny_Return_some (av.useS E aJ hc fun v ak bn aa s₁ V dw a1 aM aY aZ=>V<&>(⟨R,ak,bn,iN F E a1,aM,E.ext a1 .nil,aZ,.ret aY⟩))
theorem WI{q:Nat}{l:Addr}{p v:H}{k:Str×Int}{Q:Unit->Shared->Prop}{X:Value->Shared->Prop}(hA:eJ A)(r:ao K.hb s.heap S U)(hs:S[q]?=some (.dp Z))(eb:U.ix[q]?=some l)
  (hk:fy p=some k) (m2:am s.heap U p x) (cA:am s.heap U v aa) (hl:Z.length<aL)
  (bf:∀s',ao K.hb s'.heap (S.set q (.dp (ee k v Z))) U->a4 [] U s.heap U s'.heap->cC s s'->Q () s'):wpAny (model K.prog K.w) A (setItem (.ref l) x aa) Q X s:=by
 refine oy (rb r hs eb) fun Y J L au aQ=>ay (rM (K:=K) hk m2) fun b ae bB=>ae▸(aN bB fun hb Qs=>?_)
 have fG:Y.length<=sizeLine:=by
  have e:=congrArg List.length L;simp only[a9,kvsOf]at e;exact e<&>(iS (b4 hl))
 refine wpAny_setItem_heap (ud hA) hb J fun h' fg sb=>jc (id fg) fun a8 d3 N4 aP u=>?_
 obtain⟨aO,aS⟩:=r.set (m:=.dp (ee k v Z)) eb (fun b o hb e=>(sb.2 b hb).trans e) aP fun aS=>⟨storedH Y (ip k) b aa,fg,by
   have:=(uY pY (k:=k) L aQ cA).1;rw[<- kvsOf_storedH,kvsOf,fE]at this
   exact this,fun y aG=>by
   refine bZ (mem_storedH aG) (fun hl=>bw hl fun z a3 u ah=>?_) (fun hr=>aN hr fun u ah=>?_)
   ·exact ah<&>(au z a3)
   ·exact ah<&>Qs,by
   have:=(uY pY (k:=k) L aQ cA).2;rw[<- kvsOf_storedH,kvsOf,fE]at this
   exact this.ext aS⟩
 exact bf _ aO aS ⟨rfl,rfl⟩
theorem WJ{q:Nat}{l:Addr}{Z:List (Str×H)}{v:H}{k:Str}{t:Tok}{Q:Unit->Shared->Prop}{X:Value->Shared->Prop}(r:ao K.hb s.heap S U)(hs:S[q]?=some (.ds Z))(eb:U.ix[q]?=some l)
  (cA:am s.heap U v aa) (hl:Z.length<aL)
  (bf:∀s',ao K.hb s'.heap (S.set q (.ds (ee k v Z))) U->a4 [] U s.heap U s'.heap->cC s s'->Q () s'):wpAny (model K.prog K.w) A (setItem (.ref l) (.str k t) aa) Q X s:=by
 refine bw (rc r hs eb) fun bT J L aQ=>?_
 have fG:bT.length<=sizeLine:=by
  have e:=congrArg List.length L;simp only[a9]at e;exact e<&>(iS (b4 hl))
 refine wpAny_setItem_pairs uk J fun h' fg sb=>jc (id fg) fun a8 d3 N4 aP u=>?_;have HH:=uY (fun u u h=>h) (k:=k) L aQ cA;exact aN (r.set (m:=.ds (ee k v Z)) eb (fun b o hb e=>(sb.2 b hb).trans e) aP fun aS=>(b3 (stored bT k aa) fg HH.1 (HH.2.ext aS))) fun aO aS=>bf _ aO aS ⟨rfl,rfl⟩
theorem WH{q:Nat}{l:Addr}{m:aX}{i v:H}{Q:Unit->Shared->Prop}{X:Value->Shared->Prop}(hA:eJ A)(r:ao K.hb s.heap S U)(hs:S[q]?=some m)(eb:U.ix[q]?=some l)
  (h:sj m i v=some bX) (xc:am s.heap U i x) (cA:am s.heap U v aa)
  (bf:∀s',ao K.hb s'.heap (S.set q bX) U->a4 [] U s.heap U s'.heap->cC s s'->Q () s'):wpAny (model K.prog K.w) A (setItem (.ref l) x aa) Q X s:=by
 cases m with
 | ds Z =>
  cases i with
  | str k =>
   refine mL h fun hl h=>?_;obtain rfl:=oi h;exact ay xc.strE fun u ae u=>ae▸(WJ r hs eb cA hl bf)
  | _=>contradiction
 | dp Z =>
  refine cw h fun k hk h=>mL h fun hl h=>?_;obtain rfl:=oi h;exact WI hA r hs eb hk xc cA hl bf
 | _=>contradiction
theorem WK{o i v:H}(h:iV o i v R S≠.stuck)(k:∀q m bX,o=.ref q->S[q]?=some m->sj m i v=some bX->iV o i v R S=.next R (S.set q bX)->P):P:=by
 cases o with
 | ref q =>
  cases hm:(S[q]?).bind fun m=>sj m i v with
  | none=>exact absurd (by unfold iV;dsimp only;exact hm<&>rfl) h
  | some bX=>exact cw hm fun m J L=>k q m bX rfl J L (by unfold iV;dsimp only;rw[hm])
 | _=>exact absurd rfl h
theorem L8{o i v:Expr}{p:Pos}{x y z:X}(hA:eJ A)(F:e6 K.hb env)(kj:nC v=false)
  (kB:∀{S s U},a2 env R s.heap U->ao K.hb s.heap S U->av K am A (eval v env) (ev C z R S) s U)
  (eE:∀{S s U},a2 env R s.heap U->ao K.hb s.heap S U->av K am A (eval o env) (ev C x R S) s U)
  (qO:∀{S s U},a2 env R s.heap U->ao K.hb s.heap S U->av K am A (eval i env) (ev C y R S) s U) (E:a2 env R s.heap U) (r:ao K.hb s.heap S U) :
  gB K env A (exec (.Assign [.Subscript o i p] v pos) env) (ex C n (.asgSub x y z) R S) s U:=by
 change gB K env A _ ((ev C z R S).toS R fun v S=>(ev C x R S).toS R fun o S=>(ev C y R S).toS R fun i S=>iV o i v R S) s U;intro hc;refine wpAny_Assign_Subscript (av.useS E (kB E r) hc fun cA ak bn aa s₁ V dw a1 aM aY aZ=>(V<&>?_)) (wY kj);have js:=E.ext a1 .nil;refine cu (av.useS js (eE js aM) dw fun K7 aH α₂ B0 bi ah ff bv r2 v2 bH=>?_) (fun u u q=>q) (fun u u q=>kG.lift (iN F E a1) aZ q);have nY:=js.ext bv .nil
 refine cu (av.useS (env:=env) nY (qO nY r2) ff fun xc lr qF Yi fX bq zH fK e4 v3 jL=>?_) (fun u u q=>q) (fun u u q=>by
  show kG K A env ((ev C x R ak).toS R _) s U _ _
  exact ah<&>(kG.lift (iN F E (a1.trans bv)) (aZ.trans bH) q))
 show wpAny (model K.prog K.w) A (setItem B0 Yi aa) _ _ fX;refine WK zH fun q m bX ho hs hm he=>?_;subst ho;refine ay v2.refE fun l ae eb=>?_;subst ae;refine WH hA e4 hs (fK.get eb) hm v3 ((aY.ext bv).ext fK) fun s' aO aS bX=>?_;show iG K env ((ev C x R ak).toS R _) _ _ _ _;refine ah<&>?_;show iG K env ((ev C y R aH).toS R _) _ _ _ _;refine bq<&>?_;show iG K env (iV (.ref q) xc cA R lr) _ _ _ _;exact he<&>(⟨R,_,qF,iN F E (((a1.trans bv).trans fK).trans aS),aO,(nY.ext fK .nil).ext aS .nil,((aZ.trans bH).trans jL).trans bX,.next⟩)
theorem IA{q:Prop}{_:Decidable q}{a b:cq}(h:(if q then a else .stuck)=b)(hb:b≠.stuck):q/\a=b:=by
 by_cases hq:q
 ·rw[aC hq]at h;exact⟨hq,h⟩
 ·rw[aV hq]at h;exact absurd h.symm hb
theorem Px(E:a2 env R h U)(F:e6 K.hb env)(ho:∀b∈own,h.get? b=none):nW env own/\∀b∈own,b∉g4 env:=by
 refine⟨⟨fun q=>?_,fun x c hc q=>?_⟩,fun b hb q=>?_⟩
 ·refine aF ((nt E F.cl) env.locals be) fun o e=>?_;rw[ho _ q]at e;contradiction
 ·refine d6 (E.ca x c hc) fun u u bB=>cG bB fun v o e u=>?_;rw[ho _ q]at e;contradiction
 ·refine aF ((nt E F.cl) b q) fun o e=>?_;rw[ho _ hb]at e;contradiction
def qW(K:bc)(A:Around)(en:Bool)(env:Env)(target:Expr)(bind:H->aB->Option aB):Prop:=
 ((en=false/\∀it v,letOwnedTupleGo target it v=pure ())\/∃kT k pos,target=.Tuple kT k pos)/\nX K A (g4 env) env target bind
theorem Xe{x:Str}{k:NameKind}{p:Pos}(F:e6 K.hb env)(hn:env.scope.names[i]?=some (x,k))(hk:k=.local\/k=.cell):qW K A false env (.Name x p) (dj i):=
 ⟨.inl ⟨rfl,fun u u=>rfl⟩,fun s S U R ρ' pv aa hb E r v Q X bf=>by
  obtain rfl:=oi hb
  exact wpAny_assign_Name (uj F r E hn hk v bf)⟩
theorem Xf{bind:H->aB->Option aB}{eh v:Value}{P:Shared->Prop}{Q:Unit->Shared->Prop}{X:Value->Shared->Prop}(lm:qW K A en env target bind)(J:en=false->P s)(L:uM K A eh v P s)(bf:∀s',P s'->Q () s'):wpAny (model K.prog K.w) A (letOwnedTupleGo target eh v) Q X s:=by
 exact bZ lm.1 (fun hl=>aN hl fun he bM=>(wpAny_of_eq (bM eh v) (bf s (J he)))) (fun hr=>lG hr fun kT k pos ae=>ae▸(L kT k pos _ _ bf))
set_option tactic.hygienic true in
structure Ct(B:Flow->Shared->Prop)(I:Shared->Prop)(P:Flow->Shared->Prop):Prop where
 next:∀s,I s->B .next s
 cont:∀s,I s->B .cont s
 brk:∀s,P .next s->B .brk s
 ret:∀aa s,P (.ret aa) s->B (.ret aa) s
structure uK where
 K:bc
 env:Env
 own:List Addr
 St:Nat->Heap->aw->Prop
 s:Shared
 U:aw
 h₂:Heap
 α₂:aw
structure o8(P:uK)(A:Around)(en:Bool)(eh:Value)(Y:List H)(w:Option (Nat×aX)):Prop where
 I:hG P.K A en P.own eh Y w P.St
 F:e6 P.K.hb P.env
 ap:nW P.env P.own
 apF:∀b∈P.own,b∉g4 P.env
 x:a4 [] P.U P.s.heap P.α₂ P.h₂
 new:∀b∈P.own,P.s.heap.get? b=none
 al:∀b∈g4 P.env,∃o,P.s.heap.get? b=some o
structure lx(P:uK)(i:Nat)(R:aB)(S:ab)(s:Shared)(U:aw):Prop where
 x:a4 (P.own++g4 P.env) P.α₂ P.h₂ U s.heap
 r:ao P.K.hb s.heap S U
 st:P.St i s.heap U
 E:a2 P.env R s.heap U
 m:cC P.s s
inductive xz(P:uK)(Y:List H)(go:List H->aB->ab->cq)(c:cq)(k:Nat)(s:Shared):Prop
 | mk (i:Nat) (S:ab) (U:aw) (R:aB) (hk:k=Y.length-i) (hi:i<=Y.length) (aq:lx P i R S s U) (bM:go (Y.drop i) R S=c):xz P Y go c k s
section
variable {P:uK}{eh:Value}{w:Option (Nat×aX)}
theorem lx.more(aq:lx P i R S s U)(c:o8 P A en eh Y w){F:List Addr}(bW:∀b∈F,b∈P.own++g4 P.env)(x:a4 F U s.heap α' h'):a4 (P.own++g4 P.env) P.α₂ P.h₂ α' h':=
 aq.x.trans (x.mono bW fun b hb=>(dt.mp hb).elim (c.I.live _ _ _ aq.st b) (nt aq.E c.F.cl b))
theorem lx.step(aq:lx P i R S s U)(c:o8 P A en eh Y w)(x:a4 P.own U s.heap U s'.heap)(r:ao P.K.hb s'.heap S U)(st:P.St (i+1) s'.heap U)(m:cC s s'):lx P (i+1) R S s' U:=
 ⟨aq.more c (fun u=>hX _) x,r,st,aq.E.ext x c.ap,aq.m.trans m⟩
theorem lx.go(aq:lx P i R S s U)(c:o8 P A en eh Y w)(x:a4 (g4 P.env) U s.heap α' s'.heap)(r:ao P.K.hb s'.heap σ' α')(E:a2 P.env ρ' s'.heap α')(m:cC s s'):lx P i ρ' σ' s' α':=
 ⟨aq.more c (fun u=>fb _) x,r,c.I.frame _ _ _ _ _ _ aq.st x c.apF,E,aq.m.trans m⟩
theorem o8.post(c:o8 P A en eh Y w){o:cq}{fl:Flow}(x:a4 (P.own++g4 P.env) P.α₂ P.h₂ U s.heap)(r:ao P.K.hb s.heap S U)(E:a2 P.env R s.heap U)(m:cC P.s s)(kW:qL s.heap U R S o fl):iG P.K P.env o P.s P.U fl s:=
 ⟨R,S,U,a4.drop c.x c.new c.al x,r,E,m,kW⟩
theorem S7{bind:H->aB->Option aB}{f:aB->ab->cq}{o:cq}{Q:Option Value->Shared->Prop}{sH:Value->Unit->Shared->Prop}{qS:Unit->Shared->Prop}{B:Flow->Shared->Prop}{X:Value->Shared->Prop}(c:o8 P A en eh Y w)(lm:qW P.K A en P.env target bind)
  (hb:∀{R S s U},a2 P.env R s.heap U->ao P.K.hb s.heap S U->gB P.K P.env A (execs body P.env) (f R S) s U) (hc:o≠.stuck) (fx:i<Y.length) (aq:lx P i R S s U) (bM:ch w bind f (Y.drop i) R S=o)
  (J:∀v s,wpAny (model P.K.prog P.K.w) A (letOwnedTupleGo target eh v) (sH v) X s->Q (some v) s) (L:∀v s,wpAny (model P.K.prog P.K.w) A (assign target P.env v) qS X s->sH v () s) (au:∀s,wpAny (model P.K.prog P.K.w) A (execs body P.env) B X s->qS () s)
  (a7:Ct B (xz P Y (ch w bind f) o (Y.length-(i+1))) (iG P.K P.env o P.s P.U)):wpAny (model P.K.prog P.K.w) A (pyNext eh) Q X s:=by
 rw[List.drop_eq_getElem_cons fx]at bM;refine aN (IA bM hc) fun hw bM=>?_
 cases oH:bind Y[i] R with
 | none=>rw[oH]at bM;exact absurd bM.symm hc
 | some Cc =>
 rw[oH]at bM;change mO _ (f Cc S)=o at bM;refine c.I.item i s S U Y[i] (cM fx) aq.st aq.r hw _ _ fun v fX vr wX UR o4 l2 mS=>J _ _ (Xf lm (fun he=>⟨vr,wX he,.refl,l2,.refl _⟩) UR fun l7 q=>?_);refine ve q fun vr st o3 oT oP=>?_;have mh:=aq.step c (o4.trans o3) oT st (mS.trans oP);refine L _ _ (lm.2 l7 S U R Cc Y[i] v oH mh.E oT vr _ _ fun ul wN Ck xi Te=>?_);have lL:=hb Ck wN;generalize f Cc S=M8 at bM lL;refine au _ (cu (lL fun q=>hc (by refine bM<$>q<&>?_;rfl)) (fun fl Xa hp=>?_) fun e Xa hx=>?_)
 ·obtain⟨ZP,ZR,ZN,Yx,VT,Lk,TY,kW⟩:=hp;have mi:=(mh.go c xi wN Ck Te).go c Yx VT Lk TY
  cases kW with
  | next=>exact a7.next _ ⟨i+1,_,_,_,rfl,fx,mi,bM⟩
  | cont=>exact a7.cont _ ⟨i+1,_,_,_,rfl,fx,mi,bM⟩
  | brk=>exact a7.brk _ (bM▸c.post mi.x mi.r mi.E mi.m .next)
  | ret dU=>exact a7.ret _ _ (bM▸c.post mi.x mi.r mi.E mi.m (.ret dU))
 ·obtain⟨j,ρ',σ',_,_,_,rfl,_⟩:=hx;exact absurd bM.symm hc
theorem S6{bind:H->aB->Option aB}{f:aB->ab->cq}{o:cq}{qT:Result->Shared->Prop}(c:o8 P A en eh Y w)(lm:qW P.K A en P.env target bind)
  (hb:∀{R S s U},a2 P.env R s.heap U->ao P.K.hb s.heap S U->gB P.K P.env A (execs body P.env) (f R S) s U) (aq:lx P 0 R S s U) (bM:ch w bind f Y R S=o) (hc:o≠.stuck) (hr:∀fl s',iG P.K P.env o P.s P.U fl s'->qT (.ok fl) s') :
  codeAny (model P.K.prog P.K.w) A (.forLoop target eh body [] P.env) qT s:=by
 refine codeAny_forLoop_any (xz P Y (ch w bind f) o) (fun k s₁ inv=>?_) _ ⟨0,S,U,R,rfl,ep _,aq,bM⟩;clear aq bM;obtain⟨i,ak,bn,cL,rfl,hi,aq,bM⟩:=inv;by_cases fx:i<Y.length
 ·exact S7 c lm hb hc fx aq bM (fun u u h=>h) (fun u u h=>h) (fun u h=>h) ⟨fun u h=>⟨_,Nat.sub_succ_lt_self _ _ fx,h⟩,fun u h=>⟨_,Nat.sub_succ_lt_self _ _ fx,h⟩,fun u h=>hr _ _ h,fun u u h=>hr _ _ h⟩
 ·rw[(Nat.le_antisymm hi (e0.mp fx)),List.drop_length]at bM;exact aN (IA bM hc) fun hw bM=>c.I.done s₁ ak bn (Nat.le_antisymm hi (e0.mp fx)<$>aq.st) aq.r hw _ _ fun fX o4 l2 mS=>wpAny_execs_nil (hr _ _ (bM▸c.post (aq.more c (fun u=>hX _) o4) l2 (aq.E.ext o4 c.ap) (aq.m.trans mS) .next))
end
theorem He{it:Expr}{bind:H->aB->Option aB}{ix:X}{b:O}{c:cq}(F:e6 K.hb env)(lm:qW K A en env target bind)(hpl:jR it=true)
  (bS:j6 K A en (eval it env) (evIt C ix R S) s U) (hb:∀{R S s U},a2 env R s.heap U->ao K.hb s.heap S U->gB K env A (execs body env) (ex C n b R S) s U) (E:a2 env R s.heap U)
  (vM:c=(evIt C ix R S).toS R fun p S=>ch p.2 bind (fun R S=>ex C n b R S) p.1 R S) :
  gB K env A (exec (.For target it body [] pos) env) c s U:=by
 subst vM;intro hc;generalize evIt C ix R S=lF at bS hc ⊢;refine wpAny_For (cu (bS fun q=>hc (q▸rfl)) (fun B9 s₁ fi=>cu fi (fun eh bi h₂=>?_) fun u u q=>q.toS E) fun u u q=>q.toS E) (wH hpl);obtain⟨Y,w,aH,α₂,own,St,rfl,iy,hR,h5,I,st,ho⟩:=h₂;exact aN (Px E F fun b hb=>(ho b hb).1) fun ap apF=>S6 (P:=⟨K,env,own,St,s,U,bi.heap,α₂⟩) ⟨I,F,ap,apF,iy,fun b hb=>(ho b hb).1,nt E F.cl⟩ lm hb ⟨.refl,hR,st,E.ext iy .nil,h5⟩ rfl hc fun u u h=>h
inductive uU(K:bc)(env:Env)(s:Shared)(U:aw)(go:Nat->aB->ab->cq)(c:cq)(k:Nat)(s₁:Shared):Prop
 | mk (ak:ab) (bn:aw) (cL:aB) (x:a4 (g4 env) U s.heap bn s₁.heap) (r:ao K.hb s₁.heap ak bn) (E:a2 env cL s₁.heap bn) (m:cC s s₁) (bM:go k cL ak=c):uU K env s U go c k s₁
set_option tactic.hygienic true in
theorem Yv{oZ:Expr}{mZ:X}{f:aB->ab->cq}{c:cq}{k:Nat}{Q:Bool->Shared->Prop}{B:Flow->Shared->Prop}{X:Value->Shared->Prop}(F:e6 K.hb env)
  (ba:∀{R S s U},a2 env R s.heap U->ao K.hb s.heap S U->av K hW A (isTrue oZ env (eval oZ env)) (tst C mZ R S) s U) (hb:∀{R S s U},a2 env R s.heap U->ao K.hb s.heap S U->gB K env A (execs body env) (f R S) s U)
  (hc:c≠.stuck) (inv:uU K env s U (iv (fun R S=>tst C mZ R S) f) c (k+1) s₁) (J:∀s',wpAny (model K.prog K.w) A (execs body env) B X s'->Q true s') (h0:∀s',iG K env c s U .next s'->Q false s')
  (a7:Ct B (uU K env s U (iv (fun R S=>tst C mZ R S) f) c k) (iG K env c s U)):wpAny (model K.prog K.w) A (isTrue oZ env (eval oZ env)) Q X s₁:=by
 obtain⟨ak,bn,cL,Yy,wM,uH,AN,bM⟩:=inv;have HX:=ba uH wM;change xf cL (fun S=>mO (iv (fun R S=>tst C mZ R S) f k) (f cL S)) (tst C mZ cL ak)=c at bM;generalize tst C mZ cL ak=fv at bM HX;refine cu (HX fun q=>hc (by refine bM▸?_;rw[q];rfl)) (fun y bi hp=>?_) fun e bi hx=>?_
 ·obtain⟨t,aH,α₂,rfl,bv,hR,v2,h5⟩:=hp;obtain rfl:y=t:=v2;have iy:=Yy.trans (iN F uH bv);have h5:=AN.trans h5
  cases y with
  | false=>exact h0 _ (bM▸⟨_,_,_,iy,hR,(uH.ext bv .nil),h5,.next⟩)
  | true =>
   have lL:=hb (uH.ext bv .nil) hR;change mO _ (f cL aH)=c at bM;generalize f cL aH=M8 at bM lL;refine J _ (cu (lL fun q=>hc (by rw[<- bM,q];rfl)) (fun fl fX hp=>?_) fun e fX hx=>?_)
   ·obtain⟨ZO,lr,qF,fK,l2,qJ,mS,kW⟩:=hp
    cases kW with
    | next=>exact a7.next _ ⟨_,_,_,iy.trans fK,l2,qJ,h5.trans mS,bM⟩
    | cont=>exact a7.cont _ ⟨_,_,_,iy.trans fK,l2,qJ,h5.trans mS,bM⟩
    | brk=>exact a7.brk _ (bM▸⟨_,_,_,iy.trans fK,l2,qJ,h5.trans mS,.next⟩)
    | ret dU=>exact a7.ret _ _ (bM▸⟨_,_,_,iy.trans fK,l2,qJ,h5.trans mS,.ret dU⟩)
   ·obtain⟨j,ρ',σ',_,_,_,rfl,_⟩:=hx;exact absurd bM.symm hc
 ·obtain⟨j,σ',rfl,_⟩:=hx;exact absurd bM.symm hc
theorem Yu{oZ:Expr}{mZ:X}{b:O}(F:e6 K.hb env)
  (ba:∀{R S s U},a2 env R s.heap U->ao K.hb s.heap S U->av K hW A (isTrue oZ env (eval oZ env)) (tst C mZ R S) s U) (hb:∀{R S s U},a2 env R s.heap U->ao K.hb s.heap S U->gB K env A (execs body env) (ex C n b R S) s U)
  (E:a2 env R s.heap U) (r:ao K.hb s.heap S U) :
  gB K env A (exec (.While oZ body [] pos) env) (iv (fun R S=>tst C mZ R S) (fun R S=>ex C n b R S) n R S) s U:=fun hc =>
 wpAny_While (codeAny_whileLoop (uU K env s U (iv (fun R S=>tst C mZ R S) fun R S=>ex C n b R S) _) (fun k s₁ inv=>by
  cases k with
  | zero=>obtain⟨_,_,_,_,_,_,_,bM⟩:=inv;exact absurd bM.symm hc
  | succ k=>exact Yv F ba hb hc inv (fun u h=>h) (fun u h=>wpAny_execs_nil h) ⟨fun u h=>⟨k,ic k,h⟩,fun u h=>⟨k,ic k,h⟩,fun u h=>h,fun u u h=>h⟩) n ⟨S,U,R,.refl,r,E,.refl s,rfl⟩)
section
open PySem.W
theorem V4{F:Frag}{b n:Str}{c:Nat}{v:H}{Q:Unit->Shared->Prop}(B:ls K F b c)(hn:n∈mw)(r:ao K.hb s.heap S U)(o1:am s.heap U (.inst c i) x)(cA:am s.heap U v aa)
  (hs:S[i]?=some (.ns fs)) (hl:fs.length<100) (bf:∀s',ao K.hb s'.heap (S.set i (.ns (ee n v fs))) U->a4 [] U s.heap U s'.heap->cC s s'->Q () s'):wpAny (model K.prog K.w) A (setAttr x n aa) Q E s:=by
 refine cG (Ir o1) fun a D ae bB=>ae▸(d6 bB fun bP ha hi=>bw (r.obj i _ D hs hi) fun m wA ko bN=>kR (id wA) fun lZ Ob N5 pq vb u=>?_);have X:F.In s.heap:=r.frag B.inn;refine ay (any_some B.hasd) fun cd hc fg=>set_plain X (⟨bP,rfl,rfl,pq⟩:InstAt s.heap a (instObj c D) c (some lZ)) B.seta (osa_open X (⟨bP,rfl,rfl,pq⟩:InstAt s.heap a (instObj c D) c (some lZ)) B.plain (B.free n hn) fun iL=>aK (bh (aK (aK (wpAny_loadPart bP (aK (Looks.here (s:={ s with toks:=s.toks+1 }) (looks_clsIn X hc) (fg<&>(bh (aK (bh (aK (wpAny_nsSet1 (s:={ s with toks:=s.toks+1 }) wA fun h' k5 mI=>?_)))))))))))))
 have hw:Within m (fs.map (·.1)):=fun y aG=>by
  cases hg:aD y fs with
  | none=>exact absurd (bN y hg) aG
  | some w =>
   exact ay (ol.mp hg) fun e he u=>c7.mpr (aI e (List.mem_of_find?_eq_some he) (by simpa using List.find?_some he))
 refine kR (k5.count (Within.cons n aa hw)) fun ZB Y4 Y3 HO Qz Qw=>?_;refine df (fun u q=>wpAny_lookBehind HO (ey (congrArg _ Qz) (pastItsLine_dict (aE Qw (by rw[dD,a9,sizeLine_eq];(exact aE (by assumption) ⋯))))) q) ?_;apply bh
 have key:∀aS:a4 [] U s.heap U h',fM K.hb h' U (.ns (ee n v fs)) D:=fun aS=>by
  refine b3 _ k5 (fun d4 c4 e=>?_) (fun d4 e=>?_)
  ·rw[xQ]at e;by_cases q:d4=n
   ·rw[aC q]at e ⊢;refine oi e<$>?_;exact aI aa rfl (cA.ext aS)
   ·rw[aV q]at e ⊢;exact ay (ko d4 c4 e) fun w j0 hS=>(aI w j0 (hS.ext aS))
  ·rw[xQ]at e;by_cases q:d4=n
   ·rw[aC q]at e;contradiction
   ·rw[aV q]at e ⊢;exact bN d4 e
 exact aN (r.set hi (fun b o hb e=>(mI.2 b hb).trans e) HO key) fun aO aS=>bf _ aO aS ⟨rfl,rfl⟩
theorem L5{o v:Expr}{n b:Str}{p:Pos}{x z:X}{c k:Nat}{j2:Frag}(B:ls K j2 b c)(hn:n∈mw)(F:e6 K.hb env)(kj:nC v=false)
  (kB:∀{S s U},a2 env R s.heap U->ao K.hb s.heap S U->av K am A (eval v env) (ev C z R S) s U)
  (eE:∀{S s U},a2 env R s.heap U->ao K.hb s.heap S U->av K am A (eval o env) (ev C x R S) s U) (E:a2 env R s.heap U) (r:ao K.hb s.heap S U) :
  gB K env A (exec (.Assign [.Attribute o n p] v pos) env) (ex C k (.asgAttr c x n z) R S) s U:=by
 change gB K env A _ ((ev C z R S).toS R fun v S=>(ev C x R S).toS R fun o S=>ui c o n v R S) s U;intro hc;refine plainObj_wpAny_Assign_Attribute (av.useS E (kB E r) hc fun cA ak bn aa s₁ V dw a1 aM aY aZ=>?_) (wY kj);rw[V]at hc ⊢;have js:=E.ext a1 .nil;refine cu (av.useS js (eE js aM) dw fun K7 aH α₂ B0 bi ah ff bv r2 v2 bH=>?_) (fun u u q=>q) (fun u u q=>kG.lift (iN F E a1) aZ q);show wpAny (model K.prog K.w) A (setAttr B0 n aa) _ _ bi;simp only[aj.toS,ah]at hc ⊢
 cases K7 with
 | inst b5 i =>
  unfold ui at ff ⊢;dsimp only at ff ⊢;by_cases vM:b5=c
  ·subst vM;rw[aC rfl]at ff ⊢
   cases hs:aH[i]? with
   | none=>rw[hs]at ff;exact absurd rfl ff
   | some qc =>
    rw[hs]at ff
    cases qc with
    | ns fs =>
     dsimp only at ff ⊢;by_cases hl:fs.length<100
     ·rw[aC hl];exact V4 B hn r2 v2 (aY.ext bv) hs hl fun s' aO aS bX=>⟨R,_,α₂,iN F E ((a1.trans bv).trans aS),aO,(js.ext bv .nil).ext aS .nil,(aZ.trans bH).trans bX,.next⟩
     ·rw[aV hl]at ff;exact absurd rfl ff
    | _=>exact absurd rfl ff
  ·rw[aV vM]at ff;exact absurd rfl ff
 | _=>exact absurd rfl ff
end
theorem KJ{b7:Nat}{is:List Nat}(aW:A.handled=none)(F:e6 K.hb env)(ax:env.scope.names=N)(J:l4 N ts=some is):qW K A en env (.Tuple ts b7 pp) (eG is):=
 ⟨.inr (ri _ _ _ rfl),De aW (fun E=>nt E F.cl) (fun{S U i x} hi _ {R p aa s Q X} E r v bf=>by
  exact ay (wU ax hi) fun k k4 iP=>uj F r E k4 iP v bf) J fun u u=>trivial⟩
set_option tactic.hygienic true in
theorem L9{fY:Expr}{b7:Nat}{is:List Nat}{x:X}(c:cF K A T C)(F:e6 K.hb env)(ax:env.scope.names=N)(J:l4 N ts=some is)(hv:JS fY=true)
  (aJ:av K am A (eval fY env) (ev C x R S) s U) (E:a2 env R s.heap U) :
  gB K env A (exec (.Assign [.Tuple ts b7 pp] fY pos) env) (ex C n (.asgT is x) R S) s U:=by
 have c8:ex C n (.asgT is x) R S=bif C.hd then .stuck else(ev C x R S).toS R fun v S=>match eG is v R with
  | some R=>.next R S
  | none=>.stuck:=rfl
 refine c8<&>?_
 cases dQ:C.hd with
 | true=>exact fun hc=>absurd rfl hc
 | false =>
 rw[cond_false];intro hc;refine Assign_Tuple (av.useS E aJ hc fun v ak bn aa s₁ V dw a1 aM aY aZ=>?_) (by cases fY <;> first | rfl | contradiction) (by cases fY <;> first | rfl | contradiction);refine V<&>?_
 cases hb:eG is v R with
 | none=>rw[hb]at dw;exact absurd rfl dw
 | some ρ' =>
  refine(KJ (en:=true) (c.hd dQ) F ax J).2 s₁ ak bn R ρ' v aa hb (E.ext a1 .nil) aM aY _ _ fun s' aO dI aS bX=>?_
  show iG K env (match eG is v R with | some R=>.next R ak | none=>.stuck) s U .next s'
  exact hb<&>(⟨ρ',ak,bn,(iN F E a1).trans aS,aO,dI,aZ.trans bX,.next⟩)
theorem L6{iter:Expr}{x z:Str}{iu:Pos}{t:Nat}{rj it:X}{k:NameKind}(c:cF K A T C)(O:cc K A C f)(F:e6 K.hb env)(h:o5 T N f elt x iter ifs scope a5 t rj cond it)
  (hn:env.scope.names[i]?=some (z,k)) (hk:k=.local\/k=.cell)
  (ax:env.scope.names=N) (E:a2 env R s.heap U) (r:ao K.hb s.heap S U) (Rc:swapsWith (.ListComp elt [⟨.Name x gL,iter,ifs,0⟩] scope pos) (some (.Name z iu)) oX.line env=pure true) :
  gB K env A (exec (.Assign [.Name z iu] (.ListComp elt [⟨.Name x gL,iter,ifs,0⟩] scope pos) oX) env) (ex C n (.asg i (.comp a5 t (hO N (cK N scope.names)) rj cond it)) R S) s U:=by
 have c8:ex C n (.asg i (.comp a5 t (hO N (cK N scope.names)) rj cond it)) R S=(ev C (.comp a5 t (hO N (cK N scope.names)) rj cond it) R S).toS R fun v S=>.next (R.set i (some v)) S:=rfl
 refine c8<&>?_;intro hc
 cases dQ:C.hd with
 | true=>rw[np,dQ]at hc;exact absurd rfl hc
 | false =>
 rw[Dv dQ]at hc ⊢;have co:=h.ok ax;refine aN (uq (en:=false) c dQ O h.it ax F.new E r) fun fh hpl=>exec_Assign_Name_used _ _ _ _ Rc<&>(aK (wpAny_standAt (aK ?_)));generalize pI:pj a5 (fun v S=>tst C cond ((dz (hO N (cK N scope.names)) R).set t (some v)) S) (fun v S=>ev C rj ((dz (hO N (cK N scope.names)) R).set t (some v)) S) (evIt C it R S)=fv at hc ⊢
 refine aK (cu (wpAny_comprehension_free
  rfl (wH hpl) (Dr (sS co E)) co.kind co.names
  (Dx
   co E fh (by rw[pI];exact((by intro q;rw[q]at hc;exact hc rfl):fv≠.stuck)) (h.bind ax) (.inl fun u u=>rfl) (C7 ax h.tgt) (fun u u e=>nomatch e) (fun kA v ρ' s' σ' α' d4 e dI aO=>?_) (fun kA v ρ' s' σ' α' d4 e dI aO=>?_) c.fr F.new ⟨_,r⟩ (fun e s' hx=>?_) ?_)) (fun u s' hq=>bh (bh hq)) fun u u e=>e)
 ·obtain rfl:=oi e;rw[u9 ax]at dI;exact Dz O h.cond (sT ax E) d4 dI aO
 ·obtain rfl:=oi e;rw[u9 ax]at dI;exact((O _ elt rj h.elt).2 _ _ σ' s' α' (sT ax E) d4 dI aO).1
 ·obtain⟨fU,σ',V,gJ,f5⟩:=hx;refine⟨fU,R,σ',s,U,gJ,?_,.refl,E,.refl s,f5⟩;rw[<- pI];show(pj _ _ _ _).toS R _=_;rw[V];rfl
 ·rw[pI]
  rintro acc kA bB s' ⟨rfl,v,σ',α',m,e,aS,aO,vr,jp,ns,ha,hC,hbC,P8⟩
  refine e▸?_;have dI:=E.ext aS .nil;refine wpAny_assign_Name (uj F aO dI hn hk vr fun bi hR Lj iy h5=>?_)
  have hCf:kA∉g4 env:=fun q=>by
   refine aF (nt E F.cl kA q) fun o fS=>?_;rw[hC]at fS;contradiction
  refine aI m (wB iy (aw.not_ix ha) hCf ns) (fun h' eS=>?_)
  obtain⟨Bg,B8⟩:=hR.but ha hbC (fun b o hb e=>(eS.2 b hb).trans e) (fun o e=>by
   refine kR (id (wB iy (aw.not_ix ha) hCf ns)) fun a8 Z c0 aP d u=>?_;rw[e]at aP;refine oi aP<$>?_
   exact io.notSolid (eQ _ _ d)) fun q=>absurd q P8
  exact⟨_,_,_,((iN F E aS).trans iy).sameBut hC (fun b hb=>eS.2 b hb),Bg,Lj.ext B8 (⟨fun q=>by simp at q;exact hCf (q▸be),fun y b5 c1 q=>by
   simp at q;subst q
   exact hCf (bx _ (c7.mpr (aI _ (mem_of_lookup c1) rfl)))⟩:nW env [kA]),(jp.trans h5).trans ⟨rfl,rfl⟩,.next⟩
theorem L2{q:Expr×List Comprehension×Scope×Pos}(h:CW e=some q):e=.ListComp q.1 q.2.1 q.2.2.1 q.2.2.2:=p9 (o:=Dw e) h
def iA(K:bc)(A:Around)(C:bG)(n:Nat)(env:Env)(t:Sem Flow)(b:O):Prop:=
 ∀R S s U,a2 env R s.heap U->ao K.hb s.heap S U->gB K env A t (ex C n b R S) s U
def uR(K:bc)(A:Around)(C:bG)(n:Nat)(env:Env)(g:Stmt->Option O):Prop:=
 ∀st b,g st=some b->iA K A C n env (exec st env) b
theorem sn{g:Stmt->Option O}(aJ:uR K A C n env g){wW:List Stmt}:∀{b:O},mY g wW=some b->iA K A C n env (execs wW env) b:=by
 induction wW with
 | nil =>
  intro b h R S s U E r;exact oi h<$>(fun u=>wpAny_execs_nil ⟨R,S,U,.refl,r,E,.refl s,.next⟩)
 | cons st wW af =>
  intro b h;change bN _ _ _=_ at h;refine gK h fun a cz ha hb R S s U E r hc=>?_;change qu (fun R S=>ex C n cz R S) (ex C n a R S)≠_ at hc;show wpAny _ A _ (iG K env (qu (fun R S=>ex C n cz R S) (ex C n a R S)) s U) (kG K A env (qu (fun R S=>ex C n cz R S) (ex C n a R S)) s U) s;have kB:=aJ st a ha _ _ _ _ E r;generalize ex C n a R S=c at hc kB ⊢;refine wpAny_execs_cons (cu (kB fun q=>hc (by refine q<&>?_;rfl)) (fun fl s₁ hp=>?_) fun e s₁ hx=>?_)
  ·obtain⟨cL,ak,bn,a1,aM,js,aZ,kW⟩:=hp
   cases kW with
   | next=>exact cu (af hb _ _ _ _ js aM hc) (fun u u q=>q.lift a1 aZ) fun u u q=>q.lift a1 aZ
   | brk=>exact⟨cL,ak,bn,a1,aM,js,aZ,.brk⟩
   | cont=>exact⟨cL,ak,bn,a1,aM,js,aZ,.cont⟩
   | ret v=>exact⟨cL,ak,bn,a1,aM,js,aZ,.ret v⟩
  ·obtain⟨i,ρ',σ',bi,α₂,gJ,rfl,q1,q2,q3,q4⟩:=hx;exact⟨i,ρ',σ',bi,α₂,gJ,rfl,q1,q2,q3,q4⟩
section
variable {g:Stmt->Option O}
theorem cc.val(ek:cc K A C f)(F:e6 K.hb env)(ax:env.scope.names=N){x:X}(h:f N e=some x){R S s U}(E:a2 env R s.heap U)(r:ao K.hb s.heap S U):av K am A (eval e env) (ev C x R S) s U:=
 ((ek N _ _ h).2 env R S s U ax F.new E r).1
theorem cc.tst(ek:cc K A C f)(F:e6 K.hb env)(ax:env.scope.names=N){x:X}(h:f N e=some x){R S s U}(E:a2 env R s.heap U)(r:ao K.hb s.heap S U):av K hW A (isTrue e env (eval e env)) (tst C x R S) s U:=
 ((ek N _ _ h).2 env R S s U ax F.new E r).2
theorem L7{z:Str}{iu:Pos}{v:Expr}{b:O}(c:cF K A T C)(ek:cc K A C f)(F:e6 K.hb env)(ax:env.scope.names=N)(h:w4 T N f (f N) (.Name z iu) v=some b):iA K A C n env (exec (.Assign [.Name z iu] v oX) env) b:=by
 change jP _ _ _=_ at h;refine l0 h (fun q Qi h=>?_) fun u h=>dc h fun kj h=>gK h fun i y hi aG=>?_
 ·rw[L2 Qi];refine gK h fun i y hi aG=>lH (KP aG) fun x gL iter ifs hg aG=>?_;rw[hg];refine ay (wU ax hi) fun k k4 iP=>KQ (P:=fun y=>iA K A C n env _ (.asg i y)) aG fun t e fv it ae R S s U E r=>?_
  cases hq:(env.blockKind == .function&&env.kindOf z == some .local&&iu.line == q.2.2.2.line&&!(q.2.2.1.names.any fun(n,k)=>n == z&&(k == .local||k == .cell)))with
  | true=>exact L6 c ek F ae k4 iP ax E r (congrArg pure hq)
  | false =>
   intro hc;refine wpAny_Assign_Name (av.useS E (Dt c ek ae ax F.new E r) hc fun v ak bn aa s₁ V dw a1 aM aY aZ=>(uj F aM (E.ext a1 .nil) k4 iP aY fun bi r2 nY bv bH=>?_)) (congrArg pure hq);show iG K env (aj.toS _ _ _) _ _ _ _;exact V<&>(⟨_,_,_,(iN F E a1).trans bv,r2,nY,aZ.trans bH,.next⟩)
 ·exact ay (wU ax hi) fun k k4 iP=>fun u u u u E r=>Ma F (by simpa using kj) k4 iP (ek.val F ax aG E r) E
theorem XF{t:Expr}{lX:List Stmt}{bE:X}{a8:O}(ek:cc K A C f)(F:e6 K.hb env)(ax:env.scope.names=N)(J:f N t=some bE)(L:iA K A C n env (execs b0 env) cz)(au:iA K A C n env (execs lX env) a8) :
  iA K A C n env (exec (.If t b0 lX pos) env) (.ife bE cz a8):=fun R S s U E r hc=>by
 have c8:ex C n (.ife bE cz a8) R S=(tst C bE R S).toS R fun t S=>if t then ex C n cz R S else ex C n a8 R S:=rfl
 rw[c8]at hc ⊢;refine wpAny_If (av.useS E (ek.tst F ax J E r) hc fun t ak bn y s₁ V dw a1 aM aY aZ=>?_);have:y=t:=aY;subst this;refine V<&>?_
 cases y with
 | true=>exact cu (L _ _ _ _ (E.ext a1 .nil) aM dw) (fun u u q=>q.lift (iN F E a1) aZ) fun u u q=>q.lift (iN F E a1) aZ
 | false=>exact cu (au _ _ _ _ (E.ext a1 .nil) aM dw) (fun u u q=>q.lift (iN F E a1) aZ) fun u u q=>q.lift (iN F E a1) aZ
theorem XD{x:Str}{it:Expr}{fU:Nat}{lQ:X}(c:cF K A T C)(ek:cc K A C f)(F:e6 K.hb env)(ax:env.scope.names=N)(J:mV N x=some fU)(L:nR T N (f N) it=some lQ)(au:iA K A C n env (execs b0 env) cz) :
  iA K A C n env (exec (.For (.Name x gL) it b0 [] pos) env) (.for1 fU lQ cz):=fun R S s U E r=>by
 refine ay (wU ax J) fun k k4 iP=>?_
 have c8:ex C n (.for1 fU lQ cz) R S=bif C.hd then .stuck else(evIt C lQ R S).toS R fun p S=>ch p.2 (dj fU) (fun R S=>ex C n cz R S) p.1 R S:=rfl
 refine c8<&>?_
 cases dQ:C.hd with
 | true=>exact fun hc=>absurd rfl hc
 | false =>
 obtain⟨q1,q2⟩:=uq c dQ ek L ax F.new E r;exact He F (Xe F k4 iP) q2 q1 (au _ _ _ _) E rfl
theorem XC{b7:Nat}{it:Expr}{is:List Nat}{lQ:X}(c:cF K A T C)(ek:cc K A C f)(F:e6 K.hb env)(ax:env.scope.names=N)(J:l4 N ts=some is)(L:w9 T N (f N) it=some lQ)(au:iA K A C n env (execs b0 env) cz) :
  iA K A C n env (exec (.For (.Tuple ts b7 pp) it b0 [] pos) env) (.forT is lQ cz):=fun R S s U E r=>by
 have c8:ex C n (.forT is lQ cz) R S=bif C.hd then .stuck else(evIt C lQ R S).toS R fun p S=>ch p.2 (eG is) (fun R S=>ex C n cz R S) p.1 R S:=rfl
 refine c8<&>?_
 cases dQ:C.hd with
 | true=>exact fun hc=>absurd rfl hc
 | false =>
 exact ay (XG c dQ ek L ax F.new E r) fun en q1 q2=>He F (KJ (c.hd dQ) F ax J) q2 q1 (au _ _ _ _) E rfl
end
theorem Xq{t v:Expr}{b:O}(c:cF K A T C)(ek:cc K A C f)(F:e6 K.hb env)(ax:env.scope.names=N):w4 T N f (f N) t v=some b->iA K A C n env (exec (.Assign [t] v oX) env) b:=by
 apply @PySem.Expr.casesOn (fun t=>w4 T N f (f N) t v=some b->iA K A C n env (exec (.Assign [t] v oX) env) b) t
 case Name=>exact fun z iu h=>L7 c ek F ax h
 case Subscript=>exact fun o i pp h=>dc h fun kj h=>lY h fun a8 fU c4 J L au u u u u E r=>L8 c.hA F (by simpa using kj) (ek.val F ax au) (ek.val F ax J) (ek.val F ax L) E r
 case Attribute=>exact fun o nm pp h=>cw h fun q hb h=>dc h fun hc h=>gK h fun a8 c4 J au=>ay (c.brd q.1 q.2 hb) fun j2 B u u u u u E r=>L5 B (List.contains_iff_mem.mp (dE hc).2) F (by simpa using(dE hc).1) (ek.val F ax au) (ek.val F ax J) E r
 case Tuple=>exact fun ts b7 pp h=>dc h fun hc h=>gK h fun is c4 J au u u u u E r=>L9 c F ax J hc (ek.val F ax au E r) E
 all_goals (intros;exact Jt ‹_›)
theorem XY{t:Expr}{bE:X}(ek:cc K A C f)(F:e6 K.hb env)(ax:env.scope.names=N)(J:f N t=some bE)(au:iA K A C n env (execs b0 env) cz):iA K A C n env (exec (.While t b0 [] pos) env) (.whl bE cz):=by
 intro R S s U E r;change gB K env A _ (bif C.hd then .stuck else iv (fun R S=>tst C bE R S) (fun R S=>ex C n cz R S) n R S) s U
 cases C.hd with
 | true=>exact fun hc=>absurd rfl hc
 | false=>exact Yu F (fun dI aO=>ek.tst F ax J dI aO) (au _ _ _ _) E r
theorem XS{g:Stmt->Option O}(c:cF K A T C)(ek:cc K A C f)(F:e6 K.hb env)(ax:env.scope.names=N)(aJ:uR K A C n env g)
  : uR K A C n env (BR T N f (f N) g):=by
 intro st b;apply @PySem.Stmt.casesOn (fun st=>BR T N f (f N) g st=some b->iA K A C n env (exec st env) b) st
 case Assign=>exact fun ts v oX h=>cw h fun t h0 h=>t1 h0<&>Xq c ek F ax h
 case Expr=>exact fun e pos h=>dc h fun kj h=>gI h fun y hq u u u u E r=>Ox F (by simpa using kj) (ek.val F ax hq E r) E
 case Return =>
  intro v pos h
  cases v with
  | some e=>exact gI h fun y hq u u u u E r=>VI F (ek.val F ax hq E r) E
  | none=>exact oi h▸fun R S s U E r u=>wpAny_Return_none ⟨R,S,U,.refl,r,E,.refl s,.ret .none⟩
 case If=>exact fun t b0 lX pos h=>lY h fun bE cz a8 J L au=>XF ek F ax J (sn aJ L) (sn aJ au)
 case For=>exact fun t it b0 o pos h=>dc h fun ho h=>(ie.mp ho).symm▸l0 h (fun q hq h=>lY h fun fU lQ cz J L au=>(pW hq).symm▸XD c ek F ax J L (sn aJ au)) fun u h=>cw h fun ts ba h=>lY h fun is lQ cz J L au=>(p9 ba).symm▸XC c ek F ax J L (sn aJ au)
 case While=>exact fun t b0 o pos h=>dc h fun ho h=>ie.mp ho<&>gK h fun bE cz J au=>XY ek F ax J (sn aJ au)
 case Break=>exact fun pos h=>oi h▸fun R S s U E r u=>wpAny_Break ⟨R,S,U,.refl,r,E,.refl s,.brk⟩
 case Raise=>exact fun V ah pos h=>oi h▸fun R S s U E r hc=>absurd rfl hc
 all_goals (intros;exact Jt ‹_›)
theorem XT(ax:env.scope.names=N)(c:cF K A T C)(ek:cc K A C f)(F:e6 K.hb env)(m:Nat):uR K A C n env (ut T N f m):=by
 induction m with
 | zero=>exact fun st b h=>nomatch h
 | succ m af=>exact XS c ek F ax af
structure hU(d:Nat)(A:Around):Prop where
 depth:A.depth+2*d+200<recursionLimit
 units:A.units+20*d+200<cLine
theorem hU.ok{d:Nat}(h:hU d A):eJ A:=⟨by have:=h.depth;(grind),by have:=h.units;(grind)⟩
theorem hU.deeper{d:Nat}(h:hU (d+1) A):hU d (A.deeper env):=by
 refine⟨?_,?_⟩
 ·have:=h.depth;show A.depth+1+2*d+200<recursionLimit
  (grind)
 ·have:=h.units;show A.units+3+20*d+200<cLine
  (grind)
theorem am.refr{p:H}{v:Value}(r:am h U p v):am h ⟨U.ix,U.hid,fr⟩ p v:=am.re (U:=U) (α':=⟨U.ix,U.hid,fr⟩) (fun u u e=>e) (fun u h=>h) r
def bc.wf(K:bc)(fr:List Addr):bc:={ K with hb:=⟨K.hb.h,fr,K.hb.prog,K.hb.w⟩ }
theorem iC.push{aq:Addr}(h:iC (K.wf fr) A)(a7:env.frame=some aq)(hk:env.scope.kind=.function):iC (K.wf (aq::fr)) (A.deeper env):=by
 refine bw h.ex fun l J L au=>⟨env::l,?_,?_,fun e he=>?_⟩
 ·show A.frames.map (env::·)=_;rw[J];rfl
 ·show(env::l).map (·.frame)=(aq::fr).map some;rw[dX,dX,a7,L];rfl
 ·refine bZ (bY.mp he) (fun q=>?_) (fun q=>?_)
  ·refine q<&>hk<&>?_;decide
  ·exact au e q
theorem fM.wf{Pq:List Addr}{m:aX}{a:Addr}(o:fM (K.wf fr).hb h U m a):fM (K.wf Pq).hb h U m a:=by
 cases m <;> exact o
theorem ao.pushFr{aq:Addr}(r:ao (K.wf fr).hb h S U)(eR:K.hb.get? aq=none)(e:h.get? aq=some o)(d:io o)(Qa:aq∉U.ix):ao (K.wf (aq::fr)).hb h S ⟨U.ix,U.hid,aq::fr⟩:=
 ⟨r.base,r.fresh,r.nodup,r.len,r.hidden,fun j m a V ah=>((r.obj j m a V ah).wf).re (U:=U) (fun u u e=>e) (fun u h=>h),r.hfr,rfl,fun a ha=>by
  rcases bY.mp ha with q | q
  ·refine q<&>?_;exact⟨eR,o,e,d⟩
  ·exact r.frs a q,fun a ha=>by
  rcases bY.mp ha with q | q
  ·exact q<&>Qa
  ·exact r.frNot a q⟩
theorem ao.popFr{aq:Addr}(r:ao (K.wf (aq::fr)).hb h S U):ao (K.wf fr).hb h S ⟨U.ix,U.hid,fr⟩:=
 ⟨r.base,r.fresh,r.nodup,r.len,r.hidden,fun j m a V ah=>((r.obj j m a V ah).wf).re (U:=U) (fun u u e=>e) (fun u h=>h),r.hfr,rfl,fun a ha=>r.frs a (bx _ ha),fun a ha=>r.frNot a (bx _ ha)⟩
theorem a4.ofCall{α₂:aw}{fi h₂:Heap}{aq:Addr}(hfr:U.fr=fr)(k:∀b o,h.get? b=some o->fi.get? b=some o)(hown:∀b∈own,h.get? b=none)(eR:h.get? aq=none)
  (y:a4 own ⟨U.ix,U.hid,aq::fr⟩ fi α₂ h₂):a4 [] U h ⟨α₂.ix,α₂.hid,fr⟩ h₂:=by
 have no:∀b o,h.get? b=some o->b∉own:=fun b o e q=>by rw[hown b q]at e;contradiction
 refine ay y.pre fun β q1 q2=>⟨y.hid,(aI β q1 (fun x hx=>⟨?_,(dM)⟩)),fun b o hb e hs=>y.seqs b o hb (k b o e) hs,fun b o hb u e=>?_,fun b o u e=>y.alive b o (no b o e) (k b o e),hfr.symm⟩
 ·cases e:h.get? x with
  | none=>rfl
  | some o=>have:=k x o e;rw[(q2 x hx).1]at this;contradiction
 ·rcases y.rest b o hb (no b o e) (k b o e)with q | ⟨f,d,eC,q⟩
  ·exact .inl q
  ·refine .inr ⟨?_,d,eC,q⟩
   rcases bY.mp f with z | z
   ·rw[z,eR]at e;contradiction
   ·exact hfr<&>z
theorem u6:∀{names:List (Str×NameKind)} {n:Nat} {acc:List (Str×Addr)} {x:Str},(x,NameKind.cell)∈names->∃c,(x,c)∈cellsFrom n names acc
 | (y,k)::r,n,acc,x,h=>by
  have keep:∀{r:List (Str×NameKind)} {n:Nat} {acc:List (Str×Addr)} {p:Str×Addr},p∈acc->p∈cellsFrom n r acc:=by
   intro r
   induction r with
   | nil=>intro n acc p hp;exact hp
   | cons q r af =>
    intro n acc p hp;obtain⟨y,k⟩:=q;unfold cellsFrom
    split
    ·exact af (bx _ hp)
    ·exact af hp
  unfold cellsFrom;refine bZ (bY.mp h) (fun e=>?_) (fun h=>?_)
  ·cases e;rw[aC (by rfl)];exact⟨n,keep be⟩
  ·split
   ·exact u6 h
   ·exact u6 h
theorem Na:∀{names:List (Str×NameKind)} {n:Nat} {acc:List (Str×Addr)},pd names->(acc.map (·.1)).Nodup->(∀p∈acc,∀k,(p.1,k)∉names)->((cellsFrom n names acc).map (·.1)).Nodup:=by
 intro r
 induction r with
 | nil =>
  intro _ _ _ h _;exact h
 | cons c8 r af =>
  obtain⟨y,k⟩:=c8;intro n acc er h hd
  have Hy:pd r:=fun i j x k bs J L=>by have:=er (i+1) (j+1) x k bs (by simpa using J) (by simpa using L);(exact Nat.succ.inj (by assumption))
  have aG:∀bs,(y,bs)∉r:=fun bs hm=>by
   refine aF (List.mem_iff_getElem?.mp hm) fun i hi=>?_;have:=er 0 (i+1) y k bs (by rfl) (by simpa using hi)
   (grind)
  unfold cellsFrom
  split
  ·refine af Hy ?_ fun p hp bs hm=>?_
   ·simp only[dX,hY];refine⟨fun q=>(ay (c7.mp q) fun p hp ae=>?_),h⟩;subst ae;exact hd p hp k be
   ·rcases bY.mp hp with e | hp
    ·subst e;exact aG bs hm
    ·exact hd p hp bs (bx _ hm)
  ·exact af Hy h fun p hp bs hm=>hd p hp bs (bx _ hm)
theorem S2:∀{l:List (Str×Addr)},(l.map (·.1)).Nodup->∀p∈l,l.lookup p.1=some p.2:=by
 intro r
 induction r with
 | nil =>
  intro _ p hp
  (exact nomatch hp)
 | cons c8 r af =>
  obtain⟨k,v⟩:=c8;intro h p hp;simp only[dX,hY]at h;rw[List.lookup_cons];refine bZ (bY.mp hp) (fun e=>?_) (fun hp=>?_)
  ·refine e▸?_;simp
  ·have:(p.1 == k)=false:=by
    cases hb:p.1 == k with
    | false=>rfl
    | true =>
     have:p.1=k:=by simpa using hb
     exact absurd (c7.mpr (aI p hp this)) h.1
   exact this<&>(af h.2 p hp)
theorem Dc{jI:Str->Option NameKind}:∀{bk:List Str} {vals:List Value} {m:Str->Option Value} {y:Str},y∉bk->bindL jI (bk.zip vals) m y=m y
 | [],vals,m,y,h=>rfl
 | p::bk,[],m,y,h=>by simp[bindL]
 | p::bk,v::vals,m,y,h=>by
  simp only[bY,not_or]at h;simp only[List.zip_cons_cons,bindL];rw[Dc h.2]
  split
  ·simp[h.1]
  ·rfl
theorem C9{jI:Str->Option NameKind}:∀{bk:List Str} {vals:List Value} {m:Str->Option Value} {y:Str},y∉bk->bindC jI (bk.zip vals) m y=m y
 | [],vals,m,y,h=>rfl
 | p::bk,[],m,y,h=>by simp[bindC]
 | p::bk,v::vals,m,y,h=>by
  simp only[bY,not_or]at h;simp only[List.zip_cons_cons,bindC];rw[C9 h.2]
  split
  ·rfl
  ·simp[h.1]
theorem Db{jI:Str->Option NameKind}:∀{bk:List Str} {vals:List Value} {m:Str->Option Value} {i:Nat} {y:Str} {v:Value},bk.Nodup->bk[i]?=some y->vals[i]?=some v->jI y=some .local->bindL jI (bk.zip vals) m y=some v
 | [],vals,m,i,y,v,_,h,_,_=>(nomatch h)
 | p::bk,[],m,i,y,v,_,_,h,_=>(nomatch h)
 | p::bk,w::vals,m,i,y,v,hn,J,L,hk=>by
  rw[hY]at hn;simp only[List.zip_cons_cons,bindL]
  cases i with
  | zero =>
   simp at J L;subst J L;refine Dc hn.1<&>aC hk<&>?_;simp
  | succ i=>exact Db hn.2 (by simpa using J) (by simpa using L) hk
theorem C8{jI:Str->Option NameKind}:∀{bk:List Str} {vals:List Value} {m:Str->Option Value} {i:Nat} {y:Str} {v:Value},bk.Nodup->bk[i]?=some y->vals[i]?=some v->jI y=some .cell->bindC jI (bk.zip vals) m y=some v
 | [],vals,m,i,y,v,_,h,_,_=>(nomatch h)
 | p::bk,[],m,i,y,v,_,_,h,_=>(nomatch h)
 | p::bk,w::vals,m,i,y,v,hn,J,L,hk=>by
  rw[hY]at hn;simp only[List.zip_cons_cons,bindC]
  cases i with
  | zero =>
   simp at J L;subst J L;refine C9 hn.1<&>?_;rw[aV (by refine hk<&>?_;decide)];simp
  | succ i=>exact C8 hn.2 (by simpa using J) (by simpa using L) hk
structure lv(K:bc)(T:bF)(fn:bK)(a:Addr)(o:Obj)(fd:FuncData)(body:List Stmt)(bk:List Str)(n1 n2:Nat):Prop where
 ho:K.hb.get? a=some o
 hd:o.data=.func fd
 code:K.hb.h.CodeRec fd.code fd.qualname
 hbody:fd.body=.stmts body
 glob:fd.globals=mainGlobals
 bins:fd.builtins=builtinsNs
 clo:fd.closure=[]
 kind:fd.scope.kind=.function
 co:fd.scope.isCoroutine=false
 gen:fd.scope.isGenerator=false
 sc:nN fd.scope.names=true
 tr:mY (ut T fd.scope.names (uo T n1) n2) body=some fn.body
 params:fn.params=bk.length
 slots:fn.slots=fd.scope.names.length
 pk:∀(i:Nat) (p:Str),bk[i]?=some p->∃k,fd.scope.names[i]?=some (p,k)/\(k=NameKind.local\/k=.cell)
 bind:∀vals:List Value,vals.length=bk.length->bindArgs fd ⟨vals,[]⟩=pure (bk.zip vals)
theorem lv.nodup{K T fn a o fd body bk n1 n2}(f:lv K T fn a o fd body bk n1 n2):bk.Nodup:=by
 rw[List.Nodup,List.pairwise_iff_getElem];intro i j hi aR rC e;refine ay (f.pk i bk[i] (by simp[hi])) fun k J u=>?_;refine ay (f.pk j bk[j] (by simp[aR])) fun bs L u=>?_;rw[e]at J;have:=(oU f.sc).uniq i j _ _ _ J L
 (grind)
theorem M0{a:Addr}(f:lv K T fn a o fd body bk n1 n2){vs:List H}
  (hl:vs.length=bk.length) (r:ao (K.wf fr).hb s.heap S U) (v:bp s.heap U vs us)
  (I:InCallC s (callEnvC fd s.heap.objs.size a).locals (bindL (callEnvC fd s.heap.objs.size a).kindOf (bk.zip us) fun u=>none) (callEnvC fd s.heap.objs.size a).cells (bindC (callEnvC fd s.heap.objs.size a).kindOf (bk.zip us) fun u=>none) s₁) :
  a2 (callEnvC fd s.heap.objs.size a) (vs.map some++List.replicate (fn.slots-fn.params) none) s₁.heap ⟨U.ix,U.hid,s.heap.objs.size::fr⟩/\e6 (K.wf (s.heap.objs.size::fr)).hb (callEnvC fd s.heap.objs.size a)/\ao (K.wf (s.heap.objs.size::fr)).hb s₁.heap S ⟨U.ix,U.hid,s.heap.objs.size::fr⟩/\cC s s₁/\(∀b o,s.heap.get? b=some o->s₁.heap.get? b=some o)/\∀b∈g4 (callEnvC fd s.heap.objs.size a),s.heap.get? b=none:=by
 have sc:=oU f.sc;have keep:=I.toInCall.keep;have fT:(callEnvC fd s.heap.objs.size a).scope=fd.scope:=rfl
 have fresh:∀b,s.heap.objs.size<=b->s.heap.get? b=none:=fun b hb=>by
  cases e:s.heap.get? b with
  | none=>rfl
  | some a8=>exact absurd (eo e) (e0.mpr hb)
 have notAll:∀b,s.heap.get? b=none->b∉U.all:=fun b hb q=>by refine aF (r.liveAll q) fun o e=>?_;rw[hb]at e;contradiction
 have base:∀b,s.heap.get? b=none->K.hb.get? b=none:=fun b hb=>by
  cases e:K.hb.get? b with
  | none=>rfl
  | some o=>rw[r.base b o e]at hb;contradiction
 have x6:∀n c,(n,c)∈(callEnvC fd s.heap.objs.size a).cells->s.heap.get? c=none:=fun n c h=>fresh c (b4 (I.above n c h));have jI:∀(i:Nat) (y:Str) (k:NameKind),fd.scope.names[i]?=some (y,k)->(callEnvC fd s.heap.objs.size a).kindOf y=some k:=fun i y k h=>tP sc.uniq h;have cl:∀p∈(callEnvC fd s.heap.objs.size a).cells,(callEnvC fd s.heap.objs.size a).cells.lookup p.1=some p.2:=S2 (Na (n:=s.heap.objs.size+1) sc.uniq (by trivial) (fun u q=>absurd q dM))
 have z2:∀(i:Nat) (w:H),(vs.map some++List.replicate (fn.slots-fn.params) (none:Option H))[i]?=some (some w)->vs[i]?=some w:=fun i w e=>by
  by_cases hi:i<vs.length
  ·rw[fZ (by simpa using hi)]at e;simpa using e
  ·rw[gh (by simpa using hi)]at e;rw[List.getElem?_replicate]at e
   split at e <;> cases e
 have arg:∀(i:Nat) (w:H),vs[i]?=some w->∃p k aa,bk[i]?=some p/\fd.scope.names[i]?=some (p,k)/\(k=.local\/k=.cell)/\us[i]?=some aa/\am s.heap U w aa:=fun i w e=>by
  have hi:i<vs.length:=(dv e).1;have hp:i<bk.length:=(Nat.lt_of_lt_of_eq (by assumption) (by assumption));refine ay (f.pk i bk[i] (by simp[hp])) fun k J L=>?_;have hu:i<us.length:=v.1▸hi;exact DT (bk[i]) k (us[i]) (by simp[hp]) J L (by simp[hu]) (v.2 i w us[i] e (by simp[hu]))
 refine⟨⟨⟨f.kind,f.glob,f.bins,jI,sc.nodbg⟩,notAll _ (fresh _ (bJ _)),(aI _ I.toInCall.ns (fun i y w V ah=>?_)),fun y c hc=>?_,fun y z c J L=>?_,fun i y V=>?_,fun i w e=>?_⟩,
  ⟨sc,⟨base _ (fresh _ (bJ _)),fun y c hc=>base _ (x6 y c (mem_of_lookup hc)),(fF _ _ rfl rfl)⟩,cl,?_⟩,?_,?_,keep,fun b hb=>?_⟩
 ·refine sY (arg i w (z2 i w ah)) fun p k aa q1 q2 q3 q4 q5=>?_;rw[fT]at V;rw[q2]at V;cases V;exact aI aa (Db f.nodup q1 q4 (jI i _ _ q2)) ((q5.ext ((.keeps keep):a4 [] U s.heap U s₁.heap)).refr)
 ·exact⟨notAll _ (x6 y c (mem_of_lookup hc)),du (I.above y c (mem_of_lookup hc)),_,I.cell y c hc⟩
 ·exact name_of_addr I.apart (mem_of_lookup J) (mem_of_lookup L)
 ·rw[fT]at V;refine aF (u6 (n:=s.heap.objs.size+1) (acc:=[]) (d0 V)) fun c hc=>(aI c (cl (y,c) hc) (fun w ah=>sY (arg i w (z2 i w ah)) fun p k aa q1 q2 q3 q4 q5=>?_));rw[q2]at V;cases V;refine aI aa ?_ ((q5.ext ((.keeps keep):a4 [] U s.heap U s₁.heap)).refr);have:=I.cell _ c (cl (y,c) hc);rw[C8 f.nodup q1 q4 (jI i _ _ q2)]at this;exact this
 ·exact sY (arg i w (z2 i w e)) fun p k aa q1 q2 q3 q4 q5=>(fF p k q2 q3)
 ·show(fd.scope.kind == .module&&_)=false;refine f.kind<&>?_;rfl
 ·exact kR I.toInCall.ns fun a8 Z c0 aP d u=>(r.keeps keep).pushFr (base _ (fresh _ (bJ _))) aP (eQ Z c0 d) (aw.not_ix (notAll _ (fresh _ (bJ _))))
 ·exact eM I.toInCall.same fun h' tk ae=>ae▸⟨rfl,rfl⟩
 ·rcases bY.mp hb with q | q
  ·exact q<&>(fresh _ (bJ _))
  ·exact ay (c7.mp q) fun p hp ae=>ae▸(x6 p.1 p.2 hp)
inductive xy(K:bc)(T:bF)(P:iH)(f:Nat)(aq:Addr->Prop):Prop
 | mk (fn:bK) (a:Addr) (o:Obj) (fd:FuncData) (body:List Stmt) (bk:List Str) (n1 n2:Nat) (a7:P.fns[f]?=some fn) (hl:aq a) (F:lv K T fn a o fd body bk n1 n2):xy K T P f aq
structure PrgOk(K:bc)(T:bF)(P:iH):Prop where
 hK:K.Ok
 cst:∀x v,T.cst.lookup x=some v->∃aa,K.mg x=some aa/\∀fr h S U,ao (K.wf fr).hb h S U->am h U v aa
 bin:∀x,x∈T.bins->K.mg x=none/\∃v,mx x=some v/\K.mb x=some v
 fns:∀(f:Nat) (x:Str),T.fns[f]?=some x->xy K T P f fun a=>K.mg x=some (.ref a)
 brd:∀b c,T.brd=some (b,c)->∃F:PySem.W.Frag,ls K F b c/\∀(j:Nat) (n:Str),T.meths[j]?=some n->xy K T P (T.fns.length+j) fun a=>PySem.W.findIn F (.ref c) n=some (some (.ref a))/\PySem.W.typeIn F (.ref a)=some (.type "function")
structure lw(K:bc)(A:Around)(m:Nat):Prop where
 hd:m=0->A.handled=none
theorem lw.ctx{d N:Nat}{P:iH}(h:lw K A m):(ii P N m d).hd=false->A.handled=none:=fun q=>h.hd (by simpa[bG.hd,ii]using q)
theorem MW{P:iH}{N d f:Nat}{vs:List H}(a7:P.fns[f]?=some fn):ih P N m (d+1) f vs S=if vs.length=fn.params then(match ex (ii P N m d) N fn.body (vs.map some++List.replicate (fn.slots-fn.params) none) S with
  | .next _ S=>.ok .none S
  | .ret v _ S=>.ok v S
  | _=>.stuck)else .stuck:=by
 show(match P.fns[f]? with
  | some fn=>if vs.length=fn.params then(match ex (ii P N m d) N fn.body (vs.map some++List.replicate (fn.slots-fn.params) none) S with
   | .next _ S=>aj.ok H.none S
   | .ret v _ S=>.ok v S
   | _=>.stuck)else .stuck
  | none=>.stuck)=_
 rw[a7]
theorem Do{P:iH}(p:PrgOk K T P){N d:Nat}{hd:Nat}(Q5:A.depth<recursionLimit)(hA:∀env,hU d (A.deeper env))(aW:lw K A hd)(bW:iC (K.wf fr) A)
  (ov:∀{K:bc} (p:PrgOk K T P) (m:Nat) (A:Around) (fr:List Addr),hU d A->lw K A m->iC (K.wf fr) A->cF (K.wf fr) A T (ii P N m d))
  {f:Nat} {fn:bK} {a:Addr} {o:Obj} {fd:FuncData} {body:List Stmt} {bk:List Str} {n1 n2:Nat} (a7:P.fns[f]?=some fn) (F:lv K T fn a o fd body bk n1 n2)
  {vs:List H} {us:List Value} {s:Shared} {S:ab} {U:aw} (r:ao (K.wf fr).hb s.heap S U) (v:bp s.heap U vs us) (hc:ih P N hd (d+1) f vs S≠.stuck)
  {qT:Result->Shared->Prop} (dg:∀v s',cy (K.wf fr) am (ih P N hd (d+1) f vs S) s U v s'->qT (.ok (.ret v)) s') (zK:∀e s',dS (K.wf fr) A (ih P N hd (d+1) f vs S) s U e s'->qT (.error e) s') :
  codeAny (model K.prog K.w) A (.call (.ref a) ⟨us,[]⟩) qT s:=by
 rw[MW a7]at hc dg zK;by_cases hl:vs.length=fn.params
 ·rw[aC hl]at hc dg zK;rw[F.params]at hl;refine codeAny_call_cells Q5 (r.base _ _ F.ho) F.hd (p.hK.nolimit.keeps r.base) (F.code.keeps r.base) F.hbody (F.bind us (by refine v.1▸?_;exact hl)) F.clo (fun q hq=>?_) (fun s₁ I=>?_) F.co F.gen F.kind
  ·refine aF (List.mem_iff_getElem?.mp hq) fun i hi=>aN (List.getElem?_zip_eq_some.mp hi) fun J L=>?_;refine ay (F.pk i q.1 J) fun k au aQ=>?_
   rcases aQ with rfl | rfl
   ·exact .inl (tP (oU F.sc).uniq au)
   ·refine .inr ⟨tP (oU F.sc).uniq au,(aF (u6 (n:=s.heap.objs.size+1) (acc:=[]) (d0 au)) fun c c1=>aF (IX c1) fun b5 Qu=>?_)⟩;refine Qu<&>?_;rfl
  ·refine DP (M0 F hl r v I) fun E Fr aM aZ kp own=>?_;have Dg:=sn (n:=N) (XT rfl (ov p hd _ (s.heap.objs.size::fr) ((hA _):hU d (A.deeper (callEnvC fd s.heap.objs.size a))) ⟨aW.hd⟩ ((bW.push rfl F.kind):iC (K.wf (s.heap.objs.size::fr)) (A.deeper (callEnvC fd s.heap.objs.size a)))) (XB (ov p hd _ (s.heap.objs.size::fr) ((hA _):hU d (A.deeper (callEnvC fd s.heap.objs.size a))) ⟨aW.hd⟩ ((bW.push rfl F.kind):iC (K.wf (s.heap.objs.size::fr)) (A.deeper (callEnvC fd s.heap.objs.size a)))) n1) Fr n2) F.tr _ _ _ _ E aM;generalize pI:ex (ii P N hd d) N fn.body (vs.map some++List.replicate (fn.slots-fn.params) none) S=fv at hc Dg dg zK;refine cu (Dg ((by rintro rfl;exact hc rfl):fv≠.stuck)) (fun fl bi hp=>?_) fun e bi hx=>?_
   ·obtain⟨fL,aH,α₂,bv,r2,nY,bH,kW⟩:=hp
    cases kW with
    | next=>exact dg _ _ ⟨.none,_,_,rfl,((a4.ofCall (r.fe:U.fr=fr) kp own ((own _ be):s.heap.get? s.heap.objs.size=none) bv):a4 [] U s.heap ⟨α₂.ix,α₂.hid,fr⟩ bi.heap),r2.popFr,.none,aZ.trans bH⟩
    | ret dU=>exact dg _ _ ⟨_,_,_,rfl,((a4.ofCall (r.fe:U.fr=fr) kp own ((own _ be):s.heap.get? s.heap.objs.size=none) bv):a4 [] U s.heap ⟨α₂.ix,α₂.hid,fr⟩ bi.heap),r2.popFr,dU.refr,aZ.trans bH⟩
    | brk=>exact absurd rfl hc
    | cont=>exact absurd rfl hc
   ·obtain⟨i,ρ',σ',s₀,m5,gJ,V,y,YQ,lb,f5⟩:=hx;subst V;exact absurd rfl hc
 ·rw[aV hl]at hc;exact absurd rfl hc
theorem M3{P:iH}(p:PrgOk K T P){N d:Nat}{hd:Nat}(hA:hU (d+1) A)(aW:lw K A hd)(bW:iC (K.wf fr) A)
  (ov:∀{K:bc} (p:PrgOk K T P) (m:Nat) (A:Around) (fr:List Addr),hU d A->lw K A m->iC (K.wf fr) A->cF (K.wf fr) A T (ii P N m d))
  {f:Nat} {fn:bK} {a:Addr} {o:Obj} {fd:FuncData} {body:List Stmt} {bk:List Str} {n1 n2:Nat} (a7:P.fns[f]?=some fn) (F:lv K T fn a o fd body bk n1 n2)
  {vs:List H} {us:List Value} {s:Shared} {S:ab} {U:aw} (r:ao (K.wf fr).hb s.heap S U) (v:bp s.heap U vs us) (hc:ih P N hd (d+1) f vs S≠.stuck) :
  wpAny (model K.prog K.w) A (call (.ref a) us) (cy (K.wf fr) am (ih P N hd (d+1) f vs S) s U) (dS (K.wf fr) A (ih P N hd (d+1) f vs S) s U) s:=
 wpAny_call (Do p (by have:=hA.depth;(grind)) (fun u=>hA.deeper) aW bW ov a7 F r v hc (fun u u h=>h) fun u u h=>h)
open PySem.W in
theorem Xd{c:Addr}{d:Nat}(h:hU (d+1) A):(A.under (.builtin "type.__call__" ⟨.ref c::us,[]⟩)).depth<recursionLimit/\∀env,hU d ((A.under (.builtin "type.__call__" ⟨.ref c::us,[]⟩)).deeper env):=by
 have w:(Code.builtin "type.__call__" ⟨.ref c::us,[]⟩).weight<=1:=Nat.le_of_ble_eq_true (by kernel_rfl);have aa:(Code.builtin "type.__call__" ⟨.ref c::us,[]⟩).cUnits<=4:=Nat.le_of_ble_eq_true rfl;have J:=h.depth;have L:=h.units;refine⟨?_,fun env=>⟨?_,?_⟩⟩
 ·show A.depth+(Code.builtin "type.__call__" ⟨.ref c::us,[]⟩).weight<recursionLimit;(grind)
 ·show A.depth+(Code.builtin "type.__call__" ⟨.ref c::us,[]⟩).weight+1+2*d+200<recursionLimit;(grind)
 ·show A.units+(Code.builtin "type.__call__" ⟨.ref c::us,[]⟩).cUnits+3+20*d+200<cLine;(grind)
theorem ls.wf{F:PySem.W.Frag}{b:Str}{c:Addr}(B:ls K F b c):ls (K.wf fr) F b c:=⟨B.mg,B.inn,B.keep,B.makes,B.plain,B.hasd,B.seta,B.free
  ,B.geta,B.getr,B.none
  ⟩
open PySem.W in
theorem Uk{P:iH}(p:PrgOk K T P){N d:Nat}{hd:Nat}(hA:hU (d+1) A)(aW:lw K A hd)(bW:iC (K.wf fr) A)
  (ov:∀{K:bc} (p:PrgOk K T P) (m:Nat) (A:Around) (fr:List Addr),hU d A->lw K A m->iC (K.wf fr) A->cF (K.wf fr) A T (ii P N m d))
  {f:Nat} {fn:bK} {a:Addr} {o:Obj} {fd:FuncData} {body:List Stmt} {bk:List Str} {n1 n2:Nat} (a7:P.fns[f]?=some fn) (F:lv K T fn a o fd body bk n1 n2)
  {j2:Frag} {b:Str} {c:Addr} (B:ls K j2 b c) (hi:findIn j2 (.ref c) "__init__" = some (some (.ref a))) (pR:typeIn j2 (.ref a)=some (.type "function"))
  {vs:List H} {us:List Value} {s:Shared} {S:ab} {U:aw} (r:ao (K.wf fr).hb s.heap S U) (v:bp s.heap U vs us) :
  av (K.wf fr) am A (call (.ref c) us) (qf (ii P N hd (d+1)) c f vs S) s U:=by
 intro hc;have X:j2.In s.heap:=fun x o e=>r.base x o (B.inn x o e);obtain⟨h,g,DG,t,os⟩:=s;refine wpAny_call (make_core (makes_of X B.makes) (looks_findIn X hi) (fun self=>bind_fn X self pR) (.inl rfl) ?_)
 have hn:∀b,h.objs.size<=b->h.get? b=none:=fun b hb=>by
  cases e:h.get? b with
  | none=>rfl
  | some o=>exact absurd (eo e) (e0.mpr hb)
 have hx:((h.push emptyDict).push (instObj c h.objs.size)).get? (h.objs.size+1)=some (instObj c h.objs.size):=by
  have:=ew (h.push emptyDict) (o:=instObj c h.objs.size) rfl
  rwa [Heap.size_push]at this
 have Uz:((h.push emptyDict).push (instObj c h.objs.size)).Ns1 h.objs.size fun u=>none:=
  Heap.Ns1.of_empty (lI _ (#[]) _ ((cI _ (ew _ rfl)):((h.push emptyDict).push (instObj c h.objs.size)).get? h.objs.size=some emptyDict) rfl (fun e he=>absurd he (by(intro q;exact nomatch q))) (fun u=>rfl))
 refine aN (r.add (m:=.ns []) ((fun b o e=>cI _ (cI _ e)):∀b o,h.get? b=some o->((h.push emptyDict).push (instObj c h.objs.size)).get? b=some o) (hn _ (bJ _)) (b3 _ Uz (fun n v e=>(nomatch e)) (fun u u=>rfl))) fun aO aS=>?_
 have Rj:h.objs.size+1∉(U.add h.objs.size).all:=fun q=>by
  refine aF (aO.liveAll q) fun o e=>?_
  rcases dt.mp q with q | q
  ·rcases dt.mp q with q | q
   ·refine aF (r.liveAll (hX _ q)) fun o e=>?_;rw[hn _ (Nat.le_succ _)]at e;contradiction
   ·exact absurd (di.mp q) (Nat.succ_ne_self _)
  ·refine aF (r.liveAll (fb _ q)) fun o e=>?_;rw[hn _ (Nat.le_succ _)]at e;contradiction
 have o1:am ((h.push emptyDict).push (instObj c h.objs.size)) (U.add h.objs.size) (.inst c S.length) (.ref (h.objs.size+1)):=.inst hx Rj (by rw[r.len];simp[aw.add]);refine aN (Xd (c:=c) (us:=us) hA) fun g1 g2=>?_;unfold qf at hc ⊢
 refine Do p g1 g2 ⟨aW.hd⟩ ⟨bW.ex⟩ ov a7 F aO (.cons o1 (v.ext aS)) ((fun q=>hc (by
  show(ih P N hd (d+1) f (.inst c S.length::vs) (S++[.ns []])).bind _=_
  rw[q];rfl)):ih P N hd (d+1) f (.inst c S.length::vs) (S++[.ns []])≠.stuck) (fun w s' hp=>?_) fun e s' hp=>?_
 ·obtain⟨iL,σ',α',e,bv,r2,v2,bH⟩:=hp;change(ih P N hd (d+1) f (.inst c S.length::vs) (S++[.ns []])).bind _≠_ at hc;rw[e]at hc
  cases iL with
  | none =>
   obtain rfl:=v2.noneE;refine⟨rfl,?_⟩;show cy (K.wf fr) am ((ih P N hd (d+1) f (.inst c S.length::vs) (S++[.ns []])).bind _) _ _ _ _;rw[e];exact⟨_,σ',α',rfl,aS.trans bv,r2,o1.ext bv,⟨bH.gens,bH.os⟩⟩
  | _=>exact absurd rfl hc
 ·obtain⟨i,σ',V,f5⟩:=((hp.lift (s₁:=⟨(h.push emptyDict).push (instObj c h.objs.size),g,DG,t,os⟩) aS ⟨rfl,rfl⟩):dS (K.wf fr) (A.under (.builtin "type.__call__" ⟨.ref c::us,[]⟩)) (ih P N hd (d+1) f (.inst c S.length::vs) (S++[.ns []])) ⟨h,g,DG,t,os⟩ U e s');show dS (K.wf fr) A ((ih P N hd (d+1) f (.inst c S.length::vs) (S++[.ns []])).bind _) _ _ _ _;exact V<&>⟨i,σ',rfl,f5⟩
theorem Je{P:iH}{N d:Nat}(p:PrgOk K T P)(hA:hU d A)(aW:lw K A m)(bW:iC (K.wf fr) A)
  (mH:∀{f fn a o fd body bk n1 n2},P.fns[f]?=some fn->lv K T fn a o fd body bk n1 n2->∀vs us s S U,ao (K.wf fr).hb s.heap S U->bp s.heap U vs us->av (K.wf fr) am A (call (.ref a) us) (ih P N m d f vs S) s U)
  (QY:∀{f fn a o fd body bk n1 n2},P.fns[f]?=some fn->lv K T fn a o fd body bk n1 n2->∀{j2 b c},ls K j2 b c->PySem.W.findIn j2 (.ref c) "__init__" = some (some (.ref a))->PySem.W.typeIn j2 (.ref a)=some (.type "function") ->
   ∀vs us s S U,ao (K.wf fr).hb s.heap S U->bp s.heap U vs us->av (K.wf fr) am A (call (.ref c) us) (qf (ii P N m d) c f vs S) s U)
  : cF (K.wf fr) A T (ii P N m d):=by
 refine⟨⟨p.hK.g,p.hK.b,p.hK.nolimit,p.hK.mods⟩,hA.ok,
  aW.ctx,bW,
  fun x v h=>?_,fun f x hx=>?_,p.bin
  ,fun b c hb=>?_
  ⟩
 ·exact ay (p.cst x v h) fun aa J L=>(aI aa J (fun h S U r=>L fr h S U r))
 ·obtain⟨fn,a,o,fd,body,bk,n1,n2,a7,hmg,F⟩:=p.fns f x hx;exact lI a o fd hmg F.ho F.hd (mH a7 F)
 ·refine ay (p.brd b c hb) fun j2 B aJ=>?_
  refine⟨j2,B.wf,fun j aR=>?_
   ,fun j n aR=>?_
   ⟩
  ·obtain⟨fn,a,o,fd,body,bk,n1,n2,a7,⟨q1,q2⟩,F⟩:=aJ j _ aR;exact QY a7 F B q1 q2
  ·obtain⟨fn,a,o,fd,body,bk,n1,n2,a7,⟨q1,q2⟩,F⟩:=aJ j n aR;exact DT a o fd q1 q2 F.ho F.hd (mH a7 F)
theorem ov{P:iH}{N:Nat}(d:Nat):∀{K:bc} (p:PrgOk K T P) (m:Nat) (A:Around) (fr:List Addr),hU d A->lw K A m->iC (K.wf fr) A->cF (K.wf fr) A T (ii P N m d):=by
 induction d with
 | zero =>
  exact fun p m A fr hA aW bW=>Je p hA aW bW (fun u u u u u u u u u hc=>absurd rfl hc)
   (fun u u u u u u u u u u u u u u u hc=>absurd rfl hc)
 | succ d af =>
  exact fun p m A fr hA aW bW=>Je p hA aW bW (fun a7 F vs us s S U r v hc=>M3 p hA aW bW af a7 F r v hc)
   (fun a7 F u u u B q1 q2 vs us s S U r v=>Uk p hA aW bW af a7 F B q1 q2 r v)
section
open PySem.W
theorem AB:∀{bk:List Str} {vals:List Value} {i:Nat} {p:Str} {v:Value},bk.Nodup->bk[i]?=some p->vals[i]?=some v->(bk.zip vals).lookup p=some v
 | [],_,_,_,_,_,h,_=>(nomatch h)
 | _::_,[],_,_,_,_,_,h=>(nomatch h)
 | q::bk,w::vals,i,p,v,hn,J,L=>by
  rw[hY]at hn;refine List.zip_cons_cons<&>?_;rw[List.lookup_cons]
  cases i with
  | zero=>simp at J L;subst J L;simp
  | succ i =>
   have:(p == q)=false:=by
    cases hb:p == q with
    | false=>rfl
    | true =>
     have:p=q:=by simpa using hb
     subst this;exact absurd (d0 ((by simpa using J):bk[i]?=some p)) hn.1
   exact this<&>(AB hn.2 ((by simpa using J):bk[i]?=some p) (by simpa using L))
theorem Pa{vals:List Value}(hn:bk.Nodup)(hl:vals.length=bk.length):(bk.filterMap fun n=>((bk.zip vals).lookup n).map (n,·))=bk.zip vals:=by
 have key:∀(ql:List Str) (ws:List Value),ql.length=ws.length->(∀(i:Nat) q w,ql[i]?=some q->ws[i]?=some w->(bk.zip vals).lookup q=some w)->(ql.filterMap fun n=>((bk.zip vals).lookup n).map (n,·))=ql.zip ws:=by
  intro ql
  induction ql with
  | nil=>intro ws _ _;(rfl)
  | cons q ql af =>
   intro ws hl h
   cases ws with
   | nil=>contradiction
   | cons w ws =>
    simp only[List.filterMap_cons,(h 0 q w (by rfl) (by rfl)),Option.map_some,List.zip_cons_cons];exact congrArg _ (af ws (by simpa using hl) fun i q w J L=>h (i+1) q w (by simpa using J) (by simpa using L) ..)
 exact key bk vals hl.symm fun i q w J L=>AB hn J L
theorem MA(hp:fd.params.posonlyargs=[])(ha:fd.params.args.map (·.arg)=bk)(hk:fd.params.kwonlyargs=[])(hv:fd.params.vararg=none)(hw:fd.params.kwarg=none)(vN:fd.defaults=.none)
  (hn:bk.Nodup) {vals:List Value} (hl:vals.length=bk.length):bindArgs fd ⟨vals,[]⟩=pure (bk.zip vals):=by
 obtain⟨nm,q,⟨ZD,pf,aA,Zp,jI,kw,YZ⟩,body,sc,g,cl,Y0,Zq,doc,pm,an,code,ND,YS⟩:=fd;dsimp only at hp ha hk hv hw vN;subst hp hk hv hw vN;refine(aV ?_).trans ((aV ?_).trans ?_)
 ·show ¬(decide (vals.length > (pf.map (·.arg)).length)&&true)=true;exact ha<$>hl<$>ed (i6 _)<$>nofun
 ·show ¬(!(((pf.map (·.arg)).take ((pf.map (·.arg)).length-(List.drop (0-(pf.map (·.arg)).length) ([]:List Value)).length)).filter fun n=>(((pf.map (·.arg)).zip vals).lookup n).isNone).isEmpty)=true;rw[ha,List.drop_nil,kO,Nat.sub_zero,List.take_length,List.filter_eq_nil_iff.mpr]
  ·exact nofun
  intro a ki;obtain⟨i,hi,rfl⟩:=List.mem_iff_getElem.mp ki;refine AB hn (v:=vals[i]) (cM hi) (cM _)<&>?_;exact nofun
 ·have a3:∀(l:List Str),l.zip ([]:List Value)=[]:=fun l=>List.zip_nil_right;refine(show(none.getD #[]:Array Value).toList=[]from rfl ..).symm▸List.drop_nil.symm▸(a3 ..).symm▸?_;show(pure:_->Sem _) ((List.map (fun x:Arg=>x.arg) pf++[]).filterMap fun n=>(((List.map (fun x:Arg=>x.arg) pf).zip vals).lookup n).map (n,·))=_;exact ha<&>fD<&>Pa hn hl<&>rfl
theorem J2{v:Value}{a:Addr}(h:Bj v=some a):v=.ref a:=by
 cases v with
 | ref b=>exact congrArg _ (oi h ..)
 | _=>contradiction
theorem Rx{v:Value}{i:Int}(h:It v=some i):∃t,v=.int i t:=by
 cases v with
 | int j t=>exact⟨t,oi h<&>rfl⟩
 | _=>contradiction
theorem WO{v:Value}{s:Str}(h:Kt v=some s):∃t,v=.str s t:=by
 cases v with
 | str j t=>exact⟨t,oi h<&>rfl⟩
 | _=>contradiction
theorem Pz{d:Data}(h:Hg d=some fd):d=.func fd:=by
 cases d with
 | func f=>exact congrArg _ (oi h ..)
 | _=>contradiction
theorem V3{d:Data}{q:Array Value×Nat}(h:Kd d=some q):d=.seq q.1 q.2:=by
 cases d with
 | seq f n=>exact oi h<$>rfl
 | _=>contradiction
theorem WG{d:FuncBody}{b:List Stmt}(h:Ks d=some b):d=.stmts b:=by
 cases d with
 | stmts f=>exact congrArg _ (oi h ..)
 | _=>contradiction
theorem YB{U β:Type}{Y:List U}{ys:List β}{x:U}(hl:Y.length<=ys.length)(h:Y[i]?=some x):∃y,ys[i]?=some y/\(x,y)∈Y.zip ys:=by
 have aR:i<ys.length:=de ((dv h).1) hl;exact aI (ys[i]) (cM aR) (d0 (List.getElem?_zip_eq_some.mpr ⟨h,cM aR⟩))
theorem Wl{k:NameKind}(h:Bv k=true):k=.local\/k=.cell:=by
 cases k with
 | «local»=>exact .inl rfl
 | cell=>exact .inr rfl
 | _=>contradiction
theorem A7{names:List (Str×NameKind)}(h:JL bk names=true)(i:Nat)(p:Str)(L:bk[i]?=some p):∃k,names[i]?=some (p,k)/\(k=NameKind.local\/k=.cell):=by
 exact aN (dE h) fun h0 J=>ay (YB (f0 h0) L) fun y au aQ=>aN (dE (hN.mp J _ aQ)) fun dk g6=>(eq_of_beq dk:p=y.1)▸(aI y.2 au (Wl g6))
inductive Cm(K:bc)(T:bF)(n1 n2:Nat)(q:Option (Option Value))(fn:bK):Prop
 | mk (a:Addr) (o:Obj) (fd:FuncData) (body:List Stmt) (bk:List Str) (h:q=some (some (.ref a))) (F:lv K T fn a o fd body bk n1 n2):Cm K T n1 n2 q fn
theorem O4{iD:Frag}{a:Addr}{b:O}(X:iD.In K.hb.h)(L:iD.lookup a=some o)(au:o.data=.func fd)(hb:fd.body=.stmts body)(dg:zd iD fd=true)
  (ba:mY (ut T fd.scope.names (uo T n1) n2) body=some b):lv K T ⟨fd.params.args.length,fd.scope.names.length,b⟩ a o fd body (fd.params.args.map (·.arg)) n1 n2:=by
 unfold zd at dg;refine aN (dE dg) fun dg q14=>aN (dE dg) fun dg q13=>aN (dE dg) fun dg q12=>aN (dE dg) fun dg q11=>aN (dE dg) fun dg q10=>aN (dE dg) fun dg q9=>aN (dE dg) fun dg q8=>aN (dE dg) fun dg q7=>aN (dE dg) fun dg q6=>aN (dE dg) fun dg q5=>aN (dE dg) fun dg q4=>aN (dE dg) fun dg q3=>aN (dE dg) fun q1 q2=>?_
 have vN:fd.defaults=.none:=by
  cases hd:fd.defaults with
  | none=>rfl
  | _=>rw[hd]at q13;contradiction
 refine⟨X _ _ L,au,codeRec_of X q1,hb,eq_of_beq q2,eq_of_beq q3,ie.mp q4,eq_of_beq q5,by simpa using q6,by simpa using q7,q8,ba,(a9 _).symm,rfl,A7 q14,fun vals hl=>?_⟩;refine MA (ie.mp q9) rfl (ie.mp q10) (oj.mp q11) (oj.mp q12) vN ?_ hl;rw[List.Nodup,List.pairwise_iff_getElem];intro i j hi aR rC e;refine ay (A7 q14 i (fd.params.args.map (·.arg))[i] (cM hi)) fun k J u=>?_;refine ay (A7 q14 j (fd.params.args.map (·.arg))[j] (cM aR)) fun bs L u=>?_;rw[e]at J;exact absurd ((oU q8).uniq i j _ _ _ J L) (eZ rC)
theorem Jc{iD:Frag}{q:Option (Option Value)}(X:iD.In K.hb.h)(h:rW T n1 n2 iD q=some fn):Cm K T n1 n2 q fn:=by
 unfold rW at h;exact cw h fun q1 h0 h=>cw h fun v J h=>cw h fun a L h=>cw h fun o au h=>cw h fun fd aQ h=>cw h fun body dk h=>dc h fun dg h=>gI h fun b ba=>⟨a,o,fd,body,_,(h0<&>J<&>J2 L<&>rfl),O4 X au (Pz aQ) (WG dk) dg ba⟩
theorem Jd{K:Frag}{Y:List (Option (Option Value))}:∀{fs:List bK},lc T n1 n2 K Y=some fs->∀(i:Nat) (x:Option (Option Value)),Y[i]?=some x->∃fn,fs[i]?=some fn/\rW T n1 n2 K x=some fn:=by
 induction Y with
 | nil=>intro fs _ i x h;exact nomatch h
 | cons y r af =>
  intro fs h i x L;change bN _ _ _=_ at h;refine gK (M:=fun fs=>∃fn,fs[i]?=some fn/\rW T n1 n2 K x=some fn) h fun f Y5 au aQ=>?_
  cases i with
  | zero=>exact aI f rfl (oi L▸au)
  | succ i=>exact af aQ i x L
theorem JC{v:Value}{x:H}(e:A0 (v,x)=true):am h U x v:=by
 cases x with
 | str s =>
  refine aN (dE e) fun J L=>aF (WO (eq_of_beq J)) fun t ae=>?_;subst ae;exact .str _ _ L
 | _=>contradiction
theorem X8{a:Addr}(e:KZ o Y=true)(ho:hb.get? a=some o)(r:ao hb h S U):am h U (.tup Y) (.ref a):=by
 refine aN (dE e) fun e eP=>aN (dE e) fun e bq=>aN (dE e) fun V ah=>ay ((Option.any_eq_true _ _).mp eP) fun q kg nn=>aN (dE nn) fun yd sX=>?_;obtain⟨c,d,DH,eC⟩:=o;obtain rfl:=eq_of_beq V;obtain rfl:=oj.mp ah;obtain rfl:=Array.isEmpty_iff.mp bq;obtain rfl:=V3 kg;refine am.tupI (items:=q.1.toList) (r.base _ _ ho) (fun q=>?_) ⟨(eq_of_beq yd).symm,fun i x v J L=>?_⟩
 ·rcases dt.mp q with q | q
  ·rw[r.fresh a q]at ho;contradiction
  ·rw[r.hfr a q]at ho;contradiction
 ·exact JC (hN.mp sX _ (d0 (List.getElem?_zip_eq_some.mpr ⟨L,J⟩)))
theorem MU{K:Frag}(X:K.In hb.h){v:H}(e:Dm K v aa=true)(r:ao ⟨hb.h,fr,hb.prog,hb.w⟩ h S U):am h U v aa:=by
 cases v with
 | int i=>refine aF (Rx (eq_of_beq e)) fun t ae=>?_;refine ae▸?_;exact .int _ _
 | str s=>exact JC e
 | tup Y =>
  exact ay ((Option.any_eq_true _ _).mp e) fun o J L=>cw J fun a au aQ=>J2 au<&>(X8 (hb:=⟨_,fr,_,_⟩) L (X _ _ aQ) r)
 | _=>contradiction
theorem NC{K:Frag}(X:K.In hb.h){l:List (Str×H)}(h:sU K l=true)(x:Str)(v:H)(hx:l.lookup x=some v):∃aa,nsIn K mainGlobals x=some (some aa)/\∀fr h S U,ao ⟨hb.h,fr,hb.prog,hb.w⟩ h S U->am h U v aa:=by
 exact ay ((Option.any_eq_true _ _).mp (hN.mp h _ (rQ hx))) fun aa J L=>cw J fun q au aQ=>(aI aa (au.trans (congrArg some aQ)) (fun u u u u r=>MU X L r))
theorem MG{x:Str}{v:Value}(h:mx x=some v):bootBuiltins x=some v:=
 (show ∀p∈C5,bootBuiltins p.1=some p.2 from(by repeat (first | refine List.forall_mem_cons.mpr ⟨(by dsimp only;boot_by_name),?_⟩ | exact fun u h=>nomatch h))) _ (rQ h)
theorem Yj{F:Frag}{f:Nat}{x:Str}(h:T.fns[f]?=some x):(nr T F)[f]?=some (nsIn F mainGlobals x):=by
 unfold nr;rw[fZ (by rw[a9];exact(dv h).1),fc,h];rfl
theorem Yk{F:Frag}{n:Str}(h:T.meths[j]?=some n):(nr T F)[T.fns.length+j]?=some (T.brd.bind fun q=>findIn F (.ref q.2) n):=by
 unfold nr;rw[gh (by rw[a9];exact el _ _),a9,ka,fc,h];rfl
theorem MH{F:Frag}{b:Str}{c:Nat}(X:F.In K.hb.h)(hg:K.hb.h.Ns mainGlobals K.mg)(e:x2 F T=true)(hb:T.brd=some (b,c)):ls K F b c/\∀n∈T.meths,(findIn F (.ref c) n).join.bind (typeIn F)=some (.type "function"):=by
 unfold x2 at e;rw[hb]at e;simp only[kM,beq_iff_eq]at e;obtain⟨⟨⟨⟨⟨⟨⟨⟨⟨⟨V,ah⟩,bq⟩,eP⟩,kg⟩,nn⟩,yd⟩,g1⟩,g2⟩,g3⟩,sX⟩:=e;exact⟨⟨mg_of X hg V,X,ah,bq,eP,kg,nn,fun n hn=>eq_of_beq (hN.mp yd n hn),g1,g2,fun n hn=>eq_of_beq (hN.mp g3 n hn)⟩,fun n hn=>eq_of_beq (hN.mp sX n hn)⟩
theorem prgOk{iD:Frag}{P:iH}{p:Program}{loose:List Str}(ob:TopRead p loose K.mg K.mb K.hb.h)(X:iD.In K.hb.h)(k₀:∀b o,h₀.get? b=some o->K.hb.h.get? b=some o)(a3:w2 h₀ iD T=true)(J:sU iD T.cst=true)(L:sR iD T.bins=true)(au:lc T n1 n2 iD (nr T iD)=some P.fns):PrgOk K T P:=by
 unfold sR at L;refine aN (dE L) fun P4 L=>aF (Option.isSome_iff_exists.mp P4) fun wC Q1=>?_
 refine⟨(⟨ob.g,ob.b,ob.nolimit,wC,X _ _ Q1⟩:K.Ok),fun x v hx=>?_,fun x hx=>?_,
  fun f x hx=>?_
  ,fun b c hb=>?_
  ⟩
 ·exact ay (NC X J x v hx) fun aa q1 q2=>(aI aa (mg_of X ob.g q1) q2)
 ·have:=hN.mp L x hx;simp only[kM,Bool.not_eq_true',mq]at this;obtain⟨⟨q1,q2⟩,q3⟩:=this;exact aF (Option.isSome_iff_exists.mp q2) fun v hv=>⟨(ay ((Option.any_eq_true _ _).mp q1) fun q au aQ=>mg_none_of X ob.g (au.trans (congrArg some (oj.mp aQ)))),v,hv,(ob.builtins x q3).trans (MG hv)⟩
 ·refine ay (Jd au f _ (Yj hx)) fun fn q1 q2=>?_;obtain⟨a,o,fd,body,bk,hq,F⟩:=Jc X q2;exact⟨fn,a,o,fd,body,bk,n1,n2,q1,mg_of X ob.g hq,F⟩
 ·refine aN (MH X ob.g (dE a3).2 hb) fun B pR=>(aI iD B (fun j n aR=>ay (Jd au _ _ (Yk aR)) fun fn q1 q2=>?_));obtain⟨a,o,fd,body,bk,hq,F⟩:=Jc X q2;have:=pR n (d0 aR);rw[((by rw[hb]at hq;exact hq):findIn iD (.ref c) n=some (some (.ref a)))]at this;exact⟨fn,a,o,fd,body,bk,n1,n2,q1,⟨((by rw[hb]at hq;exact hq):findIn iD (.ref c) n=some (some (.ref a))),this⟩,F⟩
theorem Ys{P:Params}:∀{l:List Int} {vs:List Value},WellAll P h vs (ofPys (l.map .int))->bp h ⟨[],[],[]⟩ (l.map .int) vs:=by
 intro l
 induction l with
 | nil =>
  intro vs W;cases(show WellAll P h vs []from W);exact .nil
 | cons i l af =>
  intro vs W
  cases(show WellAll P h vs (ofPy (.int i)::ofPys (l.map .int))from W)with
  | cons a b =>
   cases a;exact .cons (.int i _) (af b)
theorem VZ{P:Params}{a:Addr}(W:Well P h (.ref a) (ofPy (.list (l.map .int)))):am h ⟨[],[],[]⟩ (.fl (l.map .int)) (.ref a):=by
 simp only[ofPy]at W
 cases W with
 | list e w=>exact am.flI e (by simp[aw.all]) (Ys w)
theorem M5{d:Nat}(h:d<=100):hU d callerA:=by
 have J:callerA.depth+2*100+200<recursionLimit:=⋯
 have L:callerA.units+20*100+200<cLine:=⋯
 exact⟨by omega,by omega⟩
theorem Qy{prog:Program}{w:World}{mg mb:Str->Option Value}:lw ⟨⟨h,fr,prog,w⟩,mg,mb,false⟩ callerA 0:=
 ⟨fun u=>rfl⟩
theorem law_end{prog:Program}{w:World}{mg mb:Str->Option Value}{P:iH}{f N d:Nat}{name:Str}{fa a:Addr}(p:PrgOk ⟨⟨s₁.heap,[],prog,w⟩,mg,mb,false⟩ T P)(hx:T.fns[f]?=some name)
  (hmg:mg name=some (.ref fa)) (hd:d<=100) (W:Well w.params s₁.heap (.ref a) (ofPy (.list (l.map .int)))) (hrun:bU P N d f [.fl (l.map .int)] []=.ok (.bool true) S)
  {Q:Value->Shared->Prop} {E:Value->Shared->Prop} (bf:∀s',(∀b o,s₁.heap.get? b=some o->s'.heap.get? b=some o)->s'.os=s₁.os->s'.gens=s₁.gens->Q (.bool true) s') :
  wpAny (model prog w) callerA (call (.ref fa) [.ref a]) Q E s₁:=by
 refine kS ((ov (N:=N) d p 0 callerA [] (M5 hd) Qy ⟨[],rfl,rfl,fun e he=>(nomatch he)⟩).fn f name hx) fun cX o fd J L au aJ=>?_
 have e:cX=fa:=by
  have vD:mg name=some (.ref cX):=J;rw[hmg]at vD;cases vD;rfl
 subst e;have qt:ao ⟨s₁.heap,[],prog,w⟩ s₁.heap [] ⟨[],[],[]⟩:=⟨fun u u e=>e,fun u h=>(nomatch h),List.nodup_nil,rfl,fun u h=>(nomatch h),fun i m a e=>(nomatch e),fun u h=>(nomatch h),rfl,fun u h=>(nomatch h),fun u h=>(nomatch h)⟩;have aJ:=aJ [.fl (l.map .int)] [.ref a] s₁ [] ⟨[],[],[]⟩ qt #v[(VZ W)];have Q7:(ii P N 0 d).call f [.fl (l.map .int)] []=.ok (.bool true) S:=hrun;rw[Q7]at aJ;refine cu (aJ (by(intro q;exact nomatch q))) (fun v s' hp=>?_) fun e s' hx=>?_
 ·obtain⟨b,σ',α',e,x,r,vr,m⟩:=hp;cases e;exact vr.boolE▸(bf s' (fun b o e=>r.base b o e) m.os m.gens)
 ·obtain⟨i,σ',e,f5⟩:=hx;contradiction
theorem S3{f:Nat->Option Obj}{a:Addr}:∀{l:List Nat},(l.filterMap fun a=>(f a).map fun o=>(a,o)).lookup a=some o->f a=some o:=by
 intro l
 induction l with
 | nil =>
  intro h
  (exact nomatch h)
 | cons b l af =>
  intro h;rw[List.filterMap_cons]at h
  cases hb:f b with
  | none=>rw[hb]at h;exact af h
  | some p =>
   rw[hb]at h;simp only[Option.map_some,List.lookup_cons]at h
   cases hq:(a == b)with
   | true =>
    rw[hq]at h
    have:a=b:=by simpa using hq
    exact this▸(hb<&>h)
   | false=>rw[hq]at h;exact af h
theorem Pr(h:Heap):(jG h).In h:=fun a o e=>S3 e
structure Says(T:bF)(n1 n2:Nat)(fns:List bK)(h:Heap):Prop where
 ex:∃(K:Frag) (h₀:Heap),K.In h/\(∀b o,h₀.get? b=some o->h.get? b=some o)/\w2 h₀ K T=true/\sU K T.cst=true/\sR K T.bins=true/\lc T n1 n2 K (nr T K)=some fns
def topHook(T:bF)(n1 n2:Nat)(fns:List bK):Hook where
 α:=Bool×Bool×Bool×Option (List bK)
 obs:=fun s=>(w2 s.heap (jG s.heap) T,sU (jG s.heap) T.cst,sR (jG s.heap) T.bins,lc T n1 n2 (jG s.heap) (nr T (jG s.heap)))
 val:=fun u=>(true,true,true,some fns)
 says:=fun u h=>Says T n1 n2 fns h
 of:=fun u s e=>⟨⟨jG s.heap,s.heap,Pr _,fun u u e=>e,congrArg (·.1) e,congrArg (·.2.1) e,congrArg (·.2.2.1) e,congrArg (·.2.2.2) e⟩⟩
 keeps:=fun u h h' q k=>by
  refine gH q.ex fun K h₀ a cX b=>?_;exact⟨⟨K,h₀,fun x o e=>k x o (a x o e),fun x o e=>k x o (cX x o e),b⟩⟩
end
section
open PySem.W PySem.Calls
theorem WD:stepT=PySem.W.Fast.tw10156331382660048174:=PySem.W.Fast.te10156331382660048174
theorem NI:denote=PySem.W.Fast.tw11892475500146522536:=PySem.W.Fast.te11892475500146522536
theorem Xc:treeTable=PySem.W.Fast.tw14364793385576792824:=PySem.W.Fast.te14364793385576792824
theorem WC:stepOk=PySem.W.Fast.tw6613529449190102663:=PySem.W.Fast.te6613529449190102663
theorem Xn{p:Program}{w:World}{rZ:Nat}{q0:Option Value}:∀{n:Nat} {s s':SharedT} {t:Thread},w3 p w rZ q0 n s t=some s'->topRun treeTable p w rZ q0 n s.abs t=some s'.abs:=by
 intro n
 induction n with
 | zero=>intro s s' t h;exact nomatch h
 | succ n af =>
  intro s s' t h;unfold w3 at h;unfold topRun;rw[<- WC,<- WD,<- NI,<- Xc]at h
  cases he:through t with
  | true=>rw[he]at h;cases h;rfl
  | false =>
   rw[he]at h
   cases hk:stepOk rZ q0 t with
   | false=>rw[hk]at h;cases h
   | true =>
    rw[hk]at h
    cases hs:stepT (denote treeTable) p w s t with
    | none=>rw[hs]at h;cases h
    | some r=>obtain⟨bi,ZE⟩:=r;rw[hs]at h;exact stepT_spec hs<&>(af h)
theorem X0:∀{l:List Obj} {n:Nat} {t bE:BT},uu l n t=some bE->absHeap bE (n+l.length) life=l.foldl Heap.push (absHeap t n life):=by
 intro l
 induction l with
 | nil =>
  intro n t bE h;cases h;rfl
 | cons o l af =>
  intro n t bE h;change(match((t.ins n o).get n).isSome with | true=>uu l (n+1) (t.ins n o) | false=>none)=some bE at h
  cases hs:((t.ins n o).get n).isSome with
  | false=>rw[hs]at h;cases h
  | true =>
   rw[hs]at h;rw[dD,show n+(l.length+1)=n+1+l.length by grind,af h,absHeap_ins hs];rfl
theorem Pn:∀(l:List Obj) (a:Array Obj),l.foldl Heap.push ⟨a,life⟩=⟨a++l.toArray,life⟩:=by
 intro l
 induction l with
 | nil =>
  intro a
  (rfl)
 | cons o l af =>
  intro a;show l.foldl Heap.push ⟨a.push o,life⟩=_;rw[af (a.push o)];simp
theorem X1{l:List Obj}{t:BT}(h:uu l 0 .nil=some t):absHeap t l.length life=⟨l.toArray,life⟩:=by
 have:=X0 (life:=life) h;rw[d1]at this;rw[this];show l.foldl Heap.push ⟨#[],life⟩=_;rw[Pn];simp
theorem Sy{p:Program}{w:World}{os:OsState}{N:Nat}(h:tN p w os N=some s₁):topFrom treeTable p w N ⟨boot_heap w.params,#[],boot_drawn,boot_toks,os⟩=some s₁:=by
 unfold tN at h;refine ay (Option.bind_eq_some_iff.mp h) fun T dP h=>?_
 have aW:absHeap T (boot_heap w.params).objs.toList.length (boot_heap w.params).life=boot_heap w.params:=by
  exact X1 dP ..
 cases hn:(boot_heap w.params).isNs mainGlobals with
 | false=>rw[hn]at h;cases h
 | true =>
  rw[hn]at h;refine ay (Option.bind_eq_some_iff.mp h) fun s hs h=>?_;have hr:=Xn hs
  have ha:(SharedT.abs ⟨T,(boot_heap w.params).objs.toList.length,(boot_heap w.params).life,#[],boot_drawn,boot_toks,os⟩)=⟨boot_heap w.params,#[],boot_drawn,boot_toks,os⟩:=by
   show(⟨absHeap T _ _,#[],boot_drawn,boot_toks,os⟩:Shared)=_;exact aW<&>rfl
  rw[ha,fP]at hr;unfold topFrom;refine(((by rw[hn];rfl):((boot_heap w.params).isNs mainGlobals&&(#[]:Array GenState).size == 0)=true) ..).symm▸?_;exact hr<&>h
theorem V2:openSeen=PySem.W.Fast.tw4187177175401517315:=PySem.W.Fast.te4187177175401517315
theorem SA{p q:Program}{loose:List Str}{Xt:Shared->Bool}{U:Type}{Yf:Shared->U}{Ya:World->U}{N:Nat}(e:opening p=plainProg p.main.scope.names)(ax:Nat.ble 600 N=true)(f:∀s,fenceModules? p s=some s)
  (h:∀w os,(tN p w os N).map (fun s=>(PySem.W.Fast.tw4187177175401517315 q loose (importedModules p.main.body) Xt true s,Yf s))=some (openGood q loose,Ya w)):LeftO p q loose Xt Yf Ya N:=fun w=>by
 rw[<- V2]at h;refine ay (ol.mp (boot_open e ax f w)) fun s hs hv=>?_;obtain⟨hp,g,d,t,os⟩:=s;simp only[Prod.mk.injEq]at hv;obtain⟨rfl,rfl,rfl,rfl⟩:=hv;unfold openEnds;rw[hs];refine ay (ol.mp (h w os)) fun s₁ J L=>?_;show(topFrom treeTable p w N _).map _=_;have:=Sy J;exact(show(⟨boot_heap w.params,{ toList:=[] },boot_drawn,boot_toks,os⟩:Shared)=⟨boot_heap w.params,#[],boot_drawn,boot_toks,os⟩from rfl ..).symm▸this.symm▸(congrArg some L)
theorem TM{K:Frag}{ys:List (Option (Option Value))}{b:List bK}(L:lc T n1 n2 K ys=some b)(Y:List (Option (Option Value))):∀{a:List bK},lc T n1 n2 K Y=some a->lc T n1 n2 K (Y++ys)=some (a++b):=by
 induction Y with
 | nil=>intro a h;refine oi h<$>?_;exact L
 | cons x r af =>
  intro a h;change bN _ _ _=_ at h;refine gK (M:=fun a=>lc T n1 n2 K (x::r++ys)=some (a++b)) h fun f fs au aQ=>?_;show bN (rW T n1 n2 K x) (lc T n1 n2 K (r++ys)) List.cons=_;refine au<&>af aQ<&>?_;rfl
theorem Ph{o:Option Shared}{k:Nat}{a b:List bK}(J:o.map (vB T (List.take k))=some (some a))(L:o.map (vB T (List.drop k))=some (some b)):o.map (fun s=>lc T 40 30 (jG s.heap) (nr T (jG s.heap)))=some (some (a++b)):=by
 cases o with
 | none=>exact nomatch J
 | some s =>
  have h:=TM (oi L) _ (oi J);rw[hL]at h;exact congrArg some h
def bm:cq->aj H
 | .next _ S=>.ok .none S
 | .ret v _ S=>.ok v S
 | _=>.stuck
section
variable {U β:Type}
theorem cr{a:U}{f:U->ab->aj β}:(aj.ok a S).bind f=f a S:=rfl
theorem iW{a:U}{f:U->ab->cq}:(aj.ok a S).toS R f=f a S:=rfl
theorem vf{a b:Str}:d2 .eq (.str a) (.str b) S=.ok (a == b) S:=rfl
theorem Uc{a b:Str}:d2 .ne (.str a) (.str b) S=.ok (!(a == b)) S:=rfl
theorem rk{a b:Int}:d2 .eq (.int a) (.int b) S=.ok (a == b) S:=rfl
theorem AR{a b:Int}:d2 .ne (.int a) (.int b) S=.ok (!(a == b)) S:=rfl
theorem lt_int{a b:Int}:d2 .lt (.int a) (.int b) S=.ok (decide (a<b)) S:=rfl
theorem le_int{a b:Int}:d2 .le (.int a) (.int b) S=.ok (decide (a<=b)) S:=rfl
theorem gt_int{a b:Int}:d2 .gt (.int a) (.int b) S=.ok (decide (a > b)) S:=rfl
theorem add_int{a b:Int}:kQ .add (.int a) (.int b) S=.ok (.int (a+b)) S:=rfl
theorem sub_int{a b:Int}:kQ .sub (.int a) (.int b) S=.ok (.int (a-b)) S:=rfl
theorem mul_int{a b:Int}(h:a.natAbs<2 ^ 60\/b.natAbs<2 ^ 60):kQ .mul (.int a) (.int b) S=.ok (.int (a*b)) S:=by
 show(if rX a b=true then aj.ok (H.int (a*b)) S else .stuck)=_;exact aC (c6 h)
theorem gw{a b:Int}(h:0<b):kQ .mod (.int a) (.int b) S=.ok (.int (a%b)) S:=aC h
theorem vz{a b:Int}(h:0<b)(L:b<1073741824):kQ .fdiv (.int a) (.int b) S=.ok (.int (a/b)) S:=aC ⟨h,L⟩
theorem add_str{a b:Str}(h:a.length+b.length<=aL):kQ .add (.str a) (.str b) S=.ok (.str (a++b)) S:=by
 show(if a.length+b.length<=aL then aj.ok (H.str (a++b)) S else .stuck)=_;exact aC h
theorem LH{a b:List H}(h:a.length+b.length<=aL):kQ .add (.fl a) (.fl b) S=.ok (.fl (a++b)) S:=by
 show(if a.length+b.length<=aL then aj.ok (H.fl (a++b)) S else .stuck)=_;exact aC h
theorem r1{f:List H->aj H}{a:H}(h:eB S a=some Y):kq f a S=f Y:=by unfold kq;exact h<&>rfl
theorem t0{γ:Type}{g:List H->Option γ}{f:γ->aj H}{a:H}{l:γ}(h:(cY S a).bind g=some l):fm g f a S=f l:=by unfold fm;exact h<&>rfl
theorem len_str{s:Str}(h:s.length<=aL):dN .len (.str s) S=.ok (.int s.length) S:=by
 show(if s.length<=aL then aj.ok (H.int s.length) S else .stuck)=_;exact aC h
theorem Ay(h:Y.length<=aL):dN .len (.tup Y) S=.ok (.int Y.length) S:=by
 show(if Y.length<=aL then aj.ok (H.int Y.length) S else .stuck)=_;exact aC h
theorem rP(h:Y.length<=aL):dN .len (.fl Y) S=.ok (.int Y.length) S:=by
 show(if Y.length<=aL then aj.ok (H.int Y.length) S else .stuck)=_;exact aC h
theorem SQ(h:Y.length<=aL):dN (.list true) (.tup Y) S=.ok (.fl Y) S:=by
 show(if Y.length<=aL then aj.ok (H.fl Y) S else .stuck)=_;exact aC h
theorem K1(h:Y.length<=aL):dN .tuple (.fl Y) S=.ok (.tup Y) S:=by
 show(if Y.length<=aL then aj.ok (H.tup Y) S else .stuck)=_;exact aC h
theorem int_bool{b:Bool}:dN .int (.bool b) S=.ok (.int (if b then 1 else 0)) S:=rfl
theorem oQ(h:Y.length<=aL):eO true Y S=.ok (.fl Y) S:=aC h
theorem Jf(h:Y.length<=aL):eO false Y S=.ok (.ref S.length) (S++[.lst Y]):=aC h
theorem v7{i:Int}(h0:0<=i)(h:i.toNat<m):fW i m=some i.toNat:=by
 unfold fW;exact(aC h0 ..).trans (aC h ..)
theorem jq{i:Int}{x:H}(hl:Y.length<=aL)(h0:0<=i)(h:Y[i.toNat]?=some x):ga (.fl Y) (.int i) S=.ok x S:=by
 show(if Y.length<=aL then aj.ofOpt ((fW i Y.length).bind (Y[·]?)) S else .stuck)=_;rw[aC hl,v7 h0 ((dv h).1)];show aj.ofOpt Y[i.toNat]? S=_;rw[h];rfl
theorem W2{i:Int}{x:H}(hl:Y.length<=aL)(h0:0<=i)(h:Y[i.toNat]?=some x):ga (.tup Y) (.int i) S=.ok x S:=by
 show(if Y.length<=aL then aj.ofOpt ((fW i Y.length).bind (Y[·]?)) S else .stuck)=_;rw[aC hl,v7 h0 ((dv h).1)];show aj.ofOpt Y[i.toNat]? S=_;rw[h];rfl
theorem Kz{i:Int}{x:H}(hr:S[r]?=some (.lst Y))(hl:Y.length<=aL)(h0:0<=i)(h:Y[i.toNat]?=some x):ga (.ref r) (.int i) S=.ok x S:=by
 show(match cY S (.ref r)with
  | some Y=>nD Y i S
  | none=>.stuck)=_
 refine(((by unfold cY;dsimp only;rw[hr]):cY S (.ref r)=some Y) ..).symm▸?_;show(if Y.length<=aL then aj.ofOpt ((fW i Y.length).bind (Y[·]?)) S else .stuck)=_;rw[aC hl];refine v7 h0 ((dv h).1)<&>?_;show aj.ofOpt Y[i.toNat]? S=_;rw[h];rfl
theorem KA{s:Str}{i:Int}{c:Nat}(hl:s.cps.size<=aL)(h0:0<=i)(h:s.cps.toList[i.toNat]?=some c):ga (.str s) (.int i) S=.ok (.str ⟨#[c]⟩) S:=by
 show(if s.cps.size<=aL then(match(fW i s.cps.size).bind (s.cps[·]?)with
   | some c=>aj.ok (H.str ⟨#[c]⟩) S
   | none=>.stuck)
  else .stuck)=_
 rw[aC hl,v7 h0 (by simpa using((dv h).1))]
 show(match s.cps[i.toNat]? with
   | some c=>aj.ok (H.str ⟨#[c]⟩) S
   | none=>.stuck)=_
 rw[(((kb)▸h):s.cps[i.toNat]?=some c)]
theorem uX{P:Nat->Prop}:∀k,k<0->P k:=fun u h=>absurd h (Nat.not_lt_zero _)
theorem f3{P:Nat->Prop}(h:∀k,k<n->P k)(q:P n):∀k,k<n+1->P k:=fun k hk=>(Nat.lt_succ_iff_lt_or_eq.mp hk).elim (h k) fun e=>e▸q
theorem v8{P:Int->Prop}(h:∀k:Nat,k<n->P k){w:Int}(h0:0<=w)(J:w<n):P w:=by
 refine aF (jw h0) fun k ae=>?_;subst ae;exact h k (eK.mp J)
theorem toNat_lt'{w:Int}(h0:0<=w)(J:w<n):w.toNat<n:=v8 (P:=fun w=>w.toNat<n) (fun u h=>h) h0 J
theorem CK{a:Int}{k N:Nat}(ax:N≠0):((a+k)%N).toNat=((a%N).toNat+k)%N:=by
 refine Int.emod_add_emod<$>(aF (jw (fq a ((Int.ofNat_ne_zero.mpr ax):(N:Int)≠0))) fun m hm=>?_);rw[hm,kL,<- Int.natCast_add,<- Int.natCast_emod,kL]
theorem fj:aL=1000000:=rfl
theorem Du{f:H->ab->aj (Option H)}{g:H->H}:∀(Y:List H),(∀x∈Y,f x S=.ok (some (g x)) S)->dY none f Y S=.ok (Y.map g) S:=by
 intro Y
 induction Y with
 | nil =>
  intro _;exact aC trivial
 | cons x Y af =>
  intro h;apply(aC trivial).trans;rw[h x be];show(dY none f Y S).bind _=_;rw[af fun y aG=>h y (bx _ aG)];rfl
theorem pn{t:Nat}{elt it:X}(g:H->H)(bS:evIt C it R S=.ok (Y,none) S)(hl:Y.length<=aL)
  (h:∀x∈Y,ev C elt ((dz cP R).set t (some x)) S=.ok (g x) S) (aW:C.hd=false:=by first | rfl | assumption):ev C (.comp true t cP elt (.k (.bool true)) it) R S=.ok (.fl (Y.map g)) S:=by
 rw[np,aW,bS];show h3 Y.length (dY none (fun x S=>((aj.ok true S).bind fun b S=>if b=true then(ev C elt ((dz cP R).set t (some x)) S).bind fun v S=>.ok (some v) S else .ok none S)) Y S) _=_
 rw[Du Y fun x hx=>by
  show(ev C elt ((dz cP R).set t (some x)) S).bind _=_
  rw[h x hx];rfl]
 exact oQ (by simpa using hl)
section
variable {a b c r:X}{lr:ab}{x y z:H}
theorem cj{o:n8}{v:aj H}(ha:ev C a R S=.ok x ak)(hb:ev C b R ak=.ok y aH)(h:kQ o x y aH=v):ev C (.bin o a b) R S=v:=by
 rw[Oe,ha,cr,hb,cr,h]
theorem dO{v:aj H}(ha:ev C a R S=.ok x ak)(hb:ev C b R ak=.ok y aH)(h:ga x y aH=v):ev C (.sub a b) R S=v:=by
 rw[On,ha,cr,hb,cr,h]
theorem Mo{k:c5}:jB false k x S=dN k x S:=rfl
theorem da{k:c5}{v:aj H}(ha:ev C a R S=.ok x ak)(h:dN k x ak=v)(aW:C.hd=false:=by first | rfl | assumption):ev C (.b1 k a) R S=v:=by
 rw[Ea,ha,cr,aW,Mo,h]
theorem DN{v:aj H}(ha:ev C a R S=.ok x ak)(hb:ev C b R ak=.ok y aH)(h:rV x y aH=v)(aW:C.hd=false:=by first | rfl | assumption):ev C (.min2 a b) R S=v:=by
 rw[Ed,aW];show(ev C a R S).bind _=_;rw[ha,cr,hb,cr,h]
theorem ef{f:Nat}{v:aj H}(ha:ev C a R S=.ok x ak)(h:C.call f [x] ak=v):ev C (.call f #v[a]) R S=v:=by
 rw[vi,mD,ha,cr,iM];exact h
theorem jb{f:Nat}{v:aj H}(ha:ev C a R S=.ok x ak)(hb:ev C b R ak=.ok y aH)(h:C.call f [x,y] aH=v):ev C (.call f #v[a,b]) R S=v:=by
 rw[vi,mD,ha,cr,mD,hb,cr,iM];exact h
theorem rf{f:Nat}{v:aj H}(ha:ev C a R S=.ok x ak)(hb:ev C b R ak=.ok y aH)(hc:ev C c R aH=.ok z lr)(h:C.call f [x,y,z] lr=v):ev C (.call f #v[a,b,c]) R S=v:=by
 rw[vi,mD,ha,cr,mD,hb,cr,mD,hc,cr,iM];exact h
theorem h4{m:iE}{v:aj H}(ha:ev C a R S=.ok x ak)(hm:qa m x ak=true)(hb:ev C b R ak=.ok y aH)(h:kn m x [y] aH=v):ev C (.me m a #v[b]) R S=v:=by
 rw[Ec,ha,cr,aC hm,mD,hb,cr,iM];exact h
theorem jE{o:iY}(ha:ev C a R S=.ok x ak)(hb:ev C b R ak=.ok y aH)(h:d2 o x y aH=.ok q lr):ev C (.cmp a o b) R S=.ok (.bool q) lr:=by
 rw[Of,ha,cr,hb,cr,h];rfl
theorem ps{Y:X}{v:aj H}(h:evAnd C Y R S=v):ev C (.and Y) R S=v:=h
theorem pt{v:aj H}(h:ev C a R S=v):evAnd C #v[a] R S=v:=h
theorem kt{Y:X}{v:aj Bool}(h:tstAnd C Y R S=v):tst C (.and Y) R S=v:=h
theorem lj{Y:X}{v:aj Bool}(h:tstOr C Y R S=v):tst C (.or Y) R S=v:=h
theorem mz{v:aj H}(ha:ev C a R S=.ok (.bool true) ak)(hb:evAnd C (.cons b r) R ak=v):evAnd C (.cons a (.cons b r)) R S=v:=by
 rw[vg,ha];exact hb
theorem c3{o:iY}{v:aj Bool}(ha:ev C a R S=.ok x ak)(hb:ev C b R ak=.ok y aH)(h:d2 o x y aH=v):tst C (.cmp a o b) R S=v:=by
 rw[X4,ha,cr,hb,cr,h]
theorem jV(ha:tst C a R S=.ok q ak):tst C (.not a) R S=.ok (!q) ak:=by
 rw[X6,ha];rfl
theorem li{f:Nat}{args:X}(h:ev C (.call f args) R S=.ok (.bool q) ak):tst C (.call f args) R S=.ok q ak:=by
 rw[X3,h];rfl
theorem Xb{k:c5}(h:ev C (.b1 k a) R S=.ok (.bool q) ak):tst C (.b1 k a) R S=.ok q ak:=by
 rw[X2,h];rfl
theorem jW{v:aj Bool}(ha:tst C a R S=.ok false ak)(h:tstOr C r R ak=v):tstOr C (.cons a r) R S=v:=by
 rw[uv,ha];exact h
theorem BC{v:aj Bool}(ha:tst C a R S=.ok true ak)(h:tstAnd C r R ak=v):tstAnd C (.cons a r) R S=v:=by
 rw[so,ha];exact h
theorem KE(ha:tst C a R S=.ok false ak):tstAnd C (.cons a r) R S=.ok false ak:=by
 rw[so,ha];rfl
theorem BE{p:Bool}(ha:tst C a R S=.ok q ak)(h:q=false->tstOr C r R ak=.ok p ak):tstOr C (.cons a r) R S=.ok (q||p) ak:=by
 rw[uv,ha,cr];cases q
 ·exact h rfl
 ·rfl
theorem ll(ha:tst C a R S=.ok q ak):tstOr C #v[a] R S=.ok q ak:=by
 rw[uv,ha,cr];cases q <;> rfl
theorem oY{p:Bool}(ha:tst C a R S=.ok q ak)(h:q=true->tstAnd C r R ak=.ok p ak):tstAnd C (.cons a r) R S=.ok (q&&p) ak:=by
 rw[so,ha,cr];cases q
 ·rfl
 ·exact h rfl
theorem l8(ha:tst C a R S=.ok q ak):tstAnd C #v[a] R S=.ok q ak:=by
 rw[so,ha,cr];cases q <;> rfl
theorem NP{p:Bool}(ha:ev C a R S=.ok (.bool q) ak)(h:q=true->evAnd C (.cons b r) R ak=.ok (.bool p) ak):evAnd C (.cons a (.cons b r)) R S=.ok (.bool (q&&p)) ak:=by
 refine vg<&>ha<&>?_;cases q
 ·rfl
 ·exact h rfl
theorem yi{i j k:Int}(ha:ev C a R S=.ok (.int i) S)(hb:ev C b R S=.ok (.int j) S)(hc:ev C c R S=.ok (.int k) S):ev C (.cmp2 a .le b .le c) R S=.ok (.bool (decide (i<=j)&&decide (j<=k))) S:=by
 rw[Og,ha,cr,hb,cr,le_int,cr];cases decide (i<=j)
 ·rfl
 ·rw[aC rfl,hc,cr,le_int];rfl
theorem KG{i j k:Int}(ha:ev C a R S=.ok (.int i) S)(hb:ev C b R S=.ok (.int j) S)(hc:ev C c R S=.ok (.int k) S):tst C (.cmp2 a .le b .le c) R S=.ok (decide (i<=j)&&decide (j<=k)) S:=by
 rw[X5,ha,cr,hb,cr,le_int,cr];cases decide (i<=j)
 ·rfl
 ·rw[aC rfl,hc,cr,le_int];rfl
theorem dm{vs:List H}(ha:ev C a R S=.ok x ak)(h:evs C r R ak=.ok vs aH):evs C (.cons a r) R S=.ok (x::vs) aH:=by
 rw[mD,ha,cr,h];rfl
theorem mB{Y:X}{vs:List H}(h:evs C Y R S=.ok vs ak)(hl:vs.length<=aL):ev C (.tup Y) R S=.ok (.tup vs) ak:=by
 rw[Oo,h,cr,aC hl]
theorem NQ{Y:X}{vs:List H}(h:evs C Y R S=.ok vs ak)(hl:vs.length<=aL):ev C (.lst true Y) R S=.ok (.fl vs) ak:=by
 rw[Eb,h,cr,oQ hl]
theorem DM{ks:List Str}{vals:List H}{k:Str}(ha:ev C a R S=.ok (.str k) ak)(hb:ev C b R ak=.ok y aH):ev C (.fdget ks vals a b) R S=.ok ((jU k (ks.zip vals)).getD y) aH:=by
 rw[Oh,ha,cr,hb,cr];rfl
end
theorem ar{a r:O}(h:ex C n a R S=.next ρ' σ'):ex C n (.cons a r) R S=ex C n r ρ' σ':=by
 show qu (fun R S=>ex C n r R S) (ex C n a R S)=_;refine h<&>?_;rfl
theorem bV{a r:O}{v:H}(h:ex C n a R S=.ret v ρ' σ'):ex C n (.cons a r) R S=.ret v ρ' σ':=by
 show qu (fun R S=>ex C n r R S) (ex C n a R S)=_;refine h<&>?_;rfl
theorem Ot{a r:O}(h:ex C n a R S=.brk ρ' σ'):ex C n (.cons a r) R S=.brk ρ' σ':=by
 show qu (fun R S=>ex C n r R S) (ex C n a R S)=_;refine h<&>?_;rfl
theorem b6{x:X}{v:H}(h:ev C x R S=.ok v σ'):ex C n (.asg i x) R S=.next (R.set i (some v)) σ':=by
 show(ev C x R S).toS R _=_;refine h<&>?_;rfl
theorem dF{x:X}{v:H}(h:ev C x R S=.ok v σ'):ex C n (.ret x) R S=.ret v R σ':=by
 show(ev C x R S).toS R _=_;refine h<&>?_;rfl
theorem Ou{x:X}{v:H}(h:ev C x R S=.ok v σ'):ex C n (.expr x) R S=.next R σ':=by
 show(ev C x R S).toS R _=_;refine h<&>?_;rfl
theorem f4{x:X}(h:ev C x R S=.ok .none σ'):ex C n (.expr x) R S=.next R σ':=by
 show(ev C x R S).toS R _=_;refine h<&>?_;rfl
theorem eg{c:X}{a b:O}(h:tst C c R S=.ok true σ'):ex C n (.ife c a b) R S=ex C n a R σ':=by
 show(tst C c R S).toS R _=_;refine h<&>?_;rfl
theorem vj{c:X}{a b:O}(h:tst C c R S=.ok false σ'):ex C n (.ife c a b) R S=ex C n b R σ':=by
 show(tst C c R S).toS R _=_;refine h<&>?_;rfl
theorem bC:ex C n .nil R S=.next R S:=rfl
theorem cB{c:X}{a:O}(h:tst C c R S=.ok false σ'):ex C n (.ife c a .nil) R S=.next R σ':=(vj h).trans bC
section
variable {df:H->aB->Option aB}{f:aB->ab->cq}{x:H}
theorem e3:ch none df f [] R S=.next R S:=aC trivial
theorem ez(hb:df x R=some cL)(h:f cL S=.next fL aH):ch none df f (x::Y) R S=ch none df f Y fL aH:=by
 apply(aC trivial).trans;rw[hb];show mO _ (f cL S)=_;rw[h];rfl
theorem Po(hb:df x R=some cL)(h:f cL S=.brk fL aH):ch none df f (x::Y) R S=.next fL aH:=by
 apply(aC trivial).trans;rw[hb];show mO _ (f cL S)=_;rw[h];rfl
theorem e2{it:X}{body:O}{o:cq}(bS:evIt C it R S=.ok (ys,none) ak)(h:ch none (dj i) (fun R S=>ex C n body R S) ys R ak=o)(aW:C.hd=false:=by first | rfl | assumption):ex C n (.for1 i it body) R S=o:=by
 show(bif C.hd then cq.stuck else(evIt C it R S).toS R _)=_;exact aW<&>bS<&>h
end
theorem MX{P:iH}{d f:Nat}{vs:List H}(a7:P.fns[f]?=some fn)(hl:vs.length=fn.params) :
  bU P n (d+1) f vs S=bm (ex (ii P n 0 d) n fn.body (vs.map some++List.replicate (fn.slots-fn.params) none) S):=by
 show(match P.fns[f]? with
  | some fn=>if vs.length=fn.params then
    match ex (ii P n 0 d) n fn.body (vs.map some++List.replicate (fn.slots-fn.params) none) S with
    | .next _ S=>aj.ok H.none S
    | .ret v _ S=>.ok v S
    | _=>.stuck
   else .stuck
  | none=>.stuck)=_
 rw[a7];dsimp only;rw[aC hl];cases ex (ii P n 0 d) n fn.body (vs.map some++List.replicate (fn.slots-fn.params) none) S <;> rfl
end
def CC(d:Nat):bG:=ii PP topN 0 d
theorem cO{d f:Nat}{vs:List H}(a7:PP.fns[f]?=some fn)(hl:vs.length=fn.params) :
  bU PP topN (d+1) f vs S=bm (ex (CC d) topN fn.body (vs.map some++List.replicate (fn.slots-fn.params) none) S):=MX a7 hl
def mN:List Nat:=("abcdefghijklmnopqrstuvwxyz" : Str).cps.toList
def vA:List Nat:=("0123456789" : Str).cps.toList
structure h9(s:Str):Prop where
 pos:1<=s.length
 len:s.length<=8
 fst:∀c,s.cps.toList[0]?=some c->c∈mN
 all:∀c∈s.cps.toList,c∈mN\/c∈vA
def Ki(c:Nat):Bool:=mN.contains c||vA.contains c
def AP(s:Str):Bool:=decide (1<=s.length)&&decide (s.length<=8)&&(s.cps.toList.take 1).all (fun c=>mN.contains c)&&s.cps.toList.all Ki
theorem T0{s:Str}(h:AP s=true):h9 s:=by
 simp only[AP,Ki,kM,decide_eq_true_eq,hN,Bool.or_eq_true,List.contains_iff_mem]at h;refine⟨h.1.1.1,h.1.1.2,fun c hc=>(h.1.2 c ?_),h.2⟩
 cases hq:s.cps.toList with
 | nil=>rw[hq]at hc;cases hc
 | cons x r=>rw[hq]at hc;simp at hc;subst hc;(exact be)
section
variable {d:Nat}
theorem h0{i:Int}:bU PP topN (d+1) tE [.int i] S=.ok (.bool (decide (0<=i)&&decide (i<=999999))) S:=by
 rw[cO rfl rfl]
 have:ex (CC d) topN yK.body [ag i,none,none,none,none] S=.ret (.bool (decide (0<=i)&&decide (i<=999999))) [ag i,none,none,none,none] S:=
  bV (dF (ps (mz rfl (mz (ak:=S) rfl (pt (yi rfl rfl rfl))))))
 show bm (ex (CC d) topN yK.body [ag i,none,none,none,none] S)=_;rw[this];rfl
theorem Uw{c:Nat}{y:Str}:d2 .notin (.str ⟨#[c]⟩) (.str y) S=.ok (!(y.cps.toList.contains c)) S:=rfl
theorem LS{U:Type}{Y:List U}{g:U->Bool}:dN .all (.fl (Y.map fun x=>.bool (g x))) S=.ok (.bool (Y.all g)) S:=by
 have e:∀Y:List U,op (Y.map fun x=>.bool (g x))=some (Y.map g):=by
  intro Y
  induction Y with
  | nil=>rfl
  | cons x Y af =>
   show(op (Y.map fun x=>.bool (g x))).map (g x::·)=_;rw[af];rfl
 apply(t0 (a:=.fl _) (e Y)).trans;rw[List.all_map];rfl
theorem LR{U:Type}{t:Nat}{elt it:X}{Y:List U}{w:U->H}{g:U->Bool}(bS:evIt C it R S=.ok (Y.map w,none) S)(hl:Y.length<=aL)
  (h:∀x∈Y,ev C elt ((dz cP R).set t (some (w x))) S=.ok (.bool (g x)) S) (aW:C.hd=false:=by first | rfl | assumption):ev C (.b1 .all (.comp true t cP elt (.k (.bool true)) it)) R S=.ok (.bool (Y.all g)) S:=by
 refine da ?_ LS aW;rw[np,aW,bS];show h3 Y.length (dY none (fun x S=>((aj.ok true S).bind fun b S=>if b=true then(ev C elt ((dz cP R).set t (some x)) S).bind fun v S=>.ok (some v) S else .ok none S)) (Y.map w) S) _=_
 have e:∀ys:List U,(∀x∈ys,ev C elt ((dz cP R).set t (some (w x))) S=.ok (.bool (g x)) S)->dY none (fun x S=>((aj.ok true S).bind fun b S=>if b=true then(ev C elt ((dz cP R).set t (some x)) S).bind fun v S=>.ok (some v) S else .ok none S)) (ys.map w) S=.ok (ys.map fun x=>.bool (g x)) S:=by
  intro ys
  induction ys with
  | nil=>intro _;exact aC trivial
  | cons y ys af =>
   intro aG;apply(aC trivial).trans;dsimp only;rw[cr,aC rfl,aG y be,cr,cr];rw[af fun x hx=>aG x (bx _ hx)];rfl
 exact e Y h<&>(oQ (by simpa using hl))
theorem x3{a b c:Nat}(J:a<=b)(L:b<=c):(decide ((a:Int)<=(b:Int))&&decide ((b:Int)<=(c:Int)))=true:=by
 rw[c6 (ig.mpr J),c6 (ig.mpr L)];rfl
theorem xT{U:Type}{t:Nat}{elt it:X}{Y:List U}{w:U->H}(bS:evIt C it R S=.ok (Y.map w,none) S)(hl:Y.length<=aL)
  (h:∀x∈Y,ev C elt ((dz cP R).set t (some (w x))) S=.ok (.bool true) S) (aW:C.hd=false:=by first | rfl | assumption):ev C (.b1 .all (.comp true t cP elt (.k (.bool true)) it)) R S=.ok (.bool true) S:=
 (LR bS hl h aW).trans (congrArg (fun b=>aj.ok (H.bool b) S) (hN.mpr fun u u=>rfl))
theorem J{s:Str}(h:h9 s):bU PP topN (d+1) Ah [.str s] S=.ok (.bool true) S:=by
 have hl:s.length<=aL:=aE h.len ⋯;have kl:s.length=s.cps.toList.length:=rfl;rw[cO rfl rfl];show bm (ex (CC d) topN #v[yF,EX] [bA s,none,none,none,none,none,none] S)=_;refine congrArg bm ((ar (a:=yF) (cB ?_)).trans (bV (dF (xT rfl (kl▸hl) fun c hc=>?_))))
 ·refine lj (jW rfl (jW ((jV (KG rfl (da rfl (len_str hl)) rfl)).trans (congrArg (fun b=>aj.ok (!b) S) (x3 h.pos h.len))) (ll ?_)))
  cases hx:s.cps.toList with
  | nil=>exact absurd (kl▸h.pos) (by rw[hx];exact Nat.not_lt_zero 0)
  | cons c r =>
   refine(c3 (dO rfl rfl (KA hl (ea _) (by rw[hx];rfl))) rfl Uw).trans (congrArg (fun b=>aj.ok (!b) S) (List.contains_iff_mem.mpr (h.fst c (by rw[hx];rfl))))
 ·rw[Ol,yp];show(if mN.contains c=true then aj.ok (H.bool (mN.contains c)) S else aj.ok (H.bool (vA.contains c)) S)=_
  cases q:mN.contains c with
  | true=>rfl
  | false=>exact congrArg (fun b=>aj.ok (H.bool b) S) (List.contains_iff_mem.mpr ((h.all c hc).resolve_left fun m=>Bool.false_ne_true (q.symm.trans (List.contains_iff_mem.mpr m))))
end
section
variable {d:Nat}
theorem L{l:List Str}(h:∀n∈l,h9 n)(vD:1<=l.length)(hm:l.length<=m)(hl:l.length<=aL):bU PP topN (d+2) Af [.tup (l.map .str),.int m] S=.ok (.bool true) S:=by
 rw[cO rfl rfl];show bm (ex (CC (d+1)) topN EN.body [some (.tup (l.map .str)),ag m,none,none,none,none] S)=_;refine congrArg bm (bV (dF (ps (mz rfl (mz ((yi rfl (da rfl (Ay (a9 H.str<&>hl))) rfl).trans (congrArg (fun b=>aj.ok (H.bool b) S) ?_)) (pt (xT rfl hl fun n hn=>ef rfl (J (h n hn)))))))));rw[a9];exact x3 vD hm
theorem LQ:∀l:List Str,ni (l.map .str)=some l:=by
 intro l
 induction l with
 | nil =>
  exact rfl
 | cons x l af =>
  show(ni (l.map .str)).map (x::·)=_;refine af<&>?_;rfl
theorem NG:∀(l a:List Str),(a++l).Nodup->l.foldl (fun a x=>if a.any (· == x)then a else a++[x]) a=a++l:=by
 intro l
 induction l with
 | nil=>intro a _;exact(fD a).symm
 | cons x l af =>
  intro a h;rw[i5,(List.any_eq_false.mpr fun y aG e=>(jz.mp h).2.2 y aG x be (eq_of_beq e)),aV Bool.false_ne_true,af _ (by rw[cN];exact h),cN];rfl
theorem NH{l:List Str}(h:l.Nodup):ow l=l:=NG l [] h
theorem SF{v:H}{l:List Str}(hv:eB S v=some (l.map .str))(hl:l.length<=1000):dN .lenset v S=.ok (.int (ow l).length) S:=by
 rw[((by cases v <;> rfl):dN .lenset v S=p7 S (eB S v)),hv];unfold p7 p6;rw[Option.bind_some,LQ];dsimp only;rw[aC hl]
theorem IQ{v:H}(hv:eB S v=some Y)(hn:∀s,v≠.str s)(hl:Y.length<=aL):dN .len v S=.ok (.int Y.length) S:=by
 rw[((by cases v <;> first | rfl | exact absurd rfl (hn _)):dN .len v S=kq (fun Y=>if Y.length<=aL then .ok (.int Y.length) S else .stuck) v S),r1 hv,aC hl]
theorem au{v:H}{l:List Str}(hv:eB S v=some (l.map .str))(hn:∀s,v≠.str s)(hl:l.length<=1000)(hd:l.Nodup):bU PP topN (d+1) vZ [v] S=.ok (.bool true) S:=by
 rw[cO rfl rfl];show bm (ex (CC d) topN EO.body [some v,none,none] S)=_;refine congrArg bm (bV (dF (jE (da rfl (SF hv hl)) (da rfl (IQ hv hn (by rw[a9];exact aE hl ⋯))) ?_)));rw[rk,a9,NH hd,beq_self_eq_true]
end
set_option genCtorIdx true
inductive dJ where
 | word (w:Str)
 | fixed (v:Int)
set_option genCtorIdx false
def dJ.pv:dJ->H
 | .word w=>.tup [.str w]
 | .fixed v=>.tup [.str "fixed",.int v]
inductive gf:dJ->Nat->Nat->Prop where
 | sum (n g:Nat):gf (.word "sum") n g
 | times (n g:Nat):gf (.word "times") n g
 | least (n g:Nat):gf (.word "least") n g
 | most (n g:Nat):gf (.word "most") n g
 | later (g:Nat):gf (.word "later") 1 g
 | way:gf (.word "way") 2 2
 | choose (g:Nat):gf (.word "choose") 3 g
 | fixed (v:Int) (n g:Nat):0<=v->v<=999999->gf (.fixed v) n g
section
variable {d:Nat}
theorem aQ{r:dJ}{g:Nat}(h:gf r n g):bU PP topN (d+2) H6 [r.pv,.int n,.int g] S=.ok (.bool true) S:=by
 cases h with
 | fixed v n g q1 q2 =>
  rw[cO rfl rfl];show bm (ex (CC (d+1)) topN E1.body [some (.tup [.str "fixed",.int v]),ag n,ag g,none,none,none,none,none,none] S)=_;refine congrArg bm ((ar rfl).trans (bV ((eg (σ':=S) rfl).trans (bV (dF (ps (mz rfl (pt (ef rfl ?_)))))))));exact h0.trans (by rw[c6 q1,c6 q2];rfl)
 | _=>kernel_rfl
end
structure az where
 name:Str
 rule:dJ
 needs:List Str
 gives:List Str
def az.pv(s:az):H:=.tup [.str s.name,s.rule.pv,.tup (s.needs.map .str),.tup (s.gives.map .str)]
structure hI(s:az):Prop where
 name:h9 s.name
 needs:∀n∈s.needs,h9 n
 needs1:1<=s.needs.length
 needs4:s.needs.length<=4
 gives:∀n∈s.gives,h9 n
 gives1:1<=s.gives.length
 gives3:s.gives.length<=3
 unlike:s.gives.Nodup
 rule:gf s.rule s.needs.length s.gives.length
structure cf(p:List az):Prop where
 pos:1<=p.length
 most:p.length<=20
 steps:∀s∈p,hI s
 names:(p.map (·.name)).Nodup
 gives:(p.flatMap (·.gives)).Nodup
def dx(p:List az):H:=.tup (p.map az.pv)
section
variable {d:Nat}
theorem wh{Y:List Str}(h:Y.length<=aL):dN .len (.tup (Y.map .str)) S=.ok (.int Y.length) S:=by
 rw[Ay (by rw[a9];exact h),a9]
theorem dk{s:az}(h:hI s):bU PP topN (d+3) H7 [s.pv] S=.ok (.bool true) S:=by
 rw[cO rfl rfl];show bm (ex (CC (d+2)) topN #v[yI,yJ,E2] [some s.pv,none,none,none,none,none,none,none,none,none] S)=_;refine congrArg bm ((ar (a:=yI) (cB (σ':=S) ?_)).trans ((ar (a:=yJ) (cB (σ':=S) ?_)).trans (bV (dF (rf rfl (da (ak:=S) rfl (wh (aE h.needs4 ⋯))) (da (ak:=S) rfl (wh (aE h.gives3 ⋯))) (aQ h.rule))))))
 ·exact lj (jW (ak:=S) rfl (jW (ak:=S) rfl (ll (jV (q:=true) (li (ef (ak:=S) rfl (J h.name)))))))
 ·exact lj (jW (jV (q:=true) (li (jb (x:=.tup (s.needs.map .str)) (ak:=S) rfl rfl (L h.needs h.needs1 h.needs4 (aE h.needs4 ⋯))))) (jW (jV (q:=true) (li (jb (x:=.tup (s.gives.map .str)) (ak:=S) (aH:=S) rfl rfl (L h.gives h.gives1 h.gives3 (aE h.gives3 ⋯)))))
   (ll (jV (q:=true) (li (ef (x:=.tup (s.gives.map .str)) (ak:=S) rfl (au rfl (fun u q=>by cases q) (aE h.gives3 ⋯) h.unlike)))))))
theorem PO:∀(p:List az) (y:Option H) (acc:List Str),acc.length+3*p.length<=1000->(∀s∈p,s.gives.length<=3) ->
  ∃bI,ch none (dj 1) (fun R S=>ex (CC d) topN EZ R S) (p.map az.pv) [some pl,y,aT cH.length,none,none,none,none,none,none] (cH++[.lst (acc.map .str)]) =
   .next [some pl,bI,aT cH.length,none,none,none,none,none,none] (cH++[.lst ((acc++p.flatMap (·.gives)).map .str)]):=by
 intro p
 induction p with
 | nil=>exact fun y acc u u=>⟨y,by simpa using e3⟩
 | cons s p af =>
  intro y acc h hs;have hg:=hs s (be);obtain⟨bI,af⟩:=af (some s.pv) (acc++s.gives) (by refine cD<&>?_;rw[dD]at h;(grind)) fun t ba=>hs t (bx _ ba);refine⟨bI,(ez (cL:=[some pl,some s.pv,aT cH.length,none,none,none,none,none,none]) rfl ?_).trans (af.trans (by simp[jA]))⟩;refine(ar (f4 (h4 (m:=.extend) (x:=.ref cH.length) rfl ?_ rfl ?_))).trans bC
  ·show jH (.ref cH.length) _=true;unfold jH;dsimp only;exact(((by simp):(cH++[aX.lst (acc.map .str)])[cH.length]?=some (.lst (acc.map .str))) ..).symm▸rfl
  ·show nq (.ref cH.length) (.tup (s.gives.map .str)) _=_;unfold nq;dsimp only;refine(((by simp):(cH++[aX.lst (acc.map .str)])[cH.length]?=some (.lst (acc.map .str))) ..).symm▸?_;dsimp only;rw[aC (by refine a9<&>a9<&>fj<&>?_;(grind))];simp
theorem Pf:∀(q:List az),(∀s∈q,s.gives.length<=3)->(q.flatMap (·.gives)).length<=3*q.length:=by
 intro q
 induction q with
 | nil =>
  intro _
  (trivial)
 | cons s q af =>
  intro hs;have J:=af fun t ba=>hs t (bx _ ba);have L:=hs s (be);refine jA<&>cD<&>dD<&>?_;(grind)
theorem P7{p:List az}(h:cf p):∃τ,bU PP topN (d+4) Ai [dx p] S=.ok (.bool true) (S++τ):=by
 have hl:p.length<=aL:=aE h.most ⋯;have lN:(p.map az.pv).length<=aL:=a9 az.pv<&>hl;rw[cO rfl rfl];show ∃τ,bm (ex (CC (d+3)) topN #v[yG,EY,yH,E0] [some (dx p),none,none,none,none,none,none,none,none] S)=_;obtain⟨bI,ah⟩:=PO p none [] (by have:=h.most;simp;(grind)) fun s hq=>(h.steps s hq).gives3;refine⟨[.lst ((p.flatMap (·.gives)).map .str)],congrArg bm ((ar (a:=yG) (cB ?_)).trans ((ar rfl).trans ((ar (a:=yH) (e2 (ak:=S++[.lst []]) rfl ah)).trans (bV (dF (ps (mz (ef (x:=.fl ((p.map (·.name)).map .str)) ?_ (au rfl (fun u q=>by cases q) (by rw[a9];exact aE h.most ⋯) h.names)) (pt (ef rfl (au ?_ (fun u q=>by cases q) (aE (aE (Pf p fun s hq=>(h.steps s hq).gives3) (nh 3 h.most)) ⋯) h.gives)))))))))) ⟩
 ·exact lj (jW rfl (jW ((jV (KG rfl (da rfl ((Ay lN).trans (by rw[a9]))) rfl)).trans (congrArg (fun b=>aj.ok (!b) S) (x3 h.pos h.most))) (ll (jV (q:=true) (Xb (xT rfl hl fun s hs=>ef rfl (dk (h.steps s hs))))))))
 ·refine(pn (fun x=>match x with | .tup (.str n::_)=>.str n | _=>.none) rfl lN fun x hx=>?_).trans ?_
  ·exact ay (c7.mp hx) fun s hs ae=>ae▸rfl
  ·refine fE<&>fE<&>?_;rfl
 ·unfold eB;dsimp only;exact(((by simp):(S++[aX.lst ((p.flatMap (·.gives)).map .str)])[S.length]?=some (.lst ((p.flatMap (·.gives)).map .str))) ..).symm▸rfl
end
section
variable {d:Nat}
theorem sf(h:n<=100){a:X}(ha:ev C a R S=.ok (.int n) S):evIt C (.range1 a) R S=.ok (cR 0 1 n,none) S:=by
 rw[vh,ha,cr];show(if 0<=(n:Int)/\(n:Int)<=aL then aj.ok (cR 0 1 (n:Int).toNat,none) S else .stuck)=_;rw[aC ⟨(ea _),by rw[fj];(exact ig.mpr (aE (by assumption) ⋯))⟩];rfl
theorem Bi{x:H}(h:x∈cR 0 1 n):∃i:Nat,i<n/\x=.int i:=by
 exact ay (c7.mp h) fun i hi ae=>ae▸(aI i (List.mem_range.mp hi) (by simp))
theorem l5{ws:List Str}(h:ws.length<=100):(ws.map H.str).length<=aL:=by rw[a9];exact aE h ⋯
theorem U4{p:List az}(hl:p.length<=20):(p.map az.pv).length<=aL:=by rw[a9];exact aE hl ⋯
end
section
variable {d:Nat}
theorem pE(hl:l.length<=63){k:Nat}:bU PP topN (d+1) gu [.fl (l.map .int),.int k] S=.ok (.int (l.getD k 0)) S:=by
 rw[cO rfl rfl]
 have lN:(l.map H.int).length<=aL:=by refine a9<&>?_;exact aE hl ⋯
 show bm (ex (CC d) topN vu.body [some (.fl (l.map .int)),ag k,none] S)=_;by_cases h:k<l.length
 ·have:ex (CC d) topN vu.body [some (.fl (l.map .int)),ag k,none] S=.ret (.int (l.getD k 0)) [some (.fl (l.map .int)),ag k,none] S:=by
   refine bV ((eg (c3 rfl (da (ak:=S) rfl ((by rw[rP lN,a9]):dN .len (.fl (l.map .int)) S=.ok (.int l.length) S)) ?_)).trans (bV (dF (dO (x:=.fl (l.map .int)) (ak:=S) rfl rfl (jq lN (ea _) ?_)))))
   ·refine lt_int<&>?_;exact c6 (eK.mpr (by assumption))<&>rfl
   ·simp[h]
  rw[this];rfl
 ·have:ex (CC d) topN vu.body [some (.fl (l.map .int)),ag k,none] S=.ret (.int 0) [some (.fl (l.map .int)),ag k,none] S:=by
   refine(ar (σ':=S) (cB (σ':=S) (c3 (x:=.int k) (ak:=S) rfl (da (x:=.fl (l.map .int)) (ak:=S) rfl ((by rw[rP lN,a9]):dN .len (.fl (l.map .int)) S=.ok (.int l.length) S)) ?_))).trans rfl;refine lt_int<&>?_;exact ed (fun q=>(by assumption:¬_) (eK.mp q))<&>rfl
  rw[this];refine(((by simp[List.getD,e0.mp h]):l.getD k 0=0) ..).symm▸?_;rfl
def eU(p:Int):Int:=(p*48271+11)%2147483647*((p*48271+11)%2147483647)%2147483629
theorem lK{p:Int}:bU PP topN (d+1) ji [.int p] S=.ok (.int (eU p)) S:=by
 rw[cO rfl rfl]
 have:ex (CC d) topN yT.body [ag p,none] S=.ret (.int (eU p)) [ag p,ag ((p*48271+11)%2147483647)] S:=by
  refine(ar (ρ':=[ag p,ag ((p*48271+11)%2147483647)]) (b6 (cj (cj (cj rfl rfl (mul_int (.inr ⋯))) (aH:=S) rfl add_int) (aH:=S) rfl (gw ⋯)))).trans (bV (dF (cj (cj (ak:=S) (aH:=S) rfl rfl (mul_int (.inl ?_))) (aH:=S) rfl (gw ⋯))));have L:=gj (p*48271+11) (show(0:Int)<2147483647 by decide);refine aF (jw (fq (p*48271+11) (show(2147483647:Int)≠0 by decide))) fun w hw=>?_;rw[hw]at L ⊢;exact b9 (eK.mp L) ⋯
 show bm (ex (CC d) topN yT.body [ag p,none] S)=_;rw[this];rfl
theorem ze{p a b:Int}(ha:0<a)(ha2:a<1073741824)(hb:0<b){x:X}(hx:ev C x R S=.ok (.int p) S):ev C (.bin .mod (.bin .fdiv x (ai a)) (ai b)) R S=.ok (.int (p/a%b)) S:=
 cj (cj hx rfl (vz ha ha2)) (aH:=S) rfl (gw hb)
theorem zq{p:Int}:∃v,0<=v/\v<=999999/\∀{d:Nat} {S:ab},bU PP topN (d+1) tJ [.int p] S=.ok (.int v) S:=by
 have oP:∀{d:Nat} {S:ab} (c:Int),tst (CC d) (.cmp (.bin .mod (.v 0) (ai 4)) .eq (ai c)) [ag p] S=.ok (p%4 == c) S:=fun{d S} c =>
  c3 rfl rfl rk
 have fin:∀{d:Nat} {S:ab} {v:Int},ex (CC d) topN y5.body [ag p] S=.ret (.int v) [ag p] S->bU PP topN (d+1) tJ [.int p] S=.ok (.int v) S:=fun{d S v} h=>by
  rw[cO rfl rfl];show bm (ex (CC d) topN y5.body [ag p] S)=_;rw[h];rfl
 by_cases h0:p%4=0
 ·have hx:∃v,0<=v/\v<=999999/\([H.int 0,.int 0,.int 1,.int 999999])[(p/4%4).toNat]?=ag v:=by
   refine v8 (P:=fun w=>∃v,0<=v/\v<=999999/\([H.int 0,.int 0,.int 1,.int 999999])[w.toNat]?=ag v) (f3 (f3 (f3 (f3 uX ?_) ?_) ?_) ?_) (fq (p/4) (show(4:Int)≠0 by decide)) (gj (p/4) (show(0:Int)<4 by decide))
   ·exact b3 0 ⋯ ⋯ rfl
   ·exact b3 0 ⋯ ⋯ rfl
   ·exact b3 1 ⋯ ⋯ rfl
   ·exact b3 999999 ⋯ ⋯ rfl
  refine bw hx fun v fY aY hv=>?_;refine b3 v fY aY (fun{d S}=>fin (bV ((eg ((oP 0).trans (by refine h0<&>?_;rfl))).trans (bV (dF (dO rfl (ze ⋯ ⋯ ⋯ rfl) (jq ⋯ (fq (p/4) (show(4:Int)≠0 by decide)) hv)))))))
 ·have k0:∀{d:Nat} {S:ab},tst (CC d) (.cmp (.bin .mod (.v 0) (ai 4)) .eq (ai 0)) [ag p] S=.ok false S:=fun{d S}=>(oP 0).trans (by rw[show(p%4 == 0)=false from mq.mpr h0]);by_cases J:p%4=1
  ·have pe:=fq (p/4) (show(1000000:Int)≠0 by decide);have dL:=gj (p/4) (show(0:Int)<1000000 by decide);refine b3 (p/4%1000000) pe (by grind) (fun{d S}=>fin ((ar (σ':=S) (cB (σ':=S) k0)).trans (bV ((eg (σ':=S) ((oP 1).trans (by refine J<&>?_;rfl))).trans rfl))))
  ·have pe:=fq (p/4) (show(5:Int)≠0 by decide);have dL:=gj (p/4) (show(0:Int)<5 by decide);refine b3 (p/4%5) pe (by grind) (fun{d S}=>fin ((ar (ρ':=[ag p]) (σ':=S) (cB (σ':=S) k0)).trans ((ar (ρ':=[ag p]) (σ':=S) (cB (σ':=S) ((oP 1).trans (by rw[show(p%4 == 1)=false from mq.mpr J])))).trans rfl)))
inductive j4:dJ->Prop where
 | sum:j4 (.word "sum")
 | times:j4 (.word "times")
 | least:j4 (.word "least")
 | most:j4 (.word "most")
 | later:j4 (.word "later")
 | way:j4 (.word "way")
 | choose:j4 (.word "choose")
 | fixed (v:Int):0<=v->v<=999999->j4 (.fixed v)
theorem P0{p w:Int}(h0:0<=w)(J:w<12):∃r:dJ,j4 r/\∀{d:Nat} {S:ab},bU PP topN (d+2) Al [.int p,.int w] S=.ok r.pv S:=by
 refine v8 (P:=fun w=>∃r:dJ,j4 r/\∀{d:Nat} {S:ab},bU PP topN (d+2) Al [.int p,.int w] S=.ok r.pv S) (f3 (f3 (f3 (f3 (f3 (f3 (f3 (f3 (f3 (f3 (f3 (f3 uX ?_) ?_) ?_) ?_) ?_) ?_) ?_) ?_) ?_) ?_) ?_) ?_) h0 J
 ·exact aI _ .sum rfl
 ·exact aI _ .times rfl
 ·exact aI _ .least rfl
 ·exact aI _ .most rfl
 ·refine bw (zq (p:=p)) fun v fY aY hv=>(aI _ (.fixed v fY aY) (fun{d S}=>?_));rw[cO rfl rfl]
  have:ex (CC (d+1)) topN y4.body [ag p,ag 4,none,none] S=.ret (.tup [.str "fixed",.int v]) [ag p,ag 4,bA "fixed",none] S:=
   (ar (ρ':=[ag p,ag 4,bA "fixed",none]) rfl).trans (bV (rfl.trans (bV (dF (mB (dm rfl (dm (ak:=S) (ef (ak:=S) rfl hv) rfl)) (show(2:Nat)<=aL by decide))))))
  show bm (ex (CC (d+1)) topN y4.body [ag p,ag 4,none,none] S)=_;rw[this];rfl
 ·exact aI _ .later rfl
 ·exact aI _ .later rfl
 ·exact aI _ .way rfl
 ·exact aI _ .choose rfl
 ·exact aI _ .way rfl
 ·exact aI _ .choose rfl
 ·exact aI _ .sum rfl
end
def qx:List Str:=["sum", "later", "way", "fixed", "a9", "b", "times", "choose", "least", "most", "z0", "put"]
def AO(b k:Nat):Str:=(qx.getD ((b+k)%12) "")++(if k/12=0 then("" : Str)else "x")
def tU(b:Nat):List Str:=(List.range 24).map (AO b)
def wx:List Str->Bool
 | []=>true
 | x::r=>!(r.any (· == x))&&wx r
theorem Up:∀{l:List Str},wx l=true->l.Nodup:=by
 intro r
 induction r with
 | nil =>
  intro _;exact .nil
 | cons x r af =>
  intro h;change(!r.any (· == x)&&wx r)=true at h;simp only[kM,Bool.not_eq_true',List.any_eq_false,beq_iff_eq]at h;exact hY.mpr ⟨fun q=>h.1 x q rfl,af h.2⟩
def wF(s:Str):Bool:=!(s.cps.toList.take 2 == [122,122])&&!(s.cps.toList.take 2 == [121,121])
def kF(s:Str):Prop:=wF s=true
theorem T6:∀b:Nat,b<12->(tU b).all wF=true:=by decide +kernel
theorem T5:∀b:Nat,b<12->(wx (tU b)&&(tU b).all AP)=true:=by decide +kernel
theorem Jh:(Txt.mul "m" (n:Int)).cps.toList=List.replicate n 109:=by
 refine(((by decide +kernel):("m" : Str)=⟨#[109]⟩) ..).symm▸?_;unfold Txt.mul;by_cases J:(n:Int)<1
 ·have:n=0:=by grind
  subst this;refine aC J<&>?_;rfl
 ·refine aV J<&>?_;by_cases L:n=1
  ·refine L▸?_;rfl
  ·rw[aV (by
    have:((n:Int) == 1)=false:=mq.mpr (by grind)
    refine this<&>?_;decide)]
   have key:∀(k:Nat) (acc:Array Nat),((List.replicate k (#[109]:Array Nat)).foldl (·++·) acc).toList=acc.toList++List.replicate k 109:=by
    intro k
    induction k with
    | zero=>intro acc;simp
    | succ k af =>
     intro acc;refine List.replicate_succ<&>i5<&>af<&>?_;simp[List.replicate_succ]
   have:=key n #[];simpa using this
def gM:List Nat:=("abcdefghijklmnopqrstuvwxyz0123456789" : Str).cps.toList
def kf(p q N b k:Nat):List Nat:=List.replicate p 109++gM.getD ((b+k)%N) 0::List.replicate q 109
def lg(p q N b k:Nat):Str:=⟨(kf p q N b k).toArray⟩
def qe(p q N b:Nat):List Str:=(List.range 24).map (lg p q N b)
theorem Bw:gM.length=36/\gM.Nodup/\(∀c∈gM,c∈mN\/c∈vA)/\(∀i,i<26->gM.getD i 0∈mN)/\109∈mN:=by decide +kernel
theorem I7{p q:Nat}{x y:Nat}(h:List.replicate p 109++x::List.replicate q 109=List.replicate p 109++y::List.replicate q 109):x=y:=
 (List.cons.inj (List.append_cancel_left h)).1
theorem Kh(hi:i<36)(aR:j<36)(h:gM.getD i 0=gM.getD j 0):i=j:=by
 refine d6 Bw fun J L u=>?_
 have V:gM.getD i 0=gM[i]'(aE (by assumption) ⋯):=by simp[List.getD,J,hi]
 rw[V,((by simp[List.getD,J,aR]):gM.getD j 0=gM[j]'(aE (by assumption) ⋯))]at h;exact(List.getElem?_inj (by assumption) L).mp ((by rw[cM (aE (by assumption) ⋯),cM (aE (by assumption) ⋯),h]):gM[i]?=gM[j]?)
theorem Jn{p q N b:Nat}(hs:p+1+q<=8)(ax:(p=0/\N=26)\/(0<p/\N=36)):(qe p q N b).Nodup/\∀n∈qe p q N b,h9 n:=by
 have rB:24<=N/\N<=36:=by
  rcases ax with⟨_,rfl⟩ | ⟨_,rfl⟩
  ·decide
  ·decide
 refine ve Bw fun f1 f2 s1 s2 px=>?_;constructor
 ·unfold qe;rw[List.Nodup,List.pairwise_map];refine List.Pairwise.imp_of_mem ?_ (List.nodup_range);intro i j hi aR cQ e;have hi:=List.mem_range.mp hi;have aR:=List.mem_range.mp aR
  have V:kf p q N b i=kf p q N b j:=by
   have:=congrArg (fun s:Str=>s.cps.toList) e;simpa[lg]using this
  have wk:∀{k:Nat},(b+k)%N<36:=de (Nat.mod_lt _ ((de ⋯ rB.1):0<N)) rB.2
  have key:∀i j,j<24->(b+i)%N=(b+j)%N->j<=i:=fun i j aR e=>by
   refine bZ (Nat.le_total j i) (fun h=>?_) (fun h=>?_)
   ·exact h
   ·have z:=Nat.sub_mod_eq_zero_of_mod_eq e.symm;rw[Nat.add_sub_add_left,Nat.mod_eq_of_lt (dW (Nat.sub_le _ _) (de aR rB.1))]at z;exact Nat.le_of_sub_eq_zero z
  exact cQ (Nat.le_antisymm (key j i hi (Kh wk wk (I7 V)).symm) (key i j aR (Kh wk wk (I7 V))))
 ·intro n hn;refine ay (c7.mp hn) fun k hk ae=>?_;subst ae;have aZ:(b+k)%N<N:=Nat.mod_lt _ ((de ⋯ rB.1):0<N)
  have QI:gM.getD ((b+k)%N) 0∈gM:=by
   rw[nc,cM ((by rw[f1];exact de aZ rB.2):(b+k)%N<gM.length)];exact gW ((by rw[f1];exact de aZ rB.2):(b+k)%N<gM.length)
  have hl:(lg p q N b k).length=p+1+q:=by
   show(kf p q N b k).toArray.size=_;simp[kf];(grind)
  refine⟨by rw[hl];exact aE (kN 1 p) (el _ q),hl<&>hs,fun c hc=>?_,fun c hc=>?_⟩
  ·have c1:(kf p q N b k)[0]?=some c:=by simpa[lg]using hc
   rcases ax with⟨rfl,rfl⟩ | ⟨hp,rfl⟩
   ·simp[kf]at c1;refine c1▸?_;have:=s2 _ aZ;simpa[List.getD]using this
   ·obtain⟨l1,rfl⟩:∃l1,p=l1+1:=⟨p-1,by grind⟩;simp[kf,List.replicate_succ]at c1;exact c1▸px
  ·have c1:c∈kf p q N b k:=by simpa[lg]using hc
   simp only[kf,dt,bY,List.mem_replicate]at c1
   rcases c1 with⟨_,rfl⟩ | rfl | ⟨_,rfl⟩
   ·exact .inl px
   ·exact s1 _ QI
   ·exact .inl px
theorem Ba{x y:Nat}{r:List Nat}{s:Str}(h:s.cps.toList=x::y::r)(q:x=109\/y=109):kF s:=by
 unfold kF wF;refine h<&>?_
 rcases q with rfl | rfl
 ·rfl
 ·show(!(x == 122&&(false&&true))&&!(x == 121&&(false&&true)))=true;refine Bool.false_and<&>Bool.and_false<&>Bool.and_false<&>?_;rfl
theorem T7{p q N b:Nat}:∀n∈qe p q N b,kF n:=by
 intro n hn;refine ay (c7.mp hn) fun k hk ae=>?_;subst ae;have e:(lg p q N b k).cps.toList=kf p q N b k:=rfl;generalize lg p q N b k=s at e;unfold kf at e
 cases p with
 | zero =>
  cases q with
  | zero=>unfold kF wF;refine e<&>?_;show(!(_&&false)&&!(_&&false))=true;refine Bool.and_false<&>Bool.and_false<&>?_;rfl
  | succ q=>exact Ba e (.inr rfl)
 | succ p =>
  cases p with
  | zero=>exact Ba e (.inl rfl)
  | succ p=>exact Ba e (.inl rfl)
section
variable {d:Nat}
theorem Bh{g:H->H}{f:Nat->Str}(h:∀k,k<n->g (.int k)=.str (f k)):(cR 0 1 n).map g=((List.range n).map f).map .str:=by
 unfold cR;rw[fE,fE];refine List.map_congr_left fun k hk=>?_;show g (.int (0+(k:Int)*1))=.str (f k);exact(show(0+(k:Int)*1)=k by grind).symm▸(h k (List.mem_range.mp hk))
theorem Ws:∀i,i<12->(qx.map H.str)[i]?=bA (qx.getD i ""):=fun i hi=>by
 rw[fc];have:qx.length=12:=rfl;simp[List.getD,this,hi]
theorem Wt:∀i,i<12->(qx.getD i ("" : Str)).length<=8:=by decide +kernel
noncomputable abbrev ia(a b c e f g h:Option H):aB:=[a,b,c,e,f,g,h,none,none]
theorem T4{c:Int}:ev (CC d) FJ (ia (ag c) (some (.fl (qx.map .str))) none none none none none) S=.ok (.fl ((tU (c/9%12).toNat).map .str)) S:=by
 refine(pn (fun x=>match x with | .int i=>.str (AO (c/9%12).toNat i.toNat) | _=>.none) (sf (n:=24) ⋯ rfl) (by rw[show(cR 0 1 24).length=24 by simp[cR]];decide) fun x hx=>?_).trans (by rw[Bh (f:=AO (c/9%12).toNat) fun k hk=>by rfl];rfl);refine ay (Bi hx) fun k hk ae=>?_;subst ae
 have L:([H.str "",.str "x"])[((k:Int)/12).toNat]?=bA (if k/12=0 then("" : Str)else "x"):=by
  exact(rfl:((k:Int)/12).toNat=k/12).symm▸(f3 (P:=fun i=>([H.str "",.str "x"])[i]?=bA (if i=0 then("" : Str)else "x")) (f3 uX rfl) rfl _ (Nat.div_lt_of_lt_mul hk))
 refine cj (x:=.str (qx.getD (((c/9%12).toNat+k)%12) "")) (y:=.str (if k/12=0 then("" : Str)else "x")) (ak:=S) (aH:=S) ?_ ?_ ?_
 ·refine dO (ak:=S) rfl rfl (jq (show(12:Nat)<=aL by decide) (fq _ ⋯) ?_);exact((CK ⋯):((c/9+k)%12).toNat=((c/9%12).toNat+k)%12).symm▸(Ws _ ((Nat.mod_lt _ ⋯):((c/9%12).toNat+k)%12<12))
 ·exact dO (ak:=S) rfl rfl (jq (show(2:Nat)<=aL by decide) (ea _) L)
 ·have d8:=Wt _ ((Nat.mod_lt _ ⋯):((c/9%12).toNat+k)%12<12)
  have f6:(if k/12=0 then("" : Str)else "x").length<=1:=by split <;> decide +kernel
  rw[add_str (by refine fj<&>?_;(grind))];rfl
theorem Ji{n:Int}(h0:0<=n)(J:n<=100):kQ .mul (.str "m") (.int n) S=.ok (.str (Txt.mul "m" n)) S:=by
 show(if("m" : Str).length<=100/\0<=n/\n<=100 then aj.ok (H.str (Txt.mul "m" n)) S else .stuck)=_;exact aC ⟨by decide +kernel,h0,J⟩
theorem xV{v:H}(h:Y.length<1000):kn .append (.ref cH.length) [v] (cH++[.lst Y])=.ok .none (cH++[.lst (Y++[v])]):=by
 show lC (.ref cH.length) v (cH++[.lst Y])=_;unfold lC;dsimp only;rw[((by simp):(cH++[aX.lst Y])[cH.length]?=some (.lst Y))];dsimp only;rw[aC (by rw[fj];(exact aE (by assumption) ⋯))];simp
theorem nG{m:iE}(hm:m=.append\/m=.extend\/m=.pop):qa m (.ref cH.length) (cH++.lst Y::τ)=true:=by
 have:jH (.ref cH.length) (cH++.lst Y::τ)=true:=by unfold jH;dsimp only;exact(((by simp):(cH++aX.lst Y::τ)[cH.length]?=some (.lst Y)) ..).symm▸rfl
 rcases hm with rfl | rfl | rfl <;> exact this
theorem Yg{c:Int}{p q N k:Nat}(hs:p+1+q<=8)(ax:(p=0/\N=26)\/(0<p/\N=36))(acc:List Str)(zC:acc.length<100){z:Option H} :
  ex (CC d) topN yS (ia (ag c) (bA "abcdefghijklmnopqrstuvwxyz0123456789") (ag k) (ag ((p+1+q:Nat):Int)) (ag p) (aT S.length) z) (S++[.lst (acc.map .str)]) =
   .next (ia (ag c) (bA "abcdefghijklmnopqrstuvwxyz0123456789") (ag k) (ag ((p+1+q:Nat):Int)) (ag p) (aT S.length) (bA ⟨#[gM.getD (((c/64%N).toNat+k)%N) 0]⟩)) (S++[.lst ((acc++[lg p q N (c/64%N).toNat k]).map .str)]):=by
 refine ve Bw fun f1 f2 s1 s2 px=>?_
 have Qc:0<N:=by grind
 have Q8:([H.int 26,.int 36])[(if decide ((p:Int) > 0)=true then 1 else 0:Int).toNat]?=ag N:=by
  rcases ax with⟨rfl,rfl⟩ | ⟨hp,rfl⟩
  ·rfl
  ·rw[c6 (by grind)];rfl
 have ce:ex (CC d) topN (.asg 6 (.sub (.v 1) (.bin .mod (.bin .add (.bin .fdiv (.v 0) (ai 64)) (.v 2)) (.sub (.lst true #v[(ai 26),(ai 36)]) (.b1 .int (.cmp (.v 4) .gt (ai 0))))))) (ia (ag c) (bA "abcdefghijklmnopqrstuvwxyz0123456789") (ag k) (ag ((p+1+q:Nat):Int)) (ag p) (aT S.length) z) (S++[.lst (acc.map .str)]) =
   .next (ia (ag c) (bA "abcdefghijklmnopqrstuvwxyz0123456789") (ag k) (ag ((p+1+q:Nat):Int)) (ag p) (aT S.length) (bA ⟨#[gM.getD (((c/64%N).toNat+k)%N) 0]⟩)) (S++[.lst (acc.map .str)]):=by
  generalize d7:S++[aX.lst (acc.map .str)]=O;refine b6 (dO rfl (cj rfl (dO (ak:=O) rfl (da (jE (ak:=O) (aH:=O) rfl rfl gt_int) int_bool) (jq (show(2:Nat)<=aL by decide) (by split <;> decide) Q8)) (gw (eK.mpr (by assumption)))) (KA (by decide +kernel) (fq _ (Int.ofNat_ne_zero.mpr (du (by assumption)))) ?_));refine(((CK (du Qc)):((c/64+k)%N).toNat=((c/64%N).toNat+k)%N) ..).symm▸?_;show gM[((c/64%N).toNat+k)%N]?=_;simp[List.getD,f1,show((c/64%N).toNat+k)%N<36 by grind]
 apply(ar ce).trans;refine(ar (f4 (h4 rfl (nG (.inl rfl)) (y:=.str (lg p q N (c/64%N).toNat k)) (aH:=S++[.lst (acc.map .str)]) ?_ (xV (by refine a9<&>?_;(exact aE (by assumption) ⋯)))))).trans (by refine bC<&>?_;rw[fC];rfl);generalize S++[aX.lst (acc.map .str)]=O;have hp:Txt.mul "m" (p:Int)=⟨(List.replicate p 109).toArray⟩:=Str.ext' (Array.toList_inj.mp (by rw[Jh]))
 have hq:Txt.mul "m" (((p+1+q:Nat):Int)-1-p)=⟨(List.replicate q 109).toArray⟩:=by
  rw[show((p+1+q:Nat):Int)-1-p=(q:Int) by grind];exact Str.ext' (Array.toList_inj.mp (by rw[Jh]))
 refine cj (cj (cj (ak:=O) (aH:=O) rfl rfl (Ji (ea _) (by grind))) (aH:=O) rfl (add_str ?_)) (cj (x:=.str "m") (ak:=O) rfl rfl (Ji (by grind) (by grind))) ?_
 ·rw[hp,fj];show(List.replicate p 109).toArray.size+1<=_;simp;(grind)
 ·rw[hp,hq,add_str]
  ·congr 1;refine congrArg H.str (Str.ext' ?_);simp[Str.cps_append,lg,kf]
  ·refine Str.length_append<&>?_;rw[fj];show(List.replicate p 109).toArray.size+1+(List.replicate q 109).toArray.size<=_;simp;(exact aE (by assumption) ⋯)
theorem S5{c:Int}{p q N:Nat}(hs:p+1+q<=8)(ax:(p=0/\N=26)\/(0<p/\N=36)):∀(n k:Nat) (acc:List Str) (y z:Option H),acc.length=k->k+n<=24->∃bI b8,
  ch none (dj 2) (fun R S=>ex (CC d) topN yS R S) ((List.range' k n).map fun(i:Nat)=>H.int i) (ia (ag c) (bA "abcdefghijklmnopqrstuvwxyz0123456789") y (ag ((p+1+q:Nat):Int)) (ag p) (aT S.length) z) (S++[.lst (acc.map .str)]) =
   .next (ia (ag c) (bA "abcdefghijklmnopqrstuvwxyz0123456789") bI (ag ((p+1+q:Nat):Int)) (ag p) (aT S.length) b8) (S++[.lst ((acc++(List.range' k n).map (lg p q N (c/64%N).toNat)).map .str)]):=by
 intro n
 induction n with
 | zero =>
  intro k acc y z _ _;exact eQ y z (by simpa using e3)
 | succ n af =>
  intro k acc y z J L;refine eM (af (k+1) (acc++[lg p q N (c/64%N).toNat k]) (ag k) (bA ⟨#[gM.getD (((c/64%N).toNat+k)%N) 0]⟩) (by refine cD<&>J<&>?_;rfl) (by grind)) fun bI b8 af=>?_;refine eQ bI b8 (List.range'_succ<&>dX<&>((ez rfl (Yg hs ax acc (by grind))).trans (af.trans ?_)));simp[cN]
theorem PZ(c:Int):∃names:List Str,names.length=24/\names.Nodup/\(∀n∈names,h9 n)/\(∀n∈names,kF n) ∧
  ((∀d,bU PP topN (d+1) tH [.int c] []=.ok (.fl (names.map .str)) [])\/(∀d,bU PP topN (d+1) tH [.int c] []=.ok (.ref 0) [.lst (names.map .str)])):=by
 have um:∀d,tst (CC d) (.cmp (.bin .mod (.v 0) (ai 9)) .eq (ai 8)) (ia (ag c) none none none none none none) []=.ok (c%9 == 8) []:=fun d =>
  c3 rfl rfl rk
 have fin:∀{d:Nat} {v:H} {R:aB} {S:ab},ex (CC d) topN FI.body (ia (ag c) none none none none none none) []=.ret v R S->bU PP topN (d+1) tH [.int c] []=.ok v S:=fun{d v R S} h=>by
  rw[cO rfl rfl];refine h<&>?_;rfl
 by_cases Hs:c%9=8
 ·have jO:=fq (c/9) (show(12:Int)≠0 by decide);have n1:=gj (c/9) (show(0:Int)<12 by decide);have g:=T5 (c/9%12).toNat (toNat_lt' jO n1);rw[kM]at g;refine DR (tU (c/9%12).toNat) (rfl) (Up g.1) (fun n hn=>T0 (hN.mp g.2 n hn)) (fun n hn=>hN.mp (T6 (c/9%12).toNat (toNat_lt' (n:=12) jO n1)) n hn) (.inl fun d=>fin (bV ((eg ((um d).trans (by refine Hs<&>?_;rfl))).trans ((ar (σ':=[]) rfl).trans (bV (dF T4))))))
 ·have pe:=fq c (show(8:Int)≠0 by decide);have dL:=gj c (show(0:Int)<8 by decide);have b1:=gj (c/8) ((Int.lt_of_lt_of_le ⋯ (Int.le_add_of_nonneg_right pe)):(0:Int)<1+c%8);refine aF (jw (fq (c/8) (Int.ne_of_gt ((Int.lt_of_lt_of_le ⋯ (Int.le_add_of_nonneg_right pe)):(0:Int)<1+c%8)))) fun p hp=>?_;refine aF (jw pe) fun e he=>?_;rw[hp,he]at b1;rw[he]at dL;have HR:p<1+e:=eK.mp b1;rw[Nat.add_comm]at HR
  have hq:1+c%8=((p+1+(e-p):Nat):Int):=by
   refine he<&>i4<&>Nat.add_sub_cancel' (lA HR)<&>Nat.add_comm<&>?_;rfl
  generalize e-p=q at hq
  have hs:p+1+q<=8:=by rw[he]at hq;exact(Int.ofNat.inj hq:1+e=p+1+q)▸kK (lA (eK.mp dL)) 1
  obtain⟨N,ax⟩:∃N:Nat,(p=0/\N=26)\/(0<p/\N=36):=by
   exact bZ (Nat.eq_zero_or_pos p) (fun q=>⟨26,.inl ⟨q,rfl⟩⟩) fun q=>⟨36,.inr ⟨q,rfl⟩⟩
  refine DR (qe p q N (c/64%N).toNat) (rfl) ((Jn hs ax).1) ((Jn (b:=(c/64%N).toNat) hs ax).2) T7 (.inr fun d=>eM (S5 (d:=d) (S:=[]) (c:=c) hs ax 24 0 [] none none rfl ⋯) fun bI b8 hl=>?_);apply fin
  have V:ex (CC d) topN FL (ia (ag c) none none none none none none) []=.next (ia (ag c) none none (ag ((p+1+q:Nat):Int)) none none none) []:=by
   exact b6 ((cj rfl rfl add_int).trans (hq<&>rfl))
  have ah:ex (CC d) topN FM (ia (ag c) none none (ag ((p+1+q:Nat):Int)) none none none) []=.next (ia (ag c) none none (ag ((p+1+q:Nat):Int)) (ag p) none none) []:=by
   refine b6 ((cj rfl (aH:=[]) rfl (gw (by grind))).trans ?_);exact hq<$>hp<&>rfl
  have kg:ex (CC d) topN FN (ia (ag c) (bA "abcdefghijklmnopqrstuvwxyz0123456789") none (ag ((p+1+q:Nat):Int)) (ag p) (aT 0) none) [.lst []] =
    .next (ia (ag c) (bA "abcdefghijklmnopqrstuvwxyz0123456789") bI (ag ((p+1+q:Nat):Int)) (ag p) (aT 0) b8) [.lst ((qe p q N (c/64%N).toNat).map .str)]:=by
   refine e2 ((sf ⋯ rfl).trans ?_) (hl.trans ?_)
   ·have:cR 0 1 24=(List.range' 0 24).map fun(i:Nat)=>H.int i:=by
     unfold cR;refine ng<&>?_;refine List.map_congr_left fun i u=>?_;congr 1;(grind)
    exact this<&>rfl
   ·simp[qe,ng]
  exact(ar ((cB (σ':=[]) ((um d).trans ((show(c%9 == 8)=false from mq.mpr Hs ..).symm▸rfl))):ex (CC d) topN FK (ia (ag c) none none none none none none) []=.next (ia (ag c) none none none none none none) [])).trans ((ar V).trans ((ar ah).trans (rfl.trans (rfl.trans ((ar kg).trans rfl)))))
end
noncomputable abbrev xG(s nm many room pl k fr sp pick rule more nd gv wt md:Option H):aB:=
 [s,ag 0,nm,many,room,pl,k,fr,sp,pick,rule,more,nd,gv,wt,md,none,none,none,none,none,none,none,none,none,none]
structure o9 where
 pk:Option H
 rl:Option H
 mr:Option H
 nd:Option H
 gv:Option H
 wt:Option H
 md:Option H
def gS(aU:ab)(l:List Int)(ct:H)(many room:Option H)(cS:List Str)(k:Option H)(v:o9):aB:=xG (some (.fl (l.map .int))) (some ct) many room (aT aU.length) k (aT (aU.length+1)) (some (.fl (cS.map .str))) v.pk v.rl v.mr v.nd v.gv v.wt v.md
noncomputable abbrev cg(aU:ab)(p:List H)(f:List Str):ab:=aU++[.lst p,.lst (f.map .str)]
section
variable {d:Nat}
theorem D2:∀(f:List Str) (i:Nat),(f.map H.str).eraseIdx i=(f.eraseIdx i).map .str
 | [],_=>rfl
 | _::_,0=>rfl
 | x::f,i+1=>by
  show H.str x::(f.map H.str).eraseIdx i=H.str x::(f.eraseIdx i).map .str;exact congrArg _ (D2 f i ..)
theorem D3:∀(f:List Str) (i:Nat) (h:i<f.length),(f[i]::f.eraseIdx i).Perm f
 | [],_,h=>(nomatch h)
 | _::_,0,_=>.refl _
 | x::f,i+1,h=>by
  have:=D3 f i (by simpa using h);exact(List.Perm.swap x _ _).trans (.cons x this)
theorem u0{p:List H}{f:List Str}:(cg aU p f)[aU.length+1]?=some (.lst (f.map .str)):=by simp[cg,gh]
theorem sP{p:List H}{f:List Str}:(cg aU p f)[aU.length]?=some (.lst p):=by simp[cg,gh]
theorem IP{p:List H}{f:List Str}(h:f.length<=100):dN .len (.ref (aU.length+1)) (cg aU p f)=.ok (.int f.length) (cg aU p f):=by
 rw[IQ ((by unfold eB;dsimp only;rw[u0]):eB (cg aU p f) (.ref (aU.length+1))=some (f.map .str)) (fun u q=>by cases q) (l5 h),a9]
theorem U7{p:List H}{f:List Str}{i:Int}{x:Str}(h:f.length<=100)(h0:0<=i)(hx:f[i.toNat]?=some x) :
  kn .pop (.ref (aU.length+1)) [.int i] (cg aU p f)=.ok (.str x) (cg aU p (f.eraseIdx i.toNat)):=by
 show qh (.ref (aU.length+1)) (.int i) (cg aU p f)=_;unfold qh;dsimp only;rw[u0];dsimp only;rw[aC ⟨h0,l5 h⟩,fc,hx];congr 1;rw[((by simp[cg]):cg aU p f=(aU++[.lst p])++[.lst (f.map .str)]),List.set_append_right _ _ (by simp)];simp[cg,D2]
theorem Nt{f:H->ab->aj (Option H)}{x v:H}(J:f x S=.ok (some v) ak)(L:dY none f Y ak=.ok ys aH):dY none f (x::Y) S=.ok (v::ys) aH:=by
 apply(aC trivial).trans;rw[J];show(dY none f Y ak).bind _=_;rw[L];rfl
theorem NN{p:List H}{more:Int}:∀(lR:List Nat) (f:List Str),lR.length<=f.length->f.length<=100->∃made vm,made.length=lR.length/\(made++vm).Perm f ∧
  dY none (fun x S=>(tst (CC (d+1)) (.k (.bool true)) (([none,none,none,none,aT (aU.length+1),ag more]:aB).set 1 (some x)) S).bind fun b S=>if b then(ev (CC (d+1)) (.me .pop (.v 4) #v[(.bin .mod (.call ji #v[(.bin .add (.bin .add (.v 5) (.bin .mul (ai 31) (.v 1))) (ai 5))]) (.b1 .len (.v 4)))]) (([none,none,none,none,aT (aU.length+1),ag more]:aB).set 1 (some x)) S).bind fun v S=>.ok (some v) S else .ok none S) (lR.map fun(j:Nat)=>H.int j) (cg aU p f) =
   .ok (made.map .str) (cg aU p vm):=by
 intro lR
 induction lR with
 | nil=>intro f _ _;exact jF ([]) f rfl (.refl _) (aC trivial)
 | cons j lR af =>
  intro f J L
  have a7:0<f.length:=by rw[dD]at J;(grind)
  have n1:=gj (eU (more+31*j+5)) (show(0:Int)<((f.length:Nat):Int) by(exact eK.mpr (by assumption)))
  have hi:(eU (more+31*j+5)%((f.length:Nat):Int)).toNat<f.length:=by grind
  generalize bg:(eU (more+31*j+5)%((f.length:Nat):Int)).toNat=i at hi;obtain⟨made,vm,aZ,bH,jL⟩:=af (f.eraseIdx i) (by rw[List.length_eraseIdx,aC hi];rw[dD]at J;(grind)) (aE (List.length_eraseIdx_le f i) L);refine jF (f[i]::made) vm (by rw[dD,aZ,dD]) ?_ ?_
  ·rw[List.cons_append];exact(List.Perm.cons _ bH).trans (D3 f i hi)
  ·have e:ev (CC (d+1)) (.me .pop (.v 4) #v[(.bin .mod (.call ji #v[(.bin .add (.bin .add (.v 5) (.bin .mul (ai 31) (.v 1))) (ai 5))]) (.b1 .len (.v 4)))]) (([none,none,none,none,aT (aU.length+1),ag more]:aB).set 1 (ag j)) (cg aU p f)=.ok (.str f[i]) (cg aU p (f.eraseIdx i)):=by
    refine h4 rfl ?_ (y:=.int (eU (more+31*j+5)%((f.length:Nat):Int))) (aH:=cg aU p f) ?_ ?_
    ·show jH (.ref (aU.length+1)) (cg aU p f)=true;unfold jH;dsimp only;rw[u0]
    ·exact cj (ef rfl lK) (da (x:=.ref (aU.length+1)) (ak:=cg aU p f) rfl (IP L)) (gw (eK.mpr (by assumption)))
    ·rw[U7 L (fq (eU (more+31*j+5)) (show((f.length:Nat):Int)≠0 by(exact Int.ofNat_ne_zero.mpr (du (by assumption))))) (ey (congrArg _ bg) ((by simp[hi]):f[i]?=some f[i])),bg]
   refine Nt ?_ jL;show((ev _ _ _ _).bind fun v S=>aj.ok (some v) S)=_;rw[e];rfl
theorem Yr{more:Int}{nd:Nat}(hs:1<=cS.length)(hl:cS.length<=100)(hn:nd<=4){s nm pl k fr pick rule gv wt md:Option H} :
  ∃lp:List Str,lp.length=nd/\(∀w∈lp,w∈cS)/\ev (CC (d+1)) F3 (xG s nm many room pl k fr (some (.fl (cS.map .str))) pick rule (ag more) (ag nd) gv wt md) S=.ok (.fl (lp.map .str)) S:=by
 refine b3 ((List.range nd).map fun(j:Nat)=>cS.getD (eU (more+7*(j:Int))%((cS.length:Nat):Int)).toNat "") (by simp) (fun w hw=>?_) ?_
 ·refine ay (c7.mp hw) fun j aR ae=>ae▸?_;have jO:=fq (eU (more+7*j)) (show((cS.length:Nat):Int)≠0 by(exact Int.ofNat_ne_zero.mpr (du (by assumption))));have n1:=gj (eU (more+7*j)) (show(0:Int)<((cS.length:Nat):Int) by(exact eK.mpr (by assumption)))
  have hi:(eU (more+7*j)%((cS.length:Nat):Int)).toNat<cS.length:=by grind
  have:cS.getD (eU (more+7*j)%((cS.length:Nat):Int)).toNat "" = cS[(eU (more+7*j)%((cS.length:Nat):Int)).toNat]:=by simp[List.getD,hi]
  rw[this];exact gW hi
 ·refine(pn (fun x=>match x with | .int i=>.str (cS.getD (eU (more+7*i)%((cS.length:Nat):Int)).toNat "") | _=>.none) (sf (aE (by assumption) ⋯) rfl) (by rw[show(cR 0 1 nd).length=nd by simp[cR]];exact aE hn ⋯) fun x hx=>?_).trans (by rw[Bh fun k hk=>rfl]);refine ay (Bi hx) fun j aR ae=>ae▸?_;have jO:=fq (eU (more+7*j)) (show((cS.length:Nat):Int)≠0 by(exact Int.ofNat_ne_zero.mpr (du (by assumption))));have n1:=gj (eU (more+7*j)) (show(0:Int)<((cS.length:Nat):Int) by(exact eK.mpr (by assumption)));refine dO rfl (cj (ef rfl lK) (da (x:=.fl (cS.map .str)) (ak:=S) rfl ((by rw[rP (l5 hl),a9]):dN .len (.fl (cS.map .str)) S=.ok (.int cS.length) S)) (gw (eK.mpr (by assumption)))) (jq (l5 hl) jO ?_);rw[fc];simp[List.getD,((by grind):(eU (more+7*j)%((cS.length:Nat):Int)).toNat<cS.length)]
end
def dJ.head:dJ->Str
 | .word w=>w
 | .fixed _ => "fixed"
def oE(more:Int):Nat:=[1,1,1,2,3].getD (more/4%5).toNat 1
theorem Hk(more:Int):([H.int 1,.int 1,.int 1,.int 2,.int 3])[(more/4%5).toNat]?=ag (oE more)/\1<=oE more/\oE more<=3:=by
 have jO:=fq (more/4) (show(5:Int)≠0 by decide);have n1:=gj (more/4) (show(0:Int)<5 by decide);unfold oE;generalize more/4%5=x at jO n1;refine v8 (P:=fun x=>([H.int 1,.int 1,.int 1,.int 2,.int 3])[x.toNat]?=ag ([1,1,1,2,3].getD x.toNat 1:Nat)/\1<=[1,1,1,2,3].getD x.toNat 1/\[1,1,1,2,3].getD x.toNat 1<=3) ?_ jO n1;refine f3 (f3 (f3 (f3 (f3 uX ?_) ?_) ?_) ?_) ?_ <;> exact⟨rfl,by decide,by decide⟩
theorem HD{r:dJ}(h:j4 r):ga r.pv (.int 0) S=.ok (.str r.head) S:=by cases h <;> rfl
structure xD(r:dJ)(more:Int)(nd gv:Nat):Prop where
 n1:1<=nd
 n4:nd<=4
 g1:1<=gv
 g3:gv<=3
 ok:∀g:Nat,((r.head == ("way" : Str))=true->g=2)->gf r nd g
 way:(r.head == ("way" : Str))=true->gv=2
 nd_eq:(jU r.head ((["way", "choose"]:List Str).zip [.int 2,.int 3])).getD (.int (if(r.head == ("later" : Str))=true then 1 else 1+more%4))=.int nd
 gv_eq:(jU r.head ((["way"]:List Str).zip [.int 2])).getD (.int (oE more))=.int gv
theorem Sf{r:dJ}(h:j4 r)(more:Int):∃nd gv,xD r more nd gv:=by
 refine d6 (Hk more) fun u g1 g3=>?_
 have t4:∀(r:dJ),(r.head == ("way" : Str))=false->(r.head == ("later" : Str))=false->(∀n g,gf r n g)->jU r.head ((["way", "choose"]:List Str).zip [H.int 2,.int 3])=none->jU r.head ((["way"]:List Str).zip [H.int 2])=none->∃nd gv,xD r more nd gv:=by
  intro r a b c e f;refine⟨(1+more%4).toNat,oE more,by grind,by grind,g1,g3,fun g u=>c _ _,fun q=>(by rw[a]at q;cases q),?_,?_⟩
  ·refine e<&>b<&>?_;show H.int (1+more%4)=_;exact congrArg _ (((by grind):(1+more%4)=(((1+more%4).toNat:Nat):Int)) ..)
  ·rw[f];rfl
 cases h with
 | sum=>exact t4 _ (by decide +kernel) (by decide +kernel) (fun n g=>.sum n g) rfl rfl
 | times=>exact t4 _ (by decide +kernel) (by decide +kernel) (fun n g=>.times n g) rfl rfl
 | least=>exact t4 _ (by decide +kernel) (by decide +kernel) (fun n g=>.least n g) rfl rfl
 | most=>exact t4 _ (by decide +kernel) (by decide +kernel) (fun n g=>.most n g) rfl rfl
 | fixed v fY aY=>exact t4 _ (show(("fixed" : Str) == "way")=false by decide +kernel) (show(("fixed" : Str) == "later")=false by decide +kernel) (fun n g=>.fixed v n g fY aY) rfl rfl
 | later =>
  refine⟨1,oE more,by decide,by decide,g1,g3,fun g u=>.later g,fun q=>(by rw[show(dJ.head (.word "later") == ("way" : Str))=false by decide +kernel]at q;cases q),?_,rfl⟩;rw[show(dJ.head (.word "later") == ("later" : Str))=true by decide +kernel];rfl
 | way=>exact⟨2,2,by decide,by decide,by decide,by decide,fun g hg=>by rw[hg (by decide +kernel)];exact .way,fun u=>rfl,rfl,rfl⟩
 | choose=>exact⟨3,oE more,by decide,by decide,g1,g3,fun g u=>.choose g,fun q=>(by rw[show(dJ.head (.word "choose") == ("way" : Str))=false by decide +kernel]at q;cases q),rfl,rfl⟩
section
variable {d:Nat}
theorem I9(a b:Nat):min (a:Int) (b:Int)=((min a b:Nat):Int):=by
 refine bZ (Nat.le_total a b) (fun h=>?_) (fun h=>?_)
 ·rw[Int.min_eq_left (ig.mpr h),gX h]
 ·rw[Int.min_eq_right (ig.mpr h),Nat.min_eq_right h]
theorem Py(hl:l.length<=63){k fl:Nat}{v:o9}{O:ab}(a7:dN .len (.ref (aU.length+1)) O=.ok (.int (fl:Nat)) O) :
  ∃(pick more:Int) (r:dJ) (n g:Nat),j4 r/\xD r more n g/\∀rest,ex (CC (d+2)) topN (.cons F9 (.cons Ga (.cons Gc (.cons Gd (.cons Ge (.cons yZ (.cons Gf rest)))))))
   (gS aU l ct many room cS (ag (k:Nat)) v) O=ex (CC (d+2)) topN rest (gS aU l ct many room cS (ag (k:Nat)) ⟨ag pick,some r.pv,ag more,ag (n:Nat),ag ((min g fl:Nat):Int),v.wt,v.md⟩) O:=by
 have c8:ev (CC (d+2)) (.call ji #v[(.bin .add (.call gu #v[(.v 0),(.bin .add (.bin .add (.v 1) (ai 3)) (.bin .mod (.v 6) (ai 8)))]) (.bin .mul (ai 977) (.v 6)))]) (gS aU l ct many room cS (ag (k:Nat)) v) O=_:=
  ef (cj (jb (y:=.int ((3+k%8:Nat):Int)) rfl (by refine Int.natCast_add<&>Int.natCast_emod<&>?_;rfl) (pE hl)) (aH:=O) rfl add_int) (lK (d:=d+1))
 generalize eU (l.getD (3+k%8) 0+977*(k:Int))=pick at c8;refine ay (P0 (p:=eU pick) (fq (pick/5) (show(12:Int)≠0 by decide)) (gj (pick/5) (show(0:Int)<12 by decide))) fun r tu Q6=>?_;have ah:=fun{S:ab}=>lK (d:=d+1) (S:=S) (p:=pick+1);generalize eU (pick+1)=more at ah;refine eM (Sf tu more) fun n g K=>?_;have hd:∀{R:aB},ev (CC (d+2)) (.v 10) R O=.ok r.pv O->ev (CC (d+2)) (.sub (.v 10) (ai 0)) R O=.ok (.str r.head) O:=fun h=>dO h (aH:=O) rfl (HD tu)
 have Rp:∀b:Bool,ga (.fl [.int (1+more%4),.int 1]) (.int (if b then 1 else 0)) O=.ok (.int (if b=true then 1 else 1+more%4)) O:=fun b=>by cases b <;> rfl
 refine ym pick more r n g tu K (fun rest=>ey (ar (b6 c8)) (ey (ar (b6 (jb (ef (ak:=O) rfl lK) (aH:=O) rfl Q6))) (ey (ar (b6 (ef (ak:=O) rfl ah))) (ey (ar (b6 (dO (ak:=O) rfl (da (jE (hd rfl) (aH:=O) rfl vf) int_bool) (Rp _)))) (ey (ar (b6 ((DM (hd rfl) (aH:=O) rfl).trans (congrArg (fun x=>aj.ok x O) K.nd_eq)))) ?_)))));apply ey (ar (a:=yZ) (b6 ((DM (hd rfl) (dO (x:=.fl [.int 1,.int 1,.int 1,.int 2,.int 3]) (ak:=O) rfl (aH:=O) rfl (jq (show(5:Nat)<=aL by decide) (fq (more/4) (show(5:Int)≠0 by decide)) (Hk more).1))).trans (congrArg (fun x=>aj.ok x O) K.gv_eq))));exact ey (ar (b6 (DN (ak:=O) rfl (da (ak:=O) rfl a7) (congrArg (fun x=>aj.ok (H.int x) O) (I9 g fl))))) rfl
theorem Ye(hl:l.length<=63){names free:List Str}{steps:List az}(hk:steps.length<20)
  (fT:∀τ (i:Nat),i<24->ga ct (.int i) (aU++τ)=.ok (.str (names.getD i "")) (aU++τ)) (z5:1<=cS.length) (z4:cS.length<=100) (vQ:free.length<=100)
  (pM:∀i,i<24->h9 (names.getD i "")) (z6:∀n∈cS,h9 n) (QF:∀n∈free,h9 n) (tm:free.Nodup) (v:o9) :
  ∃c4:o9,
   (ex (CC (d+2)) topN vx (gS aU l ct many room cS (ag steps.length) v) (cg aU (steps.map az.pv) free) =
    .brk (gS aU l ct many room cS (ag steps.length) c4) (cg aU (steps.map az.pv) free)) ∨
   ∃s g0,hI s/\s.name=names.getD (23-steps.length) "" /\ (s.gives++g0).Perm free ∧
    ex (CC (d+2)) topN vx (gS aU l ct many room cS (ag steps.length) v) (cg aU (steps.map az.pv) free) =
    .next (gS aU l ct many room cS (ag steps.length) c4) (cg aU ((steps++[s]).map az.pv) g0):=by
 refine NW (Py (d:=d) (aU:=aU) hl (cS:=cS) (ct:=ct) (many:=many) (room:=room) (k:=steps.length) (v:=v) (IP (p:=steps.map az.pv) vQ)) fun pick more r n g tu K zi=>?_;have gl:min g free.length<=free.length:=Nat.min_le_right _ _;have zl:min g free.length<=g:=Nat.min_le_left _ _;generalize min g free.length=gg at zi gl zl
 have cond:tst (CC (d+2)) (.or #v[(.cmp (.v 13) .eq (ai 0)),(.and #v[(.cmp (.sub (.v 10) (ai 0)) .eq (.k (.str "way"))),(.cmp (.v 13) .lt (ai 2))])]) (gS aU l ct many room cS (ag steps.length) ⟨ag pick,some r.pv,ag more,ag (n:Nat),ag (gg:Nat),v.wt,v.md⟩) (cg aU (steps.map az.pv) free)=.ok (((gg:Int) == 0)||((r.head == ("way" : Str))&&decide ((gg:Int)<2))) (cg aU (steps.map az.pv) free):=
  lj (BE rfl fun u=>ll (kt (oY (c3 (dO (ak:=cg aU (steps.map az.pv) free) rfl rfl (HD tu)) (aH:=cg aU (steps.map az.pv) free) rfl vf) fun u=>l8 rfl)))
 cases hb:(((gg:Int) == 0)||((r.head == ("way" : Str))&&decide ((gg:Int)<2)))with
 | true =>
  rw[hb]at cond;exact⟨_,.inl ((zi _).trans (Ot ((eg cond).trans rfl)))⟩
 | false =>
  rw[hb]at cond;refine aN (Bool.or_eq_false_iff.mp hb) fun lL hb2=>?_
  have PX:(r.head == ("way" : Str))=true->gg=2:=fun q=>by
   rw[q,Bool.true_and]at hb2;exact Nat.le_antisymm (K.way q▸zl) (ig.mp (Int.not_lt.mp (lz hb2)))
  refine bw (Yr (d:=d+1) (S:=cg aU (steps.map az.pv) free) (more:=more) z5 z4 K.n4 (s:=some (.fl (l.map .int))) (nm:=some ct) (many:=many) (room:=room) (pl:=aT aU.length) (k:=ag steps.length) (fr:=aT (aU.length+1)) (pick:=ag pick) (rule:=some r.pv) (gv:=ag (gg:Nat)) (wt:=v.wt) (md:=v.md)) fun lp xh Yw Ri=>?_;refine gH (NN (d:=d+1) (aU:=aU) (p:=steps.map az.pv) (more:=more) (List.range' 0 gg) free (by rw[List.length_range'];exact gl) vQ) fun made g0 dl dp QA=>?_;rw[List.length_range']at dl
  have hr:cR 0 1 gg=(List.range' 0 gg).map fun(j:Nat)=>H.int j:=by
   unfold cR;refine ng<&>?_;exact List.map_congr_left fun i u=>Int.mul_one<&>Int.zero_add<&>rfl
  have ye:ev (CC (d+2)) F4 (gS aU l ct many room cS (ag steps.length) ⟨ag pick,some r.pv,ag more,ag (n:Nat),ag (gg:Nat),some (.fl (lp.map .str)),v.md⟩) (cg aU (steps.map az.pv) free)=.ok (.fl (made.map .str)) (cg aU (steps.map az.pv) g0):=by
   show ev (CC (d+2)) (.comp true 1 _ _ _ _) _ _=_;rw[np,show(CC (d+2)).hd=false from rfl,sf ((aE gl vQ):gg<=100) rfl,cr,hr];exact(congrArg (fun o:aj (List H)=>h3 ((List.range' 0 gg).map fun(j:Nat)=>H.int j).length o fun ys S=>eO true ys S) QA).trans (oQ (l5 (by refine dl<&>?_;exact((aE gl vQ):gg<=100))))
  have K9:lp.length<=4:=xh▸K.n4;have DE:made.length<=3:=dl▸aE zl K.g3;have R9:23-((steps.length:Nat):Int)=((23-steps.length:Nat):Int):=(Int.ofNat_sub (aE (b4 hk) ⋯)).symm
  have NO:ex (CC (d+2)) topN Gb (gS aU l ct many room cS (ag steps.length) ⟨ag pick,some r.pv,ag more,ag (n:Nat),ag (gg:Nat),some (.fl (lp.map .str)),some (.fl (made.map .str))⟩) (cg aU (steps.map az.pv) g0)=.next (gS aU l ct many room cS (ag steps.length) ⟨ag pick,some r.pv,ag more,ag (n:Nat),ag (gg:Nat),some (.fl (lp.map .str)),some (.fl (made.map .str))⟩) (cg aU ((steps++[az.mk (names.getD (23-steps.length) "") r lp made]).map az.pv) g0):=by
   refine f4 (h4 rfl (nG (.inl rfl)) (y:=az.pv (az.mk (names.getD (23-steps.length) "") r lp made)) (mB (vs:=[.str (names.getD (23-steps.length) ""),r.pv,.tup (lp.map .str),.tup (made.map .str)]) (dm (dO (ak:=cg aU (steps.map az.pv) g0) (aH:=cg aU (steps.map az.pv) g0) rfl rfl (R9▸fT _ _ (dW (Nat.sub_le _ _) ⋯))) (dm (x:=r.pv) (ak:=cg aU (steps.map az.pv) g0) rfl (dm (da (ak:=cg aU (steps.map az.pv) g0) rfl (K1 (l5 (aE K9 ⋯)))) (dm (da (ak:=cg aU (steps.map az.pv) g0) rfl (K1 (l5 (aE DE ⋯)))) rfl)))) (show(4:Nat)<=aL by decide)) ?_);show lC (.ref aU.length) _ _=_;unfold lC;dsimp only;rw[(sP:(cg aU (steps.map az.pv) g0)[aU.length]?=some (.lst (steps.map az.pv)))];dsimp only;rw[aC (by rw[a9];exact aE (Nat.succ_le_of_lt hk) ⋯),fC];rw[List.set_append_right _ _ (bJ _),Nat.sub_self];rfl
  refine⟨_,.inr (kh ⟨names.getD (23-steps.length) "",r,lp,made⟩ g0 ⟨pM _ (dW (Nat.sub_le _ _) ⋯),fun w hw=>z6 w (Yw w hw),xh<&>K.n1,K9,fun w hw=>QF w (dp.subset (hX _ hw)),dl<&>((jx fun q=>mq.mp lL (by rw[q];rfl)):1<=gg),DE,(jz.mp (dp.nodup_iff.mpr tm)).1,?_⟩ rfl dp ((zi _).trans ((ar (a:=Gg) (cB cond)).trans ((ar (a:=Gh) (b6 Ri)).trans ((ar (a:=Gi) (b6 ye)).trans ((ar NO).trans bC))))))⟩;exact xh<&>dl<&>(K.ok gg PX)
end
structure qP(names:List Str)(steps:List az)(free:List Str):Prop where
 ok:∀s∈steps,hI s
 nm:steps.map (·.name)=(List.range steps.length).map fun j=>names.getD (23-j) ""
 nd:(steps.flatMap (·.gives)++free).Nodup
 fr:∀n∈free,h9 n
 len:free.length<=100
 fp:∀n∈free,kF n
 gp:∀s∈steps,∀g∈s.gives,kF g
section
variable {d:Nat}
theorem S4(hl:l.length<=63){names:List Str}
  (fT:∀τ (i:Nat),i<24->ga ct (.int i) (aU++τ)=.ok (.str (names.getD i "")) (aU++τ)) (z5:1<=cS.length) (z4:cS.length<=100)
  (pM:∀i,i<24->h9 (names.getD i "")) (z6:∀n∈cS,h9 n):∀(n:Nat) (steps:List az) (free:List Str) (b7:Option H) (v:o9),steps.length+n<=20->qP names steps free ->
  ∃(Bz:List az) (g0:List Str) (IG:Option H) (c4:o9),Bz.length<=20/\qP names Bz g0 ∧
   ch none (dj 6) (fun R S=>ex (CC (d+2)) topN vx R S) ((List.range' steps.length n).map fun(i:Nat)=>H.int i) (gS aU l ct many room cS b7 v) (cg aU (steps.map az.pv) free) =
    .next (gS aU l ct many room cS IG c4) (cg aU (Bz.map az.pv) g0):=by
 intro n
 induction n with
 | zero=>intro steps free b7 v h I;exact oA steps free b7 v h I e3
 | succ n af =>
  intro steps free b7 v h I;refine List.range'_succ<&>dX<&>(aF (Ye (d:=d) hl (many:=many) (room:=room) (dW (el _ _) (by assumption)) fT z5 z4 I.len pM z6 I.fr (jz.mp I.nd).2.1 v) fun c4 T=>?_);refine bZ T (fun T=>?_) (fun hr=>ik hr fun s g0 iU Wr sp T=>?_)
  ·exact oA steps free (ag steps.length) c4 (aE (el _ _) h) I (Po rfl T)
  ·have Lm:qP names (steps++[s]) g0:=by
    refine⟨fun x hx=>?_,?_,?_,fun x hx=>I.fr x (sp.subset (fb _ hx)),?_,fun x hx=>I.fp x (sp.subset (fb _ hx)),fun x hx g hg=>?_⟩
    ·rcases dt.mp hx with q | q
     ·exact I.ok x q
     ·rw[di.mp q];exact iU
    ·rw[fC,I.nm,cD,List.length_singleton,List.range_succ,fC,List.map_singleton,List.map_singleton,Wr]
    ·have:((steps++[s]).flatMap (·.gives)++g0).Perm (steps.flatMap (·.gives)++free):=by
      rw[List.flatMap_append,cN];apply List.Perm.append_left _;simpa using sp
     exact this.nodup_iff.mpr I.nd
    ·have:=sp.length_eq;rw[cD]at this;have:=I.len
     (grind)
    ·rcases dt.mp hx with q | q
     ·exact I.gp x q g hg
     ·rw[di.mp q]at hg;exact I.fp g (sp.subset (hX _ hg))
   obtain⟨WF,Ps,IH,v2,q1,q2,q3⟩:=af (steps++[s]) g0 (ag steps.length) c4 (by refine cD<&>List.length_singleton<&>?_;(grind)) Lm;refine oA WF Ps IH v2 q1 q2 ((ez rfl T).trans ?_);rw[cD,List.length_singleton]at q3;exact q3
theorem wm{f:H->Option PyData}:∀{Y:List H},(∀x∈Y,∃d,f x=some d)->∃ds,Y.mapM f=some ds/\ds.length=Y.length
 | [],_=>(aI ([]) rfl rfl)
 | x::Y,h=>by
  refine aF (h x (be)) fun e he=>ay (wm (Y:=Y) fun y aG=>h y (bx _ aG)) fun Z QB hl=>?_;exact aI (e::Z) (by rw[List.mapM_cons,he,QB];rfl) (by simp[hl])
theorem KN(l:List Str):∃e,dA (m+2) S (.tup (l.map .str))=some e:=by
 obtain⟨ds,h,_⟩:=wm (f:=dA (m+1) S) (Y:=l.map .str) fun x hx=>by refine ay (c7.mp hx) fun w u ae=>?_;refine ae▸?_;exact⟨.str w,rfl⟩
 exact⟨.tuple ds,by show((l.map H.str).mapM (dA (m+1) S)).map PyData.tuple=_;refine h<&>?_;rfl⟩
theorem Xj(s:az):∃e,dA (m+3) S s.pv=some e:=by
 obtain⟨ds,h,_⟩:=wm (f:=dA (m+2) S) (Y:=[.str s.name,s.rule.pv,.tup (s.needs.map .str),.tup (s.gives.map .str)]) fun x hx=>by
  simp only[bY,dM,or_false]at hx
  rcases hx with q | q | q | q
  ·subst q;exact⟨.str s.name,rfl⟩
  ·subst q;cases s.rule with
   | word w=>exact⟨.tuple [.str w],rfl⟩
   | fixed v=>exact⟨.tuple [.str "fixed",.int v],rfl⟩
  ·subst q;exact KN _
  ·subst q;exact KN _
 exact⟨.tuple ds,by show(([H.str s.name,s.rule.pv,.tup (s.needs.map .str),.tup (s.gives.map .str)]).mapM (dA (m+2) S)).map PyData.tuple=_;refine h<&>?_;rfl⟩
theorem DX{steps:List az}(Qm:S[i]?=some (.lst (steps.map az.pv))):d2 .eq (.ref i) (.fl []) S=.ok (decide (steps=[])) S:=by
 obtain⟨ds,h,hl⟩:=wm (f:=dA 15 S) (Y:=steps.map az.pv) fun x hx=>by refine ay (c7.mp hx) fun s u ae=>?_;refine ae▸?_;exact Xj s
 have e:dA 16 S (.ref i)=some (.list ds):=by
  show(match S[i]? with | some (.lst Y)=>(Y.mapM (dA 15 S)).map PyData.list | _=>none)=_;refine Qm<&>?_;dsimp only;rw[h];rfl
 show aj.ofOpt (eqv S (.ref i) (.fl [])) S=_;unfold eqv;refine e<&>?_;show aj.ok (PyData.eqv (.list ds) (.list [])) S=_;rw[a9]at hl
 cases steps with
 | nil =>
  have:ds=[]:=hJ hl;refine this<&>?_;rfl
 | cons s steps =>
  cases ds with
  | nil=>(exact nomatch hl)
  | cons x ds=>refine(show decide (s::steps=[])=false from ed (by(intro q;exact nomatch q)) ..).symm▸?_;rfl
theorem vC{names:List Str}(h:i<names.length):names.getD i "" = names[i]:=by rw[nc,cM h];rfl
theorem rT{names:List Str}(hl:names.length=24)(i:Nat):23-i<names.length:=hl▸dW (Nat.sub_le _ _) ⋯
theorem RB{names:List Str}(hn:names.Nodup)(hl:names.length=24){steps:List az}{free:List Str}(I:qP names steps free)(J:1<=steps.length)(L:steps.length<=20):cf steps:=by
 refine⟨J,L,I.ok,?_,(jz.mp I.nd).1⟩;rw[I.nm,List.Nodup,List.pairwise_map];refine List.Pairwise.imp_of_mem ?_ (List.nodup_range);intro i j hi aR cQ e;have up:∀{i:Nat},i∈List.range steps.length->i<=23:=fun h=>aE (b4 (List.mem_range.mp h)) (aE L ⋯);rw[vC (rT hl i),vC (rT hl j)]at e;exact cQ ((Nat.sub_sub_self (up hi) ..)▸(((List.getElem?_inj (rT hl i) hn).mp (show names[23-i]?=names[23-j]? by rw[cM (rT hl i),cM (rT hl j),e])) ..).symm▸(Nat.sub_sub_self (up aR) ..).symm▸rfl)
theorem RA{names:List Str}(hl:names.length=24){steps:List az}{free:List Str}(I:qP names steps free){s:az}(hs:s∈steps):s.name∈names:=by
 have h:s.name∈steps.map (·.name):=c7.mpr (aI s hs rfl);rw[I.nm]at h;exact ay (c7.mp h) fun j u e=>e<$>vC (rT hl j)<&>(gW _)
theorem T8{names:List Str}(hl:names.length=24){v:H}(h:(v=.fl (names.map .str)/\aU=[])\/(v=.ref 0/\aU=[.lst (names.map .str)])):∀τ (i:Nat),i<24->ga v (.int i) (aU++τ)=.ok (.str (names.getD i "")) (aU++τ):=by
 intro τ i hi;have il:i<names.length:=hl▸hi
 have hg:(names.map H.str)[(i:Int).toNat]?=bA (names.getD i ""):=by
  refine fc<&>vC il<&>kL<&>cM il<&>?_;rfl
 rcases h with⟨rfl,rfl⟩ | ⟨rfl,rfl⟩
 ·exact jq ((l5 (hl▸⋯)):(names.map H.str).length<=aL) (ea _) hg
 ·exact Kz (by rfl) ((l5 (hl▸⋯)):(names.map H.str).length<=aL) (ea _) hg
end
section
variable {d:Nat}
theorem cell_call(hl:l.length<=63){a:X}(h0:ev (CC (d+2)) (.v 0) R S=.ok (.fl (l.map .int)) S)(ha:ev (CC (d+2)) a R S=.ok (.int j) S):ev (CC (d+2)) (.call gu #v[(.v 0),a]) R S=.ok (.int (l.getD j 0)) S:=
 jb h0 ha (pE hl)
theorem PE{Y:List Int}{hi:Nat}(h:Y.all (fun x=>decide ((lo:Int)<=x)&&decide (x<=(hi:Int)))=true)(HE:i<Y.length):∃q:Nat,lo<=q/\q<=hi/\Y.getD i 0=q:=by
 refine nc<&>cM HE<&>?_;refine aN (dE (hN.mp h _ (gW HE))) fun aZ bH=>?_;have aZ:=f0 aZ;refine aF (jw (gE (ea lo) aZ)) fun q hq=>?_;rw[hq]at aZ bH;exact b3 q (ig.mp aZ) (ig.mp (f0 bH)) hq
theorem JP{Y:List Int}{hi:Nat}{a b:X}{c:Int}(h:Y.all (fun x=>decide ((lo:Int)<=x)&&decide (x<=(hi:Int)))=true)(h0:0<Y.length)(hl:Y.length<=100)(ha:ev C a R S=.ok (.fl (Y.map .int)) S)(hb:ev C b R S=.ok (.int (c%(Y.length:Nat))) S):∃q:Nat,lo<=q/\q<=hi/\ev C (.sub a b) R S=.ok (.int (q:Nat)) S:=by
 have vX:=fq c (Int.ofNat_ne_zero.mpr (du h0));have i1:=toNat_lt' vX (gj c (eK.mpr h0));refine bw (PE h i1) fun q q1 q2 hq=>?_;refine b3 q q1 q2 (dO ha hb (jq (by rw[a9];exact aE hl ⋯) vX ?_));rw[fc,cM i1,<- hq,nc,cM i1];rfl
theorem Hi{Y:List Str}(h:i<Y.length):Y.getD i "" ∈ Y:=by
 rw[nc,cM h];exact gW h
noncomputable abbrev ju(l:List Int)(ct:H)(a b c e f:Option H):aB:=xG (some (.fl (l.map .int))) (some ct) a b c none e f none none none none none none none
theorem Tf(hl:l.length<=63):∃many:Nat,1<=many/\many<=20/\∀r,ex (CC (d+2)) topN (.cons vw (.cons yV r)) (ju l ct none none none none none) S=ex (CC (d+2)) topN r (ju l ct (ag (many:Nat)) none none none none) S:=by
 have cell:∀{a:Option H},ev (CC (d+2)) (.call gu #v[(.v 0),(.bin .add (.v 1) (ai 1))]) (ju l ct a none none none none) S=.ok (.int (l.getD 1 0)) S:=fun{a}=>cell_call hl rfl rfl;refine bw (JP (lo:=1) (hi:=20) (Y:=[1,2,3,4,6,8]) (R:=ju l ct none none none none none) (a:=.lst true #v[(ai 1),(ai 2),(ai 3),(ai 4),(ai 6),(ai 8)]) rfl ⋯ ⋯ rfl (cj cell (b:=.k (.int 6)) rfl (gw ⋯))) fun q q1 q2 V=>?_
 have bQ:tst (CC (d+2)) (.cmp (.bin .mod (.bin .fdiv (.call gu #v[(.v 0),(.bin .add (.v 1) (ai 1))]) (ai 6)) (ai 10)) .eq (ai 1)) (ju l ct (ag (q:Nat)) none none none none) S=.ok (l.getD 1 0/6%10 == 1) S:=
  c3 (ze ⋯ ⋯ ⋯ cell) (aH:=S) rfl rk
 cases Hq:(l.getD 1 0/6%10 == 1)with
 | true =>
  rw[Hq]at bQ;have j0:=gj (l.getD 1 0/60) (show(0:Int)<12 by decide);refine aF (jw (fq (l.getD 1 0/60) (show(12:Int)≠0 by decide))) fun w hw=>?_;have ah:=ze (a:=60) (b:=12) ⋯ ⋯ ⋯ (cell (a:=ag (q:Nat)));rw[hw]at j0 ah;exact b3 (9+w) (aE ⋯ (el 9 w)) (kK (lA (eK.mp j0)) 9) (fun r=>(ar (a:=vw) (b6 V)).trans (ar ((eg bQ).trans ((ar (a:=F6) (b6 (cj rfl ah add_int))).trans bC))))
 | false =>
  rw[Hq]at bQ;exact b3 q q1 q2 (fun r=>(ar (a:=vw) (b6 V)).trans (ar (a:=yV) (cB bQ)))
theorem VO{a:Option H}(hl:l.length<=63):∃room:Nat,2<=room/\room<=9/\∀r,ex (CC (d+2)) topN (.cons yW (.cons F7 r)) (ju l ct a none none none none) S=ex (CC (d+2)) topN r (ju l ct a (ag (room:Nat)) (aT S.length) none none) (S++[.lst []]):=by
 refine bw (JP (lo:=2) (hi:=9) (Y:=[2,4,6,9]) (R:=ju l ct a none none none none) (a:=.lst true #v[(ai 2),(ai 4),(ai 6),(ai 9)]) rfl ⋯ ⋯ rfl (cj (cell_call (d:=d) (a:=.bin .add (.v 1) (ai 2)) hl (j:=2) rfl rfl) (b:=.k (.int 4)) (aH:=S) rfl (gw ⋯))) fun q q1 q2 V=>?_;exact b3 q q1 q2 (fun r=>(ar (a:=yW) (b6 V)).trans rfl)
section
variable {names:List Str}(fT:∀τ (i:Nat),i<24->ga ct (.int i) (aU++τ)=.ok (.str (names.getD i "")) (aU++τ))(hQ:names.length=24)
include fT hQ
theorem Pu{many room t:Nat}(ba:min (24:Int) ((room:Int)+many)=t)(L:t<=24):∀r,ex (CC (d+2)) topN (.cons yX (.cons yY r)) (ju l ct (ag (many:Nat)) (ag (room:Nat)) (aT aU.length) none none) (aU++[.lst []])=ex (CC (d+2)) topN r (gS aU l ct (ag (many:Nat)) (ag (room:Nat)) (names.take t) none ⟨none,none,none,none,none,none,none⟩) (cg aU [] (names.take t)):=fun r=>by
 have QV:ev (CC (d+2)) (.min2 (ai 24) (.bin .add (.v 4) (.v 3))) (ju l ct (ag (many:Nat)) (ag (room:Nat)) (aT aU.length) none none) (aU++[.lst []])=.ok (.int (t:Nat)) (aU++[.lst []]):=by
  refine DN rfl rfl ?_;show aj.ok (H.int (min (24:Int) ((room:Int)+many))) _=_;exact ba<&>rfl
 have jC:ev (CC (d+2)) F2 (ju l ct (ag (many:Nat)) (ag (room:Nat)) (aT aU.length) none none) (aU++[.lst []])=.ok (.ref (aU.length+1)) (cg aU [] (names.take t)):=by
  show ev (CC (d+2)) (.comp false 1 _ _ _ _) _ _=_;rw[np,sf (aE L ⋯) QV,cr];dsimp only;rw[Du (g:=fun x=>match x with | .int i=>.str (names.getD i.toNat "") | _=>.none) _ fun x hx=>?_]
  ·show eO false _ _=_
   have QS:(List.range t).map (fun k=>names.getD k "")=names.take t:=by
    refine List.ext_getElem (by rw[a9,List.length_range,gV,hQ,gX L]) fun i J u=>?_;rw[a9,List.length_range]at J;rw[List.getElem_map,List.getElem_range,List.getElem_take,nc,cM (hQ▸de J L)];rfl
   rw[Bh (f:=fun k=>names.getD k "") fun k hk=>by rfl,QS,Jf (l5 ((by refine gV<&>hQ<&>?_;exact aE (Nat.min_le_right _ _) ⋯):(names.take t).length<=100)),cD,cN];rfl
  ·refine ay (Bi hx) fun k hk ae=>?_;subst ae;show((ev _ _ _ _).bind fun v S=>aj.ok (some v) S)=_;rw[dO (ak:=aU++[.lst []]) (aH:=aU++[.lst []]) rfl rfl (fT [.lst []] k (de hk L))];rfl
 exact(ar (a:=yX) (b6 jC)).trans ((ar (a:=yY) (b6 (da rfl ((r1 ((by unfold eB;dsimp only;exact u0<&>rfl):eB (cg aU [] (names.take t)) (.ref (aU.length+1))=some ((names.take t).map .str))).trans (oQ (l5 ((by refine gV<&>hQ<&>?_;exact aE (Nat.min_le_right _ _) ⋯):(names.take t).length<=100))))))).trans rfl)
theorem UF{m o k:Option H}{sp free:List Str}{v:o9}:ex (CC (d+2)) topN y0 (gS aU l ct m o sp k v) (cg aU [] free)=.next (gS aU l ct m o sp k v) (cg aU [az.pv (az.mk (names.getD 0 "") (.word "sum") [names.getD 0 ""] [names.getD 1 ""])] free):=by
 have jO:∀i:Nat,i<24->ev (CC (d+2)) (.sub (.v 2) (ai (i:Nat))) (gS aU l ct m o sp k v) (cg aU [] free)=.ok (.str (names.getD i "")) (cg aU [] free):=fun i hi =>
  dO rfl rfl (fT _ i hi)
 have n1:∀i:Nat,i<24->ev (CC (d+2)) (.tup #v[(.sub (.v 2) (ai (i:Nat)))]) (gS aU l ct m o sp k v) (cg aU [] free)=.ok (.tup [.str (names.getD i "")]) (cg aU [] free):=fun i hi=>mB (dm (jO i hi) rfl) (show(1:Nat)<=aL by decide);refine(eg (c3 (ak:=cg aU [] free) (aH:=cg aU [] free) rfl rfl (DX (steps:=[]) sP))).trans ((ar (f4 (h4 (x:=.ref aU.length) (ak:=cg aU [] free) rfl (nG (.inl rfl)) (y:=az.pv (az.mk (names.getD 0 "") (.word "sum") [names.getD 0 ""] [names.getD 1 ""])) (aH:=cg aU [] free) (mB (vs:=[.str (names.getD 0 ""),.tup [.str "sum"],.tup [.str (names.getD 0 "")],.tup [.str (names.getD 1 "")]]) (dm (jO 0 ⋯) (dm (ak:=cg aU [] free) rfl (dm (n1 0 ⋯) (dm (n1 1 ⋯) rfl)))) (show(4:Nat)<=aL by decide)) ?_))).trans bC);show lC (.ref aU.length) _ _=_;unfold lC;dsimp only;rw[(sP:(cg aU [] free)[aU.length]?=some (.lst []))];dsimp only;rw[aC ⋯];rw[List.set_append_right _ _ (bJ _),Nat.sub_self];rfl
end
theorem UG{a b:Str}(ha:h9 a)(hb:h9 b):cf [az.mk a (.word "sum") [a] [b]]:=by
 refine⟨bJ 1,(by show(1:Nat)<=20;decide),fun s hs=>?_,by simp,by simp⟩;rw[di.mp hs];exact⟨ha,fun n hn=>by rw[di.mp hn];exact ha,bJ 1,(by show(1:Nat)<=4;decide),fun n hn=>by rw[di.mp hn];exact hb,bJ 1,(by show(1:Nat)<=3;decide),by simp,.sum _ _⟩
theorem P1(hl:l.length<=63):∃p σ',cf p/\(∀s∈p,kF s.name/\∀g∈s.gives,kF g)/\bU PP topN (d+3) Ig [.fl (l.map .int),.int 0] []=.ok (dx p) σ':=by
 refine NR (PZ (l.getD 0 0)) fun names hQ AV AW AX mH=>?_
 obtain⟨ct,aU,Qv,QE⟩:∃ct aU,(∀d,bU PP topN (d+1) tH [.int (l.getD 0 0)] []=.ok ct aU)/\((ct=.fl (names.map .str)/\aU=[])\/(ct=.ref 0/\aU=[.lst (names.map .str)])):=by
  exact bZ mH (fun h=>(fF _ _ h (.inl ⟨rfl,rfl⟩))) (fun h=>(fF _ _ h (.inr ⟨rfl,rfl⟩)))
 have fT:=T8 hQ QE;have pM:∀i,i<24->h9 (names.getD i ""):=fun i hi=>AW _ (Hi (hQ▸hi));have hpl:∀i,i<24->kF (names.getD i ""):=fun i hi=>AX _ (Hi (hQ▸hi));refine bw (Tf (d:=d) (S:=aU) (ct:=ct) hl) fun many QR HL V=>bw (VO (d:=d) (S:=aU) (ct:=ct) (a:=ag (many:Nat)) hl) fun room Zh Zi bq=>?_;have cT:1<=min 24 (room+many):=Nat.le_min.mpr ⟨by decide,aE QR (kN _ _)⟩;have bQ:min 24 (room+many)<=24:=Nat.min_le_left _ _;have kg:=Pu (d:=d) fT hQ (l:=l) (I9 24 (room+many)) bQ;generalize min 24 (room+many)=t at cT bQ kg
 have tl:(names.take t).length=t:=by refine gV<&>hQ<&>?_;exact gX bQ
 have tk:∀n∈names.take t,n∈names:=fun n hn=>List.mem_of_mem_take hn;obtain⟨steps,free,b7,v,eC,I,HJ⟩:=S4 (d:=d) (aU:=aU) hl (ct:=ct) fT (by rw[tl];exact cT) (by rw[tl];exact aE bQ ⋯) pM (fun n hn=>AW n (tk n hn)) many [] (names.take t) none ⟨none,none,none,none,none,none,none⟩ (by refine kO<&>d1<&>?_;exact HL) (⟨fun s hs=>(nomatch hs),rfl,AV.sublist (List.take_sublist _ _),fun n hn=>AW n (tk n hn),aE (i7 tl) (aE bQ ⋯),fun n hn=>AX n (tk n hn),fun s hs=>(nomatch hs)⟩:qP names [] (names.take t))
 have RC:cR 0 1 many=(List.range' 0 many).map fun(i:Nat)=>H.int i:=by
  unfold cR;exact ey (congrArg _ ng) (List.map_congr_left fun i u=>Int.mul_one<&>Int.zero_add<&>rfl)
 rw[kO,<- RC]at HJ
 obtain⟨p,hp,Q3,sX⟩:∃p,cf p/\(∀s∈p,kF s.name/\∀g∈s.gives,kF g)/\ex (CC (d+2)) topN y0 (gS aU l ct (ag (many:Nat)) (ag (room:Nat)) (names.take t) b7 v) (cg aU (steps.map az.pv) free)=.next (gS aU l ct (ag (many:Nat)) (ag (room:Nat)) (names.take t) b7 v) (cg aU (p.map az.pv) free):=by
  cases steps with
  | nil=>exact⟨_,UG (pM 0 ⋯) (pM 1 ⋯),fun s hs=>by
    refine di.mp hs<&>?_
    exact⟨hpl 0 ⋯,fun g hg=>by rw[di.mp hg];exact hpl 1 ⋯⟩,UF fT hQ⟩
  | cons hz WA=>exact b3 (hz::WA) (RB AV hQ I (ft _) eC) (fun s hs=>⟨AX _ (RA hQ I hs),I.gp s hs⟩) (cB (c3 rfl rfl ((DX sP).trans rfl)))
 refine jF p (cg aU (p.map az.pv) free) hp Q3 ?_;exact(cO rfl rfl ..).trans ((congrArg bm ((ar (a:=F5) (b6 (ef (cell_call hl rfl rfl) (Qv (d+1))))).trans ((V _).trans ((bq _).trans ((kg _).trans ((ar (a:=F8) (e2 (sf (aE HL ⋯) rfl) HJ)).trans ((ar sX).trans (bV (a:=Gj) (dF (da (x:=.ref aU.length) rfl ((r1 ((by unfold eB;dsimp only;exact sP<&>rfl):eB (cg aU (p.map az.pv) free) (.ref aU.length)=some (p.map az.pv))).trans (aC (U4 hp.most))))))))))))).trans rfl)
end
section
variable {d:Nat}
theorem C4{i a b:Int}:bU PP topN (d+1) rI [.int i,.int a,.int b] S=.ok (.bool (decide (a<=i)&&decide (i<=b))) S:=by
 rw[cO rfl rfl]
 have:ex (CC d) topN EW.body [ag i,ag a,ag b,none,none,none] S=.ret (.bool (decide (a<=i)&&decide (i<=b))) [ag i,ag a,ag b,none,none,none] S:=
  bV (dF (ps (mz rfl (mz (ak:=S) rfl (pt (yi rfl rfl rfl))))))
 exact(congrArg bm this).trans rfl
theorem iK{m:aX}:(τ++m::dq)[τ.length]?=some m:=by simp
theorem oV{m:aX}:(τ++m::dq).set τ.length bX=τ++bX::dq:=by simp
theorem LM{Z:List (Str×H)}{k:Str}:k∉Z.map (·.1)->aD k Z=none:=by
 intro h;unfold aD;rw[List.find?_eq_none.mpr]
 ·rfl
 ·intro e he q;exact h (c7.mpr (aI e he (f0 q)))
theorem CU{Z:List (Str×H)}{k:Str}{v:H}(h:k∉Z.map (·.1)):ee k v Z=Z++[(k,v)]:=by
 unfold ee;rw[aV];intro q;exact ay (List.any_eq_true.mp q) fun e he q=>h (c7.mpr (aI e he (f0 q)))
theorem LN{Z:List (Str×H)}{k:Str}:(aD k Z).isSome=decide (k∈Z.map (·.1)):=by
 by_cases h:k∈Z.map (·.1)
 ·rw[c6 h];refine ay (c7.mp h) fun e he q=>?_;unfold aD;rw[Option.isSome_map,List.find?_isSome];exact aI e he (c6 q)
 ·rw[ed h,LM h];rfl
def gr(p:List az):List (Str×H):=p.flatMap fun s=>s.gives.map fun g=>(g,s.pv)
theorem Hm(p:List az):(gr p).map (·.1)=p.flatMap (·.gives):=by
 unfold gr;rw[List.map_flatMap];congr 1
 funext s
 exact fE.trans (List.map_id _)
theorem WM{Z:List (Str×H)}{k:Str}{v:H}(hr:S[r]?=some (.ds Z))(hl:Z.length<aL):iV (.ref r) (.str k) v R S=.next R (S.set r (.ds (ee k v Z))):=by
 unfold iV;dsimp only;rw[((by rw[hr];exact aC hl):((S[r]?).bind fun m=>sj m (.str k) v)=some (.ds (ee k v Z)))]
theorem wV{x:Str}{j:Int}{v:H}(hr:S[r]?=some (.dp Z))(hl:Z.length<aL):iV (.ref r) (.tup [.str x,.int j]) v R S=.next R (S.set r (.dp (ee (x,j) v Z))):=by
 unfold iV;dsimp only;rw[((by rw[hr];exact aC hl):((S[r]?).bind fun m=>sj m (.tup [.str x,.int j]) v)=some (.dp (ee (x,j) v Z)))]
theorem PJ{s:H}:∀(gs:List Str) (y:Option H) (Z:List (Str×H)),Z.length+gs.length<=1000->(Z.map (·.1)++gs).Nodup ->
  ∃bI,ch none (dj 3) (fun R S=>ex (CC d) topN EV R S) (gs.map .str) [some pl,aT τ.length,some s,y] (τ++[.ds Z]) =
   .next [some pl,aT τ.length,some s,bI] (τ++[.ds (Z++gs.map fun g=>(g,s))]):=by
 intro gs
 induction gs with
 | nil=>intro y Z _ _;exact⟨y,by simpa using e3⟩
 | cons g gs af =>
  intro y Z hl hn;rw[dD]at hl;obtain⟨bI,e⟩:=af (bA g) (Z++[(g,s)]) (by rw[cD];show Z.length+1+gs.length<=1000;(grind)) (by simpa using hn);refine⟨bI,(ez (cL:=[some pl,aT τ.length,some s,bA g]) rfl ?_).trans (e.trans (by simp))⟩;refine(ar ?_).trans bC;show iV (.ref τ.length) (.str g) s _ (τ++[.ds Z])=_;rw[WM iK (by rw[fj];(grind)),oV,CU ((fun q=>(jz.mp hn).2.2 g q g (be) rfl):g∉Z.map (·.1))]
theorem PK:∀(p:List az) (x y:Option H) (Z:List (Str×H)),Z.length+3*p.length<=1000->(∀s∈p,s.gives.length<=3)->(Z.map (·.1)++p.flatMap (·.gives)).Nodup ->
  ∃aS bI,ch none (dj 2) (fun R S=>ex (CC d) topN EU R S) (p.map az.pv) [some pl,aT τ.length,x,y] (τ++[.ds Z]) =
   .next [some pl,aT τ.length,aS,bI] (τ++[.ds (Z++gr p)]):=by
 intro p
 induction p with
 | nil=>intro x y Z _ _ _;exact eQ x y (by simpa[gr]using e3)
 | cons s p af =>
  intro x y Z hl au hn;have hs:=au s (be);rw[dD]at hl;rw[jA,<- cN]at hn;obtain⟨iz,V⟩:=PJ (d:=d) (pl:=pl) (s:=s.pv) (τ:=τ) s.gives y Z (by grind) (jz.mp hn).1
  have hk:(Z++s.gives.map fun g=>(g,s.pv)).map (·.1)=Z.map (·.1)++s.gives:=by
   rw[fC,fE];congr 1;exact List.map_id _
  obtain⟨aS,bI,ah⟩:=af (some s.pv) iz (Z++s.gives.map fun g=>(g,s.pv)) (by refine cD<&>a9<&>?_;(grind)) (fun t ba=>au t (bx _ ba)) (hk<&>hn);refine eQ aS bI ((ez rfl ?_).trans (ah.trans (by simp[gr])));exact(ar (e2 (ys:=s.gives.map .str) (ak:=τ++[.ds Z]) rfl V)).trans bC
theorem Hn{p:List az}(h:cf p):bU PP topN (d+1) Ag [dx p] S=.ok (.ref S.length) (S++[.ds (gr p)]):=by
 rw[cO rfl rfl];obtain⟨aS,bI,e⟩:=PK p none none [] (by show 0+3*p.length<=1000;have:=h.most;(grind)) (fun s hs=>(h.steps s hs).gives3) (by simpa using h.gives)
 have:ex (CC d) topN ET.body [some (dx p),none,none,none] S=.ret (.ref S.length) [some (dx p),aT S.length,aS,bI] (S++[.ds (gr p)]):=by
  exact rfl.trans ((ar (e2 rfl e)).trans rfl)
 exact(congrArg bm this).trans rfl
end
section
variable {d:Nat}
theorem Xk{ns:List Str}:(ns.map H.str).mapM (dA 16 S)=some (ns.map PyData.str):=by
 induction ns with
 | nil=>rfl
 | cons n ns af=>rw[dX,List.mapM_cons,af];rfl
theorem To{ns:List Str}:jM S (.str g) (ns.map .str)=some (decide (g∈ns)):=by
 unfold jM;rw[Xk];show some ((ns.map PyData.str).any fun y=>PyData.eqv y (.str g))=_;congr 1;rw[List.any_map]
 induction ns with
 | nil=>rfl
 | cons n ns af =>
  rw[List.any_cons,af];show(n == g||decide (g∈ns))=_;by_cases q:n=g
  ·refine q▸?_;simp
  ·rw[mq.mpr q];by_cases q2:g∈ns
   ·simp[q2]
   ·rw[ed q2,ed (by simp[q2];exact fun z=>q z.symm)];rfl
theorem tW{ns:List Str}(h:S[r]?=some (.lst (ns.map .str))):d2 .notin (.str g) (.ref r) S=.ok (!decide (g∈ns)) S:=by
 show aj.ofOpt ((fH (.str g) (.ref r) S).map (!·)) S=_
 have:fH (.str g) (.ref r) S=some (decide (g∈ns)):=by
  unfold fH;dsimp only;exact h<&>To
 refine this<&>?_;rfl
theorem Jv{Z:List (Str×H)}(h:S[r]?=some (.ds Z)):d2 .notin (.str g) (.ref r) S=.ok (!decide (g∈Z.map (·.1))) S:=by
 show aj.ofOpt ((fH (.str g) (.ref r) S).map (!·)) S=_
 have:fH (.str g) (.ref r) S=some (decide (g∈Z.map (·.1))):=by
  unfold fH;dsimp only;exact h<&>(congrArg some LN)
 refine this<&>?_;rfl
def fA(G acc:List Str)(n:Str):List Str:=if(!decide (n∈G)&&!decide (n∈acc))=true then acc++[n]else acc
def qg(G ns:List Str):List Str:=ns.foldl (fA G) []
theorem wE{acc:List Str}{n:Str}:(fA G acc n).length<=acc.length+1:=by
 unfold fA;split
 ·simp
 ·(exact el _ _)
theorem t5:∀(ns acc:List Str),(ns.foldl (fA G) acc).length<=acc.length+ns.length:=by
 intro ns
 induction ns with
 | nil=>intro acc;exact bJ _
 | cons n ns af =>
  intro acc;rw[i5,dD];have J:=af (fA G acc n);have L:=wE (G:=G) (acc:=acc) (n:=n)
  (grind)
theorem xU{v:H}(h:Y.length<1000):kn .append (.ref τ.length) [v] (τ++[.lst Y])=.ok .none (τ++[.lst (Y++[v])]):=xV h
theorem UL{s:H}{Z:List (Str×H)}{w:Option H}(hr:τ[r]?=some (.ds Z)):∀(ns:List Str) (y:Option H) (acc:List Str),acc.length+ns.length<=900 ->
  ∃bI,ch none (dj 4) (fun R S=>ex (CC d) topN GX R S) (ns.map .str) [some pl,aT r,aT τ.length,some s,y,w] (τ++[.lst (acc.map .str)]) =
   .next [some pl,aT r,aT τ.length,some s,bI,w] (τ++[.lst ((ns.foldl (fA (Z.map (·.1))) acc).map .str)]):=by
 intro ns
 induction ns with
 | nil=>intro y acc _;exact⟨y,e3⟩
 | cons n ns af =>
  intro y acc hl;rw[dD]at hl;obtain⟨bI,e⟩:=af (bA n) (fA (Z.map (·.1)) acc n) (by have:=wE (G:=Z.map (·.1)) (acc:=acc) (n:=n);(grind));refine⟨bI,(ez (cL:=[some pl,aT r,aT τ.length,some s,bA n,w]) rfl ?_).trans e⟩
  have tt:(τ++[aX.lst (acc.map .str)])[r]?=some (.ds Z):=by
   exact(fZ (dv hr).1 ..).trans hr
  have t:tst (CC d) (.and #v[(.cmp (.v 4) .notin (.v 1)),(.cmp (.v 4) .notin (.v 2))]) [some pl,aT r,aT τ.length,some s,bA n,w] (τ++[.lst (acc.map .str)])=.ok (!decide (n∈Z.map (·.1))&&!decide (n∈acc)) (τ++[.lst (acc.map .str)]):=
   kt (oY (c3 rfl rfl (Jv tt)) fun u=>l8 (c3 (x:=.str n) (ak:=τ++[.lst (acc.map .str)]) (aH:=τ++[.lst (acc.map .str)]) rfl rfl (tW iK)))
  unfold fA
  cases hq:(!decide (n∈Z.map (·.1))&&!decide (n∈acc))with
  | false =>
   rw[hq]at t;exact(ar (cB t)).trans bC
  | true =>
   rw[hq]at t;rw[aC rfl];refine(ar ((eg t).trans ((ar (f4 (h4 (ak:=τ++[.lst (acc.map .str)]) rfl ?_ (aH:=τ++[.lst (acc.map .str)]) rfl (xU (by rw[a9];(grind)))))).trans ?_))).trans bC
   ·exact nG (.inl rfl)
   ·rw[fC];exact rfl
theorem UN{Z:List (Str×H)}{w:Option H}(hr:τ[r]?=some (.ds Z)):∀(p:List az) (x y:Option H) (acc:List Str),acc.length+4*p.length<=900->(∀s∈p,s.needs.length<=4) ->
  ∃aS bI,ch none (dj 3) (fun R S=>ex (CC d) topN GW R S) (p.map az.pv) [some pl,aT r,aT τ.length,x,y,w] (τ++[.lst (acc.map .str)]) =
   .next [some pl,aT r,aT τ.length,aS,bI,w] (τ++[.lst (((p.flatMap (·.needs)).foldl (fA (Z.map (·.1))) acc).map .str)]):=by
 intro p
 induction p with
 | nil=>intro x y acc _ _;exact eQ x y e3
 | cons s p af =>
  intro x y acc hl aQ;have hs:=aQ s (be);rw[dD]at hl;refine aF (UL (d:=d) (pl:=pl) (s:=s.pv) (w:=w) hr s.needs y acc (by grind)) fun iz V=>?_;obtain⟨aS,bI,ah⟩:=af (some s.pv) iz (s.needs.foldl (fA (Z.map (·.1))) acc) (by have:=t5 (G:=Z.map (·.1)) s.needs acc;(grind)) fun t ba=>aQ t (bx _ ba);refine eQ aS bI ((ez rfl ?_).trans (ah.trans (by rw[jA,List.foldl_append])));exact(ar (e2 (ys:=s.needs.map .str) (ak:=τ++[.lst (acc.map .str)]) rfl V)).trans bC
theorem UQ{p:List az}(h:cf p):bU PP topN (d+2) Ij [dx p] S=.ok (.ref (S.length+1)) (S++[.ds (gr p),.lst ((qg (p.flatMap (·.gives)) (p.flatMap (·.needs))).map .str)]):=by
 rw[cO rfl rfl];obtain⟨aS,bI,e⟩:=UN ((by simp):(S++[aX.ds (gr p)])[S.length]?=some (.ds (gr p))) p none none [] (by show 0+4*p.length<=900;have:=h.most;(grind)) fun s hs=>(h.steps s hs).needs4;rw[Hm]at e;rw[((by simp):(S++[aX.ds (gr p)]).length=S.length+1)]at e
 have:ex (CC (d+1)) topN GV.body [some (dx p),none,none,none,none,none] S=.ret (.ref (S.length+1)) [some (dx p),aT S.length,aT (S.length+1),aS,bI,none] (S++[.ds (gr p),.lst ((qg (p.flatMap (·.gives)) (p.flatMap (·.needs))).map .str)]):=by
  refine(ar (ρ':=[some (dx p),aT S.length,none,none,none,none]) (b6 (ef rfl (Hn h)))).trans ((ar (ρ':=[some (dx p),aT S.length,aT (S++[aX.ds (gr p)]).length,none,none,none]) rfl).trans ?_);rw[((by simp):(S++[aX.ds (gr p)]).length=S.length+1)];refine(ar (e2 rfl e)).trans (rfl.trans ?_);rw[cN];rfl
 exact(congrArg bm this).trans rfl
end
section
variable {d:Nat}
theorem SW{aa w:Option H}:∀(p:List az) (x:Option H) (acc:List Str),acc.length+3*p.length<=900->(∀s∈p,s.gives.length<=3) ->
  ∃aS,ch none (dj 2) (fun R S=>ex (CC d) topN FT R S) (p.map az.pv) [some pl,aT τ.length,x,aa,w] (τ++[.lst (acc.map .str)]) =
   .next [some pl,aT τ.length,aS,aa,w] (τ++[.lst ((acc++p.flatMap (·.gives)).map .str)]):=by
 intro p
 induction p with
 | nil=>intro x acc _ _;exact⟨x,by simpa using e3⟩
 | cons s p af =>
  intro x acc hl au;have hg:=au s (be);rw[dD]at hl;obtain⟨aS,e⟩:=af (some s.pv) (acc++s.gives) (by rw[cD];(grind)) fun t ba=>au t (bx _ ba);refine⟨aS,(ez (cL:=[some pl,aT τ.length,some s.pv,aa,w]) rfl ?_).trans (e.trans (by simp[jA]))⟩;refine(ar (f4 (h4 rfl (nG (.inr (.inl rfl))) rfl ?_))).trans bC;show nq (.ref τ.length) (.tup (s.gives.map .str)) _=_;unfold nq;dsimp only;rw[iK];dsimp only;rw[aC (by rw[a9,a9,fj];(grind)),oV,fC]
theorem SX{s:H}(hr:τ[r]?=some (.lst (G.map .str))):∀(ns:List Str) (y:Option H) (acc:List Str),acc.length+ns.length<=900 ->
  ∃bI,ch none (dj 4) (fun R S=>ex (CC d) topN FV R S) (ns.map .str) [some pl,aT r,some s,aT τ.length,y] (τ++[.lst (acc.map .str)]) =
   .next [some pl,aT r,some s,aT τ.length,bI] (τ++[.lst ((ns.foldl (fA G) acc).map .str)]):=by
 intro ns
 induction ns with
 | nil=>intro y acc _;exact⟨y,e3⟩
 | cons n ns af =>
  intro y acc hl;rw[dD]at hl;obtain⟨bI,e⟩:=af (bA n) (fA G acc n) (by have:=wE (G:=G) (acc:=acc) (n:=n);(grind));refine⟨bI,(ez (cL:=[some pl,aT r,some s,aT τ.length,bA n]) rfl ?_).trans e⟩
  have tt:(τ++[aX.lst (acc.map .str)])[r]?=some (.lst (G.map .str)):=by
   exact(fZ (dv hr).1 ..).trans hr
  have t:tst (CC d) (.and #v[(.cmp (.v 4) .notin (.v 1)),(.cmp (.v 4) .notin (.v 3))]) [some pl,aT r,some s,aT τ.length,bA n] (τ++[.lst (acc.map .str)])=.ok (!decide (n∈G)&&!decide (n∈acc)) (τ++[.lst (acc.map .str)]):=
   kt (oY (c3 rfl rfl (tW tt)) fun u=>l8 (c3 (x:=.str n) (ak:=τ++[.lst (acc.map .str)]) (aH:=τ++[.lst (acc.map .str)]) rfl rfl (tW iK)))
  unfold fA
  cases hq:(!decide (n∈G)&&!decide (n∈acc))with
  | false =>
   rw[hq]at t;exact(ar (cB t)).trans bC
  | true =>
   rw[hq]at t;rw[aC rfl];refine(ar ((eg t).trans ((ar (f4 (h4 (ak:=τ++[.lst (acc.map .str)]) rfl ?_ (aH:=τ++[.lst (acc.map .str)]) rfl (xU (by rw[a9];(grind)))))).trans ?_))).trans bC
   ·exact nG (.inl rfl)
   ·rw[fC];exact rfl
theorem SY(hr:τ[r]?=some (.lst (G.map .str))):∀(p:List az) (x y:Option H) (acc:List Str),acc.length+4*p.length<=900->(∀s∈p,s.needs.length<=4) ->
  ∃aS bI,ch none (dj 2) (fun R S=>ex (CC d) topN FU R S) (p.map az.pv) [some pl,aT r,x,aT τ.length,y] (τ++[.lst (acc.map .str)]) =
   .next [some pl,aT r,aS,aT τ.length,bI] (τ++[.lst (((p.flatMap (·.needs)).foldl (fA G) acc).map .str)]):=by
 intro p
 induction p with
 | nil=>intro x y acc _ _;exact eQ x y e3
 | cons s p af =>
  intro x y acc hl aQ;have hs:=aQ s (be);rw[dD]at hl;refine aF (SX (d:=d) (pl:=pl) (s:=s.pv) hr s.needs y acc (by grind)) fun iz V=>?_;obtain⟨aS,bI,ah⟩:=af (some s.pv) iz (s.needs.foldl (fA G) acc) (by have:=t5 (G:=G) s.needs acc;(grind)) fun t ba=>aQ t (bx _ ba);refine eQ aS bI ((ez (cL:=[some pl,aT r,some s.pv,aT τ.length,y]) rfl ?_).trans (ah.trans (jA<&>List.foldl_append<&>rfl)));exact(ar (e2 (ys:=s.needs.map .str) (ak:=τ++[.lst (acc.map .str)]) rfl V)).trans bC
theorem Sl{p:List az}(h:cf p):bU PP topN (d+1) v1 [dx p] S=.ok (.ref (S.length+1)) (S++[.lst ((p.flatMap (·.gives)).map .str),.lst ((qg (p.flatMap (·.gives)) (p.flatMap (·.needs))).map .str)]):=by
 rw[cO rfl rfl];obtain⟨a1,V⟩:=SW (τ:=S) p none [] (by show 0+3*p.length<=900;have:=h.most;(grind)) fun s hs=>(h.steps s hs).gives3;rw[List.nil_append]at V;generalize mG:p.flatMap (·.gives)=G at V;obtain⟨aS,bI,e⟩:=SY (d:=d) (pl:=dx p) ((by simp):(S++[aX.lst (G.map .str)])[S.length]?=some (.lst (G.map .str))) p a1 none [] (by show 0+4*p.length<=900;have:=h.most;(grind)) fun s hs=>(h.steps s hs).needs4;rw[((by simp):(S++[aX.lst (G.map .str)]).length=S.length+1)]at e
 have:ex (CC d) topN FS.body [some (dx p),none,none,none,none] S=.ret (.ref (S.length+1)) [some (dx p),aT S.length,aS,aT (S.length+1),bI] (S++[.lst (G.map .str),.lst ((qg G (p.flatMap (·.needs))).map .str)]):=by
  refine rfl.trans ((ar (e2 rfl V)).trans ?_);apply(ar (ρ':=[some (dx p),aT S.length,a1,aT (S++[aX.lst (G.map .str)]).length,none]) rfl).trans;rw[((by simp):(S++[aX.lst (G.map .str)]).length=S.length+1)];refine(ar (e2 (ys:=p.map az.pv) rfl e)).trans (rfl.trans ?_);rw[cN];rfl
 exact(congrArg bm this).trans rfl
end
section
variable {d:Nat}
theorem U5{p:List az}(h:cf p):∃τ,bU PP topN (d+4) Ai [dx p] S=.ok (.bool true) (S++τ):=P7 h
end
def zf(p:List az)(n:Nat)(g o h gn od:Nat):List (Str×H):=[("plan",dx p),("turns",.int n),("givers",.ref g),("outer",.ref o),("here",.ref h),("gone",.ref gn),("order",.ref od)]
def hj(p:List az):List Str:=qg (p.flatMap (·.gives)) (p.flatMap (·.needs))
structure Lh(p:List az)(n:Nat)(Z:List ((Str×Int)×H))(i g o h gn od:Nat)(S:ab):Prop where
 ns:S[i]?=some (.ns (zf p n g o h gn od))
 gv:S[g]?=some (.ds (gr p))
 ot:S[o]?=some (.lst ((hj p).map .str))
 hr:S[h]?=some (.dp Z)
 ne:h≠i/\h≠g/\h≠o
theorem T9:(("turns" : Str)∉(["plan"]:List Str))/\(("givers" : Str)∉(["plan", "turns"]:List Str))/\(("outer" : Str)∉(["plan", "turns", "givers"]:List Str))/\(("here" : Str)∉(["plan", "turns", "givers", "outer"]:List Str)) ∧
  (("gone" : Str)∉(["plan", "turns", "givers", "outer", "here"]:List Str))/\(("order" : Str)∉(["plan", "turns", "givers", "outer", "here", "gone"]:List Str)):=by decide +kernel
section
variable {d:Nat}
def dK(S:ab)(i:Nat)(fs:List (Str×H))(dq:ab):ab:=S.set i (.ns fs)++dq
theorem dK.len:(dK S i fs dq).length=S.length+dq.length:=by unfold dK;exact cD<&>List.length_set<&>rfl
section
variable {N c:Nat}{w:ab}{k:Str}{o x:X}
theorem dK.at_{m:aX}(h:dq[j]?=some m):(dK S i fs dq)[S.length+j]?=some m:=by
 unfold dK;rw[gh (by rw[List.length_set];exact el _ _),List.length_set,ka];exact h
theorem dK.put{v:H}(hi:i<S.length)(ho:∀{S:ab},ev C o R S=.ok (.inst c i) S)(hx:ev C x R (dK S i fs dq)=.ok v (dK S i fs dq++w))(hk:k∉fs.map (·.1))(hl:Nat.ble fs.length 99=true):ex C N (.asgAttr c o k x) R (dK S i fs dq)=.next R (dK S i (fs++[(k,v)]) (dq++w)):=by
 have g:(dK S i fs dq++w)[i]?=some (.ns fs):=by
  unfold dK;rw[cN,fZ (by rw[List.length_set];exact hi)];exact List.getElem?_set_self hi
 show(ev C x R (dK S i fs dq)).toS R (fun v S=>(ev C o R S).toS R fun o S=>ui c o k v R S)=_;rw[hx,iW,ho,iW];unfold ui;dsimp only;rw[aC rfl,g];dsimp only;rw[aC (Nat.lt_succ_of_le (Nat.le_of_ble_eq_true hl)),CU hk];unfold dK;rw[cN,List.set_append_left _ _ (by rw[List.length_set];exact hi),List.set_set]
theorem dK.ref(hi:i<S.length)(ho:∀{S:ab},ev C o R S=.ok (.inst c i) S)(hx:ev C x R (dK S i fs dq)=.ok (.ref ((dK S i fs dq).length+j)) (dK S i fs dq++w))(hk:k∉fs.map (·.1))(hl:Nat.ble fs.length 99=true):ex C N (.asgAttr c o k x) R (dK S i fs dq)=.next R (dK S i (fs++[(k,.ref (S.length+dq.length+j))]) (dq++w)):=
 dK.put hi ho (by rw[dK.len]at hx;exact hx) hk hl
end
theorem Ru{p:List az}(h:cf p)(hi:i<S.length)(e:S[i]?=some (.ns []))(lX:∀{S:ab},ev (CC (d+4)) (.v 0) R S=.ok (.inst bl i) S)(ko:∀{S:ab},ev (CC (d+4)) (.v 1) R S=.ok (dx p) S)(bN:∀{S:ab},ev (CC (d+4)) (.v 2) R S=.ok (.int n) S) :
  ex (CC (d+4)) topN #v[yu,yv,yw,yx,yy,yz,yA] R S=.next R (dK S i (zf p n S.length (S.length+2) (S.length+3) (S.length+4) (S.length+5)) [.ds (gr p),.ds (gr p),.lst ((hj p).map .str),.dp [],.dp [],.lst []]):=by
 have s:S=dK S i [] []:=by
  unfold dK;refine fD<&>oi ((cM hi).symm.trans e)<$>?_;exact(List.set_getElem_self hi).symm
 have nil:∀{x:X} {v:H} {fs:List (Str×H)},ev (CC (d+4)) x R (dK S i fs [])=.ok v (dK S i fs [])->ev (CC (d+4)) x R (dK S i fs [])=.ok v (dK S i fs []++[]):=fun h=>by rw[fD];exact h
 exact DP T9 fun f1 f2 s1 s2 px Oz=>(congrArg _ s).trans (ey (ar (dK.put hi lX (nil ko) dM rfl)) (ey (ar (dK.put hi lX (nil bN) f1 rfl)) (ey (ar (dK.ref (j:=0) hi lX (ef ko (Hn h)) f2 rfl)) (ey (ar (dK.ref (w:=[.ds (gr p),.lst ((hj p).map .str)]) hi lX (ef ko (UQ h)) s1 rfl)) (ey (ar (dK.ref (j:=0) (w:=[.dp []]) hi lX rfl s2 rfl)) (ey (ar (dK.ref (j:=0) (w:=[.dp []]) hi lX rfl px rfl)) (ey (ar (dK.ref (j:=0) hi lX rfl Oz rfl)) rfl)))))))
theorem Rv{p:List az}(h:cf p)(J:1<=n)(L:n<=200):∃(dq:ab) (g o hr gn od:Nat),bU PP topN (d+5) tz [.inst bl S.length,dx p,.int n] (S++[.ns []])=.ok .none (S++dq)/\Lh p n [] S.length g o hr gn od (S++dq)/\S.length<g/\S.length<o/\S.length<hr/\(S.length<g/\g<o/\o<hr/\hr<gn/\gn<od)/\(S++dq)[gn]?=some (.dp [])/\(S++dq)[od]?=some (.lst []):=by
 refine aF (U5 (d:=d) (S:=S++[.ns []]) h) fun τ hp=>?_
 have V:(S++[aX.ns []]++τ)[S.length]?=some (.ns []):=by rw[cN];exact iK
 have eq:∀{fs:List (Str×H)} {dq:ab},dK (S++[aX.ns []]++τ) S.length fs dq=S++(.ns fs::τ++dq):=fun{fs dq}=>by
  unfold dK;exact cN S<&>List.singleton_append<&>oV<&>cN<&>rfl
 have hz:=ar (n:=topN) (a:=Ej) (r:=.cons yt #v[yu,yv,yw,yx,yy,yz,yA]) (R:=[dh S.length,some (dx p),ag n,none,none,none,none,none,none,none]) (cB (jV (q:=true) (li (ef (C:=CC (d+4)) rfl hp))));have il:S.length<(S++[aX.ns []]++τ).length:=(dv V).1
 have at_:=fun(fs:List (Str×H)) (dq:ab) {j:Nat} {m:aX}=>dK.at_ (S:=S++[aX.ns []]++τ) (i:=S.length) (fs:=fs) (dq:=dq) (j:=j) (m:=m)
 generalize S++[aX.ns []]++τ=bj at hz V eq il at_
 have ce:ex (CC (d+4)) topN yt [dh S.length,some (dx p),ag n,none,none,none,none,none,none,none] bj=.next [dh S.length,some (dx p),ag n,none,none,none,none,none,none,none] bj:=by
  refine cB (jV (q:=true) (li (rf rfl rfl rfl ?_)));show bU PP topN (d+4) rI [.int n,.int 1,.int 200] bj=_;rw[C4,c6 (show(1:Int)<=n from ig.mpr J),c6 (show(n:Int)<=200 from ig.mpr L)];rfl
 have body:=hz.trans ((ar ce).trans (Ru h il V rfl rfl rfl));rw[eq]at body;have lt:∀j,S.length<bj.length+j:=fun j=>de il (el _ _);have up:∀{j k:Nat},j<k->bj.length+j<bj.length+k:=fun h=>Nat.add_lt_add_left h _;rw[cO rfl rfl];refine N1 _ (bj.length+0) (bj.length+2) (bj.length+3) (bj.length+4) (bj.length+5) ((congrArg bm body).trans rfl) ?_;rw[<- eq];refine⟨⟨?_,at_ _ _ rfl,at_ _ _ rfl,at_ _ _ rfl,du (lt 3),du (up ⋯),du (up ⋯)⟩,lt 0,lt 2,lt 3,⟨lt 0,up ⋯,up ⋯,up ⋯,up ⋯⟩,at_ _ _ rfl,at_ _ _ rfl⟩;refine eq<&>?_;exact iK
end
theorem UK{acc:List Str}{n x:Str}:x∈fA G acc n ↔ x∈acc\/(x=n/\n∉G):=by
 unfold fA;by_cases J:n∈G
 ·rw[c6 J];exact⟨.inl,fun h=>h.elim id fun z=>absurd J z.2⟩
 ·rw[ed J];by_cases L:n∈acc
  ·rw[c6 L];exact⟨.inl,fun h=>h.elim id fun z=>z.1▸L⟩
  ·rw[ed L];show x∈acc++[n] ↔ _;rw[dt,di];exact⟨fun h=>h.imp id fun z=>⟨z,J⟩,fun h=>h.imp id fun z=>z.1⟩
theorem JH{x:Str}:∀(ns acc:List Str),x∈ns.foldl (fA G) acc ↔ x∈acc\/(x∈ns/\x∉G):=by
 intro ns
 induction ns with
 | nil=>intro acc;exact⟨.inl,fun h=>h.elim id fun z=>nomatch z.1⟩
 | cons n ns af =>
  intro acc;rw[i5,af,UK,bY];constructor
  ·rintro((h | ⟨rfl,h⟩) | h)
   ·exact .inl h
   ·exact .inr ⟨.inl rfl,h⟩
   ·exact .inr ⟨.inr h.1,h.2⟩
  ·rintro(h | ⟨rfl | h,h'⟩)
   ·exact .inl (.inl h)
   ·exact .inl (.inr ⟨rfl,h'⟩)
   ·exact .inr ⟨h,h'⟩
theorem A3{p:List az}{x:Str}:x∈hj p ↔ x∈p.flatMap (·.needs)/\x∉p.flatMap (·.gives):=by
 exact(JH ..).trans ⟨fun h=>h.elim (fun z=>nomatch z) id,.inr⟩
theorem Ax{U:Type}{l:List U}(h:l.length=2):∃a b,l=[a,b]:=by
 cases l with
 | nil=>contradiction
 | cons a l =>
  cases l with
  | nil=>exact nomatch Nat.succ.inj h
  | cons b l =>
   cases l with
   | nil=>exact eQ a b rfl
   | cons c l=>exact nomatch Nat.succ.inj (Nat.succ.inj h)
theorem p3{U:Type}{l:List U}(h:l.length=3):∃a b c,l=[a,b,c]:=by
 cases l with
 | nil=>contradiction
 | cons a l =>
  exact eM (Ax (Nat.succ.inj h)) fun b c ae=>ae▸(ri a b c rfl)
theorem hP{c:Nat}{o:X}{n:Str}{v:H}(ho:ev C o R S=.ok (.inst c i) ak)(hs:ak[i]?=some (.ns fs))(hv:aD n fs=some v):ev C (.attr c o n) R S=.ok v ak:=by
 rw[D9,ho,cr];unfold sQ;dsimp only;rw[aC rfl,hs];dsimp only;rw[hv];rfl
theorem gm{c f:Nat}{o args:X}{n:Str}{vs:List H}{r:aj H}(ho:ev C o R S=.ok (.inst c i) ak)(hs:ak[i]?=some (.ns fs))(hn:aD n fs=none)(ha:evs C args R ak=.ok vs aH)(h:C.call f (.inst c i::vs) aH=r):ev C (.meth c f n o args) R S=r:=by
 rw[Oi,ho,cr];unfold qb;dsimp only;rw[aC rfl,hs];dsimp only;refine hn<&>?_;dsimp only;exact ha<&>h
section
variable {p:List az}{g o h gn od:Nat}
end
theorem Nr{f:H->ab->aj (Option H)}{q:H->Option H}:∀(Y:List H),(∀x∈Y,f x S=.ok (q x) S)->dY none f Y S=.ok (Y.filterMap q) S:=by
 intro Y
 induction Y with
 | nil=>intro _;exact aC trivial
 | cons x Y af =>
  intro h;apply(aC trivial).trans;rw[h x be];show(dY none f Y S).bind _=_;rw[af fun y aG=>h y (bx _ aG)];show aj.ok (x8 (q x) (Y.filterMap q)) S=_;refine List.filterMap_cons<&>?_;cases q x <;> rfl
theorem va{t:Nat}{elt it:X}(q:H->Option H)(bS:evIt C it R S=.ok (Y,none) S)(hl:Y.length<=aL)
  (hc:∀x∈Y,tst C cond ((dz cP R).set t (some x)) S=.ok (q x).isSome S) (he:∀x∈Y,∀v,q x=some v->ev C elt ((dz cP R).set t (some x)) S=.ok v S) (aW:C.hd=false:=by first | rfl | assumption) :
  ev C (.comp true t cP elt cond it) R S=.ok (.fl (Y.filterMap q)) S:=by
 rw[np,aW,bS];show h3 Y.length (dY none (fun x S=>((tst C cond ((dz cP R).set t (some x)) S).bind fun b S=>if b=true then(ev C elt ((dz cP R).set t (some x)) S).bind fun v S=>.ok (some v) S else .ok none S)) Y S) _=_
 rw[Nr (q:=q) Y fun x hx=>by
  show(tst C cond ((dz cP R).set t (some x)) S).bind _=_;rw[hc x hx,cr]
  cases hq:q x with
  | none=>rfl
  | some v =>
   show(ev C elt ((dz cP R).set t (some x)) S).bind _=_
   rw[he x hx v hq];rfl]
 exact oQ (aE (List.length_filterMap_le _ _) hl)
theorem zp{x:Str}{j:Int}(h:S[r]?=some (.dp Z)):kn .get (.ref r) [.tup [.str x,.int j]] S=.ok ((aD (x,j) Z).getD .none) S:=by
 show s8 (.ref r) (.tup [.str x,.int j]) S=_;unfold s8;dsimp only;rw[h];rfl
theorem zk(h:S[r]?=some (.dp Z)):qa .get (.ref r) S=true:=by
 show tK (.ref r) S=true;unfold tK;dsimp only;exact h<&>rfl
theorem wa{x:Str}{j:Int}(h:S[r]?=some (.dp Z)):d2 .isin (.tup [.str x,.int j]) (.ref r) S=.ok (aD (x,j) Z).isSome S:=by
 show aj.ofOpt (fH (.tup [.str x,.int j]) (.ref r) S) S=_
 have:fH (.tup [.str x,.int j]) (.ref r) S=some (aD (x,j) Z).isSome:=by unfold fH;dsimp only;rw[h];rfl
 rw[this];rfl
theorem Ky{x:Str}{j:Int}{v:H}(h:S[r]?=some (.dp Z))(hv:aD (x,j) Z=some v):ga (.ref r) (.tup [.str x,.int j]) S=.ok v S:=by
 show nQ (.ref r) (.tup [.str x,.int j]) S=_;unfold nQ;dsimp only;rw[h];show aj.ofOpt (aD (x,j) Z) S=_;rw[hv];rfl
def qB(x:Str)(n:Nat)(Z:List ((Str×Int)×H)):List H:=(List.range n).filterMap fun(t:Nat)=>(aD (x,(t:Int)) Z).map fun v=>.tup [.int t,v]
theorem xX{k:Str×Int}{v:H}(h:aD k Z=none):ee k v Z=Z++[(k,v)]:=by
 unfold ee;rw[aV];intro z;refine ay (List.any_eq_true.mp z) fun e he hk=>?_;unfold aD at h;rw[Option.map_eq_none_iff,List.find?_eq_none]at h;exact h e he hk
def nv(p:List az)(x:Str):Option az:=p.find? fun s=>decide (x∈s.gives)
def iR:dJ->Bool
 | .word w=>w == "later"
 | _=>false
def my(p:List az)(x:Str)(j:Int):Bool:=
 match nv p x with
 | some s=>!iR s.rule||decide (j > 0)
 | none=>false
theorem CO{x:Str}:∀{p:List az},aD x (gr p)=(nv p x).map az.pv:=by
 intro p
 induction p with
 | nil=>rfl
 | cons s p af =>
  unfold nv;rw[List.find?_cons];have e:gr (s::p)=(s.gives.map fun g=>(g,s.pv))++gr p:=rfl;unfold aD at af ⊢;rw[e,List.find?_append];by_cases hx:x∈s.gives
  ·rw[c6 hx]
   have:∀(l:List Str),x∈l->(l.map fun g=>(g,s.pv)).find? (fun e=>decide (e.1=x))=some (x,s.pv):=by
    intro l
    induction l with
    | nil=>intro h;contradiction
    | cons a l Rq =>
     intro h;rw[dX,List.find?_cons];by_cases ha:a=x
     ·refine ha▸?_;simp
     ·exact ed ha<&>(Rq ((bY.mp h).resolve_left fun z=>ha z.symm))
   rw[this _ hx];rfl
  ·rw[ed hx]
   have:(s.gives.map fun g=>(g,s.pv)).find? (fun e=>decide (e.1=x))=none:=by
    rw[List.find?_eq_none];intro e he;refine ay (c7.mp he) fun g hg ae=>ae▸?_;simp;rintro rfl;exact hx hg
   rw[this];exact af
theorem RM{Z:List (Str×H)}{k:Str}(h:S[r]?=some (.ds Z)):d2 .isin (.str k) (.ref r) S=.ok (aD k Z).isSome S:=by
 show aj.ofOpt (fH (.str k) (.ref r) S) S=_
 have:fH (.str k) (.ref r) S=some (aD k Z).isSome:=by unfold fH;dsimp only;rw[h]
 refine this<&>?_;rfl
theorem W0{Z:List (Str×H)}{k:Str}{v:H}(h:S[r]?=some (.ds Z))(hv:aD k Z=some v):ga (.ref r) (.str k) S=.ok v S:=by
 show nQ (.ref r) (.str k) S=_;unfold nQ;dsimp only;rw[h];show aj.ofOpt (aD k Z) S=_;rw[hv];rfl
noncomputable abbrev cx:=List ((Str×Int)×H)
structure ci where
 i:Nat
 g:Nat
 o:Nat
 h:Nat
 gn:Nat
 od:Nat
structure ci.Lt(X:ci):Prop where
 a:X.i<X.g
 b:X.g<X.o
 c:X.o<X.h
 d:X.h<X.gn
 e:X.gn<X.od
structure ec(p:List az)(n:Nat)(Z gs:cx)(os:List H)(X:ci)(S:ab):Prop where
 ns:S[X.i]?=some (.ns (zf p n X.g X.o X.h X.gn X.od))
 gv:S[X.g]?=some (.ds (gr p))
 ot:S[X.o]?=some (.lst ((hj p).map .str))
 hr:S[X.h]?=some (.dp Z)
 go:S[X.gn]?=some (.dp gs)
 od:S[X.od]?=some (.lst os)
 lt:X.Lt
structure d5(X:ci)(S σ':ab):Prop where
 len:S.length<=σ'.length
 at_:∀(j:Nat) (m:aX),j≠X.h->j≠X.gn->j≠X.od->S[j]?=some m->σ'[j]?=some m
theorem d5.refl{X:ci}:d5 X S S:=⟨bJ _,fun u u u u u h=>h⟩
theorem d5.trans{X:ci}{a b c:ab}(k:d5 X a b)(l:d5 X b c):d5 X a c:=⟨aE k.len l.len,fun j m J L au h=>l.at_ j m J L au (k.at_ j m J L au h)⟩
theorem gq{m:aX}(e:S[j]?=some m):(S++τ)[j]?=some m:=by exact fZ (dv e).1<&>e
theorem eD{k:Nat}{m:aX}(aR:k≠j)(e:S[j]?=some m):(S.set k bX)[j]?=some m:=(List.getElem?_set_ne aR).trans e
theorem rt{m:aX}(e:S[j]?=some m):(S.set j bX)[j]?=some bX:=List.getElem?_set_self (dv e).1
theorem d5.app{X:ci}:d5 X S (S++τ):=⟨by exact cD<&>(el _ _),fun u u u u u h=>gq h⟩
theorem d5.set{X:ci}{m:aX}(aR:j=X.h\/j=X.gn\/j=X.od):d5 X S (S.set j m):=⟨List.length_set<&>(bJ _),fun k bX J L au h=>eD (fun q=>by
 subst q
 rcases aR with q | q | q
 ·exact J q
 ·exact L q
 ·exact au q) h⟩
section
variable {p:List az}{Z gs:cx}{X:ci}
theorem ec.more(b:ec p n Z gs os X S):ec p n Z gs os X (S++τ):=⟨gq b.ns,gq b.gv,gq b.ot,gq b.hr,gq b.go,gq b.od,b.lt⟩
theorem ci.Lt.hi(l:X.Lt):X.h≠X.i:=du (b9 l.a (b9 l.b l.c))
theorem ci.Lt.hg(l:X.Lt):X.h≠X.g:=du (b9 l.b l.c)
theorem ci.Lt.gi(l:X.Lt):X.gn≠X.i:=du (b9 l.a (b9 l.b (b9 l.c l.d)))
theorem ci.Lt.gg(l:X.Lt):X.gn≠X.g:=du (b9 l.b (b9 l.c l.d))
theorem ci.Lt.go(l:X.Lt):X.gn≠X.o:=du (b9 l.c l.d)
theorem ci.Lt.oh(l:X.Lt):X.od≠X.h:=du (b9 l.d l.e)
theorem ci.Lt.oo(l:X.Lt):X.od≠X.o:=du (b9 l.c (b9 l.d l.e))
theorem ci.Lt.og(l:X.Lt):X.od≠X.g:=du (b9 l.b (b9 l.c (b9 l.d l.e)))
theorem ci.Lt.oi(l:X.Lt):X.od≠X.i:=du (b9 l.a (b9 l.b (b9 l.c (b9 l.d l.e))))
theorem ec.here{d3:cx}(b:ec p n Z gs os X S):ec p n d3 gs os X (S.set X.h (.dp d3)):=
 ⟨eD b.lt.hi b.ns,eD b.lt.hg b.gv,eD (du b.lt.c) b.ot,rt b.hr,eD (eZ b.lt.d) b.go,eD b.lt.oh.symm b.od,b.lt⟩
theorem ec.gone{Hp:cx}(b:ec p n Z gs os X S):ec p n Z Hp os X (S.set X.gn (.dp Hp)):=
 ⟨eD b.lt.gi b.ns,eD b.lt.gg b.gv,eD b.lt.go b.ot,eD (du b.lt.d) b.hr,rt b.go,eD (eZ b.lt.e) b.od,b.lt⟩
theorem ec.order{r5:List H}(b:ec p n Z gs os X S):ec p n Z gs r5 X (S.set X.od (.lst r5)):=
 ⟨eD b.lt.oi b.ns,eD b.lt.og b.gv,eD b.lt.oo b.ot,eD b.lt.oh b.hr,eD (du b.lt.e) b.go,rt b.od,b.lt⟩
end
def i8:dJ->Bool
 | .word w=>w == "choose"
 | _=>false
def hB:H->Bool
 | .int i=>i == 0
 | _=>false
def kd(Z:cx)(s:az)(t:Int):List Str:=
 if i8 s.rule=true then(match s.needs with
  | [a,b,c]=>(match aD (a,t) Z with
   | none=>[a]
   | some v=>if hB v=true then[b]else[c])
  | _=>[])
 else s.needs
def fk(Z:cx)(s:az)(t:Int):Option Str:=(kd Z s t).find? fun x=>(aD (x,t) Z).isNone
def qp(Z gs:cx)(s:az)(t:Int):Bool:=(aD (s.name,t) gs).isNone&&(fk Z s t).isNone
def r4:Option Str->H
 | some x=>.str x
 | none=>.none
def gT(Z:cx):Prop:=∀k v,aD k Z=some v->∃i:Int,v=.int i/\0<=i/\i<=999999
section
variable {p:List az}{Z gs:cx}{X:ci}{d:Nat}
theorem Hz{x:Str}(b:ec p n Z gs os X S):bU PP topN (d+1) tA [.inst bl X.i,.str x,.int t] S=.ok (.bool (aD (x,t) gs).isSome) S:=by
 rw[cO rfl rfl]
 have:ex (CC d) topN Ew.body [dh X.i,bA x,ag t] S=.ret (.bool (aD (x,t) gs).isSome) [dh X.i,bA x,ag t] S:=
  bV (dF (jE rfl (hP (ak:=S) (v:=.ref X.gn) rfl b.ns rfl) (wa b.go)))
 exact(congrArg bm this).trans rfl
theorem Jw{x:Str}{j:Int}(h:S[r]?=some (.dp Z)):d2 .notin (.tup [.str x,.int j]) (.ref r) S=.ok (aD (x,j) Z).isNone S:=by
 show aj.ofOpt ((fH (.tup [.str x,.int j]) (.ref r) S).map (!·)) S=_
 have:fH (.tup [.str x,.int j]) (.ref r) S=some (aD (x,j) Z).isSome:=by unfold fH;dsimp only;rw[h];rfl
 refine this<&>?_;cases aD (x,j) Z <;> rfl
theorem Hd{df:H->aB->Option aB}{f:aB->ab->cq}{x v:H}(hb:df x R=some cL)(h:f cL S=.ret v fL aH):ch none df f (x::Y) R S=.ret v fL aH:=by
 apply(aC trivial).trans;rw[hb];show mO _ (f cL S)=_;rw[h];rfl
theorem TK{y:Option H}(b:ec p n Z gs os X S):∀(ns:List Str) (z:Option H),∃b8,
  ch none (dj 5) (fun R S=>ex (CC d) topN EA R S) (ns.map .str) [dh X.i,some sp,ag t,some pl,y,z] S =
   match ns.find? fun x=>(aD (x,t) Z).isNone with
   | some x=>.ret (.str x) [dh X.i,some sp,ag t,some pl,y,b8] S
   | none=>.next [dh X.i,some sp,ag t,some pl,y,b8] S:=by
 intro ns
 induction ns with
 | nil=>intro z;exact⟨z,e3⟩
 | cons x ns af =>
  intro z
  have bR:tst (CC d) (.cmp (.tup #v[(.v 5),(.v 2)]) .notin (.attr bl (.v 0) "here")) [dh X.i,some sp,ag t,some pl,y,bA x] S=.ok (aD (x,t) Z).isNone S:=
   c3 (x:=.tup [.str x,.int t]) (ak:=S) rfl (hP (i:=X.i) (ak:=S) (v:=.ref X.h) rfl b.ns rfl) (Jw b.hr)
  refine List.find?_cons<&>?_
  cases hq:(aD (x,t) Z).isNone with
  | true =>
   rw[hq]at bR;exact⟨bA x,Hd (cL:=[dh X.i,some sp,ag t,some pl,y,bA x]) rfl (bV (a:=yE) ((eg bR).trans (bV (dF rfl))))⟩
  | false =>
   rw[hq]at bR;refine aF (af (bA x)) fun b8 e=>?_;exact⟨b8,(ez (cL:=[dh X.i,some sp,ag t,some pl,y,bA x]) (aH:=S) rfl ((ar (a:=yE) (cB bR)).trans bC)).trans e⟩
theorem AH{y z:Option H}{ns:List Str}(b:ec p n Z gs os X S)(hp:evIt (CC d) (.v 3) [dh X.i,some sp,ag t,some pl,y,z] S=.ok (ns.map .str,none) S) :
  bm (ex (CC d) topN #v[ro,vp] [dh X.i,some sp,ag t,some pl,y,z] S)=.ok (r4 (ns.find? fun x=>(aD (x,t) Z).isNone)) S:=by
 refine aF (TK (d:=d) (t:=t) (sp:=sp) (pl:=pl) (y:=y) b ns z) fun b8 e=>?_;have ah:=e2 hp e
 cases hq:ns.find? fun x=>(aD (x,t) Z).isNone with
 | none =>
  rw[hq]at ah;exact(congrArg bm ((ar (a:=ro) ah).trans rfl)).trans rfl
 | some x =>
  rw[hq]at ah;exact(congrArg bm (bV (a:=ro) ah)).trans rfl
theorem wL{r:dJ}{k g:Nat}(h:gf r k g):∃w,(∀S,ga r.pv (.int 0) S=.ok (.str w) S)/\(w == "choose")=i8 r/\(i8 r=true->k=3):=by
 cases h <;> first | exact⟨_,fun u=>rfl,rfl,fun z=>by contradiction⟩ | exact⟨_,fun u=>rfl,rfl,fun u=>rfl⟩ | exact⟨"fixed",fun u=>rfl,by decide +kernel,fun z=>by contradiction⟩ | skip
 all_goals refine⟨_,fun u=>rfl,rfl,fun z=>?_⟩
 all_goals (revert z;decide +kernel)
def iF(_:az):Prop:=True
theorem Jb{s:az}(b:ec p n Z gs os X S)(hs:hI s)(hr:iF s)(hv:gT Z):bU PP topN (d+1) tB [.inst bl X.i,s.pv,.int t] S=.ok (r4 (fk Z s t)) S:=by
 rw[cO rfl rfl];show bm (ex (CC d) topN #v[Ex,s3,ro,vp] [dh X.i,some s.pv,ag t,none,none,none] S)=_;refine bw (wL hs.rule) fun w k6 tx Rh=>?_;rw[ar (ρ':=[dh X.i,some s.pv,ag t,some (.tup (s.needs.map .str)),none,none]) rfl]
 have bR:tst (CC d) (.cmp (.sub (.sub (.v 1) (ai 1)) (ai 0)) .eq (.k (.str "choose"))) [dh X.i,some s.pv,ag t,some (.tup (s.needs.map .str)),none,none] S=.ok (i8 s.rule) S:=by
  rw[<- tx];exact c3 (dO (ak:=S) rfl rfl (k6 S)) (aH:=S) rfl vf
 unfold fk kd
 cases hc:i8 s.rule with
 | false =>
  rw[hc]at bR;rw[ar (a:=s3) (cB bR),aV ⋯];exact AH b rfl
 | true =>
  rw[hc]at bR;rw[aC rfl];have au:=Rh hc;obtain⟨nm,rl,ns,gv⟩:=s;dsimp only at au ⊢;refine lG (p3 (show ns.length=3 from au)) fun x y z ae=>?_;subst ae;dsimp only
  have PB:ev (CC d) (.me .get (.attr bl (.v 0) "here") #v[(.tup #v[(.sub (.v 3) (ai 0)),(.v 2)])]) [dh X.i,some (az.pv ⟨nm,rl,[x,y,z],gv⟩),ag t,some (.tup [.str x,.str y,.str z]),none,none] S=.ok ((aD (x,t) Z).getD .none) S:=
   h4 (hP (ak:=S) (v:=.ref X.h) rfl b.ns rfl) (zk b.hr) (aH:=S) rfl (zp b.hr)
  have ce:∀{o:cq},ex (CC d) topN #v[vn,vo] [dh X.i,some (az.pv ⟨nm,rl,[x,y,z],gv⟩),ag t,some (.tup [.str x,.str y,.str z]),some ((aD (x,t) Z).getD .none),none] S=o->ex (CC d) topN s3 [dh X.i,some (az.pv ⟨nm,rl,[x,y,z],gv⟩),ag t,some (.tup [.str x,.str y,.str z]),none,none] S=o:=fun{o} ho =>
   (eg bR).trans ((ar (b6 PB)).trans ho)
  cases hx:aD (x,t) Z with
  | none =>
   rw[hx]at ce;apply(congrArg bm (bV (ce (bV ((eg (σ':=S) rfl).trans (bV (dF (σ':=S) rfl))))))).trans;rw[List.find?_cons,hx];rfl
  | some v =>
   rw[hx]at ce;refine ay (hv _ _ hx) fun i ae u=>?_;subst ae;have bQ:tst (CC d) (.cmp (.v 4) .eq (ai 0)) [dh X.i,some (az.pv ⟨nm,rl,[x,y,z],gv⟩),ag t,some (.tup [.str x,.str y,.str z]),ag i,none] S=.ok (i == 0) S:=rfl;show bm (ex (CC d) topN #v[s3,ro,vp] _ S)=.ok (r4 ((if(i == 0)=true then[y]else[z]).find? _)) S
   cases hi:(i == 0)with
   | true =>
    rw[hi]at bQ;exact(congrArg bm (ar (ce ((ar ((cB (σ':=S) rfl):ex (CC d) topN vn [dh X.i,some (az.pv ⟨nm,rl,[x,y,z],gv⟩),ag t,some (.tup [.str x,.str y,.str z]),ag i,none] S=.next [dh X.i,some (az.pv ⟨nm,rl,[x,y,z],gv⟩),ag t,some (.tup [.str x,.str y,.str z]),ag i,none] S)).trans ((ar (a:=vo) ((eg bQ).trans ((ar (a:=Ez) (b6 (v:=.tup [.str y]) (σ':=S) rfl)).trans bC))).trans bC))))).trans (AH b rfl)
   | false =>
    rw[hi]at bQ;exact(congrArg bm (ar (ce ((ar ((cB (σ':=S) rfl):ex (CC d) topN vn [dh X.i,some (az.pv ⟨nm,rl,[x,y,z],gv⟩),ag t,some (.tup [.str x,.str y,.str z]),ag i,none] S=.next [dh X.i,some (az.pv ⟨nm,rl,[x,y,z],gv⟩),ag t,some (.tup [.str x,.str y,.str z]),ag i,none] S)).trans ((ar (a:=vo) ((vj bQ).trans ((ar (a:=Ey) (b6 (v:=.tup [.str z]) (σ':=S) rfl)).trans bC))).trans bC))))).trans (AH b rfl)
theorem J1{s:az}(b:ec p n Z gs os X S)(hs:hI s)(hr:iF s)(hv:gT Z):bU PP topN (d+2) vY [.inst bl X.i,s.pv,.int t] S=.ok (.bool (qp Z gs s t)) S:=by
 rw[cO rfl rfl]
 have V:ev (CC (d+1)) (.meth bl tA "has_fired" (.v 0) #v[(.sub (.v 1) (ai 0)),(.v 2)]) [dh X.i,some s.pv,ag t] S=.ok (.bool (aD (s.name,t) gs).isSome) S:=
  gm rfl b.ns rfl rfl (Hz b)
 have ah:ev (CC (d+1)) (.meth bl tB "missed" (.v 0) #v[(.v 1),(.v 2)]) [dh X.i,some s.pv,ag t] S=.ok (r4 (fk Z s t)) S:=
  gm (i:=X.i) (ak:=S) (aH:=S) rfl b.ns rfl rfl (Jb b hs hr hv)
 have bq:ev (CC (d+1)) (.not (.meth bl tA "has_fired" (.v 0) #v[(.sub (.v 1) (ai 0)),(.v 2)])) [dh X.i,some s.pv,ag t] S=.ok (.bool (aD (s.name,t) gs).isNone) S:=by
  rw[Oj,V];cases aD (s.name,t) gs <;> rfl
 have eP:ev (CC (d+1)) (.cmp (.meth bl tB "missed" (.v 0) #v[(.v 1),(.v 2)]) .is (.k .none)) [dh X.i,some s.pv,ag t] S=.ok (.bool (fk Z s t).isNone) S:=
  jE ah (aH:=S) rfl (by cases fk Z s t <;> rfl)
 exact(congrArg bm (bV (dF (ps (NP bq fun u=>pt eP))))).trans rfl
end
def iQ(vs:List H):List Int:=(gF vs).getD []
def se(l:List Int):Int:=l.foldl (fun a x=>a*x%1000000) 1
def mM:List Int->Int
 | []=>0
 | x::l=>l.foldl min x
def mR:List Int->Int
 | []=>0
 | x::l=>l.foldl max x
theorem xR:∀l:List Int,gF (l.map .int)=some l:=by
 intro l
 induction l with
 | nil=>rfl
 | cons x l af=>show(gF (l.map .int)).map (x::·)=_;refine af<&>?_;rfl
theorem mK:iQ (l.map .int)=l:=by unfold iQ;refine xR<&>?_;rfl
section
variable {d:Nat}
theorem Ve{w:Option H}:∀(l:List Int) (a:Int) (z:Option H),(0<=a/\a<=999999)->(∀x∈l,0<=x/\x<=999999)->∃b8,ch none (dj 2) (fun R S=>ex (CC d) topN GZ R S) (l.map .int) [some pl,ag a,z,w] S=.next [some pl,ag (l.foldl (fun a x=>a*x%1000000) a),b8,w] S:=by
 intro l
 induction l with
 | nil=>intro a z _ _;exact⟨z,e3⟩
 | cons x l af =>
  intro a z ha hl;refine aF (af (a*x%1000000) (ag x) (⟨fq _ ⋯,Int.le_of_lt_add_one (gj _ ⋯)⟩:0<=a*x%1000000/\a*x%1000000<=999999) fun y aG=>hl y (bx _ aG)) fun b8 e=>?_;refine⟨b8,(ez (cL:=[some pl,ag a,ag x,w]) (aH:=S) rfl ((ar (a:=G0) (b6 (cj (cj (x:=.int a) (ak:=S) rfl (y:=.int x) (aH:=S) rfl (mul_int (.inl ?_))) (y:=.int 1000000) (aH:=S) rfl (gw ⋯)))).trans bC)).trans e⟩
  (grind)
theorem Vg(h:∀x∈l,0<=x/\x<=999999):bU PP topN (d+1) Ik [.fl (l.map .int)] S=.ok (.int (se l)) S:=by
 rw[cO rfl rfl];refine aF (Ve (d:=d) (S:=S) (pl:=.fl (l.map .int)) (w:=none) l 1 none ⋯ h) fun z e=>?_;exact(congrArg bm (rfl.trans ((ar (a:=GY) (e2 rfl e)).trans rfl))).trans rfl
theorem xS:(cY S (.fl (l.map .int))).bind gF=some l:=xR l
theorem KC(hl:l.length<=1000)(h:∀x∈l,0<=x/\x<=999999):dN .sum (.fl (l.map .int)) S=.ok (.int l.sum) S:=by
 show fm gF (fun l=>if l.length<=1000/\l.all (fun x=>decide (x.natAbs<2 ^ 40))then aj.ok (H.int l.sum) S else .stuck) (.fl (l.map .int)) S=_;rw[t0 xS];refine aC ⟨hl,hN.mpr fun x hx=>c6 ?_⟩;have:=h x hx
 (grind)
theorem TG{x:Int}:dN .min (.fl ((x::l).map .int)) S=.ok (.int (mM (x::l))) S:=by
 show fm gF (fun l=>match l with
  | x::l=>aj.ok (H.int (l.foldl min x)) S
  | []=>.stuck) (.fl ((x::l).map .int)) S=_
 rw[t0 xS];rfl
theorem Tg{x:Int}:dN .max (.fl ((x::l).map .int)) S=.ok (.int (mR (x::l))) S:=by
 show fm gF (fun l=>match l with
  | x::l=>aj.ok (H.int (l.foldl max x)) S
  | []=>.stuck) (.fl ((x::l).map .int)) S=_
 rw[t0 xS];rfl
def oW:dJ->List H->H
 | .fixed v,_=>.int v
 | .word w,vs =>
  if w == ("sum" : Str)then .int ((iQ vs).sum%1000000)else
  if w == ("times" : Str)then .int (se (iQ vs))else
  if w == ("least" : Str)then .int (mM (iQ vs))else
  if w == ("most" : Str)then .int (mR (iQ vs))else
  if w == ("choose" : Str)then(if hB (vs.getD 0 .none)=true then vs.getD 1 .none else vs.getD 2 .none)else
  vs.getD 0 .none
def su:dJ->Bool
 | .word w=>w == "way"
 | _=>false
def ht(r:dJ)(vs:List H)(k:Nat):List H:=
 if su r=true then(if hB (vs.getD 1 .none)=true then[vs.getD 0 .none,.none]else[.none,vs.getD 0 .none])else List.replicate k (oW r vs)
def ei(v:H):Prop:=∃i:Int,v=.int i/\0<=i/\i<=999999
def o6(r:dJ)(vs:List H):Prop:=if i8 r=true then ei (vs.getD 0 .none)/\ei (if hB (vs.getD 0 .none)=true then vs.getD 1 .none else vs.getD 2 .none)else ∀v∈vs,ei v
theorem m1:∀{vs:List H},(∀v∈vs,ei v)->∃l:List Int,vs=l.map .int/\∀x∈l,0<=x/\x<=999999:=by
 intro vs
 induction vs with
 | nil=>intro _;exact aI ([]) rfl (fun x hx=>by contradiction)
 | cons v vs af =>
  intro h;refine ay (af fun w hw=>h w (bx _ hw)) fun l ae hl=>ae▸(ay (h v be) fun i ae hi=>ae▸?_)
  exact⟨i::l,rfl,fun x hx=>by
   refine bZ (bY.mp hx) (fun hl=>?_) (fun hx=>?_)
   ·refine hl▸?_;exact hi
   ·exact hl x hx⟩
end
section
variable {d:Nat}
theorem sk{vs:List H}{x:H}(hl:vs.length<=100)(h:vs[i]?=some x):ga (.fl vs) (.int (i:Nat)) S=.ok x S:=
 jq (aE hl ⋯) (ea i) (ey (congrArg _ (kL ..)) h)
theorem Nb{a b c:H}(ha:∃i:Int,a=.int i):bU PP topN (d+1) H5 [.fl [a,b,c]] S=.ok (if hB a=true then b else c) S:=by
 refine aF ha fun i ae=>ae▸?_;rw[cO rfl rfl];have t:tst (CC d) (.cmp (.sub (.v 0) (ai 0)) .eq (ai 0)) [some (.fl [.int i,b,c])] S=.ok (i == 0) S:=rfl;show bm (ex (CC d) topN #v[vq,EP] [some (.fl [.int i,b,c])] S)=.ok (if(i == 0)=true then b else c) S
 cases hi:(i == 0)with
 | true =>
  rw[hi]at t;exact(congrArg bm (bV (a:=vq) ((eg t).trans rfl))).trans rfl
 | false =>
  rw[hi]at t;exact(congrArg bm ((ar (a:=vq) (cB t)).trans rfl)).trans rfl
theorem Wa{r:dJ}{vs:List H}{k:Nat}(h:gf r vs.length k)(hw:su r=false)(hl:vs.length<=100)(J:1<=vs.length)(he:o6 r vs):bU PP topN (d+2) Il [r.pv,.fl vs] S=.ok (oW r vs) S:=by
 rw[cO rfl rfl];show bm (ex (CC (d+1)) topN #v[pz,oC,oD,pA,s5,y8,y9,zc] [some r.pv,some (.fl vs),none,none,none,none,none,none,none] S)=_;generalize hk:vs.length=m at h
 cases h with
 | sum _ _ =>
  refine ay (m1 (show ∀v∈vs,ei v from he)) fun l ae hv=>?_;subst ae
  have e:ev (CC (d+1)) (.bin .mod (.b1 .sum (.v 1)) (ai 1000000)) [some (dJ.pv (.word "sum")),some (.fl (l.map .int)),bA "sum",none,none,none,none,none,none] S=.ok (.int (l.sum%1000000)) S:=
   cj (da rfl (KC (by rw[a9]at hl;(exact aE (by assumption) ⋯)) hv)) rfl (gw ⋯)
  apply(congrArg bm (rfl.trans (bV (rfl.trans (bV (dF e)))))).trans;show aj.ok (H.int (l.sum%1000000)) S=aj.ok (.int ((iQ (l.map .int)).sum%1000000)) S;exact mK<&>rfl
 | times _ _ =>
  refine ay (m1 (show ∀v∈vs,ei v from he)) fun l ae hv=>?_;subst ae;apply(congrArg bm ((ar rfl).trans ((ar (a:=oC) rfl).trans (bV (a:=oD) (rfl.trans (bV (dF (ef (x:=.fl (l.map .int)) (ak:=S) rfl (Vg hv))))))))).trans;show aj.ok (H.int (se l)) S=aj.ok (.int (se (iQ (l.map .int)))) S;rw[mK]
 | least _ _ =>
  refine ay (m1 (show ∀v∈vs,ei v from he)) fun l ae hv=>?_;obtain rfl:=ae
  cases l with
  | nil=>exact absurd J ⋯
  | cons x l =>
  refine(congrArg bm ((ar (a:=pz) rfl).trans ((ar (a:=oC) rfl).trans ((ar (a:=oD) rfl).trans
   (bV (a:=pA) (rfl.trans (bV (dF (da (ak:=S) rfl TG))))))))).trans ?_
  show aj.ok (H.int (mM (x::l))) S=aj.ok (.int (mM (iQ ((x::l).map .int)))) S;rw[mK]
 | most _ _ =>
  refine ay (m1 (show ∀v∈vs,ei v from he)) fun l ae hv=>?_;obtain rfl:=ae
  cases l with
  | nil=>exact absurd J ⋯
  | cons x l =>
  refine(congrArg bm ((ar (a:=pz) rfl).trans ((ar (a:=oC) rfl).trans ((ar (a:=oD) rfl).trans ((ar (a:=pA) rfl).trans
   (bV (a:=s5) (rfl.trans (bV (dF (da (x:=.fl ((x::l).map .int)) (ak:=S) rfl Tg)))))))))).trans ?_
  show aj.ok (H.int (mR (x::l))) S=aj.ok (.int (mR (iQ ((x::l).map .int)))) S;rw[mK]
 | later _ =>
  have hx:vs[0]?=some (vs.getD 0 .none):=by rw[nc,cM (show 0<vs.length from J)];rfl
  exact(congrArg bm ((ar (a:=pz) rfl).trans ((ar (a:=oC) rfl).trans ((ar (a:=oD) rfl).trans ((ar (a:=pA) rfl).trans ((ar (a:=s5) rfl).trans
   ((ar rfl).trans ((ar rfl).trans (bV (a:=zc) (dF (dO (ak:=S) rfl (aH:=S) rfl (sk hl hx)))))))))))).trans rfl
 | way=>contradiction
 | choose _ =>
  refine ay (show ei (vs.getD 0 .none)from And.left he) fun i hi u=>lG (p3 hk) fun a b c ae=>?_;obtain rfl:=ae
  exact(congrArg bm ((ar (a:=pz) rfl).trans ((ar (a:=oC) rfl).trans ((ar (a:=oD) rfl).trans ((ar (a:=pA) rfl).trans ((ar (a:=s5) rfl).trans
   ((ar (a:=y8) rfl).trans (bV (a:=y9) (rfl.trans (bV (dF (ef (ak:=S) rfl (Nb ⟨i,hi⟩))))))))))))).trans rfl
 | fixed v _ _ _ _ =>
  exact(congrArg bm ((ar (a:=pz) rfl).trans ((ar (a:=oC) rfl).trans ((ar (a:=oD) rfl).trans ((ar (a:=pA) rfl).trans (rfl.trans
   rfl)))))).trans rfl
theorem UP{r:dJ}{vs:List H}{k:Nat}(h:gf r vs.length k)(hl:vs.length<=100)(J:1<=vs.length)(hk:k<=100)(he:o6 r vs):bU PP topN (d+3) Am [r.pv,.fl vs,.int (k:Nat)] S=.ok (.fl (ht r vs k)) S:=by
 rw[cO rfl rfl];show bm (ex (CC (d+2)) topN #v[s4,y6,y7] [some r.pv,some (.fl vs),ag (k:Nat),none,none,none] S)=_
 have bR:tst (CC (d+2)) (.cmp (.sub (.v 0) (ai 0)) .eq (.k (.str "way"))) [some r.pv,some (.fl vs),ag (k:Nat),none,none,none] S=.ok (su r) S:=by
  generalize vs.length=m at h;cases h <;> rfl
 unfold ht
 cases hw:su r with
 | true =>
  rw[hw]at bR;rw[aC rfl];generalize hm:vs.length=m at h
  cases h with
  | way =>
   refine eM (Ax hm) fun a b ae=>?_;subst ae;refine ay ((show ∀v∈[a,b],ei v from he) b (bx _ be)) fun j ae u=>?_;subst ae;have bQ:tst (CC (d+2)) (.cmp (.sub (.v 1) (ai 1)) .eq (ai 0)) [some (dJ.pv (.word "way")),some (.fl [a,.int j]),ag ((2:Nat):Int),none,none,none] S=.ok (j == 0) S:=rfl;show _=aj.ok (H.fl (if(j == 0)=true then[a,.none]else[.none,a])) S
   cases aR:(j == 0)with
   | true =>
    rw[aR]at bQ;exact(congrArg bm (bV (a:=s4) ((eg bR).trans (bV ((eg bQ).trans rfl))))).trans rfl
   | false =>
    rw[aR]at bQ;exact(congrArg bm (bV (a:=s4) ((eg bR).trans ((ar (a:=GU) (cB bQ)).trans rfl)))).trans rfl
  | _=>contradiction
 | false =>
  rw[hw]at bR;rw[aV ⋯]
  have ce:ex (CC (d+2)) topN y6 [some r.pv,some (.fl vs),ag (k:Nat),none,none,none] S=.next [some r.pv,some (.fl vs),ag (k:Nat),some (oW r vs),none,none] S:=
   b6 (jb rfl rfl (Wa h hw hl J he))
  have qq:evIt (CC (d+2)) (.range1 (.v 2)) [some r.pv,some (.fl vs),ag (k:Nat),some (oW r vs),none,none] S=.ok (cR 0 1 k,none) S:=by
   show(if 0<=(k:Int)/\(k:Int)<=aL then aj.ok (cR 0 1 (k:Int).toNat,none) S else .stuck)=_;rw[aC ⟨(ea _),by rw[fj];(exact ig.mpr (aE (by assumption) ⋯))⟩];rfl
  have c:ev (CC (d+2)) GS [some r.pv,some (.fl vs),ag (k:Nat),some (oW r vs),none,none] S=.ok (.fl ((cR 0 1 k).map fun u=>oW r vs)) S:=
   pn (fun u=>oW r vs) qq (by rw[fj];simp[cR];(exact aE (by assumption) ⋯)) fun x u=>rfl
  rw[List.map_const',show(cR 0 1 k).length=k by simp[cR]]at c;exact(congrArg bm ((ar (a:=s4) (cB bR)).trans ((ar ce).trans (bV (a:=y7) (dF c))))).trans rfl
end
section
variable {p:List az}{Z gs:cx}{X:ci}{d:Nat}
theorem Jr(b:ec p n Z gs os X S)(h0:0<=t)(J:t<n):bU PP topN (d+2) Ae [.inst bl X.i,.int t] S=.ok .none S:=by
 rw[cO rfl rfl]
 have c:bU PP topN (d+1) rI [.int t,.int 0,.int ((n:Int)-1)] S=.ok (.bool true) S:=by
  rw[C4,c6 h0,c6 (show t<=(n:Int)-1 by grind)];rfl
 have bR:tst (CC (d+1)) (.not (.call rI #v[(.v 1),(ai 0),(.bin .sub (.attr bl (.v 0) "turns") (ai 1))])) [dh X.i,ag t,none,none] S=.ok (!true) S:=
  jV (li (rf rfl rfl (cj (hP (ak:=S) (v:=.int n) rfl b.ns rfl) (aH:=S) rfl sub_int) c))
 exact(congrArg bm ((ar (cB bR)).trans bC)).trans rfl
theorem WE{s:az}:∀(q:List az) (z:Option H),s∈q->(q.map (·.name)).Nodup->∃b8,ch none (dj 2) (fun R S=>ex (CC d) topN EC R S) (q.map az.pv) [dh i,bA s.name,z,none,none,none] S=.ret s.pv [dh i,bA s.name,b8,none,none,none] S:=by
 intro q
 induction q with
 | nil=>intro z h _;contradiction
 | cons a q af =>
  intro z h hn;rw[dX,hY]at hn;have bR:tst (CC d) (.cmp (.sub (.v 2) (ai 0)) .eq (.v 1)) [dh i,bA s.name,some a.pv,none,none,none] S=.ok (a.name == s.name) S:=rfl;by_cases ha:a.name=s.name
  ·have:a=s:=by
    rcases bY.mp h with rfl | h
    ·rfl
    ·exact absurd (c7.mpr (aI s h ha.symm)) hn.1
   subst this;rw[beq_self_eq_true]at bR;exact⟨some a.pv,Hd (cL:=[dh i,bA a.name,some a.pv,none,none,none]) rfl (bV ((eg bR).trans rfl))⟩
  ·rw[mq.mpr ha]at bR;exact aF (af (some a.pv) ((bY.mp h).resolve_left fun q=>ha (q▸rfl)) hn.2) fun b8 e=>⟨b8,(ez rfl ((ar (a:=ED) (cB bR)).trans bC)).trans e⟩
theorem Bb{o:Mine.X}(b:ec p n Z gs os X S)(ho:ev (CC d) o R S=.ok (.inst bl X.i) S):evIt (CC d) (.attr bl o "plan") R S=.ok (p.map az.pv,none) S:=by
 show(ev (CC d) (.attr bl o "plan") R S).bind eh=_;rw[hP (v:=dx p) ho b.ns rfl];rfl
theorem Ue{s:az}(b:ec p n Z gs os X S)(hs:s∈p)(hn:(p.map (·.name)).Nodup):bU PP topN (d+1) H3 [.inst bl X.i,.str s.name] S=.ok s.pv S:=by
 rw[cO rfl rfl];refine aF (WE (d:=d) (S:=S) (i:=X.i) p none hs hn) fun z e=>?_
 have ah:ex (CC d) topN EB [dh X.i,bA s.name,none,none,none,none] S=.ret s.pv [dh X.i,bA s.name,z,none,none,none] S:=
  e2 (Bb b rfl) e
 exact(congrArg bm (bV (rfl.trans (bV ah)))).trans rfl
theorem BD{c f:Nat}{m:Str}{o args:Mine.X}(h:ev C (.meth c f m o args) R S=.ok (.bool q) ak):tst C (.meth c f m o args) R S=.ok q ak:=by
 show(ev C (.meth c f m o args) R S).bind kv=_;refine h<&>?_;rfl
def d9(Z:cx)(s:az)(t:Int):List H:=s.needs.map fun x=>(aD (x,t) Z).getD .none
def et(s:az)(t:Int):Int:=t+(if iR s.rule=true then 1 else 0)
def put1(w:Int)(Z:cx)(e:Str×H):cx:=if jj e.2=true then Z else ee (e.1,w) e.2 Z
def g5(n:Nat)(Z:cx)(s:az)(t:Int):cx:=if et s t=n then Z else(s.gives.zip (ht s.rule (d9 Z s t) s.gives.length)).foldl (put1 (et s t)) Z
theorem yn{s:az}(hs:hI s)(hv:gT Z)(hm:fk Z s t=none):o6 s.rule (d9 Z s t):=by
 unfold o6;unfold fk kd at hm;rw[List.find?_eq_none]at hm
 have zo:∀x,¬(aD (x,t) Z).isNone=true->ei ((aD (x,t) Z).getD .none):=fun x hx=>by
  cases ha:aD (x,t) Z with
  | none=>rw[ha]at hx;exact absurd rfl hx
  | some v=>exact hv _ _ ha
 refine bw (wL hs.rule) fun u u u au=>?_
 cases hc:i8 s.rule with
 | false =>
  rw[hc,aV ⋯]at hm;rw[aV ⋯];intro v nB;exact ay (c7.mp nB) fun x hx ae=>ae▸(zo x (hm x hx))
 | true =>
  rw[hc,aC rfl]at hm;rw[aC rfl];have au:=au hc;obtain⟨nm,rl,ns,gv⟩:=s;dsimp only at au hm;refine lG (p3 (show ns.length=3 from au)) fun x y z ae=>?_;subst ae;dsimp only at hm
  cases ha:aD (x,t) Z with
  | none =>
   rw[ha]at hm;exact absurd (by rw[ha];rfl) (hm x (be))
  | some v =>
   rw[ha]at hm;show ei ((aD (x,t) Z).getD .none)/\ei (if hB ((aD (x,t) Z).getD .none)=true then(aD (y,t) Z).getD .none else(aD (z,t) Z).getD .none);rw[ha];refine⟨hv _ _ ha,?_⟩;dsimp only at hm;show ei (if hB v=true then(aD (y,t) Z).getD .none else(aD (z,t) Z).getD .none)
   cases a3:hB v with
   | true=>rw[a3]at hm;exact zo y (hm y (be))
   | false=>rw[a3]at hm;exact zo z (hm z (be))
theorem Be{w:Int}{e:Str×H}:(put1 w Z e).length<=Z.length+1:=by
 unfold put1
 split
 ·exact Nat.le_succ _
 ·unfold ee
  split
  ·rw[a9];exact Nat.le_succ _
  ·rw[cD];exact bJ _
theorem Vr{w:Int}:∀(l:List (Str×H)) (Z:cx),(l.foldl (put1 w) Z).length<=Z.length+l.length:=by
 intro l
 induction l with
 | nil=>intro Z;exact bJ _
 | cons e l af =>
  intro Z;rw[i5,dD];have J:=af (put1 w Z e);have L:=Be (w:=w) (Z:=Z) (e:=e)
  (grind)
theorem rs{w:Option (Nat×aX)}{df:H->aB->Option aB}{f:aB->ab->cq}(hw:hT w S):ch w df f [] R S=.next R S:=aC hw
theorem rr{w:Option (Nat×aX)}{df:H->aB->Option aB}{f:aB->ab->cq}{x:H}(hw:hT w S)(hb:df x R=some cL)(h:f cL S=.next fL aH):ch w df f (x::Y) R S=ch w df f Y fL aH:=by
 apply(aC hw).trans;rw[hb];show mO _ (f cL S)=_;rw[h];rfl
def dT(i:Nat)(nm:Str)(t:Int)(sp:H)(pl vs:Option H)(w:Option H)(v:Option H):aB:=[dh i,bA nm,ag t,some sp,pl,vs,w,v,none,none,none,none,none,none]
theorem PN{nm:Str}{w:Int}{vs:Option H}(aR:j≠X.h):∀(l:List (Str×H)) (Z:cx) (S:ab) (y z:Option H),S[j]?=some .tp->ec p n Z gs os X S->Z.length+l.length<900000 ->
  ∃bI b8 σ',ch (some (j,.tp)) (eG [4,7]) (fun R S=>ex (CC d) topN yD R S) (l.map fun e=>.tup [.str e.1,e.2]) (dT X.i nm t sp y vs (ag w) z) S=.next (dT X.i nm t sp bI vs (ag w) b8) σ'/\ec p n (l.foldl (put1 w) Z) gs os X σ'/\d5 X S σ':=by
 intro l
 induction l with
 | nil=>intro Z S y z hw b _;exact mC y z S (rs hw) b .refl
 | cons e l af =>
  intro Z S y z hw b hl;rw[dD]at hl;obtain⟨x,v⟩:=e;have bR:tst (CC d) (.cmp (.v 7) .isNot (.k .none)) (dT X.i nm t sp (bA x) vs (ag w) (some v)) S=.ok (!jj v) S:=rfl
  have fin:∀{d3:cx} {ak:ab},d3=put1 w Z (x,v)->ex (CC d) topN Ev (dT X.i nm t sp (bA x) vs (ag w) (some v)) S=.next (dT X.i nm t sp (bA x) vs (ag w) (some v)) ak->ec p n d3 gs os X ak->d5 X S ak->ak[j]?=some .tp ->
    ∃bI b8 σ',ch (some (j,.tp)) (eG [4,7]) (fun R S=>ex (CC d) topN yD R S) (((x,v)::l).map fun e=>.tup [.str e.1,e.2]) (dT X.i nm t sp y vs (ag w) z) S=.next (dT X.i nm t sp bI vs (ag w) b8) σ'/\ec p n (((x,v)::l).foldl (put1 w) Z) gs os X σ'/\d5 X S σ':=fun{d3 ak} he h b1 k1 k6=>by
   subst he;obtain⟨bI,b8,σ',e,cz,bs⟩:=af (put1 w Z (x,v)) ak (bA x) (some v) k6 b1 (by have:=Be (w:=w) (Z:=Z) (e:=(x,v));(grind));exact mC bI b8 σ' ((rr (w:=some (j,.tp)) hw rfl ((ar h).trans bC)).trans e) cz (k1.trans bs)
  cases hv:jj v with
  | true =>
   rw[hv]at bR;exact fin ((aC hv).symm) (cB bR) b .refl hw
  | false =>
   rw[hv]at bR;refine fin (by unfold put1;exact(aV (by rw[hv];decide)).symm) ((eg bR).trans ((ar ?_).trans bC)) b.here (.set (.inl rfl)) (eD (Ne.symm aR) hw);show(ev (CC d) (.v 7) (dT X.i nm t sp (bA x) vs (ag w) (some v)) S).toS _ (fun v S=>(ev (CC d) (.attr bl (.v 0) "here") (dT X.i nm t sp (bA x) vs (ag w) (some v)) S).toS _ fun o S=>(ev (CC d) (.tup #v[(.v 4),(.v 6)]) (dT X.i nm t sp (bA x) vs (ag w) (some v)) S).toS _ fun i S=>iV o i v _ S)=_;rw[show ev (CC d) (.v 7) (dT X.i nm t sp (bA x) vs (ag w) (some v)) S=.ok v S from rfl,iW,((hP rfl b.ns rfl):ev (CC d) (.attr bl (.v 0) "here") (dT X.i nm t sp (bA x) vs (ag w) (some v)) S=.ok (.ref X.h) S),iW,show ev (CC d) (.tup #v[(.v 4),(.v 6)]) (dT X.i nm t sp (bA x) vs (ag w) (some v)) S=.ok (.tup [.str x,.int w]) S from rfl,iW];exact wV b.hr (by rw[fj];(grind))
theorem xW{v:H}(h:S[r]?=some (.lst Y))(hl:Y.length<900000):kn .append (.ref r) [v] S=.ok .none (S.set r (.lst (Y++[v]))):=by
 show lC (.ref r) v S=_;unfold lC;dsimp only;rw[h];dsimp only;exact aC (by rw[fj];(exact aE (by assumption) ⋯))
theorem AL(h:S[r]?=some (.lst Y)):qa .append (.ref r) S=true:=by
 show jH (.ref r) S=true;unfold jH;dsimp only;exact h<&>rfl
theorem IL{r:dJ}{k g:Nat}(h:gf r k g):∃w,(∀S,ga r.pv (.int 0) S=.ok (.str w) S)/\(w == "later")=iR r:=by
 cases h <;> first | exact⟨_,fun u=>rfl,rfl⟩ | exact⟨"fixed",fun u=>rfl,by decide +kernel⟩
theorem YI:∀(a:List Str) (b:List H),m4 (a.map .str) b=(a.zip b).map fun e=>.tup [.str e.1,e.2]:=by
 intro a
 induction a with
 | nil=>intro b;cases b <;> rfl
 | cons x a af =>
  intro b
  cases b with
  | nil=>rfl
  | cons y b=>exact congrArg (_::·) (af b)
theorem JF{r:dJ}{vs:List H}{k g:Nat}(h:gf r k g):(ht r vs g).length=g:=by
 unfold ht
 cases hw:su r with
 | false=>exact ey (congrArg _ (aV ⋯ ..)) List.length_replicate
 | true =>
  rw[aC rfl]
  cases h <;> first | contradiction | (split <;> rfl)
structure Li(p:List az)(n:Nat)(Z gs:cx)(os:List H)(X:ci)(S:ab)(r:aj H)(v:H)(σ':ab):Prop where
 e:r=.ok v σ'
 b:ec p n Z gs os X σ'
 k:d5 X S σ'
theorem G5{s:az}(hp:cf p)(b:ec p n Z gs os X S)(hs:s∈p)(hr:iF s)(hv:gT Z)(h0:0<=t)(J:t<n)(hg:aD (s.name,t) gs=none)(hm:fk Z s t=none)
  (d8:Z.length<800000) (f6:gs.length<800000) (Zs:os.length<800000) :
  ∃σ',Li p n (g5 n Z s t) (gs++[((s.name,t),.bool true)]) (os++[.tup [.str s.name,.int t]]) X S (bU PP topN (d+4) Ac [.inst bl X.i,.str s.name,.int t] S) .none σ':=by
 have iU:=hp.steps s hs;rw[cO rfl rfl]
 have hz:ex (CC (d+3)) topN Em [dh X.i,bA s.name,ag t,none,none,none,none,none,none,none,none,none,none,none] S=.next (dT X.i s.name t s.pv none none none none) S:=
  b6 (gm rfl b.ns rfl rfl (Ue b hs hp.names))
 have ce:ex (CC (d+3)) topN En (dT X.i s.name t s.pv none none none none) S=.next (dT X.i s.name t s.pv none none none none) S:=
  f4 (gm (i:=X.i) (ak:=S) (aH:=S) rfl b.ns rfl rfl (Jr b h0 J))
 have fJ:ex (CC (d+3)) topN Eo (dT X.i s.name t s.pv none none none none) S=.next (dT X.i s.name t s.pv none none none none) S:=by
  have c:=Hz (d:=d+2) (x:=s.name) (t:=t) b;rw[hg]at c;exact cB (BD (gm (i:=X.i) (ak:=S) (aH:=S) rfl b.ns rfl rfl c))
 have l3:ex (CC (d+3)) topN Ep (dT X.i s.name t s.pv none none none none) S=.next (dT X.i s.name t s.pv none none none none) S:=by
  have c:=Jb (d:=d+2) (t:=t) b iU hr hv;rw[hm]at c;exact cB (c3 (gm (i:=X.i) (ak:=S) (aH:=S) rfl b.ns rfl rfl c) (aH:=S) rfl rfl)
 have wO:ex (CC (d+3)) topN Er (dT X.i s.name t s.pv none none none none) S=.next (dT X.i s.name t s.pv none none none none) (S.set X.gn (.dp (gs++[((s.name,t),.bool true)]))):=by
  show(aj.ok (H.bool true) S).toS _ (fun v S=>(ev (CC (d+3)) (.attr bl (.v 0) "gone") (dT X.i s.name t s.pv none none none none) S).toS _ fun o S=>(ev (CC (d+3)) (.tup #v[(.v 1),(.v 2)]) (dT X.i s.name t s.pv none none none none) S).toS _ fun i S=>iV o i v _ S)=_;rw[iW,((hP (i:=X.i) (ak:=S) rfl b.ns rfl):ev (CC (d+3)) (.attr bl (.v 0) "gone") (dT X.i s.name t s.pv none none none none) S=.ok (.ref X.gn) S),iW,show ev (CC (d+3)) (.tup #v[(.v 1),(.v 2)]) (dT X.i s.name t s.pv none none none none) S=.ok (.tup [.str s.name,.int t]) S from rfl,iW,wV b.go (by refine fj<&>?_;(exact aE (by assumption) ⋯)),xX hg]
 have b1:ec p n Z (gs++[((s.name,t),.bool true)]) os X (S.set X.gn (.dp (gs++[((s.name,t),.bool true)]))):=b.gone;have k1:d5 X S (S.set X.gn (.dp (gs++[((s.name,t),.bool true)]))):=.set (.inr (.inl rfl));generalize S.set X.gn (.dp (gs++[((s.name,t),.bool true)]))=bj at wO b1 k1;generalize gs++[((s.name,t),.bool true)]=PW at b1 ⊢
 have wP:ex (CC (d+3)) topN Es (dT X.i s.name t s.pv none none none none) bj=.next (dT X.i s.name t s.pv none none none none) (bj.set X.od (.lst (os++[.tup [.str s.name,.int t]]))):=
  f4 (h4 (hP (i:=X.i) (v:=.ref X.od) rfl b1.ns rfl) (AL b1.od) rfl (xW b1.od (aE (by assumption) ⋯)))
 have b2:ec p n Z PW (os++[.tup [.str s.name,.int t]]) X (bj.set X.od (.lst (os++[.tup [.str s.name,.int t]]))):=b1.order;have k2:=k1.trans (d5.set (m:=.lst (os++[.tup [.str s.name,.int t]])) (.inr (.inr rfl)));generalize bj.set X.od (.lst (os++[.tup [.str s.name,.int t]]))=cb at wP b2 k2;generalize os++[.tup [.str s.name,.int t]]=ZC at b2 ⊢
 have VU:ex (CC (d+3)) topN Et (dT X.i s.name t s.pv none none none none) cb=.next (dT X.i s.name t s.pv none (some (.fl (d9 Z s t))) none none) cb:=by
  have c:ev (CC (d+3)) El (dT X.i s.name t s.pv none none none none) cb=.ok (.fl ((s.needs.map H.str).map fun v=>match v with | .str x=>(aD (x,t) Z).getD .none | _=>.none)) cb:=
   pn _ rfl ((by rw[a9];exact aE iU.needs4 ⋯):(s.needs.map H.str).length<=aL) fun v nB=>by
    exact ay (c7.mp nB) fun x u ae=>ae▸(h4 (hP (i:=X.i) (v:=.ref X.h) rfl b2.ns rfl) (zk b2.hr) rfl (zp b2.hr))
  rw[fE]at c;exact b6 c
 refine ay (IL iU.rule) fun w k6 tx=>?_
 have Bq:ex (CC (d+3)) topN Eu (dT X.i s.name t s.pv none (some (.fl (d9 Z s t))) none none) cb=.next (dT X.i s.name t s.pv none (some (.fl (d9 Z s t))) (ag (et s t)) none) cb:=by
  have c:ev (CC (d+3)) (.cmp (.sub (.sub (.v 3) (ai 1)) (ai 0)) .eq (.k (.str "later"))) (dT X.i s.name t s.pv none (some (.fl (d9 Z s t))) none none) cb=.ok (.bool (iR s.rule)) cb:=by
   rw[<- tx];exact jE (dO (ak:=cb) rfl (aH:=cb) rfl (k6 cb)) (aH:=cb) rfl vf
  exact b6 (cj (ak:=cb) rfl (da c int_bool) add_int)
 have wZ:tst (CC (d+3)) (.cmp (.v 6) .eq (.attr bl (.v 0) "turns")) (dT X.i s.name t s.pv none (some (.fl (d9 Z s t))) (ag (et s t)) none) cb=.ok (et s t == (n:Int)) cb:=
  c3 (ak:=cb) rfl (hP (i:=X.i) (ak:=cb) (v:=.int n) rfl b2.ns rfl) rk
 have pre:∀{o:cq},ex (CC (d+3)) topN #v[yB,yC] (dT X.i s.name t s.pv none (some (.fl (d9 Z s t))) (ag (et s t)) none) cb=o->ex (CC (d+3)) topN Ek.body [dh X.i,bA s.name,ag t,none,none,none,none,none,none,none,none,none,none,none] S=o:=fun{o} ho =>
  (ar hz).trans ((ar ce).trans ((ar fJ).trans ((ar l3).trans ((ar wO).trans ((ar wP).trans ((ar VU).trans ((ar Bq).trans ho)))))))
 unfold g5;by_cases hw:et s t=n
 ·rw[beq_iff_eq.mpr hw]at wZ;rw[aC hw];exact⟨cb,(congrArg bm (pre (bV ((eg wZ).trans rfl)))).trans rfl,b2,k2⟩
 ·rw[mq.mpr hw]at wZ;rw[aV hw];have vl:(d9 Z s t).length=s.needs.length:=a9 _;have out:=UP (d:=d) (S:=cb) (vl<&>iU.rule) (vl<&>(aE iU.needs4 ⋯)) (by refine vl<&>?_;exact iU.needs1) (aE iU.gives3 ⋯) (yn iU hv hm);have nJ:(ht s.rule (d9 Z s t) s.gives.length).length=s.gives.length:=JF iU.rule;generalize ht s.rule (d9 Z s t) s.gives.length=us at out nJ ⊢
  have it:evIt (CC (d+3)) (.zip #v[(.sub (.v 3) (ai 3)),(.call Am #v[(.sub (.v 3) (ai 1)),(.v 5),(.b1 .len (.sub (.v 3) (ai 3)))])]) (dT X.i s.name t s.pv none (some (.fl (d9 Z s t))) (ag (et s t)) none) cb=.ok ((s.gives.zip us).map fun e=>.tup [.str e.1,e.2],some (cb.length,.tp)) (cb++[.tp]):=by
   rw[Od,dm (ak:=cb) rfl (dm (rf (x:=s.rule.pv) (ak:=cb) rfl (aH:=cb) rfl (da (x:=.tup (s.gives.map .str)) (ak:=cb) rfl (wh (aE iU.gives3 ⋯))) out) (iM)),cr];show(if(s.gives.map H.str).length=us.length/\us.length<=aL then aj.ok (m4 (s.gives.map .str) us,some (cb.length,aX.tp)) (cb++[.tp])else .stuck)=_;rw[aC ⟨by exact(a9 ..).trans nJ.symm,by rw[nJ];exact aE iU.gives3 ⋯⟩,YI]
  obtain⟨bI,b8,σ',e,cz,bs⟩:=PN (t:=t) (X:=X) (du (dv b2.hr).1) (s.gives.zip us) Z (cb++[.tp]) none none (by simp) b2.more (by refine List.length_zip<&>nJ<&>Nat.min_self<&>?_;have:=iU.gives3;(grind))
  have VV:ex (CC (d+3)) topN yC (dT X.i s.name t s.pv none (some (.fl (d9 Z s t))) (ag (et s t)) none) cb=.next (dT X.i s.name t s.pv bI (some (.fl (d9 Z s t))) (ag (et s t)) b8) σ':=by
   show(evIt (CC (d+3)) _ _ cb).toS _ _=_;exact it<&>e
  exact⟨σ',(congrArg bm (pre ((ar (a:=yB) (cB wZ)).trans ((ar VV).trans bC)))).trans rfl,cz,(k2.trans .app).trans bs⟩
end
theorem uV{κ:Type}[DecidableEq κ]{k bs:κ}{v:H}{Z:List (κ×H)}:aD k (ee bs v Z)=if k=bs then some v else aD k Z:=xQ
theorem nb{κ:Type}[DecidableEq κ]{k bs:κ}{v:H}{Z:List (κ×H)}(h:aD bs Z=none):aD k (Z++[(bs,v)])=if k=bs then some v else aD k Z:=by
 unfold aD at h ⊢;rw[List.find?_append];by_cases hk:k=bs
 ·subst hk;rw[aC rfl,Option.map_eq_none_iff.mp h];simp
 ·rw[aV hk]
  have:[(bs,v)].find? (fun e=>decide (e.1=k))=none:=by simp[Ne.symm hk]
  rw[this,Option.or_none]
theorem uW{w:Int}{k:Str×Int}:∀(l:List (Str×H)) (Z:cx),k.2≠w\/k.1∉l.map (·.1)->aD k (l.foldl (put1 w) Z)=aD k Z:=by
 intro l
 induction l with
 | nil=>intro Z _;rfl
 | cons e l af =>
  intro Z h;rw[i5,af]
  ·unfold put1
   split
   ·rfl
   ·rw[uV,aV]
    rintro rfl
    refine bZ h (fun h=>?_) (fun h=>?_)
    ·exact h rfl
    ·exact h (be)
  ·rcases h with h | h
   ·exact .inl h
   ·exact .inr fun q=>h (bx _ q)
theorem gT.puts{w:Int}:∀(l:List (Str×H)) (Z:cx),gT Z->(∀e∈l,ei e.2\/e.2=.none)->gT (l.foldl (put1 w) Z):=by
 intro l
 induction l with
 | nil=>intro Z h _;exact h
 | cons e l af =>
  intro Z h hl;refine af _ ?_ fun x hx=>hl x (bx _ hx);unfold put1
  rcases hl e be with hv | hv
  ·split
   ·exact h
   ·intro k v hk;rw[uV]at hk;by_cases hq:k=(e.1,w)
    ·rw[aC hq]at hk;exact oi hk<$>hv
    ·rw[aV hq]at hk;exact h k v hk
  ·rw[aC (by rw[hv];rfl)];exact h
theorem uz{i:Int}(h0:0<=i)(J:i<=999999):ei (.int i):=(b3 i rfl h0 J)
theorem Hb{f:Int->Int->Int}(a7:∀a b:Int,f a b=a\/f a b=b):∀(l:List Int) (a:Int),(0<=a/\a<=999999)->(∀x∈l,0<=x/\x<=999999)->0<=l.foldl f a/\l.foldl f a<=999999:=by
 intro l
 induction l with
 | nil=>intro a h _;exact h
 | cons x l af =>
  intro a h hl;refine af _ ?_ fun y aG=>hl y (bx _ aG)
  rcases a7 a x with q | q
  ·rw[q];exact h
  ·rw[q];exact hl x be
theorem Ja(a b:Int):min a b=a\/min a b=b:=by grind
theorem I4(a b:Int):max a b=a\/max a b=b:=by grind
theorem Jg{i:Int}:ei (.int (i%1000000)):=uz (fq _ ⋯) (Int.le_of_lt_add_one (gj _ ⋯))
theorem Vf:∀(l:List Int) (a:Int),(0<=a/\a<=999999)->ei (.int (l.foldl (fun a x=>a*x%1000000) a)):=by
 intro l
 induction l with
 | nil=>intro a h;exact uz h.1 h.2
 | cons x l af=>intro a h;refine bw (Jg (i:=a*x)) fun i hi h0 J=>?_;cases hi;exact af _ ⟨h0,J⟩
theorem Kj{r:dJ}{vs:List H}{k:Nat}(h:gf r vs.length k)(J:1<=vs.length)(he:o6 r vs):ei (oW r vs):=by
 have C0:(∀v∈vs,ei v)->ei (vs.getD 0 .none):=fun hv=>by
  rw[nc,cM (show 0<vs.length from J)];exact hv _ (gW _)
 generalize hk:vs.length=m at h
 cases h with
 | sum _ _=>exact Jg
 | times _ _=>exact Vf _ 1 ⋯
 | least _ _ =>
  refine ay (m1 (show ∀v∈vs,ei v from he)) fun l ae hv=>?_;subst ae;show ei (.int (mM (iQ (l.map .int))));refine mK<&>?_
  cases l with
  | nil=>exact absurd J ⋯
  | cons x l=>refine aN (Hb Ja l x (hv x be) fun y aG=>hv y (bx _ aG)) fun a b=>?_;exact uz a b
 | most _ _ =>
  refine ay (m1 (show ∀v∈vs,ei v from he)) fun l ae hv=>?_;subst ae;show ei (.int (mR (iQ (l.map .int))));rw[mK]
  cases l with
  | nil=>exact absurd J ⋯
  | cons x l=>refine aN (Hb I4 l x (hv x be) fun y aG=>hv y (bx _ aG)) fun a b=>?_;exact uz a b
 | later _=>exact C0 he
 | way=>exact C0 he
 | choose _=>exact he.2
 | fixed v _ _ a b=>exact uz a b
theorem UO{r:dJ}{vs:List H}{k:Nat}(h:gf r vs.length k)(J:1<=vs.length)(he:o6 r vs):∀aa∈ht r vs k,ei aa\/aa=.none:=by
 unfold ht
 cases hw:su r with
 | false =>
  rw[aV ⋯];intro aa hu;exact List.eq_of_mem_replicate hu<&>(.inl (Kj h J he))
 | true =>
  rw[aC rfl];have hs:=Kj h J he;generalize vs.length=m at h
  cases h with
  | way =>
   have hs:ei (vs.getD 0 .none):=hs;intro aa hu
   split at hu
   ·rcases bY.mp hu with rfl | hu
    ·exact .inl hs
    ·exact .inr (di.mp hu)
   ·rcases bY.mp hu with rfl | hu
    ·exact .inr rfl
    ·exact di.mp hu<&>(.inl hs)
  | _=>contradiction
theorem gT.fire{Z:cx}{s:az}(hs:hI s)(hv:gT Z)(hm:fk Z s t=none):gT (g5 n Z s t):=by
 unfold g5
 split
 ·exact hv
 ·have vl:(d9 Z s t).length=s.needs.length:=a9 _;refine hv.puts _ _ fun e he=>?_;exact UO (by rw[vl];exact hs.rule) (by rw[vl];exact hs.needs1) (yn hs hv hm) e.2 (List.of_mem_zip he).2
structure bb where
 Z:cx
 gs:cx
 os:List H
def bb.fire(n:Nat)(B:bb)(s:az)(t:Int):bb:=⟨g5 n B.Z s t,B.gs++[((s.name,t),.bool true)],B.os++[.tup [.str s.name,.int t]]⟩
def bb.rdy(B:bb)(s:az)(t:Int):Bool:=qp B.Z B.gs s t
theorem bb.rdy_of{B:bb}{s:az}(h:B.rdy s t=true):aD (s.name,t) B.gs=none/\fk B.Z s t=none:=by
 exact aN (dE h) fun a b=>⟨oj.mp a,oj.mp b⟩
inductive jt(p:List az)(n:Nat)(A:bb):bb->List (az×Int)->Prop
 | nil:jt p n A A []
 | snoc {B:bb} {l:List (az×Int)} {s:az} {t:Int} (h:jt p n A B l) (hs:s∈p) (h0:0<=t) (J:t<n) (hr:B.rdy s t=true):jt p n A (B.fire n s t) (l++[(s,t)])
section
variable {p:List az}{A B:bb}{l:List (az×Int)}
theorem jt.val(hp:cf p)(h:jt p n A B l)(hv:gT A.Z):gT B.Z:=by
 induction h with
 | nil=>exact hv
 | snoc h hs h0 J hr af=>exact af.fire (hp.steps _ hs) (bb.rdy_of hr).2
theorem Hl{Z:cx}{s:az}(hs:hI s):(g5 n Z s t).length<=Z.length+3:=by
 unfold g5
 split
 ·exact el _ _
 ·refine aE (Vr _ _) (kK ?_ _);rw[List.length_zip];exact aE (Nat.min_le_left _ _) hs.gives3
def left(p:List az)(B:bb)(t:Int):Nat:=p.countP fun s=>(aD (s.name,t) B.gs).isNone
theorem jt.rdy{s:az}(h:jt p n A B l)(ba:∀e∈l,t<e.2):B.rdy s t=A.rdy s t:=by
 induction h with
 | nil=>rfl
 | @snoc B l s' bE h hs h0 J hr af =>
  refine(af fun e he=>ba e (hX _ he) ..)▸?_;have lt:t<bE:=ba (s',bE) (fb _ (di.mpr rfl));have V:∀x,aD (x,t) (B.fire n s' bE).gs=aD (x,t) B.gs:=fun x=>(nb ((bb.rdy_of hr).1)).trans (aV fun q=>Int.ne_of_lt lt (Prod.mk.inj q).2)
  have ah:∀x,aD (x,t) (B.fire n s' bE).Z=aD (x,t) B.Z:=fun x=>by
   show aD (x,t) (g5 n B.Z s' bE)=_;unfold g5
   split
   ·rfl
   ·refine uW _ _ (.inl (Int.ne_of_lt ?_));unfold et
    split
    ·exact Int.lt_add_one_of_le (Int.le_of_lt lt)
    ·rw[Int.add_zero];exact lt
  show qp _ _ _ _=qp _ _ _ _;unfold qp fk
  have bq:kd (B.fire n s' bE).Z s t=kd B.Z s t:=by
   delta kd;simp only[ah]
  refine V<&>bq<&>(congrArg (fun f=>(aD (s.name,t) B.gs).isNone&&((kd B.Z s t).find? f).isNone) (funext fun x=>?_));rw[ah]
end
noncomputable abbrev dR(p:List az)(n:Nat)(B:bb)(X:ci)(S:ab):Prop:=ec p n B.Z B.gs B.os X S
def jS(p:List az)(x:Str):Bool:=decide (x∈p.flatMap (·.gives))||decide (x∈hj p)
section
variable {p:List az}{Z gs:cx}{X:ci}{d:Nat}
theorem Jq{x:Str}(b:ec p n Z gs os X S)(h:jS p x=true):bU PP topN (d+1) Ad [.inst bl X.i,.str x] S=.ok .none S:=by
 rw[cO rfl rfl]
 have bR:tst (CC d) (.or #v[(.not (.isinst (.v 1) .str)),(.and #v[(.cmp (.v 1) .notin (.attr bl (.v 0) "givers")),(.cmp (.v 1) .notin (.attr bl (.v 0) "outer"))])]) [dh X.i,bA x,none,none,none] S=.ok (!jS p x) S:=by
  refine lj (jW rfl (ll ((kt (oY (c3 rfl (hP (ak:=S) rfl b.ns rfl) (Jv b.gv)) fun u=>l8 (c3 (x:=.str x) (ak:=S) rfl (hP (i:=X.i) (ak:=S) rfl b.ns rfl) (tW b.ot)))).trans ?_)));rw[Hm];unfold jS;rw[Bool.not_or]
 rw[h]at bR;exact(congrArg bm ((ar (cB bR)).trans bC)).trans rfl
theorem JY{x:Str}{j i:Int}(hp:cf p)(b:ec p n Z gs os X S)(J:jS p x=true)(h0:0<=j)(aR:j<n)(hb:my p x j=false)(hv:0<=i/\i<=999999)(ha:aD (x,j) Z=none)(hl:Z.length<900000) :
  bU PP topN (d+4) tC [.inst bl X.i,.str x,.int j,.int i] S=.ok .none (S.set X.h (.dp (Z++[((x,j),.int i)]))):=by
 rw[cO rfl rfl];show bm (ex (CC (d+3)) topN EE.body [dh X.i,bA x,ag j,ag i,none,none,none,none] S)=_;generalize hρ:([dh X.i,bA x,ag j,ag i,none,none,none,none]:aB)=R
 have fY:∀{τ:ab},ev (CC (d+3)) (.v 0) R τ=.ok (.inst bl X.i) τ:=fun{τ}=>by subst hρ;rfl
 have aY:∀{τ:ab},ev (CC (d+3)) (.v 1) R τ=.ok (.str x) τ:=fun{τ}=>by subst hρ;rfl
 have v2:∀{τ:ab},ev (CC (d+3)) (.v 2) R τ=.ok (.int j) τ:=fun{τ}=>by subst hρ;rfl
 have v3:∀{τ:ab},ev (CC (d+3)) (.v 3) R τ=.ok (.int i) τ:=fun{τ}=>by subst hρ;rfl
 have CP:=hP (n := "givers") (v:=.ref X.g) (fY) b.ns rfl;have CQ:=hP (n := "here") (v:=.ref X.h) (fY (τ:=S)) b.ns rfl;have key:ev (CC (d+3)) (.tup #v[(.v 1),(.v 2)]) R S=.ok (.tup [.str x,.int j]) S:=mB (dm aY (dm v2 rfl)) (show(2:Nat)<=aL by decide)
 have bQ:tst (CC (d+3)) (.and #v[(.cmp (.v 1) .isin (.attr bl (.v 0) "givers")),(.or #v[(.cmp (.sub (.sub (.sub (.attr bl (.v 0) "givers") (.v 1)) (ai 1)) (ai 0)) .ne (.k (.str "later"))),(.cmp (.v 2) .gt (ai 0))])]) R S=.ok (my p x j) S:=by
  have cs:=c3 aY CP (RM b.gv);rw[CO,Option.isSome_map]at cs;unfold my
  cases hg:nv p x with
  | none =>
   rw[hg]at cs;exact kt (KE cs)
  | some s =>
   rw[hg]at cs;refine ay (IL (hp.steps s ((List.mem_of_find?_eq_some hg):s∈p)).rule) fun w k6 tx=>?_;have Dl:=c3 ((dO (dO ((dO CP aY (W0 b.gv (by rw[CO,hg];rfl))):ev (CC (d+3)) (.sub (.attr bl (.v 0) "givers") (.v 1)) R S=.ok s.pv S) rfl rfl) (aH:=S) rfl (k6 S)):ev (CC (d+3)) (.sub (.sub (.sub (.attr bl (.v 0) "givers") (.v 1)) (ai 1)) (ai 0)) R S=.ok (.str w) S) (aH:=S) (b:=.k (.str "later")) rfl Uc;rw[tx]at Dl;exact kt (BC cs (l8 (lj (BE Dl fun u=>ll (c3 v2 (y:=.int 0) (aH:=S) rfl gt_int)))))
 rw[hb]at bQ
 have mX:tst (CC (d+3)) (.not (.call tE #v[(.v 3)])) R S=.ok (!true) S:=by
  have c:bU PP topN (d+3) tE [.int i] S=.ok (.bool (decide (0<=i)&&decide (i<=999999))) S:=Mine.h0;rw[c6 hv.1,c6 hv.2]at c;exact jV (li (ef v3 c))
 have qy:=c3 key CQ (wa b.hr);rw[ha]at qy
 have wP:ex (CC (d+3)) topN EI R S=.next R (S.set X.h (.dp (Z++[((x,j),.int i)]))):=by
  show(ev (CC (d+3)) (.v 3) R S).toS R (fun v S=>(ev (CC (d+3)) (.attr bl (.v 0) "here") R S).toS R fun o S=>(ev (CC (d+3)) (.tup #v[(.v 1),(.v 2)]) R S).toS R fun i S=>iV o i v R S)=_;rw[v3,iW,CQ,iW,key,iW,wV b.hr (by rw[fj];(exact aE (by assumption) ⋯)),xX ha]
 exact(congrArg bm ((ar ((f4 (gm fY b.ns rfl (dm aY rfl) (Jq b J))):ex (CC (d+3)) topN EF R S=.next R S)).trans ((ar ((f4 (gm fY b.ns rfl (dm v2 rfl) (Jr b h0 aR))):ex (CC (d+3)) topN EG R S=.next R S)).trans ((ar (cB bQ)).trans ((ar ((cB mX):ex (CC (d+3)) topN EH R S=.next R S)).trans ((ar (cB qy)).trans ((ar wP).trans bC))))))).trans rfl
end
theorem rv{s:az}{x:Str}(hx:x∈s.gives):∀{p:List az},(p.flatMap (·.gives)).Nodup->s∈p->nv p x=some s:=by
 intro p
 induction p with
 | nil=>intro _ h;contradiction
 | cons a p af =>
  intro hg hs;rw[jA,jz]at hg;unfold nv;rw[List.find?_cons];by_cases ha:x∈a.gives
  ·rw[c6 ha]
   rcases bY.mp hs with rfl | hs
   ·rfl
   ·exact absurd rfl (hg.2.2 x ha x (lB.mpr (aI s hs hx)))
  ·rw[ed ha]
   rcases bY.mp hs with rfl | hs
   ·exact absurd hx ha
   ·exact af hg.2.1 hs
theorem YD{g:List Str}{l:List H}{x:Str}(h:x∈(g.zip l).map (·.1)):x∈g:=by
 exact ay (c7.mp h) fun e he ae=>ae▸((List.of_mem_zip he).1)
section
variable {p:List az}{A B:bb}{l:List (az×Int)}{Z:cx}{s:az}
theorem VD(hr:B.rdy s t=false)(hm:fk B.Z s t=none):(aD (s.name,t) B.gs).isSome=true:=by
 have hr:((aD (s.name,t) B.gs).isNone&&(fk B.Z s t).isNone)=false:=hr;rw[hm]at hr
 cases ha:aD (s.name,t) B.gs with
 | none=>rw[ha]at hr;contradiction
 | some v=>rfl
theorem T3(hp:cf p){a b:az}(ha:a∈p)(hb:b∈p)(e:a.name=b.name):a=b:=by
 have h:=hp.names;clear hp
 induction p with
 | nil=>contradiction
 | cons c p af =>
  rw[dX,hY]at h
  rcases bY.mp ha with rfl | ha2
  ·rcases bY.mp hb with rfl | hb2
   ·rfl
   ·exact absurd (c7.mpr ⟨b,hb2,e.symm⟩) h.1
  ·rcases bY.mp hb with rfl | hb2
   ·exact absurd (c7.mpr (aI a ha2 e)) h.1
   ·exact af ha2 hb2 h.2
theorem pG{κ:Type}[DecidableEq κ]{k:κ}{Z:List (κ×H)}:(aD k Z).isSome=true ↔ k∈Z.map (·.1):=by
 unfold aD;rw[Option.isSome_map,List.find?_isSome,c7];exact⟨fun hq=>ay hq fun e he q=>(aI e he (f0 q)),fun hq=>ay hq fun e he q=>(aI e he (c6 q))⟩
def Lr(p:List az)(B:bb):Prop:=∀(x:Str) (w:Int) (v:H),aD (x,w) B.Z=some v->my p x w=false\/∃s∈p,x∈s.gives/\∃t,et s t=w/\(aD (s.name,t) B.gs).isSome=true
theorem zm{k:Str×Int}:aD k (g5 n Z s t)=aD k Z\/(k.2=et s t/\k.1∈s.gives):=by
 unfold g5;by_cases h:et s t=n
 ·rw[aC h];exact .inl rfl
 rw[aV h];by_cases J:k.2=et s t
 ·by_cases L:k.1∈s.gives
  ·exact .inr ⟨J,L⟩
  ·exact .inl (uW _ _ (.inr fun q=>ay (c7.mp q) fun e he a3=>L (a3▸(List.of_mem_zip he).1)))
 ·exact .inl (uW _ _ (.inl J))
structure o7(p:List az)(n:Nat)(B:bb):Prop where
 nodup:(B.gs.map (·.1)).Nodup
 inn:∀k:Str×Int,k∈B.gs.map (·.1)->∃s∈p,k.1=s.name/\0<=k.2/\k.2<(n:Int)
 os:B.os=B.gs.map fun e=>.tup [.str e.1.1,.int e.1.2]
 prv:Lr p B
theorem jt.gk(h:jt p n A B l)(g:o7 p n A):o7 p n B:=by
 induction h with
 | nil=>exact g
 | @snoc B l s t h hs h0 J hr af =>
  have hg:=(bb.rdy_of hr).1
  have Un:(s.name,t)∉B.gs.map (·.1):=fun q=>by
   have:=pG.mpr q;rw[hg]at this;contradiction
  refine⟨?_,fun k hk=>?_,?_
   ,fun x w v hv=>?_
   ⟩
  ·show((B.gs++[((s.name,t),H.bool true)]).map (·.1)).Nodup;rw[fC,jz];refine⟨af.nodup,hY.mpr ⟨dM,List.nodup_nil⟩,fun a ha b hb q=>?_⟩;rw[di.mp hb]at q;rw[q]at ha;exact Un ha
  ·have hk:k∈(B.gs++[((s.name,t),H.bool true)]).map (·.1):=hk;rw[fC]at hk
   rcases dt.mp hk with hk | hk
   ·exact af.inn k hk
   ·exact di.mp hk<&>(pu s hs rfl h0 J)
  ·show B.os++[_]=(B.gs++[((s.name,t),H.bool true)]).map _;refine fC<&>af.os<&>?_;rfl
  ·have gs:∀k,aD k (B.fire n s t).gs=if k=(s.name,t)then some (.bool true)else aD k B.gs:=fun k=>nb hg
   rcases zm with e | e
   ·refine(af.prv x w v (e▸hv)).imp id fun⟨s',J,L,bE,au,aQ⟩=>⟨s',J,L,bE,au,?_⟩;rw[gs]
    split
    ·rfl
    ·exact aQ
   ·exact .inr ⟨s,hs,e.2,t,e.1.symm,by rw[gs,aC rfl];rfl⟩
theorem jt.count(h:jt p n A B l):B.gs.length=A.gs.length+l.length:=by
 induction h with
 | nil=>rfl
 | @snoc B l s t h hs h0 J hr af =>
  show(B.gs++[((s.name,t),H.bool true)]).length=_;rw[cD,cD,af];rfl
end
theorem m3:((0:Nat):Int)<=0:=Int.le_refl 0
theorem Uq{U:Type}[DecidableEq U]:∀(l k:List U),l.Nodup->(∀x∈l,x∈k)->l.length<=k.length:=by
 intro l
 induction l with
 | nil=>intro k _ _;exact ep _
 | cons a l af =>
  intro k hn hk;rw[hY]at hn;have:=af (k.erase a) hn.2 fun x hx=>(List.mem_erase_of_ne (fun e:x=a=>hn.1 (e▸hx))).mpr (hk x (bx _ hx));rw[List.length_erase_of_mem (hk a be)]at this;have:=List.length_pos_of_mem (hk a be);rw[dD];(grind)
theorem o7.len{p:List az}{B:bb}(g:o7 p n B):B.gs.length<=p.length*n:=by
 have:=Uq _ ((p.map (·.name)).flatMap fun x=>(List.range n).map fun(t:Nat)=>(x,(t:Int))) g.nodup fun k hk=>by
  refine oy (g.inn k hk) fun s hs J L au=>?_;obtain⟨x,t⟩:=k;refine aF (jw L) fun t ae=>?_;subst ae;rw[lB];refine aI x (c7.mpr (aI s hs (Eq.symm J))) (c7.mpr (aI t (List.mem_range.mpr (by have:(t:Int)<n:=au;(exact eK.mp (by assumption)))) rfl))
 rw[a9,List.length_flatMap]at this
 have c:∀l:List Str,(l.map fun x=>((List.range n).map fun(t:Nat)=>(x,(t:Int))).length).sum=l.length*n:=by
  intro l
  induction l with
  | nil=>simp
  | cons a l af=>rw[dX,List.sum_cons,af,a9,List.length_range,dD,Nat.succ_mul,Nat.add_comm]
 rw[c,a9]at this;exact this
theorem Hf{p:List az}{x:Str}{j:Int}(h:∀s∈p,x∈s.gives->iR s.rule=true/\j<=0):my p x j=false:=by
 unfold my
 cases hg:nv p x with
 | none=>rfl
 | some s =>
  refine aN (h s (List.mem_of_find?_eq_some hg) ((f0 (List.find?_some (p:=fun s:az=>decide (x∈s.gives)) hg)):x∈s.gives)) fun J L=>?_;show(!iR s.rule||decide (j > 0))=false;rw[J,ed (by grind)];rfl
def bb.put(B:bb)(x:Str)(j i:Int):bb:=⟨B.Z++[((x,j),.int i)],B.gs,B.os⟩
section
variable {d:Nat}{Z:cx}{s:az}
theorem Bo{r:dJ}{k g:Nat}(h:gf r k g):d2 .eq r.pv (.tup [.str "later"]) S=.ok (iR r) S/\d2 .eq r.pv (.tup [.str "choose"]) S=.ok (i8 r) S:=by
 have:∀w v:Str,d2 .eq (.tup [.str w]) (.tup [.str v]) S=.ok (w == v) S:=fun w v=>by
  show aj.ofOpt (some ((w == v)&&true)) S=_;refine Bool.and_true<&>?_;rfl
 cases h <;> first | exact⟨this _ _,this _ _⟩ | exact⟨rfl,rfl⟩
def nH(Z:cx)(s:az)(t:Int):List Str:=
 if i8 s.rule=true then(match s.needs with
  | [a,b,c]=>(match aD (a,t) Z with
   | none=>[a,b,c]
   | some v=>if hB v=true then[b]else[c])
  | l=>l)
 else s.needs
theorem Ud(hs:hI s):((nH Z s t).find? fun x=>(aD (x,t) Z).isNone)=fk Z s t:=by
 refine bw (wL hs.rule) fun u u u au=>?_;unfold nH fk kd
 cases hc:i8 s.rule with
 | false=>rfl
 | true =>
  rw[aC rfl,aC rfl];obtain⟨nm,rl,ns,gv⟩:=s;refine lG (p3 (show ns.length=3 from(au hc))) fun a b c ae=>ae▸?_;dsimp only
  cases ha:aD (a,t) Z with
  | none =>
   dsimp only;rw[List.find?_cons,List.find?_cons (a:=a),ha];rfl
  | some v=>rfl
theorem Uf(hs:hI s)(h:S[tk]?=some (.dp Z))(hv:gT Z):bU PP topN (d+1) tI [s.pv,.ref tk,.int t] S=.ok (.fl ((nH Z s t).map .str)) S:=by
 rw[cO rfl rfl]
 have hz:ex (CC d) topN FP [some s.pv,aT tk,ag t,none,none,none] S=.next [some s.pv,aT tk,ag t,some (.fl (s.needs.map .str)),none,none] S:=
  b6 (da (ak:=S) rfl (SQ (by refine a9<&>?_;exact aE hs.needs4 ⋯)))
 have bR:tst (CC d) (.cmp (.sub (.v 0) (ai 1)) .eq (.tup #v[(.k (.str "choose"))])) [some s.pv,aT tk,ag t,some (.fl (s.needs.map .str)),none,none] S=.ok (i8 s.rule) S:=
  c3 (ak:=S) (aH:=S) rfl rfl (Bo hs.rule).2
 have fin:∀{l:List Str},ex (CC d) topN FQ [some s.pv,aT tk,ag t,some (.fl (s.needs.map .str)),none,none] S=.next [some s.pv,aT tk,ag t,some (.fl (l.map .str)),none,none] S->bm (ex (CC d) topN FO.body [some s.pv,aT tk,ag t,none,none,none] S)=.ok (.fl (l.map .str)) S:=fun{l} h =>
  (congrArg bm ((ar hz).trans ((ar h).trans rfl))).trans rfl
 unfold nH;refine bw (wL hs.rule) fun u u u au=>?_
 cases hc:i8 s.rule with
 | false =>
  rw[hc]at bR;rw[aV ⋯];exact fin (cB (kt (KE bR)))
 | true =>
  rw[hc]at bR;rw[aC rfl];obtain⟨nm,rl,ns,gv⟩:=s;refine lG (p3 (show ns.length=3 from(au hc))) fun a b c ae=>?_;subst ae;dsimp only;have key:ev (CC d) (.tup #v[(.sub (.v 3) (ai 0)),(.v 2)]) [some (az.pv ⟨nm,rl,[a,b,c],gv⟩),aT tk,ag t,some (.fl [.str a,.str b,.str c]),none,none] S=.ok (.tup [.str a,.int t]) S:=rfl;have bQ:=c3 key (b:=.v 1) (aH:=S) rfl (wa h)
  cases ha:aD (a,t) Z with
  | none =>
   rw[ha]at bQ;exact fin (l:=[a,b,c]) (cB (kt (BC bR (l8 bQ))))
  | some v =>
   rw[ha]at bQ;refine ay (hv _ _ ha) fun i ae u=>?_;subst ae;dsimp only
   have V:ev (CC d) (.b1 .int (.cmp (.sub (.v 1) (.tup #v[(.sub (.v 3) (ai 0)),(.v 2)])) .ne (ai 0))) [some (az.pv ⟨nm,rl,[a,b,c],gv⟩),aT tk,ag t,some (.fl [.str a,.str b,.str c]),none,none] S=.ok (.int (if(!(i == 0))=true then 1 else 0)) S:=
    da (jE (dO (x:=.ref tk) (ak:=S) rfl key (Ky h ha)) (y:=.int 0) (aH:=S) rfl AR) int_bool
   have ah:ev (CC d) (.sub (.v 3) (.bin .add (ai 1) (.b1 .int (.cmp (.sub (.v 1) (.tup #v[(.sub (.v 3) (ai 0)),(.v 2)])) .ne (ai 0))))) [some (az.pv ⟨nm,rl,[a,b,c],gv⟩),aT tk,ag t,some (.fl [.str a,.str b,.str c]),none,none] S=.ok (.str (if hB (.int i)=true then b else c)) S:=by
    apply dO (ak:=S) rfl (cj (x:=.int 1) (ak:=S) rfl V add_int);show _=aj.ok (H.str (if(i == 0)=true then b else c)) S;cases(i == 0) <;> rfl
   have bq:=(eg (n:=topN) (b:=.nil) (kt (BC bR (l8 bQ)))).trans ((ar (a:=FR) (b6 (NQ (dm ah iM) (show(1:Nat)<=aL by decide)))).trans bC)
   cases a3:hB (.int i)with
   | true=>rw[a3]at bq;exact fin (l:=[b]) bq
   | false=>rw[a3]at bq;exact fin (l:=[c]) bq
theorem TL(hs:hI s)(h:S[tk]?=some (.dp Z))(hv:gT Z):bU PP topN (d+2) Ak [s.pv,.ref tk,.int t] S=.ok (r4 (fk Z s t)) S:=by
 rw[cO rfl rfl,<- Ud hs]
 have hQ:(nH Z s t).length<=4:=by
  unfold nH
  split
  ·split
   ·split
    ·exact Nat.le_of_ble_eq_true rfl
    ·split <;> exact Nat.le_of_ble_eq_true rfl
   ·exact hs.needs4
  ·exact hs.needs4
 have it:evIt (CC (d+1)) (.call tI #v[(.v 0),(.v 1),(.v 2)]) [some s.pv,aT tk,ag t,none,none] S=.ok ((nH Z s t).map .str,none) S:=by
  show(ev (CC (d+1)) (.call tI #v[(.v 0),(.v 1),(.v 2)]) [some s.pv,aT tk,ag t,none,none] S).bind eh=_;rw[show ev (CC (d+1)) (.call tI #v[(.v 0),(.v 1),(.v 2)]) [some s.pv,aT tk,ag t,none,none] S=.ok (.fl ((nH Z s t).map .str)) S from rf rfl rfl rfl (Uf hs h hv)];rfl
 generalize nH Z s t=ns at hQ it
 have jC:ev (CC (d+1)) FG [some s.pv,aT tk,ag t,none,none] S=.ok (.fl ((ns.filter fun x=>(aD (x,t) Z).isNone).map .str)) S:=by
  refine(va (fun y=>match y with | .str x=>if(aD (x,t) Z).isNone=true then bA x else none | _=>none) it (by rw[a9];exact aE hQ ⋯) (fun y aG=>?_) (fun y aG v hv=>?_)).trans ?_
  ·refine ay (c7.mp aG) fun x hx ae=>ae▸?_;apply(c3 (y:=.ref tk) (ak:=S) (aH:=S) rfl rfl (Jw h)).trans;dsimp only;cases(aD (x,t) Z).isNone <;> rfl
  ·refine ay (c7.mp aG) fun x hx ae=>?_;subst ae;dsimp only at hv
   split at hv
   ·refine oi hv<$>?_;rfl
   ·contradiction
  ·apply congrArg (fun l=>aj.ok (H.fl l) S);rw[List.filterMap_map,<- List.filterMap_eq_filter,List.map_filterMap];refine congrArg (fun f=>ns.filterMap f) (funext fun x=>?_);show(if(aD (x,t) Z).isNone=true then some (H.str x)else none)=_;unfold Option.guard
   split <;> rfl
 have V:ev (CC (d+1)) (.sub (.bin .add (.v 3) (.lst true #v[(.k .none)])) (ai 0)) [some s.pv,aT tk,ag t,some (.fl ((ns.filter fun x=>(aD (x,t) Z).isNone).map .str)),none] S=.ok (r4 (ns.find? fun x=>(aD (x,t) Z).isNone)) S:=by
  rw[<- List.head?_filter];have fl:=List.length_filter_le (fun x=>(aD (x,t) Z).isNone) ns;generalize ns.filter (fun x=>(aD (x,t) Z).isNone)=fs at fl;refine dO (cj (ak:=S) rfl (aH:=S) rfl (LH (by rw[a9,fj];show _+1<=_;(grind)))) (aH:=S) rfl (sk (by rw[cD,a9];show _+1<=_;(grind)) ?_);cases fs <;> rfl
 exact(congrArg bm ((ar (a:=FH) (b6 jC)).trans (bV (dF V)))).trans rfl
end
theorem Kp{x:Int}:(eI (x::l))[0]?=some (mM (x::l))/\(eI (x::l))[l.length]?=some (mR (x::l)):=by
 have pm:(eI (x::l)).Perm (x::l):=List.mergeSort_perm _ _
 have fV:(eI (x::l)).Pairwise fun a b=>a<=b:=by
  refine(List.pairwise_mergeSort (fun a b c J L=>?_) (fun a b=>?_) (x::l)).imp fun h=>f0 h
  ·exact c6 (gE (f0 J) (f0 L))
  ·rw[Bool.or_eq_true,decide_eq_true_eq,decide_eq_true_eq];exact Int.le_total a b
 have least:∀(l:List Int) (a:Int),(l.foldl min a=a\/l.foldl min a∈l)/\l.foldl min a<=a/\∀y∈l,l.foldl min a<=y:=by
  intro l
  induction l with
  | nil=>intro a;exact⟨.inl rfl,Int.le_refl _,fun y aG=>nomatch aG⟩
  | cons b l af =>
   intro a;refine d6 (af (min a b)) fun J L au=>i5<&>⟨?_,gE L (Int.min_le_left _ _),fun y aG=>?_⟩
   ·refine bZ J (fun J=>?_) (fun J=>?_)
    ·rw[J];refine bZ (Ja a b) (fun q=>?_) (fun q=>?_)
     ·exact .inl q
     ·rw[q];exact .inr be
    ·exact .inr (bx _ J)
   ·exact bZ (bY.mp aG) (fun hl=>(hl<&>(gE L (Int.min_le_right _ _)))) (fun aG=>au y aG)
 have most:∀(l:List Int) (a:Int),(l.foldl max a=a\/l.foldl max a∈l)/\a<=l.foldl max a/\∀y∈l,y<=l.foldl max a:=by
  intro l
  induction l with
  | nil=>intro a;exact⟨.inl rfl,Int.le_refl _,fun y aG=>nomatch aG⟩
  | cons b l af =>
   intro a;refine d6 (af (max a b)) fun J L au=>?_;rw[i5];refine⟨?_,gE (Int.le_max_left _ _) L,fun y aG=>?_⟩
   ·rcases J with J | J
    ·rw[J];refine bZ (I4 a b) (fun q=>?_) (fun q=>?_)
     ·exact .inl q
     ·rw[q];exact .inr be
    ·exact .inr (bx _ J)
   ·refine bZ (bY.mp aG) (fun hl=>?_) (fun aG=>?_)
    ·refine hl<&>?_;exact gE (Int.le_max_right _ _) L
    ·exact au y aG
 refine d6 (least l x) fun dL gU gD=>d6 (most l x) fun b1 b2 oq=>?_;have len:(eI (x::l)).length=l.length+1:=pm.length_eq
 have h0:0<(eI (x::l)).length:=by rw[len];exact ft _
 have J:l.length<(eI (x::l)).length:=by rw[len];exact ic _
 refine cM h0<&>cM J<&>?_
 have le:∀(i j:Nat) (hi:i<(eI (x::l)).length) (aR:j<(eI (x::l)).length),i<=j->(eI (x::l))[i]<=(eI (x::l))[j]:=fun i j hi aR h=>by
  refine bZ (Nat.lt_or_eq_of_le h) (fun h=>?_) (fun hr=>?_)
  ·exact List.pairwise_iff_getElem.mp fV i j hi aR h
  ·subst hr;exact Int.le_refl _
 constructor
 ·refine congrArg some (Int.le_antisymm ?_ ?_)
  ·obtain⟨i,hi,e⟩:=((fun y aG=>List.getElem_of_mem (pm.mem_iff.mpr aG)):∀y,y∈x::l->∃i,∃h:i<(eI (x::l)).length,(eI (x::l))[i]=y) (mM (x::l)) (bY.mpr dL);exact e▸le 0 i h0 hi (ep _)
  ·exact bZ (bY.mp (((fun i hi=>pm.mem_iff.mp (gW hi)):∀(i:Nat) (hi:i<(eI (x::l)).length),(eI (x::l))[i]∈x::l) 0 h0)) (fun q=>(q<&>gU)) (fun q=>gD _ q)
 ·refine congrArg some (Int.le_antisymm ?_ ?_)
  ·exact bZ (bY.mp (((fun i hi=>pm.mem_iff.mp (gW hi)):∀(i:Nat) (hi:i<(eI (x::l)).length),(eI (x::l))[i]∈x::l) l.length J)) (fun q=>(q<&>b2)) (fun q=>oq _ q)
  ·obtain⟨i,hi,e⟩:=((fun y aG=>List.getElem_of_mem (pm.mem_iff.mpr aG)):∀y,y∈x::l->∃i,∃h:i<(eI (x::l)).length,(eI (x::l))[i]=y) (mR (x::l)) (bY.mpr b1);exact e▸le i l.length hi J (by grind)
section
variable {d:Nat}
theorem Kq(hl:l.length<64):dN .sorted (.fl (l.map .int)) S=.ok (.fl ((eI l).map .int)) S:=by
 show fm nP (fun l=>aj.ok (H.fl l) S) (.fl (l.map .int)) S=_;apply t0;show nP (l.map .int)=_;unfold nP;exact xR<&>(aC hl)
theorem Xg{jN:H}{z:Option H}:∀(l:List Int) (a:Int) (y:Option H),(0<=a/\a<=999999)->(∀x∈l,0<=x/\x<=999999)->∃bI,ch none (dj 4) (fun R S=>ex (CC d) topN Fv R S) (l.map .int) [z,some pl,some jN,ag a,y,none,none,none,none] S=.next [z,some pl,some jN,ag (l.foldl (fun a x=>a*x%1000000) a),bI,none,none,none,none] S:=by
 intro l
 induction l with
 | nil=>intro a y _ _;exact⟨y,e3⟩
 | cons x l af =>
  intro a y ha hl;refine aF (af (a*x%1000000) (ag x) (⟨fq _ ⋯,Int.le_of_lt_add_one (gj _ ⋯)⟩:0<=a*x%1000000/\a*x%1000000<=999999) fun y aG=>hl y (bx _ aG)) fun bI e=>?_;refine⟨bI,(ez (cL:=[z,some pl,some jN,ag a,ag x,none,none,none,none]) (aH:=S) rfl ((ar (a:=Fw) (b6 (cj (cj (x:=.int a) (ak:=S) rfl (y:=.int x) (aH:=S) rfl (mul_int (.inl ?_))) (y:=.int 1000000) (aH:=S) rfl (gw ⋯)))).trans bC)).trans e⟩
  (grind)
theorem pD{qs:H}{vs:List H}{v:H}{k:Nat}{y:Option H}(hk:k<=100):bm (ex (CC d) topN #v[yR] [some qs,some (.fl vs),ag (k:Nat),some v,y,none,none,none,none] S)=.ok (.fl (List.replicate k v)) S:=by
 have qq:evIt (CC d) (.range1 (.v 2)) [some qs,some (.fl vs),ag (k:Nat),some v,y,none,none,none,none] S=.ok (cR 0 1 k,none) S:=by
  show(if 0<=(k:Int)/\(k:Int)<=aL then aj.ok (cR 0 1 (k:Int).toNat,none) S else .stuck)=_;rw[aC ⟨ea k,by rw[fj];(exact ig.mpr (aE (by assumption) ⋯))⟩];rfl
 have c:ev (CC d) Fs [some qs,some (.fl vs),ag (k:Nat),some v,y,none,none,none,none] S=.ok (.fl ((cR 0 1 k).map fun u=>v)) S:=
  pn (fun u=>v) qq (by rw[fj];simp[cR];exact aE hk ⋯) fun x u=>rfl
 rw[List.map_const',show(cR 0 1 k).length=k by simp[cR]]at c;exact(congrArg bm (bV (a:=yR) (dF c))).trans rfl
theorem Sj{r:dJ}{vs:List H}{k:Nat}(h:gf r vs.length k)(hl:vs.length<=10)(J:1<=vs.length)(hk:k<=100)(he:o6 r vs):bU PP topN (d+1) Ia [r.pv,.fl vs,.int (k:Nat)] S=.ok (.fl (ht r vs k)) S:=by
 rw[cO rfl rfl];have wi:vs.length<=100:=aE hl ⋯
 have ce:∀{qs:H},ex (CC d) topN Ft [some qs,some (.fl vs),ag (k:Nat),none,none,none,none,none,none] S=.next [some qs,some (.fl vs),ag (k:Nat),some (vs.getD 0 .none),none,none,none,none,none] S:=fun{qs} =>
  b6 (dO rfl rfl (sk wi ((by rw[nc,cM (show 0<vs.length from J)];rfl):vs[0]?=some (vs.getD 0 .none))))
 generalize hm:vs.length=m at h
 cases h with
 | sum _ _ =>
  refine ay (m1 (show ∀v∈vs,ei v from he)) fun l ae hv=>?_;subst ae
  have e:ev (CC d) (.bin .mod (.b1 .sum (.v 1)) (.bin .pow (ai 10) (ai 6))) [some (dJ.pv (.word "sum")),some (.fl (l.map .int)),ag (k:Nat),some ((l.map H.int).getD 0 .none),none,none,none,none,none] S=.ok (.int (l.sum%1000000)) S:=
   cj (da (ak:=S) rfl (KC (by rw[a9]at hl;exact aE hl ⋯) hv)) (y:=.int 1000000) (aH:=S) rfl (gw ⋯)
  refine(congrArg bm (rfl.trans ((ar ce).trans ((ar (a:=py) (rfl.trans ((ar (b6 e)).trans bC))).trans
   ((ar rfl).trans ((ar rfl).trans (rfl.trans rfl))))))).trans ((pD hk).trans ?_)
  show aj.ok (H.fl (List.replicate k (.int (l.sum%1000000)))) S=aj.ok (.fl (List.replicate k (.int ((iQ (l.map .int)).sum%1000000)))) S;exact mK<&>rfl
 | times _ _ =>
  refine ay (m1 (show ∀v∈vs,ei v from he)) fun l ae hv=>?_;subst ae;obtain⟨y,e⟩:=Xg l 1 none ⋯ hv
  refine(congrArg bm (rfl.trans ((ar ce).trans ((ar (a:=py) rfl).trans
   ((ar (a:=rp) (rfl.trans (rfl.trans ((ar (a:=Fu) (e2 (ak:=S) rfl e)).trans bC)))).trans ((ar (a:=rq) rfl).trans (rfl.trans rfl))))))).trans ((pD hk).trans ?_)
  show aj.ok (H.fl (List.replicate k (.int (se l)))) S=aj.ok (.fl (List.replicate k (.int (se (iQ (l.map .int)))))) S;rw[mK]
 | least _ _ =>
  refine ay (m1 (show ∀v∈vs,ei v from he)) fun l ae hv=>?_;obtain rfl:=ae
  cases l with
  | nil=>exact absurd J ⋯
  | cons x l =>
  have iU:=Kp (x:=x) (l:=l)
  have e:ev (CC d) (.sub (.b1 .sorted (.v 1)) (.sub (.lst true #v[(ai 0),(.neg (ai 1))]) (.b1 .int (.cmp (.sub (.v 0) (ai 0)) .eq (.k (.str "most")))))) [some (dJ.pv (.word "least")),some (.fl ((x::l).map .int)),ag (k:Nat),some (((x::l).map H.int).getD 0 .none),none,none,none,none,none] S=.ok (.int (mM (x::l))) S:=
   dO (da (ak:=S) rfl (Kq (by rw[a9]at hl;(exact dW (by assumption) ⋯)))) (y:=.int ((0:Nat):Int)) (aH:=S) rfl (sk ((by refine(a9 ..).symm▸(show(eI (x::l)).length=(x::l).length from(List.mergeSort_perm _ _).length_eq ..).symm▸(a9 (f:=H.int) ..)▸?_;exact wi):((eI (x::l)).map H.int).length<=100) (by rw[fc,iU.1];rfl))
  refine(congrArg bm (rfl.trans ((ar ce).trans ((ar (a:=py) rfl).trans
   ((ar (a:=rp) rfl).trans ((ar (a:=rq) (rfl.trans ((ar (a:=yQ) (b6 e)).trans bC))).trans (rfl.trans rfl))))))).trans ((pD hk).trans ?_)
  show aj.ok (H.fl (List.replicate k (.int (mM (x::l))))) S=aj.ok (.fl (List.replicate k (.int (mM (iQ ((x::l).map .int)))))) S;rw[mK]
 | most _ _ =>
  refine ay (m1 (show ∀v∈vs,ei v from he)) fun l ae hv=>?_;obtain rfl:=ae
  cases l with
  | nil=>exact absurd J ⋯
  | cons x l =>
  have IW:l.length+1<=100:=by rw[a9]at wi;exact wi
  have e:ev (CC d) (.sub (.b1 .sorted (.v 1)) (.sub (.lst true #v[(ai 0),(.neg (ai 1))]) (.b1 .int (.cmp (.sub (.v 0) (ai 0)) .eq (.k (.str "most")))))) [some (dJ.pv (.word "most")),some (.fl ((x::l).map .int)),ag (k:Nat),some (((x::l).map H.int).getD 0 .none),none,none,none,none,none] S=.ok (.int (mR (x::l))) S:=by
   refine dO (da (x:=.fl ((x::l).map .int)) (ak:=S) rfl (Kq (by rw[a9]at hl;(grind)))) (aH:=S) rfl ?_;show(if((eI (x::l)).map H.int).length<=aL then aj.ofOpt ((fW (-1) ((eI (x::l)).map H.int).length).bind (((eI (x::l)).map H.int)[·]?)) S else .stuck)=_;rw[aC (by refine(((by rw[a9];exact(List.mergeSort_perm _ _).length_eq):((eI (x::l)).map H.int).length=l.length+1) ..).symm▸fj.symm▸?_;(exact aE (by assumption) ⋯)),((by rw[a9];exact(List.mergeSort_perm _ _).length_eq):((eI (x::l)).map H.int).length=l.length+1),show fW (-1) (l.length+1)=some l.length by unfold fW;rw[aV ⋯];simp;(grind)];show aj.ofOpt (((eI (x::l)).map H.int)[l.length]?) S=_;refine(fc ..).symm▸((Kp (x:=x) (l:=l)).2 ..).symm▸?_;rfl
  refine(congrArg bm (rfl.trans ((ar ce).trans ((ar (a:=py) rfl).trans
   ((ar (a:=rp) rfl).trans ((ar (a:=rq) (rfl.trans ((ar (a:=yQ) (b6 e)).trans bC))).trans (rfl.trans rfl))))))).trans ((pD hk).trans ?_)
  show aj.ok (H.fl (List.replicate k (.int (mR (x::l))))) S=aj.ok (.fl (List.replicate k (.int (mR (iQ ((x::l).map .int)))))) S;rw[mK]
 | later _ =>
  exact(congrArg bm (rfl.trans ((ar ce).trans ((ar (a:=py) rfl).trans
   ((ar (a:=rp) rfl).trans ((ar (a:=rq) rfl).trans (rfl.trans rfl))))))).trans (pD hk)
 | way =>
  refine eM (Ax hm) fun a b ae=>?_;obtain rfl:=ae;refine ay ((show ∀v∈[a,b],ei v from he) b (bx _ be)) fun j ae u=>?_;obtain rfl:=ae
  have e:ev (CC d) (.sub (.lst true #v[(.lst true #v[(.sub (.v 1) (ai 0)),(.k .none)]),(.lst true #v[(.k .none),(.sub (.v 1) (ai 0))])]) (.b1 .int (.cmp (.sub (.v 1) (ai 1)) .ne (ai 0)))) [some (dJ.pv (.word "way")),some (.fl [a,.int j]),ag ((2:Nat):Int),none,none,none,none,none,none] S=.ok (.fl (if hB (.int j)=true then[a,.none]else[.none,a])) S:=by
   apply dO (ak:=S) rfl (da (jE (ak:=S) (aH:=S) rfl rfl AR) int_bool);show _=aj.ok (H.fl (if(j == 0)=true then[a,.none]else[.none,a])) S;cases(j == 0) <;> rfl
  exact(congrArg bm (bV (rfl.trans (bV (dF e))))).trans rfl
 | choose _ =>
  refine ay (show ei (vs.getD 0 .none)from And.left he) fun i hi u=>lG (p3 hm) fun a b c ae=>?_;obtain rfl:=ae;obtain rfl:a=.int i:=hi
  have e:ev (CC d) (.sub (.v 1) (.bin .add (ai 1) (.b1 .int (.cmp (.sub (.v 1) (ai 0)) .ne (ai 0))))) [some (dJ.pv (.word "choose")),some (.fl [.int i,b,c]),ag (k:Nat),ag i,none,none,none,none,none] S=.ok (if hB (.int i)=true then b else c) S:=by
   apply dO (ak:=S) rfl (cj (ak:=S) rfl (da (jE (y:=.int 0) (ak:=S) (aH:=S) rfl rfl AR) int_bool) add_int);show _=aj.ok (if(i == 0)=true then b else c) S;cases(i == 0) <;> rfl
  exact(congrArg bm (rfl.trans (rfl.trans (rfl.trans
   (rfl.trans (rfl.trans (rfl.trans (ar (rfl.trans ((ar (b6 e)).trans bC)))))))))).trans (pD hk)
 | fixed v _ _ _ _ =>
  exact(congrArg bm (rfl.trans ((ar ce).trans ((ar (a:=py) rfl).trans
   ((ar (a:=rp) rfl).trans ((ar (a:=rq) rfl).trans (rfl.trans rfl))))))).trans (pD hk)
end
section
variable {d:Nat}{Z:cx}{s:az}
def gR(sp:H)(tk:Nat)(t:Int)(n:Nat)(vs:List H)(w:Int)(us:List H)(z:Option H):aB:=[some sp,aT tk,ag t,ag (n:Nat),some (.fl vs),ag w,some (.fl us),z,none,none,none,none]
theorem Pb{w:Int}{vs us:List H}(hu:us.length=s.gives.length)(hg:s.gives.length<=3)(hw:w<n)(hk:tk<S.length):∀(k a:Nat) (Z:cx) (z:Option H),a+k=s.gives.length->Z.length+3<900000+a ->
  ∃b8,ch none (dj 7) (fun R S=>ex (CC d) topN vv R S) ((List.range' a k).map fun(i:Nat)=>H.int (0+(i:Int)*1)) (gR s.pv tk t n vs w us z) (S.set tk (.dp Z))=.next (gR s.pv tk t n vs w us b8) (S.set tk (.dp (((s.gives.zip us).drop a).foldl (put1 w) Z))):=by
 intro k
 induction k with
 | zero =>
  intro a Z z ha _;refine⟨z,e3.trans ?_⟩;rw[List.drop_eq_nil_of_le (by refine List.length_zip<&>hu<&>Nat.min_self<&>?_;(grind))];rfl
 | succ k af =>
  intro a Z z ha hl
  have CN:a<s.gives.length:=by grind
  have Mm:a<us.length:=by grind
  have hd:(s.gives.zip us).drop a=(s.gives[a],us[a])::(s.gives.zip us).drop (a+1):=by
   rw[List.drop_eq_getElem_cons (by rw[List.length_zip,hu,Nat.min_self];exact CN),List.getElem_zip]
  have V:∀{τ:ab},ev (CC d) (.sub (.v 6) (.v 7)) (gR s.pv tk t n vs w us (ag (a:Int))) τ=.ok us[a] τ:=fun{τ}=>dO rfl rfl (sk (by grind) (cM Mm))
  have cT:tst (CC d) (.and #v[(.cmp (.sub (.v 6) (.v 7)) .isNot (.k .none)),(.cmp (.v 5) .lt (.v 3))]) (gR s.pv tk t n vs w us (ag (a:Int))) (S.set tk (.dp Z))=.ok (!jj us[a]) (S.set tk (.dp Z)):=by
   refine kt ((oY (c3 V rfl (v:=.ok (!jj us[a]) (S.set tk (.dp Z))) rfl) fun u=>l8 (c3 (aH:=S.set tk (.dp Z)) rfl rfl lt_int)).trans ?_);exact c6 hw<&>Bool.and_true<&>rfl
  have hb:dj 7 (H.int (0+(a:Int)*1)) (gR s.pv tk t n vs w us z)=some (gR s.pv tk t n vs w us (ag (a:Int))):=by
   rw[show(0:Int)+(a:Int)*1=a by grind];rfl
  obtain⟨b8,e⟩:=af (a+1) (put1 w Z (s.gives[a],us[a])) (ag (a:Int)) ((Nat.succ_add_eq_add_succ _ _).trans (by assumption)) (by have:=Be (w:=w) (Z:=Z) (e:=(s.gives[a],us[a]));(grind));refine⟨b8,?_⟩;rw[List.range'_succ,dX,hd,i5];refine(ez hb ((ar ?_).trans bC)).trans e;unfold put1
  cases hv:jj us[a]with
  | true =>
   rw[hv]at cT;rw[aC rfl];exact cB cT
  | false =>
   rw[hv]at cT;rw[aV ⋯];refine(eg cT).trans ((ar ?_).trans bC)
   have ah:ev (CC d) (.tup #v[(.sub (.sub (.v 0) (ai 3)) (.v 7)),(.v 5)]) (gR s.pv tk t n vs w us (ag (a:Int))) (S.set tk (.dp Z))=.ok (.tup [.str s.gives[a],.int w]) (S.set tk (.dp Z)):=
    mB (dm (dO (y:=.int (a:Int)) (ak:=S.set tk (.dp Z)) (aH:=S.set tk (.dp Z)) rfl rfl (W2 (by rw[a9,fj];(exact aE (by assumption) ⋯)) (ea a) (by refine kL<&>fc<&>cM CN<&>?_;rfl))) rfl) (show(2:Nat)<=aL by decide)
   show(ev (CC d) (.sub (.v 6) (.v 7)) (gR s.pv tk t n vs w us (ag (a:Int))) (S.set tk (.dp Z))).toS _ (fun v S=>(ev (CC d) (.v 1) (gR s.pv tk t n vs w us (ag (a:Int))) S).toS _ fun o S=>(ev (CC d) (.tup #v[(.sub (.sub (.v 0) (ai 3)) (.v 7)),(.v 5)]) (gR s.pv tk t n vs w us (ag (a:Int))) S).toS _ fun i S=>iV o i v _ S)=_;rw[V,iW,show ev (CC d) (.v 1) (gR s.pv tk t n vs w us (ag (a:Int))) (S.set tk (.dp Z))=.ok (.ref tk) (S.set tk (.dp Z))from rfl,iW,ah,iW,wV ((List.getElem?_set_self hk):(S.set tk (.dp Z))[tk]?=some (.dp Z)) (by rw[fj];(grind)),List.set_set]
theorem Wc{w:Int}{vs us:List H}(hu:us.length<=3)(hw:¬w<n):∀(k a:Nat) (z:Option H),a+k=us.length ->
  ∃b8,ch none (dj 7) (fun R S=>ex (CC d) topN vv R S) ((List.range' a k).map fun(i:Nat)=>H.int (0+(i:Int)*1)) (gR s.pv tk t n vs w us z) S=.next (gR s.pv tk t n vs w us b8) S:=by
 intro k
 induction k with
 | zero=>intro a z _;exact⟨z,e3⟩
 | succ k af =>
  intro a z ha
  have cT:tst (CC d) (.and #v[(.cmp (.sub (.v 6) (.v 7)) .isNot (.k .none)),(.cmp (.v 5) .lt (.v 3))]) (gR s.pv tk t n vs w us (ag (a:Int))) S=.ok false S:=by
   refine kt ((oY (c3 (dO rfl rfl (sk (aE (by assumption) ⋯) (cM (by grind)))) (aH:=S) rfl rfl) fun u=>l8 (c3 (ak:=S) (aH:=S) rfl rfl lt_int)).trans ?_);exact ed hw<&>Bool.and_false<&>rfl
  have hb:dj 7 (H.int (0+(a:Int)*1)) (gR s.pv tk t n vs w us z)=some (gR s.pv tk t n vs w us (ag (a:Int))):=by
   rw[show(0:Int)+(a:Int)*1=a by grind];rfl
  obtain⟨b8,e⟩:=af (a+1) (ag (a:Int)) ((Nat.succ_add_eq_add_succ _ _).trans (by assumption));refine⟨b8,?_⟩;rw[List.range'_succ,dX];exact(ez hb ((ar (a:=Fo) (cB cT)).trans bC)).trans e
theorem Sh(hs:hI s)(h:S[tk]?=some (.dp Z))(hv:gT Z)(hm:fk Z s t=none)(J:t<n)(hl:Z.length<800000):bU PP topN (d+2) H9 [s.pv,.ref tk,.int t,.int (n:Nat)] S=.ok .none (S.set tk (.dp (g5 n Z s t))):=by
 rw[cO rfl rfl];have vl:(d9 Z s t).length=s.needs.length:=a9 _;have hk:tk<S.length:=(dv h).1
 have jC:ev (CC (d+1)) Fk [some s.pv,aT tk,ag t,ag (n:Nat),none,none,none,none,none,none,none,none] S=.ok (.fl (d9 Z s t)) S:=by
  refine(pn (fun y=>match y with | .str x=>(aD (x,t) Z).getD .none | _=>.none) rfl (by rw[a9];exact aE hs.needs4 ⋯) (fun y aG=>?_)).trans ?_
  ·exact ay (c7.mp aG) fun x hx ae=>ae▸(h4 rfl (zk h) rfl (zp h))
  ·rw[fE];rfl
 have ce:ex (CC (d+1)) topN Fl [some s.pv,aT tk,ag t,ag (n:Nat),some (.fl (d9 Z s t)),none,none,none,none,none,none,none] S=.next [some s.pv,aT tk,ag t,ag (n:Nat),some (.fl (d9 Z s t)),ag (et s t),none,none,none,none,none,none] S:=
  b6 (cj (ak:=S) rfl (da (jE (ak:=S) (aH:=S) rfl rfl (Bo hs.rule).1) int_bool) add_int)
 have fJ:ex (CC (d+1)) topN Fm [some s.pv,aT tk,ag t,ag (n:Nat),some (.fl (d9 Z s t)),ag (et s t),none,none,none,none,none,none] S=.next (gR s.pv tk t n (d9 Z s t) (et s t) (ht s.rule (d9 Z s t) s.gives.length) none) S:=
  b6 (rf (x:=s.rule.pv) (ak:=S) (aH:=S) rfl rfl (da (ak:=S) rfl (wh (aE hs.gives3 ⋯))) (Sj (by rw[vl];exact hs.rule) (by rw[vl];exact aE hs.needs4 ⋯) (by rw[vl];exact hs.needs1) (aE hs.gives3 ⋯) (yn hs hv hm)))
 have ux:=JF (vs:=d9 Z s t) hs.rule
 have it:evIt (CC (d+1)) (.range1 (.b1 .len (.v 6))) (gR s.pv tk t n (d9 Z s t) (et s t) (ht s.rule (d9 Z s t) s.gives.length) none) S=.ok ((List.range' 0 s.gives.length).map fun(i:Nat)=>H.int (0+(i:Int)*1),none) S:=by
  rw[vh,da (ak:=S) rfl (rP (by rw[ux,fj];have:=hs.gives3;(exact aE (by assumption) ⋯))),cr,ux];show(if 0<=(s.gives.length:Int)/\(s.gives.length:Int)<=aL then aj.ok (cR 0 1 (s.gives.length:Int).toNat,none) S else .stuck)=_;rw[aC ⟨ea _,by have:=hs.gives3;rw[fj];(grind)⟩];refine ng▸?_;rfl
 have fin:∀{b8:Option H} {σ':ab},ch none (dj 7) (fun R S=>ex (CC (d+1)) topN vv R S) ((List.range' 0 s.gives.length).map fun(i:Nat)=>H.int (0+(i:Int)*1)) (gR s.pv tk t n (d9 Z s t) (et s t) (ht s.rule (d9 Z s t) s.gives.length) none) S=.next (gR s.pv tk t n (d9 Z s t) (et s t) (ht s.rule (d9 Z s t) s.gives.length) b8) σ'->bm (ex (CC (d+1)) topN Fj.body [some s.pv,aT tk,ag t,ag (n:Nat),none,none,none,none,none,none,none,none] S)=.ok .none σ':=fun{b8 σ'} e =>
  (congrArg bm ((ar (b6 jC)).trans ((ar ce).trans ((ar fJ).trans ((ar (a:=Fn) (e2 it e)).trans bC))))).trans rfl
 have self:S.set tk (.dp Z)=S:=by
  have e:=(dv h).2;exact ey (congrArg _ e.symm) (List.set_getElem_self hk)
 have xh:et s t<=t+1:=by
  unfold et
  split <;> (grind)
 unfold g5;by_cases hw:et s t=n
 ·rw[aC hw,self];obtain⟨b8,e⟩:=Wc (S:=S) (n:=n) (w:=et s t) (vs:=d9 Z s t) (by rw[ux];exact hs.gives3) (by grind) s.gives.length 0 none (by rw[ux];(exact d1 _));exact fin e
 ·rw[aV hw];refine aF (Pb (d:=d+1) (S:=S) (tk:=tk) (s:=s) (n:=n) (t:=t) (w:=et s t) (vs:=d9 Z s t) (us:=ht s.rule (d9 Z s t) s.gives.length) ux hs.gives3 (by grind) hk s.gives.length 0 Z none (d1 _) (by grind)) fun b8 e=>?_;rw[self,List.drop_zero]at e;exact fin e
end
def ck(k:Str×Int):H:=.tup [.str k.1,.int k.2]
def jJ(k:Str×Int):PyData:=.tuple [.str k.1,.int k.2]
theorem Av(a b:Str×Int):PyData.eqv (jJ a) (jJ b)=decide (a=b):=by
 show(a.1 == b.1&&(a.2 == b.2&&true))=_;rw[Bool.and_true,Bool.eq_iff_iff,kM,beq_iff_eq,beq_iff_eq,decide_eq_true_eq];exact⟨fun h=>Prod.ext h.1 h.2,fun h=>h▸⟨rfl,rfl⟩⟩
section
variable {d:Nat}
theorem BF:∀(l:List (Str×Int)),(l.map ck).mapM (dA (n+2) S)=some (l.map jJ):=by
 intro l
 induction l with
 | nil=>rfl
 | cons q l af=>rw[dX,List.mapM_cons,af];rfl
theorem Tn{k:Str×Int}{l:List (Str×Int)}:jM S (ck k) (l.map ck)=some (decide (k∈l)):=by
 unfold jM;rw[BF l];show some ((l.map jJ).any fun y=>PyData.eqv y (jJ k))=_;apply congrArg some;rw[List.any_map,Bool.eq_iff_iff,List.any_eq_true,decide_eq_true_eq]
 exact⟨fun hq=>ay hq fun x hx e=>by
  have e:PyData.eqv (jJ x) (jJ k)=true:=e;rw[Av]at e
  exact f0 e▸hx,fun h=>⟨k,h,by
  show PyData.eqv (jJ k) (jJ k)=true
  exact(Av ..).trans (c6 rfl)⟩⟩
theorem Uv{k:Str×Int}{l:List (Str×Int)}(h:S[r]?=some (.lst (l.map ck))):d2 .notin (ck k) (.ref r) S=.ok (!decide (k∈l)) S:=by
 show aj.ofOpt ((fH (ck k) (.ref r) S).map (!·)) S=_
 have:fH (ck k) (.ref r) S=some (decide (k∈l)):=by unfold fH;dsimp only;exact h<&>Tn
 refine this<&>?_;rfl
theorem N6:∀(l:List (Str×Int)),PyData.eqv (.list (l.map jJ)) (.list (l.map jJ))=true:=by
 intro l;show PyData.eqvAll _ _=true
 induction l with
 | nil=>rfl
 | cons q l af =>
  rw[dX];show(PyData.eqv (jJ q) (jJ q)&&PyData.eqvAll _ _)=true;rw[af,Av,c6 rfl];rfl
theorem Xi{l:List (Str×Int)}(h:S[r]?=some (.lst (l.map ck))):dA 16 S (.ref r)=some (.list (l.map jJ)):=by
 show(match S[r]? with | some (.lst Y)=>(Y.mapM (dA 15 S)).map PyData.list | _=>none)=_;rw[h];show((l.map ck).mapM (dA 15 S)).map PyData.list=_;rw[BF l];rfl
theorem As{x:X}(h:evIt C x R S=(ev C x R S).bind eh)(hx:ev C x R S=.ok (.ref r) S)(hr:S[r]?=some (.lst Y)):evIt C x R S=.ok (Y,some (r,.lst Y)) S:=by
 rw[h,hx];show eh (.ref r) S=_;unfold eh items o2;dsimp only;exact hr<&>rfl
theorem VY{N:Nat}{E:Option H->Option H->Option H->aB}{ss ts:Nat}{qq:X}{body:O}{pick:az->Nat->List H}(hd:C.hd=false)
  (lL:∀v a b c,dj ss v (E a b c)=some (E (some v) b c)) (hb2:∀v a b c,dj ts v (E a b c)=some (E a (some v) c))
  (hr:∀(s:az) b c acc,evIt C qq (E (some s.pv) b c) (τ++[.lst acc])=.ok (cR 0 1 n,none) (τ++[.lst acc])) (hp:∀s t,(pick s t).length<=1):∀(q:List az),
  (∀s∈q,∀t,t<n->∀acc c,acc.length<900->∃b5,ex C N body (E (some s.pv) (ag (t:Nat)) c) (τ++[.lst acc])=.next (E (some s.pv) (ag (t:Nat)) b5) (τ++[.lst (acc++pick s t)])) ->
  ∀a b c acc,acc.length+q.length*n<900->∃cX cz b5,ch none (dj ss) (fun R S=>ex C N #v[(.for1 ts qq body)] R S) (q.map az.pv) (E a b c) (τ++[.lst acc])=.next (E cX cz b5) (τ++[.lst (acc++q.flatMap fun s=>(List.range n).flatMap (pick s))]):=by
 intro q
 induction q with
 | nil=>intro _ a b c acc _;exact ri a b c (e3.trans (List.flatMap_nil<&>fD<&>rfl))
 | cons s q af =>
  intro hbody a b c acc hl;rw[dD,Nat.succ_mul]at hl
  have Rw:∀(k i:Nat) (b c:Option H) (acc:List H),i+k=n->acc.length+k<900->∃cz b5,ch none (dj ts) (fun R S=>ex C N body R S) ((List.range' i k).map fun(i:Nat)=>H.int (0+(i:Int)*1)) (E (some s.pv) b c) (τ++[.lst acc])=.next (E (some s.pv) cz b5) (τ++[.lst (acc++(List.range' i k).flatMap (pick s))])/\(acc++(List.range' i k).flatMap (pick s)).length<=acc.length+k:=by
   intro k
   induction k with
   | zero=>intro i b c acc _ _;exact fF b c (e3.trans (by rw[List.range'_zero,List.flatMap_nil,fD])) (by rw[List.range'_zero,List.flatMap_nil,fD];exact bJ _)
   | succ k Rr =>
    intro i b c acc hi hk;refine aF (hbody s be i (by grind) acc c (dW (el _ _) (by assumption))) fun cs V=>?_;have pl:=hp s i
    have al:(acc++pick s i).length<=acc.length+1:=by rw[cD];(exact kK (by assumption) _)
    refine cG (Rr (i+1) (ag (i:Nat)) cs (acc++pick s i) ((Nat.succ_add_eq_add_succ _ _).trans (by assumption)) (by grind)) fun cz b5 ah f6=>?_;refine List.range'_succ<&>jA<&>cN<$>dX<&>(fF cz b5 ((ez ?_ V).trans ah) (by grind));exact(show(0:Int)+(i:Int)*1=i by grind).symm▸(hb2 _ _ _ _)
  refine cG (Rw n 0 b c acc (d1 n) (by grind)) fun b1 cs V d8=>?_;rw[<- ng]at V d8;refine lG (af (fun s hs=>hbody s (bx _ hs)) (some s.pv) b1 cs (acc++(List.range n).flatMap (pick s)) (by grind)) fun cX cz b5 ah=>?_;refine ri cX cz b5 ((ez (lL _ _ _ _) ((ar (e2 (hr s b c acc) V)).trans bC)).trans ?_);rw[ah,jA,cN]
end
theorem qr{x:Mine.X}(h:ev C x R S=.ok (.int (n:Nat)) S)(hn:n<=200):evIt C (.range1 x) R S=.ok (cR 0 1 n,none) S:=by
 rw[vh,h,cr];show(if 0<=(n:Int)/\(n:Int)<=aL then aj.ok (cR 0 1 (n:Int).toNat,none) S else .stuck)=_;rw[aC ⟨ea n,by rw[fj];(exact ig.mpr (aE (by assumption) ⋯))⟩];rfl
def r9(c:Bool)(s:az)(t:Nat):List H:=if c=true then[ck (s.name,(t:Int))]else[]
theorem UX{c:Bool}{s:az}{t:Nat}:(r9 c s t).length<=1:=by
 unfold r9
 split
 ·exact bJ _
 ·exact ep _
def JQ(p:List az)(n:Nat)(f:az->Int->Bool):List H:=p.flatMap fun s=>(List.range n).flatMap fun(t:Nat)=>r9 (f s (t:Int)) s t
section
variable {p:List az}{Z gs:cx}{X:ci}{d:Nat}
theorem LX{N fs:Nat}{x y:Mine.X}{acc:List H}{s:az}{t:Nat}{c:Mine.X}{b:Bool}(hl:acc.length<900)(hc:tst C c R (τ++[.lst acc])=.ok b (τ++[.lst acc]))(a7:∀S,ev C (.v fs) R S=.ok (.ref τ.length) S)(hx:∀S,ev C x R S=.ok (.str s.name) S)(aG:∀S,ev C y R S=.ok (.int (t:Nat)) S) :
  ex C N (.ife c #v[(.expr (.me .append (.v fs) #v[(.tup #v[x,y])]))] .nil) R (τ++[.lst acc])=.next R (τ++[.lst (acc++r9 b s t)]):=by
 cases b with
 | false=>exact(vj hc).trans (bC.trans ((show r9 false s t=[]from rfl ..).symm▸(fD ..).symm▸rfl))
 | true =>
  refine(eg hc).trans ((ar (f4 (h4 (a7 _) (nG (.inl rfl)) (mB (dm (hx _) (dm (aG _) iM)) (show(2:Nat)<=aL by decide)) (xV (by(exact aE (by assumption) ⋯)))))).trans bC)
theorem JU(hp:cf p)(hn:n<=6):p.length*n<900:=dW (Nat.mul_le_mul hp.most hn) ⋯
theorem PT{x:Str}(g:os=gs.map fun e=>.tup [.str e.1.1,.int e.1.2])(h:S[gl]?=some (.lst os)):d2 .notin (.tup [.str x,.int t]) (.ref gl) S=.ok (aD (x,t) gs).isNone S:=by
 rw[((by rw[g,fE];rfl):os=(gs.map (·.1)).map ck)]at h;refine(Uv (k:=(x,t)) h).trans (congrArg (aj.ok · S) ?_);have hi:=pG (k:=(x,t)) (Z:=gs)
 cases ha:aD (x,t) gs with
 | none =>
  rw[ha]at hi;rw[ed fun q=>by have:=hi.mpr q;contradiction];rfl
 | some v =>
  rw[ha]at hi;rw[c6 (hi.mp rfl)];rfl
end
structure Ci where
 p:List az
 n:Nat
 X:ci
 tk:Nat
 gl:Nat
 l:List Int
section
variable {YN:Ci}{B:bb}{d:Nat}
theorem mA{f:Nat}{Y:Mine.X}{vs:List H}{v:aj H}(h:evs C Y R S=.ok vs ak)(hc:C.call f vs ak=v):ev C (.call f Y) R S=v:=by
 rw[vi,h];exact hc
end
def fw(p:List az):List Str:=(p.filter fun s=>iR s.rule).flatMap (·.gives)
section
variable {d:Nat}
theorem SK:∀(p:List az) (x:Option H) (acc:List Str),acc.length+3*p.length<=900->(∀s∈p,hI s) ->
  ∃aS,ch none (dj 2) (fun R S=>ex (CC d) topN Fq R S) (p.map az.pv) [some pl,aT τ.length,x] (τ++[.lst (acc.map .str)]) =
   .next [some pl,aT τ.length,aS] (τ++[.lst ((acc++fw p).map .str)]):=by
 intro p
 induction p with
 | nil=>intro x acc _ _;exact⟨x,by simpa[fw]using e3⟩
 | cons s p af =>
  intro x acc hl au;have hs:=au s (be);have hg:=hs.gives3;rw[dD]at hl
  have t:tst (CC d) (.cmp (.sub (.v 2) (ai 1)) .eq (.tup #v[(.k (.str "later"))])) [some pl,aT τ.length,some s.pv] (τ++[.lst (acc.map .str)])=.ok (iR s.rule) (τ++[.lst (acc.map .str)]):=
   c3 rfl rfl (Bo hs.rule).1
  cases hq:iR s.rule with
  | false =>
   rw[hq]at t;obtain⟨aS,e⟩:=af (some s.pv) acc (by grind) fun t ba=>au t (bx _ ba)
   have c8:fw (s::p)=fw p:=by unfold fw;rw[List.filter_cons,hq,aV ⋯]
   rw[c8];refine⟨aS,(ez (cL:=[some pl,aT τ.length,some s.pv]) (aH:=τ++[.lst (acc.map .str)]) rfl ?_).trans e⟩;exact(ar (cB t)).trans bC
  | true =>
   rw[hq]at t;obtain⟨aS,e⟩:=af (some s.pv) (acc++s.gives) (by rw[cD];(grind)) fun t ba=>au t (bx _ ba)
   have c8:fw (s::p)=s.gives++fw p:=by unfold fw;rw[List.filter_cons,hq,aC rfl,jA]
   rw[c8,<- cN];refine⟨aS,(ez (cL:=[some pl,aT τ.length,some s.pv]) (fL:=[some pl,aT τ.length,some s.pv]) rfl ?_).trans e⟩;refine(ar ((eg t).trans ?_)).trans bC;refine(ar (f4 (h4 (ak:=τ++[.lst (acc.map .str)]) (aH:=τ++[.lst (acc.map .str)]) rfl (nG (.inr (.inl rfl))) rfl ?_))).trans bC;show nq (.ref τ.length) (.tup (s.gives.map .str)) _=_;unfold nq;dsimp only;rw[iK];dsimp only;rw[aC (by rw[a9,a9,fj];(grind)),oV,fC]
theorem Si{p:List az}(h:cf p):bU PP topN (d+1) Aj [dx p] S=.ok (.ref S.length) (S++[.lst ((fw p).map .str)]):=by
 rw[cO rfl rfl];obtain⟨aS,e⟩:=SK (τ:=S) p none [] (by show 0+3*p.length<=900;have:=h.most;(grind)) h.steps;rw[List.nil_append]at e
 have:ex (CC d) topN Fp.body [some (dx p),none,none] S=.ret (.ref S.length) [some (dx p),aT S.length,aS] (S++[.lst ((fw p).map .str)]):=
  rfl.trans ((ar (e2 rfl e)).trans rfl)
 exact(congrArg bm this).trans rfl
end
theorem G8{p:List az}{x:Str}:x∈fw p ↔ ∃s∈p,iR s.rule=true/\x∈s.gives:=by
 unfold fw;exact lB.trans ⟨fun hq=>ay hq fun s h hx=>(b3 s ((List.mem_filter.mp h).1) ((List.mem_filter.mp h).2) hx),fun hq=>bw hq fun s h hl hx=>(aI s (List.mem_filter.mpr ⟨h,hl⟩) hx)⟩
theorem Pe{p:List az}(h:cf p):(fw p).Nodup:=by
 have:=h.gives;unfold List.Nodup at this;rw[List.pairwise_flatMap]at this;unfold fw List.Nodup;rw[List.pairwise_flatMap];exact⟨fun s hs=>this.1 s (List.mem_filter.mp hs).1,this.2.filter _⟩
set_option tactic.hygienic true in
theorem UM:∀(ns acc:List Str),acc.Nodup->(ns.foldl (fA G) acc).Nodup:=by
 intro ns
 induction ns with
 | nil=>intro acc h;exact h
 | cons n ns af =>
  intro acc h;rw[i5];apply af _;unfold fA
  split
  ·rename_i hc;rw[jz];refine⟨h,hY.mpr ⟨dM,List.nodup_nil⟩,fun a ha b hb e=>?_⟩;rw[di.mp hb]at e;rw[e]at ha;rw[c6 ha]at hc;simp at hc
  ·exact h
noncomputable abbrev dd:=Str×Nat×Int
def bz(e:dd):H:=.tup [.str e.1,.int (e.2.1:Nat),.int e.2.2]
structure Cx(p:List az)(n:Nat)(e:dd):Prop where
 plc:jS p e.1=true
 free:my p e.1 (e.2.1:Nat)=false
 lt:e.2.1<n
 val:0<=e.2.2/\e.2.2<=999999
structure e8(p:List az)(n:Nat)(l:List dd):Prop where
 nodup:(l.map fun e=>(e.1,e.2.1)).Nodup
 ok:∀e∈l,Cx p n e
theorem e8.snoc{p:List az}{l:List dd}{e:dd}(h:e8 p n l)(he:Cx p n e)(hn:∀q∈l,(q.1,q.2.1)≠(e.1,e.2.1)):e8 p n (l++[e]):=by
 refine⟨?_,fun q hq=>?_⟩
 ·rw[fC,jz];exact⟨h.nodup,hY.mpr ⟨dM,List.nodup_nil⟩,fun a ha b hb=>(ay (c7.mp ha) fun q hq ae=>(ae▸(di.mp hb<&>(hn q hq))))⟩
 ·rcases dt.mp hq with hq | hq
  ·exact h.ok q hq
  ·rw[di.mp hq];exact he
theorem JG{p:List az}{x:Str}{j:Int}(h:x∈hj p):my p x j=false/\jS p x=true:=by
 refine⟨Hf fun s hs hx=>absurd (lB.mpr (aI s hs hx)) (A3.mp h).2,?_⟩;unfold jS;exact c6 h<&>Bool.or_true<&>rfl
theorem Pc{p:List az}{x:Str}(hp:cf p)(h:x∈fw p):my p x ((0:Nat):Int)=false/\jS p x=true:=by
 refine bw (G8.mp h) fun s hs hl hx=>⟨Hf fun s' eS vT=>?_,?_⟩
 ·have:=(rv vT hp.gives eS).symm.trans (rv hx hp.gives hs);exact oi this<$>⟨hl,Int.le_refl 0⟩
 ·unfold jS;refine c6 (lB.mpr (aI s hs hx))<&>?_;rfl
section
variable {p:List az}{d:Nat}{cm at_:Nat}{dy:Int}
def eu(l:List Int)(at_:Nat)(p:List az)(n cm:Nat)(dy:Int)(j x t k:Option H):aB:=some (.fl (l.map .int))::ag (at_:Nat)::some (dx p)::ag (n:Nat)::aT cm::ag dy::j::x::t::k::List.replicate 7 none
theorem CT{N f:Nat}{y:X}{e:dd}{acc:List dd}(oJ:cm<τ.length)(hl:acc.length<900)(a7:∀S,ev C (.v f) R S=.ok (.ref cm) S)(aG:ev C y R (τ.set cm (.lst (acc.map bz)))=.ok (bz e) (τ.set cm (.lst (acc.map bz)))) :
  ex C N (.expr (.me .append (.v f) #v[y])) R (τ.set cm (.lst (acc.map bz)))=.next R (τ.set cm (.lst ((acc++[e]).map bz))):=by
 refine(f4 (h4 (a7 _) (AL ((List.getElem?_set_self oJ):(τ.set cm (.lst (acc.map bz)))[cm]?=some (.lst (acc.map bz)))) aG (xW ((List.getElem?_set_self oJ):(τ.set cm (.lst (acc.map bz)))[cm]?=some (.lst (acc.map bz))) (by rw[a9];(exact aE (by assumption) ⋯))))).trans ?_;rw[List.set_set,fC];rfl
theorem x5{x:X}{k:Nat}(hl:l.length<=63)(hC:∀vs S,C.call gu vs S=bU PP topN (d+1) gu vs S)(h0:ev C (.v 0) R S=.ok (.fl (l.map .int)) S)(hx:ev C x R S=.ok (.int (k:Nat)) S):ev C (.call gu #v[(.v 0),x]) R S=.ok (.int (l.getD k 0)) S:=jb h0 hx ((hC _ _).trans (pE hl))
theorem Vj{x:Str}(hl:l.length<=63)(hx:x∈hj p)(oJ:cm<τ.length):∀(k a:Nat) (acc:List dd) (t z:Option H),a+k=n->acc.length+k<900->e8 p n acc->(∀e∈acc,e.1=x->e.2.1<a) ->
  ∃eW bE b8,ch none (dj 8) (fun R S=>ex (CC (d+1)) topN y1 R S) ((List.range' a k).map fun(i:Nat)=>H.int (0+(i:Int)*1)) (eu l at_ p n cm dy (ag (j:Nat)) (bA x) t z) (τ.set cm (.lst (acc.map bz)))=.next (eu l at_ p n cm dy (ag (j:Nat)) (bA x) bE b8) (τ.set cm (.lst (eW.map bz)))/\e8 p n eW/\eW.length<=acc.length+k/\∀e∈eW,e∈acc\/e.1=x:=by
 intro k
 induction k with
 | zero=>intro a acc t z _ _ h _;exact lI acc t z e3 h (bJ _) (fun e he=>.inl he)
 | succ k af =>
  intro a acc t z ha hk h hb;refine bw (zq (p:=eU (eU (l.getD (at_+1+(j+a)%6) 0+31*(j:Int)+1009*(a:Int))))) fun v fY aY hv=>?_
  have Qp:dj 8 (H.int (0+(a:Int)*1)) (eu l at_ p n cm dy (ag (j:Nat)) (bA x) t z)=some (eu l at_ p n cm dy (ag (j:Nat)) (bA x) (ag (a:Nat)) z):=by
   rw[show(0:Int)+(a:Int)*1=a by grind];rfl
  have b0:∀{S:ab},ex (CC (d+1)) topN Go (eu l at_ p n cm dy (ag (j:Nat)) (bA x) (ag (a:Nat)) z) S=.next (eu l at_ p n cm dy (ag (j:Nat)) (bA x) (ag (a:Nat)) (ag (eU (l.getD (at_+1+(j+a)%6) 0+31*(j:Int)+1009*(a:Int))))) S:=fun{S}=>by
   refine b6 (ef (cj (cj (x5 hl (fun u u=>rfl) rfl (cj rfl (cj (ak:=S) rfl rfl (gw ⋯)) ?_)) (cj (ak:=S) (aH:=S) rfl rfl (mul_int (.inl ⋯))) add_int) rfl add_int) (lK (d:=d)));rw[add_int];(rfl)
  have bR:∀{S:ab} {q:Int},tst (CC (d+1)) (.or #v[(.cmp (.v 5) .gt (ai 0)),(.cmp (.bin .mod (.v 9) (ai 3)) .gt (ai 0))]) (eu l at_ p n cm dy (ag (j:Nat)) (bA x) (ag (a:Nat)) (ag q)) S=.ok (decide (dy > 0)||decide (q%3 > 0)) S:=fun{S q} =>
   lj (BE rfl fun u=>ll rfl)
  generalize hq:eU (l.getD (at_+1+(j+a)%6) 0+31*(j:Int)+1009*(a:Int))=q at b0 hv
  have fin:∀(eX:List dd),ex (CC (d+1)) topN Gp (eu l at_ p n cm dy (ag (j:Nat)) (bA x) (ag (a:Nat)) (ag q)) (τ.set cm (.lst (acc.map bz)))=.next (eu l at_ p n cm dy (ag (j:Nat)) (bA x) (ag (a:Nat)) (ag q)) (τ.set cm (.lst (eX.map bz)))->e8 p n eX->eX.length<=acc.length+1->(∀e∈eX,e∈acc\/e=(x,a,v)) ->
    ∃eW bE b8,ch none (dj 8) (fun R S=>ex (CC (d+1)) topN y1 R S) ((List.range' a (k+1)).map fun(i:Nat)=>H.int (0+(i:Int)*1)) (eu l at_ p n cm dy (ag (j:Nat)) (bA x) t z) (τ.set cm (.lst (acc.map bz)))=.next (eu l at_ p n cm dy (ag (j:Nat)) (bA x) bE b8) (τ.set cm (.lst (eW.map bz)))/\e8 p n eW/\eW.length<=acc.length+(k+1)/\∀e∈eW,e∈acc\/e.1=x:=fun eX V J d8 aZ=>by
   obtain⟨eW,bE,b8,ah,L,f6,bH⟩:=af (a+1) eX (ag (a:Nat)) (ag q) ((Nat.succ_add_eq_add_succ _ _).trans (by assumption)) (by grind) J (fun e he hx=>by
    refine bZ (aZ e he) (fun he=>?_) (fun hr=>?_)
    ·have:=hb e he hx;(exact aE (by assumption) (el _ _))
    ·refine hr▸?_
     exact ic _)
   refine lI eW bE b8 ?_ L (by grind) (fun e he=>?_)
   ·rw[List.range'_succ,dX];exact(ez Qp ((ar b0).trans ((ar V).trans bC))).trans ah
   ·rcases bH e he with he | he
    ·refine bZ (aZ e he) (fun he=>?_) (fun hr=>?_)
     ·exact .inl he
     ·exact hr▸(.inr rfl)
    ·exact .inr he
  cases hc:(decide (dy > 0)||decide (q%3 > 0))with
  | false=>exact fin acc (cB (bR.trans (by rw[hc]))) h (Nat.le_succ _) fun e he=>.inl he
  | true =>
   refine fin (acc++[(x,a,v)]) ((eg (bR.trans (by rw[hc]))).trans ((ar (a:=Gq) (CT oJ (by grind) (fun u=>rfl) ?_)).trans bC)) (h.snoc ⟨(JG (j:=0) hx).2,(JG hx).1,by show a<n;(grind),fY,aY⟩ fun e he q=>?_) (cD<&>(bJ _)) fun e he=>?_
   ·exact mB (vs:=[.str x,.int (a:Nat),.int v]) (dm rfl (dm (ak:=τ.set cm (.lst (acc.map bz))) rfl (dm (ef (ef (ak:=τ.set cm (.lst (acc.map bz))) rfl (lK (d:=d))) hv) iM))) (show(3:Nat)<=aL by decide)
   ·exact aN (Prod.mk.inj q) fun q1 q2=>i6 _ (q2▸hb e he q1)
   ·rcases dt.mp he with he | he
    ·exact .inl he
    ·exact .inr (di.mp he)
end
theorem zh{f:az->List Str}:∀(q:List az),(∀s∈q,(f s).length<=m)->(q.flatMap f).length<=m*q.length:=by
 intro q
 induction q with
 | nil=>intro _;exact bJ _
 | cons s q af =>
  intro h;have J:=h s be;have L:=af fun t ba=>h t (bx _ ba);rw[jA,cD,dD,Nat.mul_succ];(grind)
theorem UJ{p:List az}(h:cf p):(hj p).length<=80:=by
 exact aE (t5 (p.flatMap (·.needs)) []) (aE (by refine kO<&>d1<&>?_;exact(zh p fun s hs=>(h.steps s hs).needs4)) (nh 4 h.most))
theorem Pd{p:List az}(h:cf p):(fw p).length<=60:=by
 exact aE (zh (p.filter fun s=>iR s.rule) fun s hs=>(h.steps s (List.mem_filter.mp hs).1).gives3) (nh 3 (aE (List.length_filter_le _ _) h.most))
section
variable {p:List az}{d:Nat}{cm at_:Nat}{dy:Int}
theorem Vk(hl:l.length<=63)(hn:n<=6)(oJ:cm<τ.length)(hw:∀m,hT wt (τ.set cm m)):∀(Y:List Str) (j:Nat) (acc:List dd) (a x t z:Option H),Y.Nodup->(∀x∈Y,x∈hj p)->(∀e∈acc,e.1∉Y)->acc.length+6*Y.length<800->e8 p n acc ->
  ∃eW cX aS bE b8,ch wt (eG [6,7]) (fun R S=>ex (CC (d+1)) topN Gm R S) (lW j (Y.map .str)) (eu l at_ p n cm dy a x t z) (τ.set cm (.lst (acc.map bz)))=.next (eu l at_ p n cm dy cX aS bE b8) (τ.set cm (.lst (eW.map bz)))/\e8 p n eW/\eW.length<=acc.length+6*Y.length/\∀e∈eW,e∈acc\/e.1∈Y:=by
 intro Y
 induction Y with
 | nil=>intro j acc a x t z _ _ _ _ h;exact DW acc a x t z (rs (hw _)) h (bJ _) (fun e he=>.inl he)
 | cons y Y af =>
  intro j acc a x t z hd hm ha fG h;rw[dD]at fG;rw[hY]at hd;refine kS (Vj (d:=d) (at_:=at_) (dy:=dy) (j:=j) hl (hm y be) oJ n 0 acc t z (d1 n) (by grind) h (fun e he hx=>absurd (hx▸be) (ha e he))) fun eX cT eV V J d8 aZ=>?_
  obtain⟨eW,cX,aS,bE,b8,ah,L,f6,bH⟩:=af (j+1) eX (ag (j:Nat)) (bA y) cT eV hd.2 (fun x hx=>hm x (bx _ hx)) (fun e he hx=>by
   refine bZ (aZ e he) (fun he=>?_) (fun he=>?_)
   ·exact ha e he (bx _ hx)
   ·exact hd.1 (he▸hx)) (by grind) J
  refine DW eW cX aS bE b8 ?_ L (by rw[dD];(grind)) (fun e he=>?_)
  ·refine(rr (hw _) (cL:=eu l at_ p n cm dy (ag (j:Nat)) (bA y) t z) rfl ((ar (a:=Gn) (e2 (qr rfl (aE (by assumption) ⋯)) ?_)).trans bC)).trans ah;unfold cR;exact ng<&>V
  ·refine bZ (bH e he) (fun he=>?_) (fun he=>?_)
   ·rcases aZ e he with he | he
    ·exact .inl he
    ·exact .inr (he▸be)
   ·exact .inr (bx _ he)
theorem Vi(hp:cf p)(hl:l.length<=63)(oI:1<=n)(oJ:cm<τ.length)(hw:∀m,hT wt (τ.set cm m)):∀(Y:List Str) (j:Nat) (acc:List dd) (a x t z:Option H),Y.Nodup->(∀x∈Y,x∈fw p)->(∀e∈acc,e.1∉Y)->acc.length+Y.length<900->e8 p n acc ->
  ∃eW cX aS bE b8,ch wt (eG [6,7]) (fun R S=>ex (CC (d+1)) topN y2 R S) (lW j (Y.map .str)) (eu l at_ p n cm dy a x t z) (τ.set cm (.lst (acc.map bz)))=.next (eu l at_ p n cm dy cX aS bE b8) (τ.set cm (.lst (eW.map bz)))/\e8 p n eW/\eW.length<=acc.length+Y.length:=by
 intro Y
 induction Y with
 | nil=>intro j acc a x t z _ _ _ _ h;exact ym acc a x t z (rs (hw _)) h (bJ _)
 | cons y Y af =>
  intro j acc a x t z hd hm ha fG h;rw[dD]at fG;rw[hY]at hd;refine bw (zq (p:=eU (eU (l.getD (at_+1+j%6) 0+7)))) fun v fY aY hv=>?_
  have b0:∀{S:ab},ex (CC (d+1)) topN Gs (eu l at_ p n cm dy (ag (j:Nat)) (bA y) t z) S=.next (eu l at_ p n cm dy (ag (j:Nat)) (bA y) t (ag (eU (l.getD (at_+1+j%6) 0+7)))) S:=fun{S}=>by
   refine b6 (ef (cj (x5 hl (fun u u=>rfl) rfl (cj rfl rfl ?_)) rfl add_int) (lK (d:=d)));rw[add_int];(rfl)
  have bR:∀{S:ab} {q:Int},tst (CC (d+1)) (.cmp (.bin .mod (.v 9) (ai 5)) .gt (.bin .sub (.v 5) (ai 1))) (eu l at_ p n cm dy (ag (j:Nat)) (bA y) t (ag q)) S=.ok (decide (q%5 > dy-1)) S:=fun{S q} =>
   c3 rfl (aH:=S) rfl gt_int
  generalize hq:eU (l.getD (at_+1+j%6) 0+7)=q at b0 hv
  have fin:∀(eX:List dd),ex (CC (d+1)) topN Gu (eu l at_ p n cm dy (ag (j:Nat)) (bA y) t (ag q)) (τ.set cm (.lst (acc.map bz)))=.next (eu l at_ p n cm dy (ag (j:Nat)) (bA y) t (ag q)) (τ.set cm (.lst (eX.map bz)))->e8 p n eX->eX.length<=acc.length+1->(∀e∈eX,e∈acc\/e=(y,0,v)) ->
    ∃eW cX aS bE b8,ch wt (eG [6,7]) (fun R S=>ex (CC (d+1)) topN y2 R S) (lW j ((y::Y).map .str)) (eu l at_ p n cm dy a x t z) (τ.set cm (.lst (acc.map bz)))=.next (eu l at_ p n cm dy cX aS bE b8) (τ.set cm (.lst (eW.map bz)))/\e8 p n eW/\eW.length<=acc.length+(y::Y).length:=fun eX V J d8 aZ=>by
   obtain⟨eW,cX,aS,bE,b8,ah,L,f6⟩:=af (j+1) eX (ag (j:Nat)) (bA y) t (ag q) hd.2 (fun x hx=>hm x (bx _ hx)) (fun e he hx=>by
    rcases aZ e he with he | rfl
    ·exact ha e he (bx _ hx)
    ·exact hd.1 hx) (by grind) J
   exact ym eW cX aS bE b8 ((rr (hw _) rfl ((ar b0).trans ((ar V).trans bC))).trans ah) L (by rw[dD];(grind))
  cases hc:decide (q%5 > dy-1)with
  | false=>exact fin acc (cB (bR.trans (hc<&>rfl))) h (Nat.le_succ _) fun e he=>.inl he
  | true =>
   refine aN (Pc hp (hm y be)) fun f1 f2=>fin (acc++[(y,0,v)]) ((eg (bR.trans (by rw[hc]))).trans ((ar (a:=Gv) (CT oJ (by grind) (fun u=>rfl) ?_)).trans bC)) (h.snoc ⟨f2,f1,oI,fY,aY⟩ fun e he q=>?_) (cD<&>(bJ _)) fun e he=>?_
   ·exact mB (vs:=[.str y,.int ((0:Nat):Int),.int v]) (dm rfl (dm (ak:=τ.set cm (.lst (acc.map bz))) rfl (dm (ef (ef (ak:=τ.set cm (.lst (acc.map bz))) rfl (lK (d:=d))) hv) iM))) (show(3:Nat)<=aL by decide)
   ·exact ha e he ((Prod.mk.inj q).1▸be)
   ·rcases dt.mp he with he | he
    ·exact .inl he
    ·exact .inr (di.mp he)
theorem DZ{x:X}(hx:ev C x R S=.ok (.ref r) ak)(hr:ak[r]?=some (.lst Y))(hl:Y.length<=1000):evIt C (.enum x) R S=.ok (lW 0 Y,some (r,.lst Y)) ak:=by
 rw[Oc,hx,cr];unfold pw cY o2;dsimp only;refine hr<&>?_;exact aC (by rw[fj];(exact aE (by assumption) ⋯))
theorem So(hp:cf p)(hl:l.length<=63)(oI:1<=n)(hn:n<=6):∃(acc:List dd) (dq:ab),bU PP topN (d+2) Ih [.fl (l.map .int),.int (at_:Nat),dx p,.int (n:Nat)] S=.ok (.ref S.length) (S++.lst (acc.map bz)::dq)/\e8 p n acc/\acc.length<800:=by
 rw[cO rfl rfl];have nJ:=UJ hp;have fl:=Pd hp
 have ce:∀{S:ab},ex (CC (d+1)) topN Gk (some (.fl (l.map .int))::ag (at_:Nat)::some (dx p)::ag (n:Nat)::aT S.length::List.replicate 12 none) (S++[.lst []])=.next (eu l at_ p n S.length (l.getD at_ 0%3) none none none none) (S++[.lst []]):=fun{S} =>
  b6 (cj (x5 hl (fun u u=>rfl) rfl rfl) rfl (gw ⋯))
 generalize l.getD at_ 0%3=dy at ce
 have out:=Sl (d:=d) (S:=S++[.lst []]) hp;change bU PP topN (d+1) v1 [dx p] (S++[.lst []])=.ok (.ref ((S++[aX.lst []]).length+1)) (S++[aX.lst []]++[aX.lst ((p.flatMap (·.gives)).map .str),.lst ((hj p).map .str)])at out;rw[show S++[aX.lst []]++[aX.lst ((p.flatMap (·.gives)).map .str),.lst ((hj p).map .str)]=S++.lst []::[.lst ((p.flatMap (·.gives)).map .str),.lst ((hj p).map .str)] by rw[cN];rfl]at out
 have g1:(S++.lst []::[aX.lst ((p.flatMap (·.gives)).map .str),.lst ((hj p).map .str)])[(S++[aX.lst []]).length+1]?=some (.lst ((hj p).map .str)):=by
  rw[cD,gh (by show _<=_+1+1;(grind)),show S.length+[aX.lst []].length+1-S.length=2 by show S.length+1+1-S.length=2;(grind)];rfl
 have Jo:S.length≠(S++[aX.lst []]).length+1:=by rw[cD];show _≠_+1+1;(grind)
 generalize Zg:(S++[aX.lst []]).length+1=aM at out g1 Jo;obtain⟨eX,dL,a1,cT,eV,V,J,d8,aZ⟩:=Vk (d:=d) (wt:=some (aM,.lst ((hj p).map .str))) hl hn ((by rw[cD];show _<_+3;(grind)):S.length<(S++.lst []::[aX.lst ((p.flatMap (·.gives)).map .str),.lst ((hj p).map .str)]).length) (fun m=>eD Jo g1) (hj p) 0 [] none none none none (UM _ _ List.nodup_nil) (fun x hx=>hx) (fun e he=>nomatch he) (by rw[kO];(grind)) ⟨List.nodup_nil,fun e he=>nomatch he⟩;rw[List.map_nil,oV,oV]at V
 have fJ:ex (CC (d+1)) topN Gl (eu l at_ p n S.length dy none none none none) (S++[.lst []])=.next (eu l at_ p n S.length dy dL a1 cT eV) (S++.lst (eX.map bz)::[.lst ((p.flatMap (·.gives)).map .str),.lst ((hj p).map .str)]):=by
  show(evIt (CC (d+1)) (.enum (.call v1 #v[(.v 2)])) (eu l at_ p n S.length dy none none none none) (S++[.lst []])).toS _ _=_;rw[DZ (ef rfl out) g1 (by rw[a9];(exact aE (by assumption) ⋯)),iW];exact V
 generalize [aX.lst ((p.flatMap (·.gives)).map .str),.lst ((hj p).map .str)]=gO at fJ;have fst:=Si (d:=d) (S:=S++.lst (eX.map bz)::gO) hp;rw[show S++aX.lst (eX.map bz)::gO++[.lst ((fw p).map .str)]=S++.lst (eX.map bz)::(gO++[.lst ((fw p).map .str)]) by rw[cN];rfl]at fst
 have g2:(S++.lst (eX.map bz)::(gO++[.lst ((fw p).map .str)]))[(S++aX.lst (eX.map bz)::gO).length]?=some (.lst ((fw p).map .str)):=by
  refine List.cons_append<$>cN<$>?_;exact iK
 have Jp:S.length≠(S++aX.lst (eX.map bz)::gO).length:=by rw[cD,dD];(grind)
 generalize (S++aX.lst (eX.map bz)::gO).length=r2 at fst g2 Jp
 obtain⟨CJ,gU,bv,bQ,gc,ah,L,f6⟩:=Vi (d:=d) (at_:=at_) (dy:=dy) (wt:=some (r2,.lst ((fw p).map .str))) hp hl oI ((by rw[cD,dD];(grind)):S.length<(S++aX.lst (eX.map bz)::(gO++[aX.lst ((fw p).map .str)])).length) (fun m=>eD Jp g2) (fw p) 0 eX dL a1 cT eV (Pe hp) (fun x hx=>hx) (fun e he hx=>by
  refine bZ (aZ e he) (fun he=>?_) (fun he=>?_)
  ·exact nomatch he
  ·refine bw (G8.mp hx) fun s hs u hg=>?_
   exact(A3.mp he).2 (lB.mpr (aI s hs hg))) (by rw[kO]at d8;(grind)) J
 rw[oV,oV]at ah
 have l3:ex (CC (d+1)) topN Gr (eu l at_ p n S.length dy dL a1 cT eV) (S++.lst (eX.map bz)::gO)=.next (eu l at_ p n S.length dy gU bv bQ gc) (S++.lst (CJ.map bz)::(gO++[.lst ((fw p).map .str)])):=by
  show(evIt (CC (d+1)) (.enum (.call Aj #v[(.v 2)])) (eu l at_ p n S.length dy dL a1 cT eV) (S++.lst (eX.map bz)::gO)).toS _ _=_;rw[DZ (ef (x:=dx p) rfl fst) g2 (by rw[a9];(exact aE (by assumption) ⋯)),iW];exact ah
 refine jF CJ (gO++[.lst ((fw p).map .str)]) ?_ L (by rw[kO]at d8;(grind));have wO:∀{σ':ab},ex (CC (d+1)) topN Gw (eu l at_ p n S.length dy gU bv bQ gc) σ'=.ret (.ref S.length) (eu l at_ p n S.length dy gU bv bQ gc) σ':=fun{σ'}=>dF rfl;exact(congrArg bm (rfl.trans ((ar (ce)).trans ((ar fJ).trans ((ar l3).trans (bV wO)))))).trans rfl
end
structure uC(X:ci)(j:Nat):Prop where
 i:j≠X.i
 g:j≠X.g
 o:j≠X.o
 h:j≠X.h
 gn:j≠X.gn
 od:j≠X.od
theorem uC.gt{X:ci}(l:X.Lt)(h:X.od<j):uC X j:=by
 have aW:=b9 l.d (b9 l.e h);have o:=b9 l.c aW;exact⟨du (b9 l.a (b9 l.b o)),du (b9 l.b o),du o,du aW,du (b9 l.e h),du h⟩
theorem ec.other{p:List az}{Z gs:cx}{X:ci}{m:aX}(b:ec p n Z gs os X S)(a:uC X j):ec p n Z gs os X (S.set j m):=
 ⟨eD a.i b.ns,eD a.g b.gv,eD a.o b.ot,eD a.h b.hr,eD a.gn b.go,eD a.od b.od,b.lt⟩
section
variable {YN:Ci}{B:bb}{d:Nat}
end
def kC(a b:cx):Prop:=∀k v,aD k a=some v->aD k b=some v
section
variable {p:List az}{B ao:bb}{Z d3:cx}{s:az}
theorem Yt{bE:Int}(h:et s t=et s bE):t=bE:=(Int.add_left_inj _).mp h
theorem Hj(hp:cf p)(g:o7 p n B)(hs:s∈p)(h0:0<=t)(hn:aD (s.name,t) B.gs=none):kC B.Z (g5 n B.Z s t):=fun k v hv=>by
 rcases zm with e | ⟨V,ah⟩
 ·exact e.trans hv
 rcases g.prv k.1 k.2 v hv with b | ⟨s',J,L,bE,au,aQ⟩
 ·have b:(match nv p k.1 with
   | some s=>!iR s.rule||decide (k.2 > 0)
   | none=>false)=false:=b
  rw[(rv ah hp.gives hs)]at b;refine aN (Bool.or_eq_false_iff.mp b) fun b1 b2=>absurd ?_ (lz b2);rw[V];show 0<t+(if iR s.rule=true then 1 else 0);rw[aC (Eq.mp (Bool.not_eq_false' _) b1)];exact Int.lt_add_one_of_le h0
 ·obtain rfl:=oi ((rv ah hp.gives hs).symm.trans (rv L hp.gives J));rw[Yt (au.trans V),hn]at aQ;exact nomatch aQ
theorem tS{x:Str}(h:fk Z s t=none)(hx:x∈kd Z s t):∃v,aD (x,t) Z=some v:=by
 cases q:aD (x,t) Z with
 | some v=>exact⟨v,rfl⟩
 | none=>exact absurd (show(aD (x,t) Z).isNone=true by refine q<&>?_;rfl) (List.find?_eq_none.mp h x hx)
set_option tactic.hygienic true in
theorem Mg(hk:kC Z d3)(h:fk Z s t=none):kd d3 s t=kd Z s t:=by
 have has:=fun x=>tS (x:=x) h;unfold kd at has ⊢
 cases hc:i8 s.rule with
 | false=>rfl
 | true =>
  refine aC rfl<&>aC rfl<&>?_;rw[hc,aC rfl]at has
  split
  ·rename_i a b c hn;rw[hn]at has;dsimp only at has
   cases q:aD (a,t) Z with
   | some v=>exact hk _ _ q<&>rfl
   | none =>
    rw[q]at has;refine aF (has a be) fun v hv=>nomatch hv.symm.trans q
  ·rfl
theorem AI(hk:kC Z d3)(h:fk Z s t=none):fk d3 s t=none:=by
 refine List.find?_eq_none.mpr fun x hx=>?_;rw[Mg hk h]at hx;refine aF (tS h hx) fun v hv=>?_;refine hk _ _ hv<&>?_;exact fun z=>nomatch z
theorem A4{k:Nat}(hs:hI s)(hk:kC Z d3)(h:fk Z s t=none):ht s.rule (d9 d3 s t) k=ht s.rule (d9 Z s t) k:=by
 cases hc:i8 s.rule with
 | false =>
  refine congrArg (ht s.rule · k) (List.map_congr_left fun x hx=>congrArg (Option.getD · H.none) ((fun x hx=>aF (tS h hx) fun v hv=>(hk _ _ hv).trans hv.symm) x ?_));unfold kd;refine hc<&>?_;exact hx
 | true =>
  have hr:=hs.rule;obtain⟨nm,rl,ns,gv⟩:=s;have hr:gf rl ns.length gv.length:=hr;have hc:i8 rl=true:=hc;generalize hm:ns.length=m at hr;generalize gv.length=bH at hr
  cases hr with
  | choose _ =>
   refine lG (p3 hm) fun a b c ae=>?_;subst ae
   have g:∀x∈(match aD (a,t) Z with
    | none=>[a]
    | some v=>if hB v=true then[b]else[c]),aD (x,t) d3=aD (x,t) Z:=(fun x hx=>aF (tS h hx) fun v hv=>(hk _ _ hv).trans hv.symm)
   apply congrArg (List.replicate k);show(if hB ((aD (a,t) d3).getD .none)=true then(aD (b,t) d3).getD .none else(aD (c,t) d3).getD .none)=(if hB ((aD (a,t) Z).getD .none)=true then(aD (b,t) Z).getD .none else(aD (c,t) Z).getD .none)
   cases q:aD (a,t) Z with
   | none =>
    refine aF (tS h ?_) fun v hv=>nomatch hv.symm.trans q
    show a∈(match aD (a,t) Z with
     | none=>[a]
     | some v=>if hB v=true then[b]else[c])
    refine q<&>?_;exact be
   | some v =>
    refine hk _ _ q<&>?_;rw[q]at g;dsimp only at g;show(if hB v=true then(aD (b,t) d3).getD .none else(aD (c,t) d3).getD .none)=(if hB v=true then(aD (b,t) Z).getD .none else(aD (c,t) Z).getD .none)
    cases a3:hB v with
    | true=>rw[a3]at g;rw[aC rfl,aC rfl,g b be]
    | false=>rw[a3]at g;rw[aV ⋯,aV ⋯,g c be]
  | fixed _ _ _ _ _=>exact nomatch hc
  | _=>exact absurd hc (by decide +kernel)
def qN(n:Nat)(Z:cx)(s:az)(t:Int):Prop:=fk Z s t=none/\(et s t≠n->∀e∈s.gives.zip (ht s.rule (d9 Z s t) s.gives.length),jj e.2=false->aD (e.1,et s t) Z=some e.2)
theorem qN.keep(hs:hI s)(hk:kC Z d3)(h:qN n Z s t):qN n d3 s t:=
 ⟨AI hk h.1,fun hw e he hv=>hk _ _ (h.2 hw e (by rw[A4 hs hk h.1]at he;exact he) hv)⟩
theorem Vp{w:Int}{e:Str×H}(hv:jj e.2=false):∀(l:List (Str×H)) (Z:cx),(l.map (·.1)).Nodup->e∈l->aD (e.1,w) (l.foldl (put1 w) Z)=some e.2:=by
 intro l
 induction l with
 | nil=>intro Z _ h;exact absurd h dM
 | cons a l af =>
  intro Z hn h;rw[dX,hY]at hn
  rcases bY.mp h with rfl | h
  ·apply(uW l _ (.inr hn.1)).trans;show aD (e.1,w) (if jj e.2=true then Z else ee (e.1,w) e.2 Z)=_;refine hv<&>?_;rw[aV ⋯,uV,aC rfl]
  ·exact af _ hn.2 h
theorem Vq{w:Int}{r:cx}:∀(l:List (Str×H)) (Z:cx),kC Z r->(∀e∈l,jj e.2=false->aD (e.1,w) r=some e.2)->kC (l.foldl (put1 w) Z) r:=by
 intro l
 induction l with
 | nil=>intro Z h _;exact h
 | cons a l af =>
  intro Z h hl;refine af _ (fun k v hv=>?_) fun e he=>hl e (bx _ he);have hv:aD k (if jj a.2=true then Z else ee (a.1,w) a.2 Z)=some v:=hv
  cases hq:jj a.2 with
  | true=>rw[hq,aC rfl]at hv;exact h k v hv
  | false =>
   rw[hq,aV ⋯,uV]at hv;by_cases q:k=(a.1,w)
   ·rw[aC q]at hv;rw[q,hl a be hq];exact hv
   ·rw[aV q]at hv;exact h k v hv
theorem YF{l:List H}:∀{g:List Str},g.Nodup->((g.zip l).map (·.1)).Nodup:=by
 intro g
 induction g generalizing l with
 | nil=>intro h;exact List.nodup_nil
 | cons a g af =>
  intro h;rw[hY]at h
  cases l with
  | nil=>exact List.nodup_nil
  | cons v l=>exact hY.mpr ⟨fun q=>h.1 (YD q),af h.2⟩
theorem PL(hs:hI s)(hk:kC Z (g5 n Z s t))(h:fk Z s t=none):qN n (g5 n Z s t) s t:=by
 refine⟨AI hk h,fun hw e he hv=>?_⟩;rw[A4 hs hk h]at he;exact ey (congrArg _ (aV hw)) (Vp hv _ _ (YF hs.unlike) he)
theorem PM{r:cx}(hs:hI s)(hk:kC Z r)(h:fk Z s t=none)(g:qN n r s t):kC (g5 n Z s t) r:=by
 by_cases hw:et s t=n
 ·rw[show g5 n Z s t=Z from aC hw];exact hk
 ·rw[show g5 n Z s t=(s.gives.zip (ht s.rule (d9 Z s t) s.gives.length)).foldl (put1 (et s t)) Z from aV hw];refine Vq _ _ hk fun e he hv=>g.2 hw e ?_ hv;rw[A4 hs hk h];exact he
inductive j5(p:List az)(n:Nat)(acc:List dd):bb->Prop
 | nil:j5 p n acc ⟨[],[],[]⟩
 | put {B:bb} {e:dd} (h:j5 p n acc B) (he:e∈acc) (ha:aD (e.1,(e.2.1:Int)) B.Z=none):j5 p n acc (B.put e.1 e.2.1 e.2.2)
 | fire {B:bb} {s:az} {t:Int} (h:j5 p n acc B) (hs:s∈p) (h0:0<=t) (J:t<n) (hr:B.rdy s t=true):j5 p n acc (B.fire n s t)
structure CA(p:List az)(n:Nat)(B:bb):Prop where
 val:gT B.Z
 gk:o7 p n B
 gave:∀s∈p,∀t:Int,(aD (s.name,t) B.gs).isSome=true->qN n B.Z s t
theorem j5.ok{acc:List dd}(hp:cf p)(ha:e8 p n acc)(h:j5 p n acc B):CA p n B:=by
 induction h with
 | nil=>exact⟨fun k v hv=>(nomatch hv),⟨List.nodup_nil,fun k hk=>absurd hk dM,rfl,fun x w v hv=>(nomatch hv)⟩,fun s u t ba=>(nomatch ba)⟩
 | @put B e h he a7 af =>
  have k:kC B.Z (B.put e.1 e.2.1 e.2.2).Z:=fun k v hv=>by
   show aD k (B.Z++[((e.1,(e.2.1:Int)),.int e.2.2)])=some v;rw[nb a7,aV (fun q=>by rw[q,a7]at hv;exact nomatch hv)];exact hv
  refine⟨fun k aa hu=>?_,⟨af.gk.nodup,af.gk.inn,af.gk.os,fun x w v hv=>?_⟩,fun s hs t ba=>(af.gave s hs t ba).keep (hp.steps s hs) k⟩
  ·have hu:aD k (B.Z++[((e.1,(e.2.1:Int)),.int e.2.2)])=some aa:=hu;rw[nb a7]at hu;by_cases q:k=(e.1,(e.2.1:Int))
   ·rw[aC q]at hu;exact oi hu<$>(aI e.2.2 rfl ((ha.ok e he).val))
   ·rw[aV q]at hu;exact af.val k aa hu
  ·have hv:aD (x,w) (B.Z++[((e.1,(e.2.1:Int)),.int e.2.2)])=some v:=hv;rw[nb a7]at hv;by_cases q:(x,w)=(e.1,(e.2.1:Int))
   ·exact aN (Prod.mk.inj q) fun ae qk=>ae<&>(qk<&>(.inl (ha.ok e he).free))
   ·rw[aV q]at hv;exact af.gk.prv x w v hv
 | @fire B s t h hs h0 J hr af =>
  refine aN (bb.rdy_of hr) fun aM r2=>?_;have f:jt p n B (B.fire n s t) [(s,t)]:=.snoc .nil hs h0 J hr;have k:=Hj hp af.gk hs h0 aM;refine⟨f.val hp af.val,f.gk af.gk,fun s' eS bE ba=>?_⟩;have ba:(aD (s'.name,bE) (B.gs++[((s.name,t),.bool true)])).isSome=true:=ba;rw[nb aM]at ba;by_cases q:(s'.name,bE)=(s.name,t)
  ·exact aN (Prod.mk.inj q) fun q1 q2=>T3 hp eS hs q1<&>q2<&>(PL (hp.steps s hs) k r2)
  ·rw[aV q]at ba;exact(af.gave s' eS bE ba).keep (hp.steps s' eS) k
structure sy(p:List az)(n:Nat)(acc:List dd)(ao:bb):Prop where
 ok:CA p n ao
 all:∀e∈acc,aD (e.1,(e.2.1:Int)) ao.Z=some (.int e.2.2)
 rest:∀t:Int,0<=t->t<n->∀s∈p,ao.rdy s t=false
theorem j5.le{acc:List dd}(hp:cf p)(r:sy p n acc ao)(h:j5 p n acc B):kC B.Z ao.Z/\∀k,(aD k B.gs).isSome=true->(aD k ao.gs).isSome=true:=by
 induction h with
 | nil=>exact⟨fun k v hv=>(nomatch hv),fun k hk=>(nomatch hk)⟩
 | @put B e h he a7 af =>
  refine⟨fun k v hv=>?_,af.2⟩;have hv:aD k (B.Z++[((e.1,(e.2.1:Int)),.int e.2.2)])=some v:=hv;rw[nb a7]at hv;by_cases q:k=(e.1,(e.2.1:Int))
  ·rw[aC q]at hv;rw[q];exact(r.all e he).trans hv
  ·rw[aV q]at hv;exact af.1 k v hv
 | @fire B s t h hs h0 J hr af =>
  refine aN (bb.rdy_of hr) fun aM r2=>?_;have g:=VD (r.rest t h0 J s hs) (AI af.1 r2);refine⟨PM (hp.steps s hs) af.1 r2 (r.ok.gave s hs t g),fun k hk=>?_⟩;have hk:(aD k (B.gs++[((s.name,t),.bool true)])).isSome=true:=hk;rw[nb aM]at hk;by_cases q:k=(s.name,t)
  ·exact q<&>g
  ·rw[aV q]at hk;exact af.2 k hk
theorem J3{acc:List dd}(hp:cf p)(a:sy p n acc B)(ha:j5 p n acc B)(r:sy p n acc ao)(hr:j5 p n acc ao):(∀k,aD k B.Z=aD k ao.Z)/\(B.gs.map (·.1)).Perm (ao.gs.map (·.1)):=by
 refine aN (ha.le hp r) fun d8 g1=>aN (hr.le hp a) fun f6 g2=>⟨fun k=>?_,?_⟩
 ·cases q:aD k B.Z with
  | some v=>exact(d8 k v q).symm
  | none =>
   cases q2:aD k ao.Z with
   | none=>rfl
   | some v=>exact nomatch q.symm.trans (f6 k v q2)
 ·exact(List.perm_ext_iff_of_nodup a.ok.gk.nodup r.ok.gk.nodup).mpr fun k=>⟨fun h=>pG.mp (g1 k (pG.mpr h)),fun h=>pG.mp (g2 k (pG.mpr h))⟩
end
def sh(x:Str)(Z:cx):H->Option H
 | .int t=>(aD (x,t) Z).map fun v=>.tup [.int t,v]
 | _=>none
theorem Kb{x:Str}{Z:cx}:(cR 0 1 n).filterMap (sh x Z)=qB x n Z:=by
 unfold qB cR;rw[List.filterMap_map];refine congrArg (fun f=>(List.range n).filterMap f) (funext fun(t:Nat)=>?_);show Option.map (fun v=>H.tup [.int (0+(t:Int)*1),v]) (aD (x,0+(t:Int)*1) Z)=_;exact Int.zero_add<&>Int.mul_one<&>rfl
theorem J5{y:H}(h:y∈cR 0 1 n):∃t:Int,y=.int t:=by
 exact ay (c7.mp h) fun t u ae=>ae▸⟨_,rfl⟩
theorem J6(hn:n<=200):(cR 0 1 n).length<=aL:=by
 unfold cR;refine a9<&>List.length_range<&>?_;exact aE hn ⋯
section
variable {Z:cx}{x:Str}{h:Nat}{K D:X}
theorem J9(aW:S[h]?=some (.dp Z))(hK:∀t:Int,ev C K (R.set 1 (ag t)) S=.ok (.tup [.str x,.int t]) S)(hD:∀t:Int,ev C D (R.set 1 (ag t)) S=.ok (.ref h) S):∀y∈cR 0 1 n,tst C (.cmp K .isin D) (R.set 1 (some y)) S=.ok (sh x Z y).isSome S:=fun y aG=>by
 exact aF (J5 aG) fun t ae=>ae▸((c3 (hK t) (hD t) (wa aW)).trans (congrArg (aj.ok · S) (Option.isSome_map).symm))
theorem Ka(aW:S[h]?=some (.dp Z))(Qg:∀t:Int,ev C (.v 1) (R.set 1 (ag t)) S=.ok (.int t) S)(hK:∀t:Int,ev C K (R.set 1 (ag t)) S=.ok (.tup [.str x,.int t]) S)(hD:∀t:Int,ev C D (R.set 1 (ag t)) S=.ok (.ref h) S):∀y∈cR 0 1 n,∀v,sh x Z y=some v->ev C (.tup #v[(.v 1),(.sub D K)]) (R.set 1 (some y)) S=.ok v S:=fun y aG v hv=>by
 refine aF (J5 aG) fun t ae=>?_;subst ae;exact ay (ol.mp hv) fun w hw ae=>ae▸(mB (dm (Qg t) (dm (dO (hD t) (hK t) (Ky aW hw)) iM)) (show(2:Nat)<=aL by decide))
end
section
variable {p:List az}{Z gs:cx}{X:ci}{d:Nat}
def jm(p:List az):List Str:=qg [] (p.flatMap fun s=>s.needs++s.gives)
theorem S8{s:H}:∀(ns:List Str) (y:Option H) (acc:List Str),acc.length+ns.length<=900 ->
  ∃bI,ch none (dj 3) (fun R S=>ex (CC d) topN F1 R S) (ns.map .str) [some pl,aT τ.length,some s,y] (τ++[.lst (acc.map .str)]) =
   .next [some pl,aT τ.length,some s,bI] (τ++[.lst ((ns.foldl (fA []) acc).map .str)]):=by
 intro ns
 induction ns with
 | nil=>intro y acc _;exact⟨y,e3⟩
 | cons n ns af =>
  intro y acc hl;refine aF (af (bA n) (fA [] acc n) (aE (Nat.add_le_add_right (wE) _) (by rw[iJ,Nat.add_comm 1];exact hl))) fun bI e=>?_;refine⟨bI,(ez (cL:=[some pl,aT τ.length,some s,bA n]) rfl ?_).trans e⟩
  have t:tst (CC d) (.cmp (.v 3) .notin (.v 1)) [some pl,aT τ.length,some s,bA n] (τ++[.lst (acc.map .str)])=.ok (!decide (n∈acc)) (τ++[.lst (acc.map .str)]):=
   c3 rfl rfl (tW iK)
  have c8:fA [] acc n=if(!decide (n∈acc))=true then acc++[n]else acc:=by
   unfold fA;refine ed (show n∉([]:List Str)from dM)<&>?_;rfl
  refine c8<&>?_
  cases hq:(!decide (n∈acc))with
  | false =>
   rw[hq]at t;exact(ar (cB t)).trans bC
  | true =>
   rw[hq]at t;rw[aC rfl,fC];exact(ar ((eg t).trans ((ar (f4 (h4 (ak:=τ++[.lst (acc.map .str)]) rfl (nG (.inl rfl)) (aH:=τ++[.lst (acc.map .str)]) rfl (xU (by rw[a9];exact dW (aE (el _ _) hl) ⋯))))).trans bC))).trans bC
theorem S9:∀(p:List az) (x y:Option H) (acc:List Str),acc.length+7*p.length<=900->(∀s∈p,hI s) ->
  ∃aS bI,ch none (dj 2) (fun R S=>ex (CC d) topN F0 R S) (p.map az.pv) [some pl,aT τ.length,x,y] (τ++[.lst (acc.map .str)]) =
   .next [some pl,aT τ.length,aS,bI] (τ++[.lst (((p.flatMap fun s=>s.needs++s.gives).foldl (fA []) acc).map .str)]):=by
 intro p
 induction p with
 | nil=>intro x y acc _ _;exact eQ x y e3
 | cons s p af =>
  intro x y acc hl aQ;have zP:(s.needs++s.gives).length<=7:=cD<&>(Nat.add_le_add (aQ s be).needs4 (aQ s be).gives3);rw[dD,Nat.mul_succ,Nat.add_comm _ 7,<- iJ]at hl;refine aF (S8 (d:=d) (pl:=pl) (s:=s.pv) (τ:=τ) (s.needs++s.gives) y acc (aE ((kK zP _):acc.length+(s.needs++s.gives).length<=acc.length+7) (aE (el _ _) hl))) fun iz V=>eM (af (some s.pv) iz ((s.needs++s.gives).foldl (fA []) acc) (aE (Nat.add_le_add_right (aE (t5 (s.needs++s.gives) acc) ((kK zP _):acc.length+(s.needs++s.gives).length<=acc.length+7)) _) hl) fun t ba=>aQ t (bx _ ba)) fun aS bI ah=>jA<&>List.foldl_append<&>(eQ aS bI ((ez (cL:=[some pl,aT τ.length,some s.pv,y]) rfl ?_).trans ah))
  have ad:ev (CC d) (.bin .add (.sub (.v 2) (ai 2)) (.sub (.v 2) (ai 3))) [some pl,aT τ.length,some s.pv,y] (τ++[.lst (acc.map .str)])=.ok (.tup ((s.needs++s.gives).map .str)) (τ++[.lst (acc.map .str)]):=by
   apply cj rfl rfl;exact fC<&>(aC (by refine a9<&>a9<&>cD<$>?_;exact aE zP ⋯))
  refine(ar (e2 (ak:=τ++[.lst (acc.map .str)]) ?_ V)).trans bC;show(ev (CC d) (.bin .add (.sub (.v 2) (ai 2)) (.sub (.v 2) (ai 3))) [some pl,aT τ.length,some s.pv,y] (τ++[.lst (acc.map .str)])).bind eh=_;rw[ad];rfl
theorem Sn(h:cf p):bU PP topN (d+1) Ie [dx p] S=.ok (.ref S.length) (S++[.lst ((jm p).map .str)]):=by
 rw[cO rfl rfl];refine eM (S9 (d:=d) (pl:=dx p) (τ:=S) p none none [] (aE (kK (nh 7 h.most) 0) ⋯) h.steps) fun aS bI e=>?_;exact(congrArg bm (rfl.trans ((ar (a:=FZ) (e2 rfl e)).trans rfl))).trans rfl
theorem JR{x:Str}(h:x∈jm p):jS p x=true:=by
 unfold jm qg at h;rw[JH]at h;unfold jS;by_cases q:x∈p.flatMap (·.gives)
 ·refine c6 q<&>?_;rfl
 ·refine bZ h (fun h=>?_) (fun hr=>aN hr fun h u=>?_)
  ·exact absurd h dM
  ·refine ay (lB.mp h) fun s hs hx=>?_
   rcases dt.mp hx with hx | hx
   ·rw[c6 (A3.mpr ⟨lB.mpr ⟨s,hs,hx⟩,q⟩),Bool.or_true]
   ·exact absurd (lB.mpr ⟨s,hs,hx⟩) q
theorem U3(h:cf p):(jm p).length<=140:=by
 apply aE (t5 _ []);rw[kO,d1];exact aE (zh p fun s hs=>by rw[cD];exact Nat.add_le_add (h.steps s hs).needs4 (h.steps s hs).gives3) (nh 7 h.most)
end
theorem xg{c:aB->ab->aj Bool}{f:aB->ab->cq}{lq:ab}(h:c R S=.ok true σ')(a7:f R σ'=.next ρ' lq):iv c f (n+1) R S=iv c f n ρ' lq:=by
 show xf R _ (c R S)=_;rw[h];show mO (iv c f n) (f R σ')=_;rw[a7];rfl
theorem B5{c:aB->ab->aj Bool}{f:aB->ab->cq}(h:c R S=.ok false σ'):iv c f (n+1) R S=.next R σ':=by
 show xf R _ (c R S)=_;refine h<&>?_;rfl
theorem yr{k:Nat}{c:X}{body:O}(aW:C.hd=false):ex C k (.whl c body) R S=iv (fun R S=>tst C c R S) (fun R S=>ex C k body R S) k R S:=by
 show(bif C.hd then cq.stuck else iv (fun R S=>tst C c R S) (fun R S=>ex C k body R S) k R S)=_;refine aW<&>?_;rfl
theorem tO(h:S[r]?=some (.lst Y))(hl:Y.length<=1000):dN .len (.ref r) S=.ok (.int (Y.length:Nat)) S:=by
 show kq (fun Y=>if Y.length<=aL then aj.ok (H.int Y.length) S else .stuck) (.ref r) S=_;exact(r1 (show eB S (.ref r)=some Y by unfold eB;dsimp only;rw[h]) ..).trans (aC (by rw[fj];(exact aE (by assumption) ⋯)))
def dZ(n:Nat)(t:Int):List az->bb->bb
 | [],B=>B
 | s::q,B=>dZ n t q (if B.rdy s t=true then B.fire n s t else B)
inductive kI(p:List az)(n:Nat)(t:Int):Nat->bb->bb->Prop
 | stop (B:bb) (h:(dZ n t p B).gs.length=B.gs.length):kI p n t 1 B (dZ n t p B)
 | go (k:Nat) (B bu:bb) (h:B.gs.length<(dZ n t p B).gs.length) (r:kI p n t k (dZ n t p B) bu):kI p n t (k+1) B bu
inductive kJ(p:List az)(n:Nat):Nat->Nat->bb->bb->Prop
 | nil (a:Nat) (B:bb):kJ p n a 0 B B
 | cons (a k j:Nat) (B c5 e5:bb) (r:kI p n (a:Int) j B c5) (aR:j<=1000) (r2:kJ p n (a+1) k c5 e5):kJ p n a (k+1) B e5
structure eF(p:List az)(n:Nat)(B:bb):Prop where
 val:gT B.Z
 gk:o7 p n B
 sz:B.Z.length<=1000+3*B.gs.length
section
variable {p:List az}
theorem eF.fire{B:bb}{s:az}(hp:cf p)(hs:s∈p)(h0:0<=t)(J:t<n)(hr:B.rdy s t=true)(I:eF p n B):eF p n (B.fire n s t):=by
 have f:jt p n B (B.fire n s t) [(s,t)]:=.snoc .nil hs h0 J hr;refine⟨f.val hp I.val,f.gk I.gk,aE (Hl (hp.steps s hs)) ?_⟩;rw[f.count];exact Nat.add_le_add_right I.sz 3
theorem eF.small{B:bb}(hp:cf p)(hn:n<=6)(I:eF p n B):B.gs.length<=120/\B.Z.length<800000:=
 ⟨(aE I.gk.len (Nat.mul_le_mul hp.most hn)),dW (aE I.sz (kK (nh 3 (aE I.gk.len (Nat.mul_le_mul hp.most hn))) 1000)) ⋯⟩
structure Lq(p:List az)(n:Nat)(t:Int)(q:List az)(B:bb):Prop where
 inv:eF p n (dZ n t q B)
 le:B.gs.length<=(dZ n t q B).gs.length
 same:(dZ n t q B).gs.length=B.gs.length->dZ n t q B=B/\∀s∈q,B.rdy s t=false
 rdy:∀(s:az) (aa:Int),aa<t->(dZ n t q B).rdy s aa=B.rdy s aa
theorem r8(hp:cf p)(h0:0<=t)(J:t<n):∀(q:List az) (B:bb),(∀s∈q,s∈p)->eF p n B->Lq p n t q B:=by
 intro q
 induction q with
 | nil=>intro B _ I;exact⟨I,bJ _,fun u=>⟨rfl,fun s hs=>absurd hs dM⟩,fun u u u=>rfl⟩
 | cons s q af =>
  intro B hq I;have hs:=hq s be;have tq:=fun x hx=>hq x (bx _ hx)
  cases hr:B.rdy s t with
  | false =>
   have e:dZ n t (s::q) B=dZ n t q B:=congrArg (dZ n t q) (aV (by rw[hr];decide));have P:=af B tq I;refine⟨e▸P.inv,e▸P.le,fun h=>?_,fun x aa hu=>by rw[e];exact P.rdy x aa hu⟩;rw[e]at h ⊢;exact⟨(P.same h).1,fun x hx=>(bY.mp hx).elim (fun z=>z▸hr) ((P.same h).2 x)⟩
  | true =>
   have e:dZ n t (s::q) B=dZ n t q (B.fire n s t):=congrArg (dZ n t q) (aC hr);have f:jt p n B (B.fire n s t) [(s,t)]:=.snoc .nil hs h0 J hr;have P:=af _ tq (I.fire hp hs h0 J hr)
   have lt:B.gs.length<(dZ n t (s::q) B).gs.length:=by
    rw[e];exact de (f.count▸ic _) P.le
   refine⟨e▸P.inv,b4 lt,fun h=>absurd h (du lt),fun x aa hu=>?_⟩;rw[e,P.rdy x aa hu]
   exact f.rdy fun z a3=>by rw[di.mp a3];exact hu
theorem VC(hp:cf p)(h0:0<=t)(J:t<n):∀(m:Nat) (B:bb),eF p n B->p.length*n<B.gs.length+m->∃k bu,kI p n t k B bu/\k<=m:=by
 intro m
 induction m with
 | zero=>intro B I h;exact absurd I.gk.len (Nat.not_le.mpr h)
 | succ m af =>
  intro B I h;have P:=r8 hp h0 J p B (fun u hs=>hs) I
  rcases Nat.eq_or_lt_of_le P.le with q | q
  ·exact fF 1 _ (.stop B q.symm) (Nat.succ_le_succ (ep m))
  ·exact cG (af _ P.inv (de h (Nat.add_succ<&>Nat.succ_add<$>(Nat.add_le_add_right q m)))) fun k bu r hk=>(fF (k+1) bu (.go k B bu q r) (Nat.succ_le_succ hk))
structure Ls(p:List az)(n:Nat)(t:Int)(B bu:bb):Prop where
 inv:eF p n bu
 done:∀s∈p,bu.rdy s t=false
 rdy:∀(s:az) (aa:Int),aa<t->bu.rdy s aa=B.rdy s aa
theorem kI.ok{k:Nat}{B bu:bb}(hp:cf p)(h0:0<=t)(J:t<n)(r:kI p n t k B bu):eF p n B->Ls p n t B bu:=by
 induction r with
 | stop B h =>
  intro I;have P:=r8 hp h0 J p B (fun u hs=>hs) I;exact⟨P.inv,fun s hs=>(((P.same h).1 ..).symm▸((P.same h).2 s hs)),P.rdy⟩
 | go k B bu h r af =>
  intro I;have P:=r8 hp h0 J p B (fun u hs=>hs) I;have Q:=af P.inv;exact⟨Q.inv,Q.done,fun s aa hu=>(Q.rdy s aa hu).trans (P.rdy s aa hu)⟩
theorem BW(hp:cf p)(hn:n<=6):∀(k a:Nat) (B:bb),a+k=n->eF p n B->(∀aa:Int,0<=aa->aa<a->∀s∈p,B.rdy s aa=false)->∃bu,kJ p n a k B bu/\eF p n bu/\∀aa:Int,0<=aa->aa<n->∀s∈p,bu.rdy s aa=false:=by
 intro k
 induction k with
 | zero=>intro a B ha I h;exact b3 B (.nil a B) I (fun aa h0 J=>h aa h0 (by refine(show a=n from ha ..).symm▸?_;exact J))
 | succ k af =>
  intro a B ha I h;have dL:(a:Int)<n:=eK.mpr (ha▸nf (ft k));refine cG (VC hp (ea a) dL 1000 B I (dW (Nat.mul_le_mul hp.most hn) (de ⋯ (kN 1000 _)))) fun j c5 r aR=>?_;have ao:=r.ok hp (ea a) dL I;refine bw (af (a+1) c5 (by refine ha▸?_;refine i4<&>?_;rfl) ao.inv fun aa h0 J s hs=>?_) fun e5 r2 Ln d=>(b3 e5 (.cons a k j B c5 e5 r aR r2) Ln d);exact bZ (Int.lt_or_eq_of_le (Int.le_of_lt_add_one (show aa<(a:Int)+1 from J))) (fun q=>((ao.rdy s aa q).trans (h aa h0 q s hs))) (fun q=>q▸ao.done s hs)
end
theorem Bm{a:Nat}:(H.int (0+(a:Int)*1))=.int (a:Nat):=by exact Int.mul_one<&>Int.zero_add<&>rfl
def sI(i:Nat)(t:Int)(c:Nat)(z:Option H):aB:=[dh i,ag t,ag c,z]
def pc(i:Nat)(c:Nat)(t m:Option H):aB:=[dh i,ag c,t,m,none,none]
section
variable {p:List az}{X:ci}{d:Nat}
theorem Yh(hp:cf p)(hpl:∀s∈p,iF s)(hn:n<=6)(h0:0<=t)(J:t<n):∀(q:List az) (B:bb) (S:ab) (c:Nat) (z:Option H),(∀s∈q,s∈p)->dR p n B X S->eF p n B ->
  ∃b5 b8 σ',ch none (dj 3) (fun R S=>ex (CC (d+4)) topN EQ R S) (q.map az.pv) (sI X.i t c z) S=.next (sI X.i t b5 b8) σ'/\dR p n (dZ n t q B) X σ'/\d5 X S σ'/\c+(dZ n t q B).gs.length=b5+B.gs.length:=by
 intro q
 induction q with
 | nil=>intro B S c z _ b _;exact lI c z S e3 b .refl rfl
 | cons s q af =>
  intro B S c z hq b I;have hs:=hq s be;have tq:=fun x hx=>hq x (bx _ hx)
  have bR:tst (CC (d+4)) (.meth bl vY "is_ready" (.v 0) #v[(.v 3),(.v 1)]) (sI X.i t c (some s.pv)) S=.ok (B.rdy s t) S:=
   BD (gm rfl b.ns rfl rfl (J1 b (hp.steps s hs) (hpl s hs) I.val))
  cases hr:B.rdy s t with
  | false =>
   have e:dZ n t (s::q) B=dZ n t q B:=congrArg (dZ n t q) (aV (by rw[hr];decide));rw[e];exact kS (af B S c (some s.pv) tq b I) fun b5 b8 σ' V b1 k1 d8=>(lI b5 b8 σ' ((ez rfl ((ar (cB (bR.trans (by rw[hr])))).trans bC)).trans V) b1 k1 d8)
  | true =>
   have e:dZ n t (s::q) B=dZ n t q (B.fire n s t):=congrArg (dZ n t q) (aC hr);rw[e];refine aN (bb.rdy_of hr) fun g1 g2=>aN (I.small hp hn) fun eV gc=>?_;obtain⟨bj,V,b1,k1⟩:=G5 hp b hs (hpl s hs) I.val h0 J g1 g2 gc (dW eV ⋯) ((by rw[I.gk.os,a9];exact dW eV ⋯):B.os.length<800000);refine kS (af (B.fire n s t) bj (c+1) (some s.pv) tq b1 (I.fire hp hs h0 J hr)) fun b5 b8 σ' ah b2 k2 f6=>(lI b5 b8 σ' ?_ b2 (k1.trans k2) ?_)
   ·exact(ez (cL:=sI X.i t c (some s.pv)) rfl ((ar (a:=ER) ((eg (bR.trans (by rw[hr]))).trans ((ar (a:=ES) (f4 (gm (i:=X.i) (ak:=S) (aH:=S) rfl b.ns rfl rfl V))).trans ((ar rfl).trans bC)))).trans bC)).trans ah
   ·have gl:(B.fire n s t).gs.length=B.gs.length+1:=cD;rw[gl,<- iJ,i4]at f6;exact Nat.succ.inj f6
theorem G7{B:bb}(hp:cf p)(hpl:∀s∈p,iF s)(hn:n<=6)(h0:0<=t)(J:t<n)(b:dR p n B X S)(I:eF p n B) :
  ∃m σ',bU PP topN (d+5) v0 [.inst bl X.i,.int t] S=.ok (.int (m:Nat)) σ'/\dR p n (dZ n t p B) X σ'/\d5 X S σ'/\(dZ n t p B).gs.length=m+B.gs.length:=by
 exact kS (Yh hp hpl hn h0 J p B S 0 none (fun u hs=>hs) b I) fun b5 b8 σ' e cz k l=>(kh b5 σ' ((cO rfl rfl ..).trans ((congrArg bm ((ar (ρ':=sI X.i t 0 none) rfl).trans ((ar (e2 (Bb b rfl) e)).trans (bV (dF rfl))))).trans rfl)) cz k ((d1 _).symm.trans l))
theorem Nm{a b c e x:Nat}(h:a+b=c+d)(L:e+d=a+x):e+b=c+x:=by omega
theorem Nn{a b c e:Nat}(h:a+(m+b)=c+m+e):a+b=c+e:=by omega
inductive CE(p:List az)(n:Nat)(X:ci)(bu:bb)(S:ab)(P:Nat->ab->ab->Prop):Prop
 | mk (m:Nat) (bj σ':ab) (e:P m bj σ') (b:dR p n bu X σ') (k:d5 X S σ'):CE p n X bu S P
theorem VQ{k:Nat}{B bu:bb}(hp:cf p)(hpl:∀s∈p,iF s)(hn:n<=6)(h0:0<=t)(J:t<n)(r:kI p n t k B bu):∀S,dR p n B X S->eF p n B ->
  CE p n X bu S fun m bj σ'=>bU PP topN (d+5) v0 [.inst bl X.i,.int t] S=.ok (.int (m:Nat)) bj/\∀eH c:Nat,k<=eH->∃b5:Nat,iv (fun R S=>tst (CC (d+5)) (.cmp (.v 3) .gt (ai 0)) R S) (fun R S=>ex (CC (d+5)) topN G4 R S) eH (pc X.i c (ag t) (ag (m:Nat))) bj=.next (pc X.i b5 (ag t) (ag ((0:Nat):Int))) σ'/\b5+B.gs.length=c+bu.gs.length:=by
 induction r with
 | stop B h =>
  intro S b I;exact ik (G7 hp hpl hn h0 J b I) fun m bj e b1 k1 l=>⟨m,bj,bj,⟨e,fun eH c a7=>⟨c,((Nat.add_eq_right.mp (l.symm.trans h):m=0).symm▸(aF (Nat.exists_eq_add_of_le' a7) fun f a7=>a7<&>⟨B5 rfl,by rw[h]⟩))⟩⟩,b1,k1⟩
 | go k B bu h r af =>
  intro S b I;refine ik (G7 (d:=d) hp hpl hn h0 J b I) fun m bj e b1 k1 l=>?_;obtain⟨bH,cb,σ',⟨ah,hS⟩,b2,k2⟩:=af bj b1 (r8 hp h0 J p B (fun u hs=>hs) I).inv;refine⟨m,bj,σ',⟨e,fun eH c a7=>?_⟩,b2,k1.trans k2⟩
  have aZ:0<m:=jx fun z=>by rw[z,d1]at l;exact absurd l (du h)
  refine aF (Nat.exists_eq_add_of_le' (aE (kN 1 k) a7)) fun f tc=>aF (hS f (c+m) (Nat.le_of_succ_le_succ (aE a7 (i7 tc)))) fun b5 w=>?_;refine aN w fun w fv=>(aI b5 ?_ (by rw[l]at fv;exact Nn fv));rw[tc];exact(xg (rfl.trans (c6 (show(m:Int) > 0 from eK.mpr aZ)<&>rfl)) ((ar (ρ':=pc X.i (c+m) (ag t) (ag (m:Nat))) rfl).trans ((ar (b6 (mA rfl ah))).trans bC))).trans w
theorem VR{a k:Nat}{B bu:bb}(hp:cf p)(hpl:∀s∈p,iF s)(hn:n<=6)(r:kJ p n a k B bu):∀(S:ab) (c:Nat) (aa v:Option H),a+k=n->dR p n B X S->eF p n B ->
  ∃b5 gN c4 σ',ch none (dj 2) (fun R S=>ex (CC (d+5)) topN G2 R S) ((List.range' a k).map fun(i:Nat)=>H.int (0+(i:Int)*1)) (pc X.i c aa v) S=.next (pc X.i b5 gN c4) σ'/\dR p n bu X σ'/\d5 X S σ'/\b5+B.gs.length=c+bu.gs.length:=by
 induction r with
 | nil a B=>intro S c aa v _ b _;exact DV c aa v S e3 b .refl rfl
 | cons a k j B c5 e5 r aR r2 af =>
  intro S c aa v ha b I;have dL:(a:Int)<n:=eK.mpr (ha▸nf (ft k));obtain⟨m,bj,cb,⟨e,w⟩,b2,k2⟩:=VQ (d:=d) hp hpl hn (ea a) dL r S b I;refine ay (w topN c (aE aR ⋯)) fun eL w fv=>?_;refine yk (af cb eL (ag (a:Int)) (ag ((0:Nat):Int)) (by rw[<- ha,i4];rfl) b2 (r.ok hp (ea a) dL I).inv) fun b5 gN c4 σ' aP cz bs cd=>?_;refine DV b5 gN c4 σ' ?_ cz (k2.trans bs) (Nm fv cd);rw[List.range'_succ,dX,Bm];exact(ez (cL:=pc X.i c (ag (a:Int)) v) rfl ((ar (b6 (mA rfl e))).trans ((ar (a:=G3) ((yr rfl).trans w)).trans bC))).trans aP
theorem Bp{B bu:bb}(hp:cf p)(hpl:∀s∈p,iF s)(hn:n<=6)(r:kJ p n 0 n B bu)(b:dR p n B X S)(I:eF p n B):∃(c:Nat) (σ':ab),bU PP topN (d+6) v5 [.inst bl X.i] S=.ok (.int (c:Nat)) σ'/\dR p n bu X σ'/\d5 X S σ'/\c+B.gs.length=bu.gs.length:=by
 refine yk (VR (d:=d) hp hpl hn r S 0 none none (d1 n) b I) fun b5 gN c4 σ' e cz k fv=>(kh b5 σ' ?_ cz k (fv.trans (d1 _)));rw[<- ng]at e;exact(cO rfl rfl ..).trans ((congrArg bm ((ar (ρ':=pc X.i 0 none none) rfl).trans ((ar (a:=G1) (e2 (qr (hP rfl b.ns rfl) (aE hn ⋯)) e)).trans (bV (dF rfl))))).trans rfl)
end
structure ml(tk gl:Nat)(B:bb)(S:ab):Prop where
 tk:S[tk]?=some (.dp B.Z)
 gl:S[gl]?=some (.lst B.os)
def m9(tk gl:Nat)(S σ':ab):Prop:=∀j m,j≠tk->j≠gl->S[j]?=some m->σ'[j]?=some m
theorem m9.trans{a b c:ab}(h:m9 tk gl a b)(k:m9 tk gl b c):m9 tk gl a c:=fun j m J L e=>k j m J L (h j m J L e)
def i3(p:List az)(n tk gl:Nat)(ln mv st:Option H):aB:=[some (dx p),aT tk,ag (n:Nat),aT gl,ln,mv,st,none,none,none,none]
section
variable {p:List az}{d:Nat}
theorem VE{mv:Option H}(hp:cf p)(hn:n<=6)(h0:0<=t)(J:t<n)(ne:tk≠gl):∀(q:List az) (B:bb) (S:ab) (st:Option H),(∀s∈q,s∈p)->ml tk gl B S->eF p n B ->
  ∃dH σ',ch none (dj 6) (fun R S=>ex (CC (d+2)) topN GA R S) (q.map az.pv) (i3 p n tk gl (ag t) mv st) S=.next (i3 p n tk gl (ag t) mv dH) σ'/\ml tk gl (dZ n t q B) σ'/\m9 tk gl S σ':=by
 intro q
 induction q with
 | nil=>intro B S st _ aq _;exact jF st S e3 aq (fun u u u u e=>e)
 | cons s q af =>
  intro B S st hq aq I;have hs:=hq s be
  have bR:tst (CC (d+2)) (.and #v[(.cmp (.tup #v[(.sub (.v 6) (ai 0)),(.v 4)]) .notin (.v 3)),(.cmp (.call Ak #v[(.v 6),(.v 1),(.v 4)]) .is (.k .none))]) (i3 p n tk gl (ag t) mv (some s.pv)) S=.ok (B.rdy s t) S:=
   kt (oY (c3 rfl rfl (PT I.gk.os aq.gl)) fun u=>l8 (c3 (mA rfl (TL (hp.steps s hs) aq.tk I.val)) (aH:=S) rfl (by cases fk B.Z s t <;> rfl)))
  cases hr:B.rdy s t with
  | false =>
   have e:dZ n t (s::q) B=dZ n t q B:=congrArg (dZ n t q) (aV (by rw[hr];decide));rw[e];exact gH (af B S (some s.pv) (fun x hx=>hq x (bx _ hx)) aq I) fun dH σ' V na k1=>(jF dH σ' ((ez rfl ((ar (cB (bR.trans (by rw[hr])))).trans bC)).trans V) na k1)
  | true =>
   have e:dZ n t (s::q) B=dZ n t q (B.fire n s t):=congrArg (dZ n t q) (aC hr);rw[e];refine aN (bb.rdy_of hr) fun g1 g2=>aN (I.small hp hn) fun eV gc=>?_;have bQ:(S.set gl (.lst (B.os++[.tup [.str s.name,.int t]])))[tk]?=some (.dp B.Z):=eD ne.symm aq.tk;refine gH (af (B.fire n s t) _ (some s.pv) (fun x hx=>hq x (bx _ hx)) ⟨rt bQ,eD ne (rt aq.gl)⟩ (I.fire hp hs h0 J hr)) fun dH σ' ah j3 k2=>(jF dH σ' ?_ j3 (m9.trans (fun j m q1 q2 e=>eD (Ne.symm q1) (eD (Ne.symm q2) e)) k2));exact(ez (cL:=i3 p n tk gl (ag t) mv (some s.pv)) rfl ((ar (a:=GB) ((eg (bR.trans (by rw[hr]))).trans ((ar (a:=GC) (f4 (h4 (ak:=S) rfl (AL aq.gl) (aH:=S) rfl (xW aq.gl ((by rw[I.gk.os,a9];exact dW eV ⋯):B.os.length<900000))))).trans ((ar (a:=GD) (f4 (mA rfl (Sh (d:=d) (hp.steps s hs) bQ I.val g2 J gc)))).trans bC)))).trans bC)).trans ah
inductive CD(tk gl:Nat)(bu:bb)(S:ab)(P:Option H->Option H->ab->Prop):Prop
 | mk (mv st:Option H) (σ':ab) (e:P mv st σ') (aq:ml tk gl bu σ') (k:m9 tk gl S σ'):CD tk gl bu S P
theorem VH{k:Nat}{B bu:bb}(hp:cf p)(hn:n<=6)(h0:0<=t)(J:t<n)(ne:tk≠gl)(r:kI p n t k B bu):∀(S:ab) (eH:Nat) (m:Int) (st:Option H),k<eH->m<B.gs.length->ml tk gl B S->eF p n B ->
  CD tk gl bu S fun tT dH σ'=>iv (fun R S=>tst (CC (d+2)) (.cmp (.v 5) .lt (.b1 .len (.v 3))) R S) (fun R S=>ex (CC (d+2)) topN y3 R S) eH (i3 p n tk gl (ag t) (ag m) st) S=.next (i3 p n tk gl (ag t) tT dH) σ':=by
 have AA:∀{B:bb} {S:ab} {mv:Option H} {st:Option H},ml tk gl B S->eF p n B->ev (CC (d+2)) (.b1 .len (.v 3)) (i3 p n tk gl (ag t) mv st) S=.ok (.int (B.gs.length:Nat)) S:=fun{B S mv st} aq I=>by
  exact((by rw[I.gk.os,a9]):B.os.length=B.gs.length)▸da rfl (tO aq.gl (by refine(((by rw[I.gk.os,a9]):B.os.length=B.gs.length) ..).symm▸?_;exact aE (I.small hp hn).1 ⋯))
 have go:∀{B:bb} {S:ab} {m:Int} {st:Option H},m<B.gs.length->ml tk gl B S->eF p n B->∃dH σ',(tst (CC (d+2)) (.cmp (.v 5) .lt (.b1 .len (.v 3))) (i3 p n tk gl (ag t) (ag m) st) S=.ok true S/\ex (CC (d+2)) topN y3 (i3 p n tk gl (ag t) (ag m) st) S=.next (i3 p n tk gl (ag t) (ag (B.gs.length:Nat)) dH) σ')/\ml tk gl (dZ n t p B) σ'/\m9 tk gl S σ':=fun{B S m st} hm aq I=>by
  exact gH (VE (mv:=ag (B.gs.length:Nat)) hp hn h0 J ne p B S st (fun u hs=>hs) aq I) fun dH σ' e n3 bs=>(jF dH σ' ⟨((c3 (ak:=S) rfl (AA aq I) lt_int).trans (by rw[c6 hm])),((ar (b6 (AA aq I))).trans ((ar (a:=Gz) (e2 rfl e)).trans bC))⟩ n3 bs)
 induction r with
 | stop B h =>
  intro S eH m st a7 hm aq I;refine gH (go (st:=st) hm aq I) fun dH σ' e n3 bs=>⟨ag (B.gs.length:Nat),dH,σ',(aF (Nat.exists_eq_add_of_le' a7) fun f a7=>?_),n3,bs⟩;rw[a7];exact(xg e.1 e.2).trans (B5 ((c3 rfl (AA n3 (r8 hp h0 J p B (fun u hs=>hs) I).inv) lt_int).trans (by rw[h,ed (Int.lt_irrefl _)])))
 | go k B bu h r af =>
  intro S eH m st a7 hm aq I;refine gH (go (st:=st) hm aq I) fun dH σ' e n3 bs=>aF (Nat.exists_eq_add_of_le' (aE (kN 1 _) a7)) fun f tc=>?_;obtain⟨mv,By,cb,ah,j3,k2⟩:=af σ' f (B.gs.length:Nat) dH (Nat.lt_of_succ_lt_succ (de a7 (i7 tc))) (eK.mpr h) n3 (r8 hp h0 J p B (fun u hs=>hs) I).inv;exact⟨mv,By,cb,by refine tc<&>?_;exact(xg e.1 e.2).trans ah,j3,bs.trans k2⟩
theorem VG{a k:Nat}{B bu:bb}(hp:cf p)(hn:n<=6)(ne:tk≠gl)(r:kJ p n a k B bu):∀(S:ab) (ln mv st:Option H),a+k=n->ml tk gl B S->eF p n B ->
  ∃BX tT dH σ',ch none (dj 4) (fun R S=>ex (CC (d+2)) topN Gy R S) ((List.range' a k).map fun(i:Nat)=>H.int (0+(i:Int)*1)) (i3 p n tk gl ln mv st) S=.next (i3 p n tk gl BX tT dH) σ'/\ml tk gl bu σ'/\m9 tk gl S σ':=by
 induction r with
 | nil a B=>intro S ln mv st _ aq _;exact oA ln mv st S e3 aq (fun u u u u e=>e)
 | cons a k j B c5 e5 r aR r2 af =>
  intro S ln mv st ha aq I;have dL:(a:Int)<n:=eK.mpr (ha▸nf (ft k));obtain⟨TU,Bx,bj,e,na,k1⟩:=VH hp hn (ea a) dL ne r S topN (-1) st (dW aR ⋯) (Int.lt_of_lt_of_le ⋯ (ea _)) aq I;refine rg (af bj (ag (a:Int)) TU Bx (by rw[<- ha,i4];rfl) na (r.ok hp (ea a) dL I).inv) fun BX tT dH σ' aP n3 bs=>?_;refine oA BX tT dH σ' ?_ n3 (k1.trans bs);rw[List.range'_succ,dX,Bm];exact(ez (cL:=i3 p n tk gl (ag (a:Int)) mv st) rfl ((ar (ρ':=i3 p n tk gl (ag (a:Int)) (ag (-1)) st) rfl).trans ((ar ((yr rfl).trans e)).trans bC))).trans aP
theorem Sp{B bu:bb}(hp:cf p)(hn:n<=6)(r:kJ p n 0 n B bu)(h:S[tk]?=some (.dp B.Z))(ho:B.os=[])(I:eF p n B):∃σ',bU PP topN (d+3) Ii [dx p,.ref tk,.int (n:Nat)] S=.ok (.ref S.length) σ'/\ml tk S.length bu σ'/\∀j m,j≠tk->S[j]?=some m->σ'[j]?=some m:=by
 refine rg (VG (d:=d) hp hn (eZ ((fun e=>(dv e).1) h)) r (S++[.lst []]) none none none (d1 n) ⟨gq h,ho▸iK⟩ I) fun ln mv st σ' e aq k=>(b3 σ' ?_ aq (fun j m aR e=>k j m aR (eZ ((fun e=>(dv e).1) e)) (gq e)));rw[<- ng]at e;exact(cO rfl rfl ..).trans ((congrArg bm ((ar (ρ':=i3 p n tk S.length none none none) rfl).trans ((ar (a:=Gx) (e2 (qr rfl (aE hn ⋯)) e)).trans (bV (a:=GF) (dF rfl))))).trans rfl)
end
def f8(p:List az)(n:Nat)(B:bb):List (Str×Int):=p.flatMap fun s=>(List.range n).flatMap fun(t:Nat)=>if B.rdy s (t:Int)=true then[(s.name,(t:Int))]else[]
section
variable {p:List az}{Z gs:cx}{X:ci}{d:Nat}{B:bb}
theorem Vz:JQ p n (qp B.Z B.gs)=(f8 p n B).map ck:=by
 unfold JQ f8;rw[List.map_flatMap];refine congrArg (fun f=>p.flatMap f) (funext fun s=>?_);rw[List.map_flatMap];refine congrArg (fun f=>(List.range n).flatMap f) (funext fun t=>?_);unfold r9;rw[show qp B.Z B.gs s (t:Int)=B.rdy s (t:Int)from rfl]
 split <;> rfl
set_option tactic.hygienic true in
theorem Vw{q:Str×Int}(h:q∈f8 p n B):∃s∈p,∃t:Nat,t<n/\q=(s.name,(t:Int))/\B.rdy s (t:Int)=true:=by
 refine ay (lB.mp h) fun s hs h=>ay (lB.mp h) fun t ba h=>?_
 split at h
 ·next hr=>exact⟨s,hs,t,List.mem_range.mp ba,di.mp h,hr⟩
 ·exact absurd h dM
theorem Vx(h:f8 p n B=[])(t:Int)(h0:0<=t)(J:t<n)(s:az)(hs:s∈p):B.rdy s t=false:=by
 refine aF (jw h0) fun k ae=>?_;subst ae;have:=List.flatMap_eq_nil_iff.mp (List.flatMap_eq_nil_iff.mp h s hs) k (List.mem_range.mpr (eK.mp J))
 cases q:B.rdy s (k:Int)with
 | false=>rfl
 | true=>rw[q]at this;exact nomatch this
theorem Vy(h:∀t:Int,0<=t->t<n->∀s∈p,B.rdy s t=false):f8 p n B=[]:=
 List.flatMap_eq_nil_iff.mpr fun s hs=>List.flatMap_eq_nil_iff.mpr fun t ba=>by refine h t (ea t) (eK.mpr (List.mem_range.mp ba)) s hs<&>?_;rfl
theorem Vv(hp:cf p)(hn:n<=6):(f8 p n B).length<=900:=by
 have e:∀(q:List az),(q.flatMap fun s=>(List.range n).flatMap fun(t:Nat)=>if B.rdy s (t:Int)=true then[(s.name,(t:Int))]else[]).length<=q.length*n:=by
  have i:∀(s:az) (l:List Nat),(l.flatMap fun(t:Nat)=>if B.rdy s (t:Int)=true then[(s.name,(t:Int))]else[]).length<=l.length:=fun s l=>by
   induction l with
   | nil=>exact bJ _
   | cons t l af =>
    rw[jA,cD,dD,Nat.add_comm];apply Nat.add_le_add af
    split
    ·exact bJ _
    ·exact ep _
  intro q
  induction q with
  | nil=>exact ep _
  | cons s q af =>
   rw[jA,cD,dD,Nat.succ_mul,Nat.add_comm];exact Nat.add_le_add af (aE (i s _) (i7 List.length_range))
 exact aE (e p) (b4 (JU hp hn))
theorem Dh(hp:cf p)(hpl:∀s∈p,iF s)(hn:n<=6)(b:dR p n B X S)(hv:gT B.Z):bU PP topN (d+3) tD [.inst bl X.i] S=.ok (.ref S.length) (S++[.lst ((f8 p n B).map ck)]):=by
 rw[<- Vz,cO rfl rfl]
 obtain⟨cX,cz,b5,e⟩:=VY (C:=CC (d+2)) (E:=fun a b c=>[some (.inst bl X.i),some (.ref S.length),a,b,c]) (ss:=2) (ts:=3) (qq:=.range1 (.attr bl (.v 0) "turns")) rfl (fun u u u u=>rfl) (fun u u u u=>rfl)
  (fun s cz c acc=>qr (hP rfl b.more.ns rfl) (by(exact aE (by assumption) ⋯))) (fun u u=>UX) p (fun s hs t ba acc c hl=>⟨c,(ar (a:=EK) (LX hl (BD (gm (i:=X.i) (ak:=S++[.lst acc]) rfl b.more.ns rfl rfl (J1 b.more (hp.steps s hs) (hpl s hs) hv))) (fun u=>rfl) (fun u=>rfl) (fun u=>rfl))).trans bC⟩) none none none [] (by refine kO<&>d1<&>?_;exact JU hp hn)
 exact(congrArg bm ((ar (ρ':=[some (.inst bl X.i),some (.ref S.length),none,none,none]) rfl).trans ((ar (a:=EJ) (e2 (Bb b.more rfl) e)).trans (bV (a:=EL) (dF rfl))))).trans rfl
theorem AS{l:List (Str×Int)}(h:S[r]?=some (.lst (l.map ck))):d2 .ne (.ref r) (.fl []) S=.ok (!l.isEmpty) S:=by
 show aj.ofOpt ((eqv S (.ref r) (.fl [])).map (!·)) S=_;unfold eqv;refine Xi h<&>?_;cases l <;> rfl
theorem Eh{N:Nat}{is:List Nat}{x:Mine.X}{v:H}(hd:C.hd=false)(h:ev C x R S=.ok v σ')(hb:eG is v R=some ρ'):ex C N (.asgT is x) R S=.next ρ' σ':=by
 show(bif C.hd then cq.stuck else(ev C x R S).toS R fun v S=>match eG is v R with
  | some R=>.next R S
  | none=>.stuck)=_
 refine hd<&>h<&>?_
 show(match eG is v R with
  | some R=>cq.next R σ'
  | none=>.stuck)=_
 exact hb<&>rfl
theorem W1{l:List H}{x:H}(h:S[r]?=some (.lst l))(hl:l.length<=1000)(hx:l.getLast?=some x):ga (.ref r) (.int (-1)) S=.ok x S:=by
 show(match cY S (.ref r)with
  | some Y=>nD Y (-1) S
  | none=>.stuck)=_
 refine(((by unfold cY;dsimp only;rw[h]):cY S (.ref r)=some l) ..).symm▸?_;show(if l.length<=aL then aj.ofOpt ((fW (-1) l.length).bind (l[·]?)) S else .stuck)=_;rw[aC (aE hl ⋯)];rw[List.getLast?_eq_getElem?]at hx
 have d8:1<=l.length:=jx fun q=>by rw[hJ q]at hx;exact nomatch hx
 have vX:(0:Int)<=-1+(l.length:Int):=by
  have:=ig.mpr d8;rw[Int.add_comm];exact Int.sub_nonneg_of_le this
 unfold fW;rw[aV ⋯,aC vX,((ey (congrArg _ (Int.add_comm ..)) ((congrArg Int.toNat (Int.ofNat_sub d8).symm).trans (kL _))):(-1+(l.length:Int)).toNat=l.length-1)];show aj.ofOpt l[l.length-1]? S=_;rw[hx];rfl
theorem UZ{l:List H}{k:Int}(h:S[r]?=some (.lst l))(hl:l.length<=900)(cQ:l≠[])(hd:C.hd=false)(J:∀S,ev C (.v 1) R S=.ok (.int k) S)(L:∀S,ev C (.v 2) R S=.ok (.ref r) S) :
  ∃x∈l,ev C (.sub (.v 2) (.sub (.lst true #v[(.k (.int 0)),(.neg (.k (.int 1))),(.bin .mod (.v 1) (.b1 .len (.v 2)))]) (.bin .mod (.bin .fdiv (.v 1) (.k (.int 7))) (.k (.int 3))))) R S=.ok x S:=by
 have pos:0<l.length:=List.length_pos_iff.mpr cQ;have lb:=fq k (show((l.length:Nat):Int)≠0 by omega);have aZ:=gj k (show(0:Int)<(l.length:Nat) by omega)
 have TO:evs C #v[(.k (.int 0)),(.neg (.k (.int 1))),(.bin .mod (.v 1) (.b1 .len (.v 2)))] R S=.ok [.int 0,.int (-1),.int (k%(l.length:Nat))] S:=
  dm rfl (dm (ak:=S) rfl (dm (cj (J S) (da (L S) (tO h (aE hl ⋯))) (gw (by omega))) iM))
 have IW:ev C (.lst true #v[(.k (.int 0)),(.neg (.k (.int 1))),(.bin .mod (.v 1) (.b1 .len (.v 2)))]) R S=.ok (.fl [.int 0,.int (-1),.int (k%(l.length:Nat))]) S:=by
  rw[Eb,TO];rfl
 have fin:∀{i:Int} {x:H},[H.int 0,.int (-1),.int (k%(l.length:Nat))][(k/7%3).toNat]?=some (.int i)->ga (.ref r) (.int i) S=.ok x S->ev C (.sub (.v 2) (.sub (.lst true #v[(.k (.int 0)),(.neg (.k (.int 1))),(.bin .mod (.v 1) (.b1 .len (.v 2)))]) (.bin .mod (.bin .fdiv (.v 1) (.k (.int 7))) (.k (.int 3))))) R S=.ok x S:=fun V ah =>
  dO (L S) (dO IW ((cj (cj (J S) rfl (vz ⋯ ⋯)) (aH:=S) rfl (gw ⋯)):ev C (.bin .mod (.bin .fdiv (.v 1) (.k (.int 7))) (.k (.int 3))) R S=.ok (.int (k/7%3)) S) (jq (show(3:Nat)<=aL by decide) (fq _ ⋯) V)) ah
 have at_:∀i:Nat,i<l.length->∃x∈l,ga (.ref r) (.int (i:Nat)) S=.ok x S:=fun i hi=>(aI (l[i]) (gW hi) (Kz h (aE hl ⋯) (ea i) (ey (congrArg _ (kL ..)) (cM hi))))
 have jC:=fq (k/7) (show(3:Int)≠0 by decide);have cs:=gj (k/7) (show(0:Int)<3 by decide);generalize k/7%3=j at fin jC cs;obtain⟨R8,rfl⟩:=jw jC
 match R8,eK.mp cs with
 | 0,_=>refine ay (at_ 0 pos) fun x hx e=>?_;exact aI x hx (fin rfl e)
 | 1,_=>exact aI (l.getLast cQ) (List.getLast_mem cQ) (fin rfl (W1 h (aE hl ⋯) (List.getLast?_eq_some_getLast cQ)))
 | 2,_ =>
  obtain⟨m,hm⟩:=jw lb;refine ay (at_ m (by omega)) fun x hx e=>?_;exact aI x hx (fin (congrArg (fun z=>some (H.int z)) hm) e)
inductive n7(p:List az)(n:Nat)(B:bb):Bool->bb->Prop
 | none (h:f8 p n B=[]):n7 p n B false B
 | fire (s:az) (t:Int) (hs:s∈p) (h0:0<=t) (J:t<n) (hr:B.rdy s t=true):n7 p n B true (B.fire n s t)
theorem n7.done{bu:bb}(o:n7 p n B false bu):f8 p n bu=[]:=by
 cases o with
 | none h=>exact h
theorem n7.more{bu:bb}(o:n7 p n B true bu):bu.gs.length=B.gs.length+1:=by
 cases o with
 | fire s t=>exact cD
theorem G6{k:Int}(hp:cf p)(hpl:∀s∈p,iF s)(hn:n<=6)(b:dR p n B X S)(I:eF p n B):∃q bu σ',bU PP topN (d+5) tG [.inst bl X.i,.int k] S=.ok (.bool q) σ'/\n7 p n B q bu/\dR p n bu X σ'/\d5 X S σ':=by
 have c8:ev (CC (d+4)) (.meth bl tD "ready" (.v 0) .nil) [some (.inst bl X.i),some (.int k),none,none,none,none] S=.ok (.ref S.length) (S++[.lst ((f8 p n B).map ck)]):=gm rfl b.ns rfl rfl (Dh hp hpl hn b I.val);have b1:dR p n B X (S++[.lst ((f8 p n B).map ck)]):=b.more;have k1:d5 X S (S++[.lst ((f8 p n B).map ck)]):=.app;have aM:(S++[aX.lst ((f8 p n B).map ck)])[S.length]?=some (.lst ((f8 p n B).map ck)):=iK
 have nM:S.length≠X.h/\S.length≠X.gn/\S.length≠X.od:=by
  exact⟨du ((dv b.hr).1),du ((dv b.go).1),du ((dv b.od).1)⟩
 generalize hr:S.length=r at c8 aM nM;generalize S++[aX.lst ((f8 p n B).map ck)]=bj at c8 b1 k1 aM;rw[cO rfl rfl];have bR:∀{a c:Option H} {τ:ab},τ[r]?=some (.lst ((f8 p n B).map ck))->ev (CC (d+4)) (.cmp (.v 2) .ne (.lst true .nil)) [some (.inst bl X.i),some (.int k),some (.ref r),a,c,none] τ=.ok (.bool (!(f8 p n B).isEmpty)) τ/\tst (CC (d+4)) (.cmp (.v 2) .ne (.lst true .nil)) [some (.inst bl X.i),some (.int k),some (.ref r),a,c,none] τ=.ok (!(f8 p n B).isEmpty) τ:=fun{a c τ} h=>⟨jE rfl rfl (AS h),c3 (x:=.ref r) (y:=.fl []) (ak:=τ) (aH:=τ) rfl rfl (AS h)⟩;by_cases cQ:f8 p n B=[]
 ·refine lI false B bj ?_ (.none cQ) b1 k1;have cT:=bR (a:=none) (c:=none) aM;rw[cQ]at cT;exact(congrArg bm ((ar (b6 c8)).trans ((ar (a:=yO) (cB cT.2)).trans (bV (a:=yP) (dF cT.1))))).trans rfl
 ·have KH:(!(f8 p n B).isEmpty)=true:=by
   cases hq:f8 p n B with
   | nil=>exact absurd hq cQ
   | cons _ _=>rfl
  refine ay (UZ (C:=CC (d+4)) (R:=[some (.inst bl X.i),some (.int k),some (.ref r),none,none,none]) aM (by rw[a9];exact(Vv (B:=B) hp hn)) (fun q=>cQ (List.map_eq_nil_iff.mp q)) rfl (fun u=>rfl) (fun u=>rfl)) fun x hx Oq=>?_;refine ay (c7.mp hx) fun q hq ae=>?_;subst ae;obtain⟨s,hs,t,ba,rfl,hrd⟩:=Vw hq;refine aN (bb.rdy_of hrd) fun g1 g2=>aN (I.small hp hn) fun eV gc=>?_;obtain⟨cb,ah,b2,k2⟩:=G5 hp b1 hs (hpl s hs) I.val (ea t) (eK.mpr ba) g1 g2 gc (dW eV ⋯) ((by rw[I.gk.os,a9];exact dW eV ⋯):B.os.length<800000);have cT:=bR (a:=none) (c:=none) aM;have bQ:=bR (a:=some (.str s.name)) (c:=some (.int (t:Nat))) (k2.at_ r _ nM.1 nM.2.1 nM.2.2 aM);rw[KH]at cT bQ;exact lI true _ cb ((congrArg bm ((ar (b6 c8)).trans ((ar (a:=yO) ((eg cT.2).trans ((ar (Eh rfl Oq (ρ':=[some (.inst bl X.i),some (.int k),some (.ref r),some (.str s.name),some (.int (t:Nat)),none]) rfl)).trans ((ar (a:=Fi) (f4 (gm (i:=X.i) rfl b1.ns rfl rfl ah))).trans bC)))).trans (bV (a:=yP) (dF bQ.1))))).trans rfl) (.fire s t hs (ea t) (eK.mpr ba) hrd) b2 (k1.trans k2)
end
def f7(q:Int×Int):H:=.tup [.int q.1,.int q.2]
def U9(q:Int×Int):PyData:=.tuple [.int q.1,.int q.2]
theorem Xm{x:Str}{Z:cx}(h:gT Z):∃l:List (Int×Int),qB x n Z=l.map f7:=by
 unfold qB;generalize List.range n=ts
 induction ts with
 | nil=>exact⟨[],rfl⟩
 | cons t ts af =>
  obtain⟨l,hl⟩:=af;refine List.filterMap_cons<&>?_
  cases hv:aD (x,(t:Int)) Z with
  | none=>exact⟨l,hl⟩
  | some v =>
   exact ay (h _ _ hv) fun i ae u=>ae▸⟨((t:Int),i)::l,congrArg (H.tup [.int t,.int i]::·) hl⟩
section
variable {d:Nat}
theorem D0{ds:List PyData}(h:Y.mapM (dA 15 S)=some ds)(he:PyData.eqvAll ds ds=true):eqv S (.fl Y) (.fl Y)=some true:=by
 have e:dA 16 S (.fl Y)=some (.list ds):=by
  show(Y.mapM (dA 15 S)).map PyData.list=_;rw[h];rfl
 unfold eqv;exact e<&>(congrArg some he)
theorem N7(l:List (Int×Int)):eqv S (.fl (l.map f7)) (.fl (l.map f7))=some true:=by
 refine D0 (ds:=l.map U9) ?_ ?_
 ·induction l with
  | nil=>rfl
  | cons q l af=>rw[dX,List.mapM_cons,af];rfl
 ·induction l with
  | nil=>rfl
  | cons q l af =>
   rw[dX];show((q.1 == q.1&&(q.2 == q.2&&true))&&PyData.eqvAll _ _)=true;rw[af,beq_self_eq_true,beq_self_eq_true];rfl
theorem Vb{a b:Option H}{q:Int×Int}:ex (CC d) topN yU [a,b,some (f7 q),none,none,none] S=.next [a,b,some (f7 q),none,none,none] S:=by
 have jC:ev (CC d) FW [a,b,some (f7 q),none,none,none] S=.ok (.fl []) S:=by
  refine(va (fun u=>none) (Y:=[.int q.1,.int q.2]) rfl (show(2:Nat)<=aL by decide) (fun x hx=>?_) (fun x hx v hv=>by contradiction)).trans rfl
  rcases bY.mp hx with rfl | hx
  ·rfl
  ·refine di.mp hx<&>?_;rfl
 exact(ar (cB (lj (jW rfl (ll (c3 jC rfl rfl)))))).trans bC
theorem Vc{a b:Option H}:∀(l:List (Int×Int)) (y:Option H),∃bI,ch none (dj 2) (fun R S=>ex (CC d) topN yU R S) (l.map f7) [a,b,y,none,none,none] S=.next [a,b,bI,none,none,none] S:=by
 intro l
 induction l with
 | nil=>intro y;exact⟨y,e3⟩
 | cons q l af =>
  intro y;exact aF (af (some (f7 q))) fun bI e=>⟨bI,(ez rfl Vb).trans e⟩
theorem Sm{l:List (Int×Int)}:bU PP topN (d+1) Ic [.fl (l.map f7),.fl (l.map f7)] S=.ok (.bool true) S:=by
 rw[cO rfl rfl];refine aF (Vc (d:=d) (S:=S) (a:=some (.fl (l.map f7))) (b:=some (.fl (l.map f7))) l none) fun bI e=>?_
 have ne:d2 .ne (.fl (l.map f7)) (.fl (l.map f7)) S=.ok false S:=by
  show aj.ofOpt ((eqv S (.fl (l.map f7)) (.fl (l.map f7))).map (!·)) S=_;refine N7<&>?_;rfl
 have hz:ex (CC d) topN FX [some (.fl (l.map f7)),some (.fl (l.map f7)),none,none,none,none] S=.next [some (.fl (l.map f7)),some (.fl (l.map f7)),none,none,none,none] S:=
  cB (lj (jW rfl (ll (c3 (ak:=S) rfl rfl ne))))
 exact(congrArg bm ((ar hz).trans ((ar (a:=FY) (e2 (ak:=S) rfl e)).trans rfl))).trans rfl
end
section
variable {p:List az}{X:ci}{d:Nat}{B:bb}{Z:cx}{bt:Int}
theorem Xl{x:Str}(hn:n<=200)(b:dR p n B X S)(J:jS p x=true):bU PP topN (d+2) H4 [.inst bl X.i,.str x] S=.ok (.fl (qB x n B.Z)) S:=by
 rw[cO rfl rfl];refine Kb▸?_;have HU:∀t:Int,ev (CC (d+1)) (.attr bl (.v 3) "here") ((dz [none,none,some 1,some 0] [some (.inst bl X.i),some (.str x),none]).set 1 (some (.int t))) S=.ok (.ref X.h) S:=fun t=>hP rfl b.ns rfl
 have jC:ev (CC (d+1)) EM [some (.inst bl X.i),some (.str x),none] S=.ok (.fl ((cR 0 1 n).filterMap (sh x B.Z))) S:=
  va (sh x B.Z) (qr (hP (i:=X.i) (ak:=S) rfl b.ns rfl) hn) (J6 hn) (J9 b.hr (fun t=>rfl) HU) (Ka b.hr (fun t=>rfl) (fun t=>rfl) HU)
 exact(congrArg bm ((ar (f4 (gm (i:=X.i) (ak:=S) rfl b.ns rfl rfl (Jq b J)))).trans (bV (dF jC)))).trans rfl
theorem zg(b:dR p n B X S)(hl:B.os.length<=900000):bU PP topN (d+1) oM [.inst bl X.i] S=.ok (.fl B.os) S:=by
 rw[cO rfl rfl]
 have e:ev (CC d) (.b1 (.list true) (.attr bl (.v 0) "order")) [some (.inst bl X.i),none] S=.ok (.fl B.os) S:=by
  refine da (hP (v:=.ref X.od) rfl b.ns rfl) ?_;show kq (fun Y=>eO true Y S) (.ref X.od) S=_;exact(r1 (show eB S (.ref X.od)=some B.os by unfold eB;dsimp only;rw[b.od]) ..).trans (oQ (by rw[fj];(exact aE (by assumption) ⋯)))
 exact(congrArg bm (bV (dF e))).trans rfl
def jv(X:ci)(p:List az)(tk n:Nat)(b:Int)(pl x y:Option H):aB:=[some (.inst bl X.i),some (dx p),some (.ref tk),some (.int (n:Nat)),some (.int b),pl,x,y,none,none,none]
structure n6(p:List az)(n tk:Nat)(X:ci)(B:bb)(Z:cx)(S:ab):Prop where
 bo:dR p n B X S
 tk:S[tk]?=some (.dp Z)
 ok:gT B.Z
 eq:∀k,aD k Z=aD k B.Z
theorem S1{pl:Option H}{w:Option (Nat×aX)}(hn:n<=6)(aq:n6 p n tk X B Z S)(hw:hT w S):∀(Y:List Str) (x y:Option H),(∀x∈Y,jS p x=true) ->
  ∃aS bI,ch w (dj 6) (fun R S=>ex (CC (d+2)) topN FE R S) (Y.map .str) (jv X p tk n bt pl x y) S=.next (jv X p tk n bt pl aS bI) S:=by
 intro Y
 induction Y with
 | nil=>intro x y _;exact eQ x y (rs hw)
 | cons a Y af =>
  intro x y hx;have zT:n<=200:=aE hn ⋯;obtain⟨l,hl⟩:=Xm aq.ok
  have jC:ev (CC (d+2)) Fy (jv X p tk n bt pl (some (.str a)) y) S=.ok (.fl (l.map f7)) S:=by
   have e:qB a n Z=l.map f7:=by
    refine hl▸?_;unfold qB;exact congrArg (fun f=>(List.range n).filterMap f) (funext fun(t:Nat)=>congrArg _ (aq.eq ..))
   exact e▸Kb▸(va (sh a Z) (qr rfl zT) (J6 zT) (J9 aq.tk (fun t=>rfl) fun t=>rfl) (Ka aq.tk (fun t=>rfl) (fun t=>rfl) fun t=>rfl))
  have KI:=Xl (d:=d) zT aq.bo (hx a be);rw[hl]at KI;exact eM (af (some (.str a)) (some (.fl (l.map f7))) (fun z a3=>hx z (bx _ a3))) fun aS bI ah=>(eQ aS bI ((rr hw rfl ((ar (b6 jC)).trans ((ar (a:=FF) (cB (jV (q:=true) (li (jb (gm rfl aq.bo.ns rfl rfl KI) (aH:=S) rfl (Sm)))))).trans bC))).trans ah))
theorem n6.more(aq:n6 p n tk X B Z S):n6 p n tk X B Z (S++τ):=⟨aq.bo.more,gq aq.tk,aq.ok,aq.eq⟩
theorem Sk(hp:cf p)(hn:n<=6)(aq:n6 p n tk X B Z S):bU PP topN (d+3) Ib [.inst bl X.i,dx p,.ref tk,.int (n:Nat),.int bt] S=.ok (.bool true) (S++[.lst ((jm p).map .str)]):=by
 rw[cO rfl rfl]
 have hz:ex (CC (d+2)) topN Fz (jv X p tk n bt none none none) S=.next (jv X p tk n bt (some (.ref S.length)) none none) (S++[.lst ((jm p).map .str)]):=b6 (ef rfl (Sn hp))
 have CF:n6 p n tk X B Z (S++[.lst ((jm p).map .str)]):=aq.more;have k6:(S++[aX.lst ((jm p).map .str)])[S.length]?=some (.lst ((jm p).map .str)):=iK;generalize S++[aX.lst ((jm p).map .str)]=bj at hz CF k6;have cT:tst (CC (d+2)) (.cmp (.bin .mod (.v 4) (.k (.int 2))) .eq (.k (.int 1))) (jv X p tk n bt (some (.ref S.length)) none none) bj=.ok (bt%2 == 1) bj:=rfl
 have fin:∀{pl:H} {Y:List Str} {w:Option (Nat×aX)},ex (CC (d+2)) topN FA (jv X p tk n bt (some (.ref S.length)) none none) bj=.next (jv X p tk n bt (some pl) none none) bj->eh pl bj=.ok (Y.map .str,w) bj->(∀x∈Y,jS p x=true)->hT w bj->bm (ex (CC (d+2)) topN Fx.body (jv X p tk n bt none none none) S)=.ok (.bool true) bj:=fun{pl Y w} ce bS hx hw=>by
  refine eM (S1 (d:=d) (bt:=bt) (pl:=some pl) hn CF hw Y none none hx) fun aS bI e=>?_
  have fJ:ex (CC (d+2)) topN FD (jv X p tk n bt (some pl) none none) bj=.next (jv X p tk n bt (some pl) aS bI) bj:=by
   show(evIt (CC (d+2)) (.v 5) (jv X p tk n bt (some pl) none none) bj).toS _ _=_;refine(show evIt (CC (d+2)) (.v 5) (jv X p tk n bt (some pl) none none) bj=.ok (Y.map .str,w) bj from bS ..).symm▸?_;exact e
  exact(congrArg bm ((ar hz).trans ((ar ce).trans ((ar fJ).trans rfl)))).trans rfl
 cases hq:(bt%2 == 1)with
 | false =>
  rw[hq]at cT;exact fin (w:=some (S.length,.lst ((jm p).map .str))) (cB cT) (by unfold eh items o2;dsimp only;exact k6<&>rfl) (fun x hx=>JR hx) k6
 | true =>
  rw[hq]at cT
  have f9:ev (CC (d+2)) (.rev (.v 5)) (jv X p tk n bt (some (.ref S.length)) none none) bj=.ok (.fl ((jm p).reverse.map .str)) bj:=by
   rw[Ef];show uc (.ref S.length) bj=_;unfold uc cY;dsimp only;rw[k6];dsimp only;rw[aC (by rw[a9];exact aE (U3 hp) ⋯),List.map_reverse]
  exact fin ((eg cT).trans ((ar (a:=FC) (b6 f9)).trans bC)) rfl (fun x hx=>JR (List.mem_reverse.mp hx)) trivial
end
section
variable {d:Nat}
theorem D1(l:List (Str×Int)):eqv S (.fl (l.map ck)) (.fl (l.map ck))=some true:=D0 (BF l) (N6 l)
theorem I2(ks:List (Str×Int)):(ks.map ck).mapM fy=some ks:=by
 induction ks with
 | nil=>rfl
 | cons k ks af=>rw[dX,List.mapM_cons,af];rfl
theorem Kr{a:H}{ks:List (Str×Int)}(h:cY S a=some (ks.map ck))(hn:ks.length<128)(hd:ks.Nodup):dN .sorted a S=.ok (.fl ((nO ks).map ck)) S:=by
 have e:nP (ks.map ck)=some ((nO ks).map ck):=by
  cases ks with
  | nil =>
   rw[Ko (List.Perm.refl _) List.Pairwise.nil];show some ((([]:List Int).mergeSort fun a b=>decide (a<=b)).map H.int)=_;refine List.mergeSort_nil<&>?_;rfl
  | cons k ks =>
   unfold nP;rw[show gF ((k::ks).map ck)=none from rfl];show(((k::ks).map ck).mapM fy).bind _=_;rw[I2];exact aC ⟨hn,hd⟩
 show fm nP (fun l=>.ok (.fl l) S) a S=_;unfold fm;exact h<&>Option.bind_some<&>e<&>rfl
theorem SG{ks:List (Str×Int)}(hn:ks.length<128)(hd:ks.Nodup):dN .lenset (.fl (ks.map ck)) S=.ok (.int (ks.length:Nat)) S:=by
 show p7 S (some (ks.map ck))=_
 have e:p6 (ks.map ck)=some ks.length:=by
  cases ks with
  | nil=>rfl
  | cons k ks =>
   unfold p6;rw[show ni ((k::ks).map ck)=none from rfl];show(((k::ks).map ck).mapM fy).bind _=_;exact I2<&>(aC ⟨hn,hd⟩)
 unfold p7;exact Option.bind_some<&>e<&>rfl
end
section
variable {p:List az}{B bu:bb}
theorem UW(h:∀s∈p,B.rdy s t=false):∀q:List az,(∀s∈q,s∈p)->dZ n t q B=B:=by
 intro q
 induction q with
 | nil=>intro _;rfl
 | cons s q af =>
  intro hq;refine(congrArg (dZ n t q) (aV ?_)).trans (af fun x hx=>hq x (bx _ hx));refine h s (hq s be)<&>?_;decide
theorem kI.id{k:Nat}(r:kI p n t k B bu)(h:∀s∈p,B.rdy s t=false):bu=B:=by
 have e:=UW (n:=n) h p fun u hs=>hs
 cases r with
 | stop=>exact e
 | go k B bu hl r=>rw[e]at hl;exact absurd hl (i6 _)
theorem kJ.id{a k:Nat}(r:kJ p n a k B bu)(ha:a+k=n)(h:∀aa:Int,0<=aa->aa<n->∀s∈p,B.rdy s aa=false):bu=B:=by
 induction r with
 | nil=>rfl
 | cons a k j B c5 e5 r aR r2 af =>
  obtain rfl:=r.id (h a (ea a) (eK.mpr (ha▸nf (ft k))));exact af (by refine ha<$>i4<&>?_;rfl) h
theorem kJ.keep{a k:Nat}{G:bb->Prop}(mG:∀(B:bb) (s:az) (t:Int),G B->s∈p->0<=t->t<n->B.rdy s t=true->G (B.fire n s t))(r:kJ p n a k B bu)(ha:a+k=n)(h:G B):G bu:=by
 have JO:∀(t:Int),0<=t->t<n->∀(q:List az) (B:bb),(∀s∈q,s∈p)->G B->G (dZ n t q B):=fun t h0 J q=>by
  induction q with
  | nil=>intro B _ h;exact h
  | cons s q af =>
   intro B hq h;apply af _ (fun x hx=>hq x (bx _ hx));by_cases hr:B.rdy s t=true
   ·rw[aC hr];exact mG B s t h (hq s be) h0 J hr
   ·rw[aV hr];exact h
 have rest:∀(t:Int),0<=t->t<n->∀{k:Nat} {B bu:bb},kI p n t k B bu->G B->G bu:=fun t h0 J {k B bu} r=>by
  induction r with
  | stop B _=>exact JO t h0 J p B fun u hs=>hs
  | go k B bu _ r af=>exact fun h=>af (JO t h0 J p B (fun u hs=>hs) h)
 induction r with
 | nil=>exact h
 | cons a k j B c5 e5 r aR r2 af=>exact af (by refine ha<$>i4<&>?_;rfl) (rest a (ea a) (eK.mpr (ha▸nf (ft k))) r h)
end
section
variable {p:List az}{X:ci}{d:Nat}{B:bb}{Z:cx}{bt:Int}{ks:List (Str×Int)}
def xH(X:ci)(p:List az)(tk gl n:Nat)(b:Int)(f:Option H):aB:=[some (.inst bl X.i),some (dx p),some (.ref tk),some (.ref gl),some (.int (n:Nat)),some (.int b),f,none,none,none,none,none]
theorem Mj(hp:cf p)(hpl:∀s∈p,iF s)(hn:n<=6)(aq:n6 p n tk X B Z S)(I:eF p n B)(hr:∀aa:Int,0<=aa->aa<n->∀s∈p,B.rdy s aa=false)(hg:S[gl]?=some (.lst (ks.map ck)))(hk:(B.gs.map (·.1)).Perm ks) :
  ∃σ',bU PP topN (d+7) H8 [.inst bl X.i,dx p,.ref tk,.ref gl,.int (n:Nat),.int bt] S=.ok (.bool true) σ'/\dR p n B X σ'/\d5 X S σ':=by
 rw[cO rfl rfl]
 have os:B.os=(B.gs.map (·.1)).map ck:=by rw[I.gk.os,fE];rfl
 have pZ:(B.gs.map (·.1)).length<128:=by rw[a9];exact dW (I.small hp hn).1 ⋯
 have nd:=I.gk.nodup;generalize B.gs.map (·.1)=k0 at os pZ nd hk;have V:ev (CC (d+6)) (.meth bl tD "ready" (.v 0) .nil) (xH X p tk gl n bt (some (.fl (k0.map ck)))) S=.ok (.ref S.length) (S++[.lst ((f8 p n B).map ck)]):=gm rfl aq.bo.ns rfl rfl (Dh hp hpl hn aq.bo aq.ok);rw[Vy hr]at V;have na:n6 p n tk X B Z (S++[.lst (([]:List (Str×Int)).map ck)]):=aq.more;have aM:(S++[aX.lst (([]:List (Str×Int)).map ck)])[S.length]?=some (.lst (([]:List (Str×Int)).map ck)):=iK;have g1:(S++[aX.lst (([]:List (Str×Int)).map ck)])[gl]?=some (.lst (ks.map ck)):=gq hg;have k1:d5 X S (S++[aX.lst (([]:List (Str×Int)).map ck)]):=.app;generalize S++[aX.lst (([]:List (Str×Int)).map ck)]=bj at V na aM g1 k1
 have ce:ex (CC (d+6)) topN E3 (xH X p tk gl n bt (some (.fl (k0.map ck)))) S=.next (xH X p tk gl n bt (some (.fl (k0.map ck)))) bj:=by
  refine cB (lj (jW (c3 V rfl (AS aM)) (jW (c3 (da (ak:=bj) rfl (SG pZ nd)) (da (x:=.fl (k0.map ck)) (ak:=bj) rfl (rP (a9<&>(aE (b4 pZ) ⋯)))) ?_) (ll (c3 (da (x:=.fl (k0.map ck)) (ak:=bj) rfl (Kr rfl pZ nd)) (da (ak:=bj) rfl (Kr (by unfold cY;dsimp only;exact g1<&>rfl) (hk.length_eq▸pZ) (hk.nodup_iff.mp nd))) ?_)))))
  ·rw[a9];show aj.ok (decide ((k0.length:Int)<(k0.length:Nat))) bj=_;exact ed (Int.lt_irrefl _)<&>rfl
  ·rw[Wu hk];show aj.ofOpt ((eqv bj (.fl ((nO ks).map ck)) (.fl ((nO ks).map ck))).map (!·)) bj=_;refine D1<&>?_;rfl
 have lk:=Sk (d:=d+3) (bt:=bt) hp hn na;have b2:dR p n B X (bj++[.lst ((jm p).map .str)]):=na.bo.more;have k2:d5 X bj (bj++[.lst ((jm p).map .str)]):=.app;generalize bj++[aX.lst ((jm p).map .str)]=cb at lk b2 k2;refine bw (BW hp hn n 0 B (d1 n) I fun aa h0 J=>absurd J (Int.not_lt.mpr h0)) fun e5 tr u u=>?_;cases(tr.id (d1 n) hr);refine ik (Bp (d:=d) hp hpl hn tr b2 I) fun c fB ke oq k3 fv=>?_;obtain rfl:c=0:=Nat.add_eq_right.mp fv;refine b3 fB ((congrArg bm ((ar (b6 (((fun{S R} b h0=>os▸gm (i:=X.i) (ak:=S) (aH:=S) (vs:=[]) h0 b.ns rfl rfl (zg b ((by rw[os,a9];exact aE (b4 pZ) ⋯):B.os.length<=900000))):∀{S:ab} {R:aB},dR p n B X S->ev (CC (d+6)) (.v 0) R S=.ok (.inst bl X.i) S->ev (CC (d+6)) (.meth bl oM "fired" (.v 0) .nil) R S=.ok (.fl (k0.map ck)) S) aq.bo rfl))).trans ((ar ce).trans (bV (a:=E4) (dF (ps (mz (mA rfl lk) (mz (jE (mA rfl ke) rfl rfl) (pt (jE (q:=true) (((fun{S R} b h0=>os▸gm (i:=X.i) (ak:=S) (aH:=S) (vs:=[]) h0 b.ns rfl rfl (zg (d:=d+5) b ((by rw[os,a9];exact aE (b4 pZ) ⋯):B.os.length<=900000))):∀{S:ab} {R:aB},dR p n B X S->ev (CC (d+6)) (.v 0) R S=.ok (.inst bl X.i) S->ev (CC (d+6)) (.meth bl oM "fired" (.v 0) .nil) R S=.ok (.fl (k0.map ck)) S) oq rfl) (aH:=fB) rfl ?_)))))))))).trans rfl) oq ((k1.trans k2).trans k3);show aj.ofOpt (eqv fB (.fl (k0.map ck)) (.fl (k0.map ck))) fB=_;rw[D1];rfl
end
theorem N9{U:Type}{l:List U}(h:i<l.length):(l[i]::l.eraseIdx i).Perm l:=by
 rw[List.eraseIdx_eq_take_drop_succ];exact List.perm_middle.symm.trans (by rw[((by rw[<- List.drop_eq_getElem_cons h,hL]):l.take i++l[i]::l.drop (i+1)=l)])
theorem N8{U β:Type}{f:U->β}{l:List U}:(l.map f).eraseIdx i=(l.eraseIdx i).map f:=by
 rw[List.eraseIdx_eq_take_drop_succ,List.eraseIdx_eq_take_drop_succ,fC,List.map_take,List.map_drop]
section
variable {p:List az}{B bu:bb}{Z:cx}{s:az}{a0 aq:List dd}
theorem Pw{x:Str}{w:Int}(hp:cf p)(hs:s∈p)(h0:0<=t)(hb:my p x w=false):aD (x,w) (g5 n Z s t)=aD (x,w) Z:=by
 rcases zm with e | ⟨V,ah⟩
 ·exact e
 have b:(match nv p x with
  | some s=>!iR s.rule||decide (w > 0)
  | none=>false)=false:=hb
 rw[rv ah hp.gives hs]at b;refine aN (Bool.or_eq_false_iff.mp b) fun b1 b2=>absurd ?_ (lz b2);rw[show w=et s t from V];show 0<t+(if iR s.rule=true then 1 else 0);rw[aC (Eq.mp (Bool.not_eq_false' _) b1)];exact Int.lt_add_one_of_le h0
structure fo(p:List az)(n:Nat)(a0:List dd)(B:bb)(aq:List dd):Prop where
 rch:j5 p n a0 B
 nd:(aq.map fun e=>(e.1,e.2.1)).Nodup
 sub:∀e∈aq,e∈a0
 abs:∀e∈aq,aD (e.1,(e.2.1:Int)) B.Z=none
 all:∀e∈a0,e∈aq\/aD (e.1,(e.2.1:Int)) B.Z=some (.int e.2.2)
 sz:B.Z.length+aq.length<=1000+3*B.gs.length
theorem fo.inv(hp:cf p)(ho:e8 p n a0)(P:fo p n a0 B aq):eF p n B:=
 ⟨(P.rch.ok hp ho).val,(P.rch.ok hp ho).gk,aE (el _ _) P.sz⟩
theorem fo.fire(hp:cf p)(ho:e8 p n a0)(P:fo p n a0 B aq)(hs:s∈p)(h0:0<=t)(J:t<n)(hr:B.rdy s t=true):fo p n a0 (B.fire n s t) aq:=by
 refine⟨.fire P.rch hs h0 J hr,P.nd,P.sub,fun e he=>?_,fun e he=>?_,?_⟩
 ·exact(Pw hp hs h0 (ho.ok e (P.sub e he)).free).trans (P.abs e he)
 ·exact(P.all e he).imp id fun q=>Hj hp (P.rch.ok hp ho).gk hs h0 (bb.rdy_of hr).1 _ _ q
 ·have g:(B.fire n s t).gs.length=B.gs.length+1:=cD;refine g<&>?_;have:=Hl (n:=n) (Z:=B.Z) (t:=t) (hp.steps s hs);have L:(B.fire n s t).Z.length<=B.Z.length+3:=this;have:=P.sz;omega
theorem fo.one(hp:cf p)(ho:e8 p n a0)(P:fo p n a0 B aq)(h:n7 p n B q bu):fo p n a0 bu aq:=by
 cases h with
 | none=>exact P
 | fire s t hs h0 J hr=>exact P.fire hp ho hs h0 J hr
theorem fo.put(ho:e8 p n a0)(P:fo p n a0 B aq)(hi:i<aq.length):fo p n a0 (B.put aq[i].1 aq[i].2.1 aq[i].2.2) (aq.eraseIdx i):=by
 have pm:=N9 hi;have nd:=(pm.map fun e:dd=>(e.1,e.2.1)).nodup_iff.mpr P.nd;rw[dX,hY]at nd;have bP:=P.abs _ ((gW hi):aq[i]∈aq)
 have get:∀k,aD k (B.put aq[i].1 aq[i].2.1 aq[i].2.2).Z=if k=(aq[i].1,(aq[i].2.1:Int))then some (.int aq[i].2.2)else aD k B.Z:=fun k=>nb bP
 have up:∀e∈aq.eraseIdx i,e∈aq:=fun e he=>pm.mem_iff.mp (bx _ he);refine⟨.put P.rch (P.sub _ ((gW hi):aq[i]∈aq)) bP,nd.2,fun e he=>P.sub e (up e he),fun e he=>?_,fun e he=>?_,?_⟩
 ·rw[get,aV]
  ·exact P.abs e (up e he)
  ·intro q;refine aN (Prod.mk.inj q) fun q1 q2=>?_;exact nd.1 (c7.mpr (aI e he (Prod.ext q1 (Int.ofNat.inj q2))))
 ·refine get<&>(bZ (P.all e he) (fun q=>?_) (fun q=>?_))
  ·rcases bY.mp (pm.mem_iff.mpr q)with rfl | q
   ·exact .inr (aC rfl)
   ·exact .inl q
  ·refine .inr ?_;rw[aV]
   ·exact q
   ·intro z;rw[z,bP]at q;exact nomatch q
 ·have d8:(B.put aq[i].1 aq[i].2.1 aq[i].2.2).Z.length=B.Z.length+1:=cD;have:=P.sz;refine d8.symm▸((List.length_eraseIdx_of_lt hi) ..).symm▸?_;show B.Z.length+1+(aq.length-1)<=1000+3*B.gs.length;omega
theorem fo.nil(ho:e8 p n a0)(hl:a0.length<800):fo p n a0 ⟨[],[],[]⟩ a0:=
 ⟨.nil,ho.nodup,fun u h=>h,fun u u=>rfl,fun e he=>.inl he,by refine kO<&>d1<&>?_;exact aE (b4 hl) (by decide:800<=1000+3*0)⟩
theorem fo.rest(hp:cf p)(ho:e8 p n a0)(P:fo p n a0 B [])(h:∀aa:Int,0<=aa->aa<n->∀s∈p,B.rdy s aa=false):sy p n a0 B:=
 ⟨P.rch.ok hp ho,fun e he=>(P.all e he).elim (fun q=>absurd q dM) id,h⟩
end
theorem VN{x:X}(h:ev C x R S=.ok (.int (n:Nat)) S)(hn:n<=2000):evIt C (.range1 x) R S=.ok ((List.range n).map fun(i:Nat)=>H.int (0+(i:Int)*1),none) S:=by
 rw[vh,h,cr];show(if 0<=(n:Int)/\(n:Int)<=aL then aj.ok (cR 0 1 (n:Int).toNat,none) S else .stuck)=_;rw[aC ⟨ea n,ig.mpr (aE hn ⋯)⟩];rfl
structure oe where
 k:Option H
 q:Option H
 a:Option H
 t:Option H
 v:Option H
 m:Option H
def fN(X:ci)(pr:Nat)(l:List Int)(at_ lf:Nat)(w:oe):aB:=[some (.inst bl X.i),some (.ref pr),some (.fl (l.map .int)),some (.int (at_:Nat)),some (.ref lf),w.k,w.q,w.a,w.t,w.v,w.m,none,none,none,none,none,none,none]
structure mc(p:List az)(n:Nat)(a0:List dd)(X:ci)(lf:Nat)(aq Q:List dd)(B:bb)(cH S:ab):Prop where
 bo:dR p n B X S
 lf:S[lf]?=some (.lst (aq.map bz))
 kp:d5 X cH S
 P:fo p n a0 B Q
structure qH(p:List az)(n:Nat)(a0:List dd)(X:ci)(lf:Nat)(l:List Int)(cH:ab):Prop where
 hp:cf p
 hpl:∀s∈p,iF s
 hn:n<=6
 hl:l.length<=63
 ho:e8 p n a0
 len:a0.length<800
 ap:uC X lf
 lt:cH.length<=lf
inductive xt(p:List az)(n:Nat)(a0:List dd)(X:ci)(lf:Nat)(cH:ab)(P:oe->ab->Prop):Prop
 | mk (w:oe) (B:bb) (aq:List dd) (S:ab) (e:P w S) (T:mc p n a0 X lf aq aq B cH S) (hl:aq.length<=800):xt p n a0 X lf cH P
section
variable {p:List az}{a0 aq Q:List dd}{X:ci}{lf pr at_ d:Nat}{B:bb}
theorem Ub(h:S[lf]?=some (.lst (aq.map bz))):d2 .ne (.ref lf) (.fl []) S=.ok (!aq.isEmpty) S:=by
 have ts:∀l:List dd,(l.map bz).mapM (dA 15 S)=some (l.map fun e=>PyData.tuple [.str e.1,.int (e.2.1:Nat),.int e.2.2]):=by
  intro l
  induction l with
  | nil=>rfl
  | cons a l af=>rw[dX,List.mapM_cons,af];rfl
 have e:dA 16 S (.ref lf)=some (.list (aq.map fun e=>PyData.tuple [.str e.1,.int (e.2.1:Nat),.int e.2.2])):=by
  show(match S[lf]? with | some (.lst Y)=>(Y.mapM (dA 15 S)).map PyData.list | _=>none)=_;rw[h];show((aq.map bz).mapM (dA 15 S)).map PyData.list=_;rw[ts];rfl
 show aj.ofOpt ((eqv S (.ref lf) (.fl [])).map (!·)) S=_;unfold eqv;refine e<&>?_;cases aq <;> rfl
theorem Di{C:bG}{R:aB}{e:dd}(c:qH p n a0 X lf l cH)(b:dR p n B X S)(I:eF p n B)(he:e∈a0)(ha:aD (e.1,(e.2.1:Int)) B.Z=none):bU PP topN (d+4) tC [.inst bl X.i,.str e.1,.int (e.2.1:Nat),.int e.2.2] S=.ok .none (S.set X.h (.dp (B.put e.1 e.2.1 e.2.2).Z)):=
 have h:=c.ho.ok e he
 JY c.hp b h.plc (ea _) (eK.mpr h.lt) h.free h.val ha (b9 (I.small c.hp c.hn).2 ⋯)
theorem MI{k:Nat}{w:oe}(c:qH p n a0 X lf l cH)(T:mc p n a0 X lf aq aq B cH S)(hl:aq.length<=800) :
  xt p n a0 X lf cH fun jZ σ'=>ex (CC (d+6)) topN yL (fN X pr l at_ lf { w with k:=some (.int (k:Nat)) }) S=.next (fN X pr l at_ lf jZ) σ':=by
 obtain⟨q,hz⟩:∃q:Int,ex (CC (d+6)) topN E7 (fN X pr l at_ lf { w with k:=some (.int (k:Nat)) }) S=.next (fN X pr l at_ lf { w with k:=some (.int (k:Nat)),q:=some (.int q) }) S:=
  ⟨_,b6 (ef (cj (jb rfl (cj (ak:=S) rfl (cj (ak:=S) (aH:=S) rfl rfl (gw ⋯)) rfl) (pE c.hl)) (cj (ak:=S) (aH:=S) rfl rfl (mul_int (.inl ⋯))) add_int) (lK (d:=d+5)))⟩
 have I:=T.P.inv c.hp c.ho
 have bR:tst (CC (d+6)) (.and #v[(.cmp (.bin .mod (.v 6) (.k (.int 2))) .eq (.k (.int 0))),(.cmp (.v 4) .ne (.lst true .nil))]) (fN X pr l at_ lf { w with k:=some (.int (k:Nat)),q:=some (.int q) }) S=.ok ((q%2 == 0)&&!aq.isEmpty) S:=
  kt (oY (c3 (cj (ak:=S) (aH:=S) rfl rfl (gw ⋯)) (aH:=S) rfl rfl) fun u=>l8 (c3 (ak:=S) (aH:=S) rfl rfl (Ub T.lf)))
 cases hb:((q%2 == 0)&&!aq.isEmpty)with
 | false =>
  rw[hb]at bR;exact kS (G6 c.hp c.hpl c.hn T.bo I) fun r bu σ' e o cz bs=>⟨{ w with k:=some (.int (k:Nat)),q:=some (.int q) },bu,aq,σ',((ar hz).trans ((ar (a:=yM) ((vj bR).trans ((ar (a:=E8) (Ou (jb (ak:=S) rfl (aH:=S) (cj (x:=.int q) (y:=.int 2) (ak:=S) (aH:=S) rfl rfl (vz ⋯ ⋯)) e))).trans bC))).trans bC)),⟨cz,bs.at_ lf _ c.ap.h c.ap.gn c.ap.od T.lf,T.kp.trans bs,T.P.one c.hp c.ho o⟩,hl⟩
 | true =>
  rw[hb]at bR
  have cQ:aq≠[]:=fun z=>by rw[z,Bool.and_eq_true_iff]at hb;exact nomatch hb.2
  have Zt:0<aq.length:=List.length_pos_iff.mpr cQ;have J:=gj (q/2) (show(0:Int)<(aq.length:Nat) by omega);obtain⟨i,hi⟩:=jw (fq (q/2) (show((aq.length:Nat):Int)≠0 by omega))
  have il:i<aq.length:=by omega
  have um:ex (CC (d+6)) topN E9 (fN X pr l at_ lf { w with k:=some (.int (k:Nat)),q:=some (.int q) }) S=.next (fN X pr l at_ lf ⟨some (.int (k:Nat)),some (.int q),some (.str aq[i].1),some (.int (aq[i].2.1:Nat)),some (.int aq[i].2.2),w.m⟩) (S.set lf (.lst ((aq.eraseIdx i).map bz))):=by
   refine Eh rfl (v:=bz aq[i]) (h4 (x:=.ref lf) (ak:=S) rfl (show jH (.ref lf) S=true by unfold jH;dsimp only;rw[T.lf]) (y:=.int (i:Nat)) (aH:=S) ?_ ?_) rfl
   ·rw[show((i:Nat):Int)=q/2%(aq.length:Nat)from hi.symm];refine cj (cj (x:=.int q) (y:=.int 2) (ak:=S) (aH:=S) rfl rfl (vz ⋯ ⋯)) (da (x:=.ref lf) (ak:=S) rfl (tO T.lf ((by rw[a9];exact aE hl ⋯):(aq.map bz).length<=1000))) ?_;exact a9<&>(gw (by omega))
   ·show qh (.ref lf) (.int (i:Nat)) S=_;unfold qh;dsimp only;rw[T.lf];dsimp only;rw[aC ⟨ea i,aE ((by rw[a9];exact aE hl ⋯):(aq.map bz).length<=1000) ⋯⟩,kL,fc,cM il];show aj.ok (bz aq[i]) (S.set lf (.lst ((aq.map bz).eraseIdx i)))=_;rw[N8]
  have b1:dR p n B X (S.set lf (.lst ((aq.eraseIdx i).map bz))):=T.bo.other c.ap;have f1:(S.set lf (.lst ((aq.eraseIdx i).map bz)))[lf]?=some (.lst ((aq.eraseIdx i).map bz)):=rt T.lf;have k1:d5 X cH (S.set lf (.lst ((aq.eraseIdx i).map bz))):=⟨by rw[List.length_set];exact T.kp.len,fun j m dL gU gD e=>eD (fun z=>absurd (dv e).1 (e0.mpr (z▸c.lt))) (T.kp.at_ j m dL gU gD e)⟩;generalize S.set lf (.lst ((aq.eraseIdx i).map bz))=bj at um b1 f1 k1;exact⟨⟨some (.int (k:Nat)),some (.int q),some (.str aq[i].1),some (.int (aq[i].2.1:Nat)),some (.int aq[i].2.2),w.m⟩,B.put aq[i].1 aq[i].2.1 aq[i].2.2,aq.eraseIdx i,_,((ar hz).trans ((ar (a:=yM) ((eg bR).trans ((ar um).trans ((ar (a:=Fa) (f4 (gm rfl b1.ns rfl rfl (Di (C:=CC 0) (R:=[]) c b1 I (T.P.sub _ (gW il)) (T.P.abs _ (gW il)))))).trans bC)))).trans bC)),⟨b1.here,eD c.ap.h.symm f1,k1.trans (.set (.inl rfl)),T.P.put c.ho il⟩,aE (List.length_eraseIdx_le _ _) hl⟩
theorem MJ(c:qH p n a0 X lf l cH):∀(lR:List Nat) (w:oe) (B:bb) (aq:List dd) (S:ab),mc p n a0 X lf aq aq B cH S->aq.length<=800 ->
  xt p n a0 X lf cH fun jZ σ'=>ch none (dj 5) (fun R S=>ex (CC (d+6)) topN yL R S) (lR.map fun(i:Nat)=>H.int (0+(i:Int)*1)) (fN X pr l at_ lf w) S=.next (fN X pr l at_ lf jZ) σ':=by
 intro lR
 induction lR with
 | nil=>intro w B aq S T hl;exact⟨w,B,aq,S,e3,T,hl⟩
 | cons j lR af =>
  intro w B aq S T hl;obtain⟨j0,c5,na,bj,V,Lv,kk⟩:=MI c T hl;obtain⟨hS,e5,j3,cb,ah,uT,rD⟩:=af j0 c5 na bj Lv kk;exact⟨hS,e5,j3,cb,(dX<&>Bm<&>((ez rfl V).trans ah)),uT,rD⟩
theorem MK(c:qH p n a0 X lf l cH):∀(Q:List dd) (w:oe) (B:bb) (S:ab),mc p n a0 X lf aq Q B cH S ->
  ∃jZ bu σ',ch (some (lf,.lst (aq.map bz))) (eG [7,8,9]) (fun R S=>ex (CC (d+6)) topN Fc R S) (Q.map bz) (fN X pr l at_ lf w) S=.next (fN X pr l at_ lf jZ) σ'/\mc p n a0 X lf aq [] bu cH σ':=by
 intro Q
 induction Q with
 | nil=>intro w B S T;exact oz w B S (rs T.lf) T
 | cons e Q af =>
  intro w B S T;exact jc (af { w with a:=some (.str e.1),t:=some (.int (e.2.1:Nat)),v:=some (.int e.2.2) } (B.put e.1 e.2.1 e.2.2) (S.set X.h (.dp (B.put e.1 e.2.1 e.2.2).Z)) ⟨T.bo.here,eD c.ap.h.symm T.lf,T.kp.trans (.set (.inl rfl)),T.P.put c.ho (ft _)⟩) fun jZ bu σ' ah xL=>(oz jZ bu σ' ((rr (w:=some (lf,.lst (aq.map bz))) T.lf rfl ((ar (f4 (gm rfl T.bo.ns rfl rfl (Di (C:=CC 0) (R:=[]) c T.bo (T.P.inv c.hp c.ho) (T.P.sub _ be) (T.P.abs _ be))))).trans bC)).trans ah) xL)
theorem ML(c:qH p n a0 X lf l cH):∀(f:Nat) (m:Int) (w:oe) (B:bb) (S:ab),mc p n a0 X lf aq [] B cH S->p.length*n<B.gs.length+f ->
  ∃jZ bu σ',iv (fun R S=>tst (CC (d+6)) (.call tG #v[(.v 0),(.v 10)]) R S) (fun R S=>ex (CC (d+6)) topN Ff R S) f (fN X pr l at_ lf { w with m:=some (.int m) }) S=.next (fN X pr l at_ lf jZ) σ'/\mc p n a0 X lf aq [] bu cH σ'/\f8 p n bu=[]:=by
 intro f
 induction f with
 | zero=>intro m w B S T h;exact absurd (T.P.inv c.hp c.ho).gk.len (Nat.not_le.mpr h)
 | succ f af =>
  intro m w B S T h;refine kS (G6 (d:=d+1) (k:=m) c.hp c.hpl c.hn T.bo (T.P.inv c.hp c.ho)) fun r c5 bj e o b1 k1=>?_;have bR:tst (CC (d+6)) (.call tG #v[(.v 0),(.v 10)]) (fN X pr l at_ lf { w with m:=some (.int m) }) S=.ok r bj:=li (jb rfl rfl e)
  cases r with
  | false=>exact mC _ _ bj (B5 bR) (⟨b1,k1.at_ lf _ c.ap.h c.ap.gn c.ap.od T.lf,T.kp.trans k1,T.P.one c.hp c.ho o⟩:mc p n a0 X lf aq [] c5 cH bj) o.done
  | true =>
   refine kR (af (eU m) w c5 bj (⟨b1,k1.at_ lf _ c.ap.h c.ap.gn c.ap.od T.lf,T.kp.trans k1,T.P.one c.hp c.ho o⟩:mc p n a0 X lf aq [] c5 cH bj) (by refine o.more<&>i4<&>?_;exact h)) fun jZ bu σ' ah xL tt=>?_;exact mC jZ bu σ' ((xg bR ((ar (b6 (ef rfl (lK)))).trans bC)).trans ah) xL tt
end
structure CB(p:List az)(n:Nat)(a0:List dd)(X:ci)(B:bb)(S σ':ab):Prop where
 bo:dR p n B X σ'
 kp:d5 X S σ'
 rch:j5 p n a0 B
 inv:eF p n B
 rest:sy p n a0 B
section
variable {p:List az}{a0:List dd}{X:ci}{pr at_ d:Nat}
theorem Dk(hp:cf p)(hpl:∀s∈p,iF s)(hn:n<=6)(hl:l.length<=63)(ho:e8 p n a0)(len:a0.length<800)(b:dR p n ⟨[],[],[]⟩ X S)(hr:S[pr]?=some (.lst (a0.map bz))) :
  ∃bu σ',bU PP topN (d+7) tF [.inst bl X.i,.ref pr,.fl (l.map .int),.int (at_:Nat)] S=.ok (.bool true) σ'/\CB p n a0 X bu S σ':=by
 rw[cO rfl rfl]
 have pl:(a0.map bz).length<=1000:=by rw[a9];exact aE (b4 len) ⋯
 have c:qH p n a0 X S.length l S:=⟨hp,hpl,hn,hl,ho,len,.gt b.lt ((dv b.od).1),bJ _⟩
 have hz:ex (CC (d+6)) topN E5 [some (.inst bl X.i),some (.ref pr),some (.fl (l.map .int)),some (.int (at_:Nat)),none,none,none,none,none,none,none,none,none,none,none,none,none,none] S=.next (fN X pr l at_ S.length ⟨none,none,none,none,none,none⟩) (S++[.lst (a0.map bz)]):=by
  refine b6 (da rfl ?_);show kq (fun Y=>eO false Y S) (.ref pr) S=_;exact(r1 (show eB S (.ref pr)=some (a0.map bz) by unfold eB;dsimp only;rw[hr]) ..).trans (Jf (aE pl ⋯))
 have CH:mc p n a0 X S.length a0 a0 ⟨[],[],[]⟩ S (S++[.lst (a0.map bz)]):=⟨b.more,iK,.app,.nil ho len⟩;have HT:(S++[aX.lst (a0.map bz)])[pr]?=some (.lst (a0.map bz)):=gq hr;generalize S++[aX.lst (a0.map bz)]=bj at hz CH HT;obtain⟨hS,e5,j3,cb,ah,uT,rD⟩:=MJ c (List.range (2*a0.length)) ⟨none,none,none,none,none,none⟩ _ _ bj CH (b4 len)
 have ce:ex (CC (d+6)) topN E6 (fN X pr l at_ S.length ⟨none,none,none,none,none,none⟩) bj=.next (fN X pr l at_ S.length hS) cb:=by
  refine e2 (VN ?_ (by omega)) ah;exact cj rfl (da (x:=.ref pr) (ak:=bj) rfl (tO HT pl)) (a9<&>Int.natCast_mul<&>(mul_int (.inl ⋯)))
 refine jc (MK (d:=d) (pr:=pr) (at_:=at_) c j3 hS e5 cb uT) fun nS sA fB bq qV=>?_
 have fJ:ex (CC (d+6)) topN Fb (fN X pr l at_ S.length hS) cb=.next (fN X pr l at_ S.length nS) fB:=by
  show(evIt (CC (d+6)) (.v 4) (fN X pr l at_ S.length hS) cb).toS _ _=_;rw[As rfl rfl uT.lf];exact bq
 have xC:=qV.P.inv hp ho
 have A2:∀{B:bb},eF p n B->B.os.length=B.gs.length/\B.os.length<=1000:=fun{B} I=>by
  rw[I.gk.os,a9];exact⟨rfl,aE (I.small hp hn).1 ⋯⟩
 have fl:∀{B:bb} {τ:ab} {w:oe},dR p n B X τ->eF p n B->ev (CC (d+6)) (.b1 .len (.meth bl oM "fired" (.v 0) .nil)) (fN X pr l at_ S.length w) τ=.ok (.int (B.gs.length:Nat)) τ:=fun{B τ w} b I =>
  da (gm rfl b.ns rfl rfl (zg b (aE (A2 I).2 ⋯))) ((rP (aE (A2 I).2 ⋯)).trans (by rw[(A2 I).1]))
 have l3:ex (CC (d+6)) topN Fd (fN X pr l at_ S.length nS) fB=.next (fN X pr l at_ S.length { nS with m:=some (.int (sA.gs.length:Nat)) }) fB:=b6 (fl qV.bo xC)
 have qy:tst (CC (d+6)) (.cmp (.bin .mod (.call gu #v[(.v 2),(.v 3)]) (.k (.int 2))) .eq (.k (.int 0))) (fN X pr l at_ S.length { nS with m:=some (.int (sA.gs.length:Nat)) }) fB=.ok (l.getD at_ 0%2 == 0) fB:=c3 (cj (jb rfl rfl (pE (d:=d+5) hl)) (aH:=fB) rfl (gw ⋯)) (aH:=fB) rfl rfl
 cases hq:(l.getD at_ 0%2 == 0)with
 | true =>
  rw[hq]at qy;refine bw (BW hp hn n 0 sA (d1 n) xC fun aa h0 J=>absurd J (Int.not_lt.mpr h0)) fun Cf tr Co done=>ik (Bp (d:=d) hp hpl hn tr qV.bo xC) fun u8 h7 nl C3 lS fv=>?_;have Cu:fo p n a0 Cf []:=tr.keep (fun B s t P hs h0 J hr=>fo.fire hp ho P hs h0 J hr) (d1 n) qV.P;exact⟨Cf,h7,(congrArg bm ((ar hz).trans ((ar ce).trans ((ar fJ).trans ((ar l3).trans (bV (a:=yN) ((eg qy).trans (bV (dF (jE (ef (ak:=fB) rfl nl) (cj (fl C3 Co) rfl sub_int) (fv<$>Int.natCast_add<&>Int.add_sub_cancel<&>((rk).trans (congrArg (aj.ok · h7) (beq_self_eq_true _)))))))))))))).trans rfl,C3,qV.kp.trans lS,Cu.rch,Co,Cu.rest hp ho done⟩
 | false =>
  rw[hq]at qy;refine kR (ML (d:=d) (pr:=pr) (at_:=at_) c topN (sA.gs.length:Nat) nS sA fB qV (dW (Nat.mul_le_mul hp.most hn) (de ⋯ (kN topN _)))) fun ZM Lg xq kg sK Q4=>?_;exact⟨Lg,xq,(congrArg bm ((ar hz).trans ((ar ce).trans ((ar fJ).trans ((ar l3).trans ((ar (a:=yN) (cB qy)).trans ((ar (a:=Fe) ((yr rfl).trans kg)).trans (bV (a:=Fg) (dF rfl))))))))).trans rfl,sK.bo,sK.kp,sK.P.rch,sK.P.inv hp ho,sK.P.rest hp ho (Vx Q4)⟩
end
def gZ(e:dd):(Str×Int)×H:=((e.1,(e.2.1:Int)),.int e.2.2)
def oR(e:dd):H:=.tup [.tup [.str e.1,.int (e.2.1:Nat)],.int e.2.2]
theorem Pk:∀(l acc:cx),((acc++l).map (·.1)).Nodup->l.foldl (fun Z e=>ee e.1 e.2 Z) acc=acc++l:=by
 intro l
 induction l with
 | nil=>intro acc _;exact(fD _).symm
 | cons e l af =>
  intro acc h
  have hn:aD e.1 acc=none:=by
   cases q:aD e.1 acc with
   | none=>rfl
   | some v =>
    rw[fC,jz]at h;exact absurd rfl (h.2.2 _ ((pG.mp (by rw[q];rfl)):e.1∈acc.map (·.1)) _ be)
  rw[((by rw[cN];rfl):acc++e::l=acc++[(e.1,e.2)]++l)]at h ⊢;refine ey ?_ (af _ h);show l.foldl _ (ee e.1 e.2 acc)=_;rw[xX hn]
section
variable {a0:List dd}
theorem Nq{w:Option (Nat×aX)}{F:H->ab->aj (Option H)}{g h:dd->H}(hw:hT w S)(bW:∀e,F (g e) S=.ok (some (h e)) S):∀q:List dd,dY w F (q.map g) S=.ok (q.map h) S:=by
 intro q
 induction q with
 | nil=>exact aC hw
 | cons e q af =>
  rw[dX];apply(aC hw).trans;rw[bW,cr,af];rfl
theorem Nz(aW:C.hd=false)(hv:R[3]?=some (some (.ref r)))(h:S[r]?=some (.lst (a0.map bz)))(hl:a0.length<800):ev C (.compT true [1,2,3] [none,none,none,none] (.tup #v[(.tup #v[(.v 1),(.v 2)]),(.v 3)]) (.v 3)) R S=.ok (.fl (a0.map oR)) S:=by
 rw[yq,aW,((As rfl (by show uy R 3 S=_;unfold uy;rw[hv]) h):evIt C (.v 3) R S=.ok (a0.map bz,some (r,.lst (a0.map bz))) S),cr,cond_false];show h3 (a0.map bz).length (dY _ _ _ S) _=_;rw[Nq (h:=oR) (show hT (some (r,.lst (a0.map bz))) S from h) (fun e=>rfl)];show eO true (a0.map oR) S=_;exact oQ (by rw[a9];exact aE (b4 hl) ⋯)
theorem NL{p:List az}(ho:e8 p n a0)(hl:a0.length<800):dN .dict (.fl (a0.map oR)) S=.ok (.ref S.length) (S++[.dp (a0.map gZ)]):=by
 have m:∀q:List dd,(q.map oR).mapM r6=some (q.map gZ):=by
  intro q
  induction q with
  | nil=>rfl
  | cons e q af=>rw[dX,List.mapM_cons,af];rfl
 show fm t7 _ (.fl (a0.map oR)) S=_;unfold fm
 have e:(cY S (.fl (a0.map oR))).bind t7=some (a0.map gZ):=by
  show((a0.map oR).mapM r6).bind _=_;refine m<&>?_;exact aC (by rw[a9];exact aE (b4 hl) ⋯)
 rw[e];show aj.ok (H.ref S.length) (S++[.dp ((a0.map gZ).foldl (fun Z e=>ee e.1 e.2 Z) [])])=_;rw[Pk _ [] ?_];rfl;rw[List.nil_append,fE]
 have:(a0.map fun e=>(e.1,(e.2.1:Int)))=(a0.map fun e=>(e.1,e.2.1)).map fun k=>(k.1,(k.2:Int)):=by rw[fE];rfl
 show(a0.map fun e=>(e.1,(e.2.1:Int))).Nodup;rw[this];exact List.Pairwise.map _ (fun a b h q=>h (Prod.ext (Prod.mk.inj q).1 (Int.ofNat.inj (Prod.mk.inj q).2))) ho.nodup
end
section
variable {p:List az}{X mt:ci}{B:bb}{d:Nat}
def xr(X mt:ci):Prop:=X.od<mt.i\/mt.od<X.i
theorem ci.Lt.h_od(l:X.Lt):X.h<=X.od:=b4 (b9 l.d l.e)
theorem ci.Lt.i_h(l:X.Lt):X.i<X.h:=b9 l.a (b9 l.b l.c)
theorem ci.Lt.i_od(l:X.Lt):X.i<=X.od:=aE (b4 l.i_h) l.h_od
theorem xr.ne(a:xr X mt)(J:X.i<=j)(L:j<=X.od)(au:mt.i<=m)(aQ:m<=mt.od):j≠m:=
 a.elim (fun a=>eZ (dW L (de a au))) fun a=>du (dW aQ (de a J))
theorem d5.bob(k:d5 mt S σ')(a:xr X mt)(lU:mt.Lt)(b:dR p n B X S):dR p n B X σ':=
 have g:∀{j:Nat} {m:aX},X.i<=j->j<=X.od->S[j]?=some m->σ'[j]?=some m:=fun{j m} J L e=>k.at_ j m (a.ne J L (b4 lU.i_h) lU.h_od) (a.ne J L (b4 (b9 lU.i_h lU.d)) (b4 lU.e)) (a.ne J L lU.i_od (bJ _)) e
 have ir:=b.lt
 ⟨g (bJ _) ir.i_od b.ns,g (b4 ir.a) (aE (b4 (b9 ir.b ir.c)) ir.h_od) b.gv,g (b4 (b9 ir.a ir.b)) (aE (b4 ir.c) ir.h_od) b.ot,g (b4 ir.i_h) ir.h_od b.hr,g (aE (b4 ir.i_h) (b4 ir.d)) (b4 ir.e) b.go,g ir.i_od (bJ _) b.od,ir⟩
theorem d5.low{m:aX}(k:d5 mt S σ')(lU:mt.Lt)(h:j<mt.i)(e:S[j]?=some m):σ'[j]?=some m:=
 k.at_ j m (eZ (b9 h lU.i_h)) (eZ (b9 (b9 h lU.i_h) lU.d)) (eZ (de h lU.i_od)) e
theorem AU{a b:Mine.X}(hC:∀vs τ,C.call tz vs τ=bU PP topN (d+5) tz vs τ)(ha:∀τ,ev C a R τ=.ok (dx p) τ)(hb:∀τ,ev C b R τ=.ok (.int (n:Nat)) τ)(hp:cf p)(J:1<=n)(L:n<=6)(S:ab) :
  ∃(dq:ab) (X:ci),ev C (.new bl tz #v[a,b]) R S=.ok (.inst bl X.i) (S++dq)/\dR p n ⟨[],[],[]⟩ X (S++dq)/\X.i=S.length/\X.od<(S++dq).length:=by
 obtain⟨dq,g,o,hr,gn,od,Im,bd,_,_,_,tR,g1,g2⟩:=Rv hp J (aE L ⋯);refine kh dq ⟨S.length,g,o,hr,gn,od⟩ ?_ ⟨bd.ns,bd.gv,bd.ot,bd.hr,g1,g2,⟨tR.1,tR.2.1,tR.2.2.1,tR.2.2.2.1,tR.2.2.2.2⟩⟩ rfl ((dv g2).1);rw[Ee,show evs C #v[a,b] R S=.ok [dx p,.int (n:Nat)] S from dm (ha S) (dm (hb S) iM),cr];unfold qf;rw[hC,Im];rfl
end
def i0(l:List Int)(p:List az)(n r a t v tk gl k b:Option H):aB:=some (.fl (l.map .int))::some (dx p)::n::r::a::t::v::tk::gl::k::b::List.replicate 10 none
theorem Ov{N:Nat}{is:List Nat}{it:X}{body:O}{w:Option (Nat×aX)}{o:cq}(aW:C.hd=false)(bS:evIt C it R S=.ok (ys,w) ak)(h:ch w (eG is) (fun R S=>ex C N body R S) ys R ak=o):ex C N (.forT is it body) R S=o:=by
 show(bif C.hd then cq.stuck else(evIt C it R S).toS R fun(Y,w) S=>ch w (eG is) (fun R S=>ex C N body R S) Y R S)=_;refine aW<&>bS<&>?_;exact h
theorem Np{F:H->ab->aj (Option H)}{a b c x y z:H}{bj cb fB:ab}(J:F a S=.ok (some x) bj)(L:F b bj=.ok (some y) cb)(au:F c cb=.ok (some z) fB):dY none F [a,b,c] S=.ok [x,y,z] fB:=by
 apply(aC trivial).trans;rw[J,cr];show((dY none F [b,c] bj).bind _)=_
 rw[show dY none F [b,c] bj=.ok [y,z] fB from(aC trivial).trans (by
  rw[L,cr];show((dY none F [c] cb).bind _)=_
  rw[show dY none F [c] cb=.ok [z] fB from(aC trivial).trans (by
   rw[au,cr];show((dY none F [] fB).bind _)=_
   rw[show dY none F [] fB=.ok [] fB from aC trivial];rfl)];rfl)];rfl
section
variable {p:List az}{a0:List dd}
theorem JW{e:dd}{q dn:List dd}(ho:e8 p n a0)(P:fo p n a0 ⟨dn.map gZ,[],[]⟩ (e::q)):fo p n a0 ⟨(dn++[e]).map gZ,[],[]⟩ q:=by
 have:=P.put ho (ft _);refine fC<&>?_;exact this
theorem Vh(ho:e8 p n a0):∀(q dn:List dd),dn++q=a0->fo p n a0 ⟨dn.map gZ,[],[]⟩ q->fo p n a0 ⟨a0.map gZ,[],[]⟩ []:=by
 intro q
 induction q with
 | nil=>intro dn h P;rw[fD]at h;exact h▸P
 | cons e q af=>intro dn h P;exact af (dn++[e]) ((cN ..).trans h) (JW ho P)
theorem Vo{X:ci}{d:Nat}{v2 B1 B2 B3:Option H}{i1 i2:H}(hp:cf p)(hn:n<=6)(ho:e8 p n a0)(hr:r<X.i):∀(q dn:List dd) (S:ab) (a t v:Option H),dn++q=a0->fo p n a0 ⟨dn.map gZ,[],[]⟩ q->dR p n ⟨dn.map gZ,[],[]⟩ X S->S[r]?=some (.lst (a0.map bz)) ->
  ∃cX bE c4 σ',ch (some (r,.lst (a0.map bz))) (eG [4,5,6]) (fun R S=>ex (CC (d+4)) topN GO R S) (q.map bz) (i0 l p v2 (aT r) a t v B1 B2 B3 (some (.fl (.inst bl X.i::[i1,i2])))) S=.next (i0 l p v2 (aT r) cX bE c4 B1 B2 B3 (some (.fl (.inst bl X.i::[i1,i2])))) σ'/\dR p n ⟨a0.map gZ,[],[]⟩ X σ'/\d5 X S σ':=by
 intro q
 induction q with
 | nil=>intro dn S a t v h P b e;rw[fD]at h;exact oA a t v S (rs e) (h▸b) .refl
 | cons e q af =>
  intro dn S a t v h P b hs;have fS:=ho.ok e (P.sub _ be);have k1:d5 X S (S.set X.h (.dp (dn.map gZ++[gZ e]))):=.set (.inl rfl);refine rg (af (dn++[e]) _ (bA e.1) (ag (e.2.1:Nat)) (ag e.2.2) (by rw[cN];exact h) (JW ho P) (by rw[fC];exact b.here) (k1.low b.lt hr hs)) fun cX bE c4 σ' ah b2 k2=>?_;exact oA cX bE c4 σ' ((rr (w:=some (r,.lst (a0.map bz))) hs rfl ((ar (f4 (gm (dO (x:=.fl (.inst bl X.i::[i1,i2])) (ak:=S) (aH:=S) rfl rfl (jq (show(3:Nat)<=aL by decide) ⋯ rfl)) b.ns rfl rfl (JY hp b fS.plc (ea _) (eK.mpr fS.lt) fS.free fS.val (P.abs _ be) (b9 ((P.inv hp ho).small hp hn).2 ⋯))))).trans bC)).trans ah) b2 (k1.trans k2)
structure qM(p:List az)(n:Nat)(ao B:bb):Prop where
 inv:eF p n B
 rest:∀aa:Int,0<=aa->aa<n->∀s∈p,B.rdy s aa=false
 eq:∀k,aD k ao.Z=aD k B.Z
 perm:(B.gs.map (·.1)).Perm (ao.gs.map (·.1))
structure sJ(p:List az)(n tk gl:Nat)(ao:bb)(dr cV cW:ci)(c5 e5:bb)(S:ab):Prop where
 b0:dR p n ao dr S
 b1:dR p n c5 cV S
 b2:dR p n e5 cW S
 tk:S[tk]?=some (.dp ao.Z)
 gl:S[gl]?=some (.lst ((ao.gs.map (·.1)).map ck))
structure Cs(tk gl:Nat)(dr cV cW:ci):Prop where
 t:tk<dr.i
 g:gl<dr.i
 a:dr.od<cV.i
 b:cV.od<cW.i
end
section
variable {p:List az}{d:Nat}{ao c5 e5:bb}{dr cV cW:ci}{v3 v4 jX v6:Option H}
noncomputable abbrev kH(l:List Int)(p:List az)(n tk gl:Nat)(dr cV cW:ci)(v3 v4 jX v6 k:Option H):aB:=i0 l p (ag (n:Nat)) v3 v4 jX v6 (aT tk) (aT gl) k (some (.fl [.inst bl dr.i,.inst bl cV.i,.inst bl cW.i]))
theorem Bl{X:ci}{B:bb}{k:Nat}(hp:cf p)(hpl:∀s∈p,iF s)(hn:n<=6)(hl:l.length<=63)(hk:[H.inst bl dr.i,.inst bl cV.i,.inst bl cW.i][k]?=dh X.i)(b:dR p n B X S)(f:qM p n ao B)(O:sJ p n tk gl ao dr cV cW c5 e5 S) :
  ∃σ',ex (CC (d+7)) topN vy (kH l p n tk gl dr cV cW v3 v4 jX v6 (ag (k:Nat))) S=.next (kH l p n tk gl dr cV cW v3 v4 jX v6 (ag (k:Nat))) σ'/\dR p n B X σ'/\d5 X S σ':=by
 refine bw (Mj hp hpl hn ⟨b,O.tk,f.inv.val,f.eq⟩ f.inv f.rest O.gl f.perm) fun σ' e cz bs=>(b3 σ' ((ar (a:=GR) (cB (jV (q:=true) (li (mA (dm (dO (x:=.fl [.inst bl dr.i,.inst bl cV.i,.inst bl cW.i]) rfl rfl (jq (show(3:Nat)<=aL by decide) (ea k) (ey (congrArg _ (kL ..)) hk))) (dm (ak:=S) rfl (dm (ak:=S) rfl (dm (ak:=S) rfl (dm (ak:=S) rfl (dm (cj (jb (ak:=S) (aH:=S) rfl rfl (pE hl)) (y:=.int (k:Nat)) (aH:=S) rfl add_int) iM)))))) e))))).trans bC) cz bs)
def Cq(p:List az)(n tk gl d:Nat)(ao c5 e5:bb)(dr cV cW:ci)(l:List Int)(v3 v4 jX v6:Option H)(j:Nat):Prop:=∀S,sJ p n tk gl ao dr cV cW c5 e5 S->∃σ',ex (CC (d+7)) topN vy (kH l p n tk gl dr cV cW v3 v4 jX v6 (ag (j:Nat))) S=.next (kH l p n tk gl dr cV cW v3 v4 jX v6 (ag (j:Nat))) σ'/\sJ p n tk gl ao dr cV cW c5 e5 σ'
theorem VF(h:∀j:Nat,j<3->Cq p n tk gl d ao c5 e5 dr cV cW l v3 v4 jX v6 j):∀(ks:List Nat) (k:Option H) (S:ab),(∀k∈ks,k<3)->sJ p n tk gl ao dr cV cW c5 e5 S ->
  ∃bs σ',ch none (dj 9) (fun R S=>ex (CC (d+7)) topN vy R S) (ks.map fun(k:Nat)=>H.int (k:Nat)) (kH l p n tk gl dr cV cW v3 v4 jX v6 k) S=.next (kH l p n tk gl dr cV cW v3 v4 jX v6 bs) σ':=by
 intro ks
 induction ks with
 | nil=>intro k S _ _;exact eQ k S e3
 | cons j ks af =>
  intro k S HG O;exact ay (h j (HG j be) S O) fun σ' e Lu=>eM (af (ag (j:Nat)) σ' (fun x hx=>HG x (bx _ hx)) Lu) fun bs lq ah=>(eQ bs lq ((ez rfl e).trans ah))
theorem Ta{P:Nat->Prop}(h0:P 0)(J:P 1)(L:P 2):∀j,j<3->P j:=by
 intro j h
 cases j with
 | zero=>exact h0
 | succ j =>
  cases j with
  | zero=>exact J
  | succ j =>
   cases j with
   | zero=>exact L
   | succ j=>exact absurd h (e0.mpr (kN 3 j))
theorem SV(hp:cf p)(hpl:∀s∈p,iF s)(hn:n<=6)(hl:l.length<=63)(o:Cs tk gl dr cV cW)(jk:dr.Lt)(d8:cV.Lt)(f6:cW.Lt)(kU:qM p n ao ao)(f1:qM p n ao c5)(f2:qM p n ao e5):∀j,j<3->Cq p n tk gl d ao c5 e5 dr cV cW l v3 v4 jX v6 j:=
 have i1:dr.i<cV.i:=dW jk.i_od o.a
 Ta (fun S O=>bw (Bl hp hpl hn hl rfl O.b0 kU O) fun σ' e b k=>⟨σ',e,b,k.bob (.inr o.a) jk O.b1,k.bob (.inr ((b9 (de o.a d8.i_od) o.b):dr.od<cW.i)) jk O.b2,k.low jk o.t O.tk,k.low jk o.g O.gl⟩)
  (fun S O=>bw (Bl (d:=d) hp hpl hn hl rfl O.b1 f1 O) fun σ' e b k=>⟨σ',e,k.bob (.inl o.a) d8 O.b0,b,k.bob (.inr o.b) d8 O.b2,k.low d8 (b9 o.t i1) O.tk,k.low d8 (b9 o.g i1) O.gl⟩)
  (fun S O=>bw (Bl (d:=d) hp hpl hn hl rfl O.b2 f2 O) fun σ' e b k=>⟨σ',e,k.bob (.inl ((b9 (de o.a d8.i_od) o.b):dr.od<cW.i)) f6 O.b0,k.bob (.inl o.b) f6 O.b1,b,k.low f6 (b9 o.t (b9 i1 ((dW d8.i_od o.b):cV.i<cW.i))) O.tk,k.low f6 (b9 o.g (b9 i1 ((dW d8.i_od o.b):cV.i<cW.i))) O.gl⟩)
end
theorem runX(hl:l.length<=63):∃S,bU PP topN 20 Ro [.fl (l.map .int)] []=.ok (.bool true) S:=by
 refine gH (P1 (d:=16) hl) fun p bj hp u MQ=>?_;have hpl:∀s∈p,iF s:=fun u u=>trivial;refine aF (jw (show 0<=1+l.getD 11 0%6 by grind)) fun n Q0=>?_
 have oI:1<=n:=by grind
 have hn:n<=6:=by grind
 have lt:∀{τ:ab} {j:Nat} {y:aX},τ[j]?=some y->j<τ.length:=fun e=>(dv e).1;rw[cO rfl rfl]
 have V:ex (CC 19) topN GG (i0 l p none none none none none none none none none) bj=.next (i0 l p (ag (n:Nat)) none none none none none none none none) bj:=by
  exact Q0▸(b6 (cj rfl (cj (jb (y:=.int ((11:Nat):Int)) (ak:=bj) rfl rfl (pE hl)) (aH:=bj) rfl (gw ⋯)) add_int))
 refine gH (So (d:=17) (S:=bj) (at_:=12) hp hl oI hn) fun a0 ma eL ho sd=>?_
 have ah:ex (CC 19) topN GI (i0 l p (ag (n:Nat)) none none none none none none none none) bj=.next (i0 l p (ag (n:Nat)) (aT bj.length) none none none none none none none) (bj++.lst (a0.map bz)::ma):=b6 (mA rfl eL)
 have r2:(bj++aX.lst (a0.map bz)::ma)[bj.length]?=some (.lst (a0.map bz)):=iK;generalize bj++aX.lst (a0.map bz)::ma=cb at ah r2;generalize bj.length=r at ah r2
 have bq:ex (CC 19) topN GJ (i0 l p (ag (n:Nat)) (aT r) none none none none none none none) cb=.next (i0 l p (ag (n:Nat)) (aT r) none none none (aT cb.length) none none none) (cb++[.dp (a0.map gZ)]):=b6 (da (Nz rfl rfl r2 sd) (NL ho sd))
 have e4:(cb++[aX.dp (a0.map gZ)])[r]?=some (.lst (a0.map bz)):=gq r2;have mX:(cb++[aX.dp (a0.map gZ)])[cb.length]?=some (.dp (a0.map gZ)):=iK;have Bn:r≠cb.length:=eZ (lt r2);generalize cb++[aX.dp (a0.map gZ)]=fB at bq e4 mX;generalize cb.length=tk at bq mX Bn;have ju:fo p n a0 ⟨a0.map gZ,[],[]⟩ []:=Vh ho a0 [] rfl (.nil ho sd);have xB:=ju.inv hp ho;refine bw (BW hp hn n 0 ⟨a0.map gZ,[],[]⟩ (d1 n) xB fun aa h0 J=>absurd J (Int.not_lt.mpr h0)) fun ao tr IR done=>?_;have kE:fo p n a0 ao []:=tr.keep (fun B s t P hs h0 J hr=>fo.fire hp ho P hs h0 J hr) (d1 n) ju
 have os:ao.os=(ao.gs.map (·.1)).map ck:=by rw[IR.gk.os,fE];rfl
 refine bw (Sp (d:=16) hp hn tr mX rfl xB) fun h7 nl mh lS=>?_
 have eP:ex (CC 19) topN GK (i0 l p (ag (n:Nat)) (aT r) none none none (aT tk) none none none) fB=.next (i0 l p (ag (n:Nat)) (aT r) none none none (aT tk) (aT fB.length) none none) h7:=b6 (mA rfl nl)
 have pB:=mh.gl;have gt:∀{j:Nat} {y:aX},h7[j]?=some y->j<h7.length:=lt;rw[os]at pB;generalize fB.length=gl at eP pB;refine ik (AU (C:=CC 19) (R:=(dz [none,none,none,some 1,some 2] (i0 l p (ag (n:Nat)) (aT r) none none none (aT tk) (aT gl) none none)).set 1 (ag (0+((0:Nat):Int)*1))) (a:=.v 3) (b:=.v 4) (fun u u=>rfl) (fun u=>rfl) (fun u=>rfl) hp oI hn h7) fun nV dr lb b0 iX Lb=>ik (AU (C:=CC 19) (d:=14) (R:=(dz [none,none,none,some 1,some 2] (i0 l p (ag (n:Nat)) (aT r) none none none (aT tk) (aT gl) none none)).set 1 (ag (0+((1:Nat):Int)*1))) (a:=.v 3) (b:=.v 4) (fun u u=>rfl) (fun u=>rfl) (fun u=>rfl) hp oI hn (h7++nV)) fun gO cV aZ b1 a1 iz=>ik (AU (C:=CC 19) (d:=14) (R:=(dz [none,none,none,some 1,some 2] (i0 l p (ag (n:Nat)) (aT r) none none none (aT tk) (aT gl) none none)).set 1 (ag (0+((2:Nat):Int)*1))) (a:=.v 3) (b:=.v 4) (fun u u=>rfl) (fun u=>rfl) (fun u=>rfl) hp oI hn (h7++nV++gO)) fun ma cW bH b2 bv jr=>?_
 have kg:ex (CC 19) topN GL (i0 l p (ag (n:Nat)) (aT r) none none none (aT tk) (aT gl) none none) h7=.next (kH l p n tk gl dr cV cW (aT r) none none none none) (h7++nV++gO++ma):=by
  apply b6;unfold Fh;rw[np,qr rfl ⋯,cr];show h3 3 (dY none _ [.int (0+((0:Nat):Int)*1),.int (0+((1:Nat):Int)*1),.int (0+((2:Nat):Int)*1)] h7) _=_;rw[Np (congrArg (fun o=>aj.bind o fun v S=>aj.ok (some v) S) lb) (congrArg (fun o=>aj.bind o fun v S=>aj.ok (some v) S) aZ) (congrArg (fun o=>aj.bind o fun v S=>aj.ok (some v) S) bH)];rfl
 have o:Cs tk gl dr cV cW:=⟨by exact iX<&>(gt mh.tk),by rw[iX];exact gt pB,by rw[a1];exact Lb,by rw[bv];exact iz⟩;have nM:r<dr.i:=iX<&>(gt (lS r _ Bn e4));have b0:dR p n ⟨[],[],[]⟩ dr (h7++nV++gO++ma):=b0.more.more;have b1:dR p n ⟨[],[],[]⟩ cV (h7++nV++gO++ma):=b1.more;have qn:(h7++nV++gO++ma)[r]?=some (.lst (a0.map bz)):=gq (gq (gq (lS r _ Bn e4)));have KD:(h7++nV++gO++ma)[tk]?=some (.dp ao.Z):=gq (gq (gq mh.tk));have pC:(h7++nV++gO++ma)[gl]?=some (.lst ((ao.gs.map (·.1)).map ck)):=gq (gq (gq pB));generalize h7++nV++gO++ma=xq at kg b0 b1 b2 qn KD pC;clear lb aZ bH iX a1 bv Lb iz jr gt;have jk:=b0.lt;have d8:=b1.lt;have f6:=b2.lt;have Jx:dr.od<cW.i:=b9 (de o.a d8.i_od) o.b;have i1:dr.i<cV.i:=dW jk.i_od o.a;have i2:cV.i<cW.i:=dW d8.i_od o.b;refine rg (Vo (d:=15) (l:=l) (v2:=ag (n:Nat)) (B1:=aT tk) (B2:=aT gl) (B3:=none) (i1:=.inst bl cV.i) (i2:=.inst bl cW.i) hp hn ho nM a0 [] xq none none none rfl (.nil ho sd) b0 qn) fun sN uw v6 Ld nn Mq rL=>ik (Bp (d:=13) hp hpl hn tr Mq xB) fun u8 Le MR Mr Sa fv=>?_;have pX:=rL.trans Sa
 have Bq:ex (CC 19) topN GP (kH l p n tk gl dr cV cW (aT r) sN uw v6 none) Ld=.next (kH l p n tk gl dr cV cW (aT r) sN uw v6 none) Le:=by
  refine cB (c3 (ef (dO rfl rfl (jq (show(3:Nat)<=aL by decide) ⋯ rfl)) MR) (da rfl (tO (pX.low jk o.g pC) (by rw[a9,a9];exact aE (IR.small hp hn).1 ⋯))) ?_);refine(a9 ..).symm▸(a9 ..).symm▸(show ao.gs.length=u8 from fv.symm ..).symm▸?_;show aj.ok (!((u8:Int) == (u8:Int))) Le=_;rw[beq_self_eq_true];rfl
 refine cG (Dk (d:=12) (at_:=20) hp hpl hn hl ho sd (pX.bob (.inr o.a) jk b1) (pX.low jk nM qn)) fun c5 ZQ MS mo=>cG (Dk (d:=12) (at_:=29) hp hpl hn hl ho sd (mo.kp.bob (.inr o.b) d8 (pX.bob (.inr Jx) jk b2)) (mo.kp.low d8 (b9 nM i1) (pX.low jk nM qn))) fun e5 Lf MT qX=>?_
 have Dj:∀{k at_:Nat} {X:ci} {S σ':ab},[H.inst bl dr.i,.inst bl cV.i,.inst bl cW.i][k]?=dh X.i->bU PP topN 19 tF [.inst bl X.i,.ref r,.fl (l.map .int),.int (at_:Nat)] S=.ok (.bool true) σ' ->
   tst (CC 19) (.not (.call tF #v[(.sub (.v 10) (ai (k:Nat))),(.v 3),(.v 0),(ai (at_:Nat))])) (kH l p n tk gl dr cV cW (aT r) sN uw v6 none) S=.ok false σ':=fun{k at_ X S σ'} hk hc =>
  jV (q:=true) (li (mA (dm (dO (x:=.fl [.inst bl dr.i,.inst bl cV.i,.inst bl cW.i]) rfl rfl (jq (show(3:Nat)<=aL by decide) (ea k) (ey (congrArg _ (kL ..)) hk))) (dm (ak:=S) rfl (dm (ak:=S) rfl (dm (ak:=S) rfl iM)))) hc))
 have mk:∀{X:ci} {B:bb} {S σ':ab},CB p n a0 X B S σ'->qM p n ao B:=fun{X B S σ'} on =>
  ⟨on.inv,on.rest.rest,fun k=>((J3 hp on.rest on.rch (kE.rest hp ho done) kE.rch).1 k).symm,(J3 hp on.rest on.rch (kE.rest hp ho done) kE.rch).2⟩
 refine eM (VF (SV (d:=12) (v3:=aT r) (v4:=sN) (jX:=uw) (v6:=v6) hp hpl hn hl o jk d8 f6 (⟨IR,done,fun u=>rfl,List.Perm.refl _⟩:qM p n ao ao) (mk mo) (mk qX)) [0,1,2,0] none Lf ⋯ (⟨qX.kp.bob (.inl Jx) f6 (mo.kp.bob (.inl o.a) d8 Mr),qX.kp.bob (.inl o.b) f6 mo.bo,qX.bo,qX.kp.low f6 (b9 o.t (b9 i1 i2)) (mo.kp.low d8 (b9 o.t i1) (pX.low jk o.t KD)),qX.kp.low f6 (b9 o.g (b9 i1 i2)) (mo.kp.low d8 (b9 o.g i1) (pX.low jk o.g pC))⟩:sJ p n tk gl ao dr cV cW c5 e5 Lf)) fun bs σ' ye=>?_;exact⟨σ',(congrArg bm ((ar (b6 (jb (x:=.fl (l.map .int)) (y:=.int 0) rfl rfl MQ))).trans ((ar V).trans ((ar ah).trans ((ar bq).trans ((ar eP).trans ((ar kg).trans ((ar ((Ov rfl (As (r:=r) rfl rfl qn) nn):ex (CC 19) topN GN (kH l p n tk gl dr cV cW (aT r) none none none none) xq=.next (kH l p n tk gl dr cV cW (aT r) sN uw v6 none) Ld)).trans ((ar Bq).trans ((ar (cB (lj (jW (Dj (at_:=20) rfl MS) (ll (Dj (at_:=29) rfl MT)))))).trans ((ar (a:=GQ) (e2 rfl ye)).trans (bV (a:=GH) (dF rfl))))))))))))).trans rfl⟩
end
section
open PySem.W
set_option tactic.hygienic true
theorem VA{U β γ δ ε:Type}{o:Option U}{f:U->β}{a:U->γ}{b:U->δ}{c:U->ε}{ζ:Type}{e:U->ζ}{x:β}{y:γ×δ×ε}{z:ζ}(J:o.map f=some x)(L:o.map (fun s=>(a s,b s,c s))=some y)(au:o.map e=some z):o.map (fun s=>(f s,a s,b s,c s,e s))=some (x,y.1,y.2.1,y.2.2,z):=by
 cases o with
 | none=>exact nomatch J
 | some s =>
  obtain rfl:=oi J;obtain rfl:=oi L;obtain rfl:=oi au;rfl
theorem Sz:∀w os,(tN PySem.Challenge.pw_uf020019_06 w os topN).map (fun s=>(PySem.W.Fast.tw4187177175401517315 (viewOf PySem.Challenge.pw_uf020019_06) [] (importedModules PySem.Challenge.pw_uf020019_06.main.body) (fun s=>xlAt (viewOf PySem.Challenge.pw_uf020019_06) [] s&&recOk (RowW.records (OpenRow.toRowW PySem.Challenge.rw_uf020019_06.row)) s) true s,Hook.obs (topHook TT 40 30 PP.fns) s))=some (openGood (viewOf PySem.Challenge.pw_uf020019_06) [],Hook.val (topHook TT 40 30 PP.fns) w):=fun w os =>
 VA (Su w os) (Sv w os) ((Ph (Sw w os) (Sx w os)).trans (congrArg (fun l=>some (some l)) (hL 27 PP.fns)))
theorem leftX:LeftO PySem.Challenge.pw_uf020019_06 (viewOf PySem.Challenge.pw_uf020019_06) [] (fun s=>xlAt (viewOf PySem.Challenge.pw_uf020019_06) [] s&&recOk (RowW.records (OpenRow.toRowW PySem.Challenge.rw_uf020019_06.row)) s) (Hook.obs (topHook TT 40 30 PP.fns)) (Hook.val (topHook TT 40 30 PP.fns)) topN:=
 SA (by kernel_rfl) (by rfl) (fun s=>by kernel_rfl) Sz
end
end Mine
set_option maxRecDepth 100000
set_option tactic.hygienic true
open PySem PySem.W PyProof.Rows
set_option maxRecDepth 100000 in
set_option maxHeartbeats 8000000 in
theorem PySem.Challenge.cw_uf020019_06_holds : PySem.Challenge.rw_uf020019_06.Holds := by
 w_on
 refine holds_law Mine.saidX fun said=>?_
 refine holds_open (q:=Mine.viewOf PySem.Challenge.pw_uf020019_06) (loose:=[]) (Xt:=fun s=>xlAt (Mine.viewOf PySem.Challenge.pw_uf020019_06) [] s&&recOk (RowW.records (OpenRow.toRowW PySem.Challenge.rw_uf020019_06.row)) s)
  (XP:=XL (Mine.viewOf PySem.Challenge.pw_uf020019_06) []) (Yf:=Hook.obs (Mine.topHook Mine.TT 40 30 Mine.PP.fns)) (Ya:=Hook.val (Mine.topHook Mine.TT 40 30 Mine.PP.fns)) (YP:=Hook.says (Mine.topHook Mine.TT 40 30 Mine.PP.fns)) (N:=Mine.topN)
  Mine.leftX (Hook.of (Mine.topHook Mine.TT 40 30 Mine.PP.fns)) (Hook.keeps (Mine.topHook Mine.TT 40 30 Mine.PP.fns)) (fun s e=>xl_of s (Bool.and_eq_true_iff.mp e).1) XL.keeps (by rfl) (by rfl) (by rfl) (fun s e=>recFacts_of (Bool.and_eq_true_iff.mp e).2)
  (by rfl) (by first | assumption | decide +kernel) (by decide +kernel) ⟨rfl,rfl,rfl,rfl,rfl,by decide +kernel⟩ ?hw ?hc
 (case hw=>w_witness2)
 intro w s₀ s₁ mg mb G mt fa o pm cd doc dV kV ho hd hcd hD hmg hg args vals as hpre hlay hrd hwl hlo
 obtain⟨K,h₀,KX,k₀,k0,k1,k2,k3⟩:=Mine.Says.ex mt
 refine Ground.open G ?_
 intro T B D TE TW
 clear hd hcd hD ho TE TW D B mt
 have hmg':mg (PySem.Str.ofString "law")=some (.ref fa):=hmg
 clear hmg
 wrow_args hpre hlay hrd hwl hlo
 rename_i Y q1 q2 q3 q4 q5 q6 q7 a q8 q9 q10 q11 W q12 q13 q14 hc q15
 obtain⟨S,hrun⟩:=Mine.runX (l:=Y) (by omega)
 have p:Mine.PrgOk ⟨⟨s₁.heap,[],PySem.Challenge.rw_uf020019_06.row.prog,w⟩,mg,mb,false⟩ Mine.TT Mine.PP:=
  Mine.prgOk (n1:=40) (n2:=30) (topRead_of T) KX k₀ k0 k1 k2 k3
 refine Mine.law_end p (f:=36) rfl hmg' ⋯ W hrun fun s' hk ho hg'=>?_
 refine GoodW.toG ⟨.inl ⟨_,_,[],rfl,fun cls=>rfl,.bool true,?_,fun _=>⟨List.nodup_nil,fun a h=>by simp at h⟩⟩,hk,ho,hg'.trans hg⟩
 first | rfl | wrow_post
