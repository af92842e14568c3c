import PyProof.Rows.All
import Wide.All
import OpenK.AllK
import Wide.FinOn
import PySem.Sem
import PyProof.P3Statements
import PyProof.Cells
import PyProof.WalksMore
import PyProof.Claim2
import PyProof.StrBlock2
import PyProof.StrBlockL
import PyProof.SliceMore
import PyProof.SliceStr
import PyProof.Logic
import PyProof.TupleKey
import PyProof.DictList
import PyProof.EqKinds
import PyProof.DictKinds
import PyProof.NsCount
import PyProof.Rows.IntOr
import PyProof.Rows.RuleB_pow
import PyProof.Rows.SeqMore
import PyProof.Rows.TupAdd
import PyProof.Rows.EqDataRows
import PyProof.Rows.InDataRows
import PyProof.DictRoads
import PyProof.DictRoadsH
import PyProof.DictStraight
import PyProof.Rows.TupTab
import PyProof.FactsAll.tuple_2
import PyProof.IsiPairs
import PyProof.IsiNone
import PyProof.IsiHeapPairs
import PyProof.Rows.RuleIs2
import PyProof.Rows.StrRules
import PyProof.Rows.TupSub
import PyProof.Rows.StrTemp
import PyProof.Rows.Lst
import PyProof.ListIndexNeg
import PyProof.Conv_int_bool
import PyProof.Rows.StrMul
import PyProof.Rows.ListMulCarried
import PyProof.SeqI3
import PyProof.StrLawsIn
import PyProof.Rows.SortShell
import PyProof.Rows.SetFrom
import PyProof.Rows.StrInSeq
import PyProof.SetRoads
import PyProof.CallStr
import PyProof.ConsumeWalk
import PyProof.WalkInts
import PyProof.ListCopy
import PyProof.TupleOfSeq
import PyProof.TupleCall
import PyProof.Rows.SortWalk
import PyProof.Rows.ListMade
import PyProof.CompFree
import PyProof.RangeFor
import PyProof.StrWalks
import PyProof.StationsW
import OpenK.KCall
import PyProof.Rows.Exc
import PyProof.ExcBaseAll.ValueError
import PyProof.ExcClsAt2
import PyProof.ExcAttrAll.ValueError
import KE.KIsAll
import OpenK.KMake
import OpenK.KWalk
import PyProof.DictDisplay
import PyProof.StrBlock
import PyProof.DefCall
import PyProof.Rows.Chain
import PyProof.Rows.StrWeight2
import PyProof.SeqRoads2
import PyProof.AutoSeq1
import PyProof.MeetsSeq
import PyProof.Rows.StrSplitJoin
import PyProof.Rows.SeqSlice
import PyProof.Rows.TupMore
import PyProof.SliceStr2
import KE.KRevSl
import PyProof.StrReplace2
import PyProof.Rows.StrLen
import PyProof.Rows.StrCase
import PyProof.ListOps
import PyProof.Raises
import PyProof.RulesAs
import PyProof.AssignAttr
import PyProof.TupleIter
import PyProof.Rows.TupAssign
import PyProof.StrLawsTight
import PyProof.StrLawsChain
import PyProof.Rows.StrItems
import PySem.Challenge.RW_uf020019_02
set_option autoImplicit false
set_option linter.all false
set_option Elab.async false
set_option genInjectivity false
set_option genSizeOf false
set_option bootstrap.genMatcherCode false
namespace Mine
open PySem Classical

/-- abstract values -/
inductive PV where
  | none | bool (b : Bool) | int (i : Int) | str (s : Str)
  | tup (xs : List PV) | fl (xs : List PV) | ref (i : Nat)
  | exc (c : Nat)
  /-- an object of the text's class: where what it holds stands -/
  | inst (c i : Nat)

/-- abstract objects that may change -/
inductive MO where
  | lst (xs : List PV)
  /-- a dict with texts for keys; with a text and a number -/
  | ds (es : List (Str × PV))
  | dp (es : List ((Str × Int) × PV))
  /-- what an object holds, by name -/
  | ns (fs : List (Str × PV))
  | no

noncomputable abbrev Sto := List MO
noncomputable abbrev Loc := List (Option PV)

inductive Out (α : Type) where
  | ok (a : α) (σ : Sto)
  | exc (i : Nat) (σ : Sto)
  | stuck

noncomputable def Out.bind {α β : Type} : Out α → (α → Sto → Out β) → Out β
  | .ok a σ, f => f a σ
  | .exc i σ, _ => .exc i σ
  | .stuck, _ => .stuck

noncomputable def Out.ofOpt {α : Type} : Option α → Sto → Out α
  | some a, σ => .ok a σ
  | none, _ => .stuck

inductive Op where | add | sub | mul | mod | fdiv | pow
inductive Cm where | eq | ne | lt | le | gt | ge | is | isNot | isin | notin
inductive Ty where | int | str | bool | tuple
  | list
inductive B1 where | len | list (fz : Bool) | tuple | all | int | str | lenset
  | dict
inductive Me where | append | extend | pop
  | get

/-- expressions; `nil`/`cons` make lists of expressions -/
inductive X where
  | nil | cons (a r : X)
  | k (v : PV)
  | v (i : Nat)
  | and (xs : X) | or (xs : X) | not (a : X) | neg (a : X)
  | bin (o : Op) (a b : X)
  | cmp (a : X) (o : Cm) (b : X)
  | cmp2 (a : X) (o : Cm) (b : X) (o2 : Cm) (c : X)
  | lst (fz : Bool) (xs : X)
  | tup (xs : X)
  | fdget (ks : List Str) (vals : List PV) (key dflt : X)
  | comp (fz : Bool) (t : Nat) (cap : List (Option Nat)) (elt : X) (cond : X) (it : X)
  | range1 (a : X)
  | call (f : Nat) (args : X)
  | b1 (b : B1) (a : X)
  | min2 (a b : X)
  | isinst (a : X) (t : Ty)
  | isexc (a : X) (sup dom : List Nat)
  | me (m : Me) (o : X) (args : X)
  | sub (o i : X)
  | slice (o lo hi : X)
  | dnew (pk : Bool)
  | new (c f : Nat) (args : X)

/-- a size that the model bears easily -/
noncomputable def lim : Nat := 1000000

/-! values -/
noncomputable def asLst (σ : Sto) : PV → Option (List PV)
  | .fl xs => some xs
  | .ref i => match σ[i]? with
    | some (.lst xs) => some xs
    | _ => none
  | _ => none

/-- what `list`, `tuple` .. take out of a value -/
noncomputable def seqItems (σ : Sto) : PV → Option (List PV)
  | .fl xs => some xs
  | .tup xs => some xs
  | .ref i => match σ[i]? with
    | some (.lst xs) => some xs
    | _ => none
  | _ => none

/-- the signs of a text -/
noncomputable def signsV (s : Str) : List PV := s.cps.toList.map fun n => .str ⟨#[n]⟩
/-- what a `for` takes out of a value -/
noncomputable def items (σ : Sto) : PV → Option (List PV)
  | .str s => some (signsV s)
  | .fl xs => some xs
  | .tup xs => some xs
  | .ref i => match σ[i]? with
    | some (.lst xs) => some xs
    | _ => none
  | _ => none

/-- the value as plain data, all lists read out -/
noncomputable def toD : Nat → Sto → PV → Option PyData
  | 0, _, _ => none
  | n + 1, σ, .tup xs => (xs.mapM (toD n σ)).map .tuple
  | n + 1, σ, .fl xs => (xs.mapM (toD n σ)).map .list
  | n + 1, σ, .ref i => match σ[i]? with
    | some (.lst xs) => (xs.mapM (toD n σ)).map .list
    | _ => none
  | _ + 1, _, .none => some .none
  | _ + 1, _, .bool b => some (.bool b)
  | _ + 1, _, .int i => some (.int i)
  | _ + 1, _, .str s => some (.str s)
  | _ + 1, _, .exc _ => none
  | _ + 1, _, .inst _ _ => none

noncomputable def eqv (σ : Sto) (a b : PV) : Option Bool :=
  match toD 16 σ a, toD 16 σ b with
  | some x, some y => some (PyData.eqv x y)
  | _, _ => none

noncomputable def memv (σ : Sto) (x : PV) (xs : List PV) : Option Bool :=
  match toD 16 σ x, xs.mapM (toD 16 σ) with
  | some d, some ds => some (ds.any fun y => PyData.eqv y d)
  | _, _ => none

/-- what stands at a key; put at a key -/
noncomputable def aget {κ : Type} [DecidableEq κ] (k : κ) (es : List (κ × PV)) : Option PV := (es.find? fun e => decide (e.1 = k)).map (·.2)
noncomputable def aput {κ : Type} [DecidableEq κ] (k : κ) (v : PV) (es : List (κ × PV)) : List (κ × PV) :=
  if (es.any fun e => decide (e.1 = k)) then es.map (fun e => if e.1 = k then (e.1, v) else e) else es ++ [(k, v)]
/-- a text and a number -/
noncomputable def keyP : PV → Option (Str × Int)
  | .tup [.str x, .int i] => some (x, i)
  | _ => none
noncomputable def sget (k : Str) : List (Str × PV) → Option PV
  | [] => none
  | (x, v) :: r => if x = k then some v else sget k r
noncomputable def seqIdx (i : Int) (n : Nat) : Option Nat :=
  if 0 ≤ i then (if i.toNat < n then some i.toNat else none)
  else if 0 ≤ i + n then some (i + n).toNat else none

end Mine

namespace Mine
open PySem

/-- a namespace or dict -/
noncomputable def isDct (o : Obj) : Prop := ∃ es n, o.data = .dict es n
/-- objects that are values: they stay as they are -/
noncomputable def Solid (o : Obj) : Prop := (∃ xs n, o.data = .seq xs n) ∨ (∃ C vs, o.cls = .ref C ∧ o.data = .fields vs) ∨ ∃ C, o.cls = .ref C ∧ o.data = .plain
theorem Solid.seq {c : Value} {d : Option Addr} {xs : Array Value} {n : Nat} {sl : Array (Option Value)} : Solid { cls := c, dict := d, data := .seq xs n, slots := sl } := .inl ⟨xs, n, rfl⟩
theorem isDct.notSolid {o : Obj} (d : isDct o) : ¬ Solid o := by
  obtain ⟨es, n, d⟩ := d
  rintro (⟨xs, m, e⟩ | ⟨C, vs, _, e⟩ | ⟨C, _, e⟩) <;> rw [d] at e <;> contradiction
/-- what stands at an address stays; a frame's slots may change -/
noncomputable def Stays (fr : List Addr) (h' : Heap) (b : Addr) (o : Obj) : Prop := h'.get? b = some o ∨ (b ∈ fr ∧ isDct o ∧ ∃ sl, h'.get? b = some { o with slots := sl })
theorem Stays.trans {fr : List Addr} {h' h'' : Heap} {b : Addr} {o : Obj} (x : Stays fr h' b o) (y : ∀ o', h'.get? b = some o' → Stays fr h'' b o') : Stays fr h'' b o := by
  rcases x with x | ⟨f, d, sl, x⟩
  · rcases y o x with y | ⟨f, d, sl, y⟩
    · exact .inl y
    · exact .inr ⟨f, d, sl, y⟩
  · rcases y _ x with y | ⟨_, _, sl', y⟩
    · exact .inr ⟨f, d, sl, y⟩
    · exact .inr ⟨f, d, sl', y⟩
theorem Stays.ns {fr : List Addr} {h h' : Heap} {b : Addr} {o : Obj} {m : Str → Option Value} (n : h.Ns b m) (e : h.get? b = some o) (x : Stays fr h' b o) : h'.Ns b m := by
  obtain ⟨o', es, ep, e', r⟩ := n
  rw [e] at e'; obtain rfl := Option.some.inj e'
  rcases x with x | ⟨_, d, sl, x⟩
  · exact ⟨o, es, ep, x, r⟩
  · exact ⟨_, es, ep, x, r⟩
theorem Stays.same {fr : List Addr} {h' : Heap} {b : Addr} {o : Obj} (x : Stays fr h' b o) (n : ¬ isDct o) : h'.get? b = some o := by
  rcases x with x | ⟨_, d, _⟩
  · exact x
  · exact absurd d n
theorem Stays.not {fr : List Addr} {h' : Heap} {b : Addr} {o : Obj} (x : Stays fr h' b o) (n : b ∉ fr) : h'.get? b = some o := by
  rcases x with x | ⟨f, _⟩
  · exact x
  · exact absurd f n

/-- where the objects that may change lie; and lists in the making, that no value shows -/
structure AL where
  ix : List Addr
  hid : List Addr
  /-- where the frames' objects lie -/
  fr : List Addr
noncomputable def AL.all (α : AL) : List Addr := α.ix ++ α.hid

/-- values -/
inductive VR (h : Heap) (α : AL) : PV → Value → Prop where
  | none : VR h α .none .none
  | bool (b : Bool) : VR h α (.bool b) (.bool b)
  | int (i : Int) (t : Tok) : VR h α (.int i) (.int i t)
  | str (s : Str) (t : Tok) : PyData.strOk s = true → VR h α (.str s) (.str s t)
  | tup {xs : List PV} {a : Addr} {items : Array Value} {n : Nat} : h.get? a = some { cls := .type "tuple", data := .seq items n } → a ∉ α.all → xs.length = items.size →
      (∀ (i : Nat) (x : PV) (v : Value), xs[i]? = some x → items[i]? = some v → VR h α x v) → VR h α (.tup xs) (.ref a)
  | fl {xs : List PV} {a : Addr} {items : Array Value} {n : Nat} : h.get? a = some { cls := .type "list", data := .seq items n } → a ∉ α.all → xs.length = items.size →
      (∀ (i : Nat) (x : PV) (v : Value), xs[i]? = some x → items[i]? = some v → VR h α x v) → VR h α (.fl xs) (.ref a)
  | ref {i : Nat} {a : Addr} : α.ix[i]? = some a → VR h α (.ref i) (.ref a)
  | exc {c : Nat} {a : Addr} {o : Obj} {vs : Array Value} : h.get? a = some o → o.cls = .ref c → o.data = .fields vs → a ∉ α.all → VR h α (.exc c) (.ref a)
  | inst {c i : Nat} {a D : Addr} : h.get? a = some { cls := .ref c, dict := some D, data := .plain } → a ∉ α.all → α.ix[i]? = some D → VR h α (.inst c i) (.ref a)

/-- what one piece of a run may do: new changing objects behind the old ones; all else stays, but the frame's own objects F -/
structure Ext (F : List Addr) (α : AL) (h : Heap) (α' : AL) (h' : Heap) : Prop where
  hid : α'.hid = α.hid
  pre : ∃ β, α'.ix = α.ix ++ β ∧ ∀ x ∈ β, h.get? x = none ∧ x ∉ F
  seqs : ∀ b o, b ∉ α.ix → h.get? b = some o → Solid o → h'.get? b = some o
  rest : ∀ b o, b ∉ α.ix → b ∉ F → h.get? b = some o → Stays α.fr h' b o
  alive : ∀ b o, b ∉ F → h.get? b = some o → ∃ o', h'.get? b = some o'
  fre : α'.fr = α.fr

theorem Ext.refl {F α h} : Ext F α h α h :=
  ⟨rfl, ⟨[], by simp, fun _ hx => by simp at hx⟩, fun _ _ _ e _ => e, fun _ _ _ _ e => .inl e, fun _ o _ e => ⟨o, e⟩, rfl⟩

theorem Ext.keeps {F α h h'} (k : ∀ b o, h.get? b = some o → h'.get? b = some o) : Ext F α h α h' :=
  ⟨rfl, ⟨[], by simp, fun _ hx => by simp at hx⟩, fun b o _ e _ => k b o e, fun b o _ _ e => .inl (k b o e), fun b o _ e => ⟨o, k b o e⟩, rfl⟩

theorem Ext.notMem {F α h α' h'} (x : Ext F α h α' h') {b : Addr} {o : Obj} (hb : b ∉ α.ix) (e : h.get? b = some o) : b ∉ α'.ix := by
  obtain ⟨β, q, hf⟩ := x.pre
  rw [q]
  intro hm
  rcases List.mem_append.mp hm with q | q
  · exact hb q
  · rw [(hf b q).1] at e; contradiction
theorem AL.not_ix {α : AL} {b : Addr} (h : b ∉ α.all) : b ∉ α.ix := fun q => h (List.mem_append_left _ q)
theorem Ext.notAll {F α h α' h'} (x : Ext F α h α' h') {b : Addr} {o : Obj} (hb : b ∉ α.all) (e : h.get? b = some o) : b ∉ α'.all := by
  intro hm
  rcases List.mem_append.mp hm with q | q
  · exact x.notMem (AL.not_ix hb) e q
  · rw [x.hid] at q; exact hb (List.mem_append_right _ q)

theorem Ext.mono {F F' α h α' h'} (x : Ext F α h α' h') (hF : ∀ b ∈ F, b ∈ F') (al : ∀ b ∈ F', ∃ o, h.get? b = some o) : Ext F' α h α' h' := by
  obtain ⟨β, e, hf⟩ := x.pre
  exact ⟨x.hid, ⟨β, e, fun y hy => ⟨(hf y hy).1, fun q => by obtain ⟨o, ho⟩ := al y q; rw [(hf y hy).1] at ho; cases ho⟩⟩, x.seqs, fun b o hb hbF e => x.rest b o hb (fun q => hbF (hF b q)) e,
    fun b o hb e => x.alive b o (fun q => hb (hF b q)) e, x.fre⟩

theorem Ext.trans {F α h α' h' α'' h''} (x : Ext F α h α' h') (y : Ext F α' h' α'' h'') : Ext F α h α'' h'' := by
  obtain ⟨β, q1, hf⟩ := x.pre
  obtain ⟨γ, q2, hg⟩ := y.pre
  refine ⟨y.hid.trans x.hid, ⟨β ++ γ, by rw [q2, q1, List.append_assoc], fun a ha => ?_⟩, fun b o hb e hs => ?_, fun b o hb hF e => ?_, fun b o hb e => ?_, y.fre.trans x.fre⟩
  · rcases List.mem_append.mp ha with q | q
    · exact hf a q
    · refine ⟨?_, (hg a q).2⟩
      cases hq : h.get? a with
      | none => rfl
      | some o =>
        obtain ⟨o', ho'⟩ := x.alive a o (hg a q).2 hq
        rw [(hg a q).1] at ho'; contradiction
  · exact y.seqs b o (x.notMem hb e) (x.seqs b o hb e hs) hs
  · exact (x.rest b o hb hF e).trans fun o' e' => x.fre ▸ y.rest b o' (x.notMem hb e) hF e'
  · obtain ⟨o', e'⟩ := x.alive b o hb e
    exact y.alive b o' hb e'

/-- objects that were made meanwhile are nobody else's -/
theorem Ext.drop {F own α h α' h' α'' h''} (x : Ext [] α h α' h') (hown : ∀ b ∈ own, h.get? b = none) (al : ∀ b ∈ F, ∃ o, h.get? b = some o) (y : Ext (own ++ F) α' h' α'' h'') : Ext F α h α'' h'' := by
  obtain ⟨β, q1, hf⟩ := x.pre
  obtain ⟨γ, q2, hg⟩ := y.pre
  have no : ∀ b o, h.get? b = some o → b ∉ own := fun b o e q => by rw [hown b q] at e; contradiction
  refine ⟨y.hid.trans x.hid, ⟨β ++ γ, by rw [q2, q1, List.append_assoc], fun a ha => ?_⟩, fun b o hb e hs => ?_, fun b o hb hF e => ?_, fun b o hb e => ?_, y.fre.trans x.fre⟩
  · rcases List.mem_append.mp ha with q | q
    · refine ⟨(hf a q).1, fun qF => ?_⟩
      obtain ⟨o, ho⟩ := al a qF
      rw [(hf a q).1] at ho; contradiction
    · refine ⟨?_, fun qF => (hg a q).2 (List.mem_append_right _ qF)⟩
      cases hq : h.get? a with
      | none => rfl
      | some o =>
        obtain ⟨o', ho'⟩ := x.alive a o (by simp) hq
        rw [(hg a q).1] at ho'; contradiction
  · exact y.seqs b o (x.notMem hb e) (x.seqs b o hb e hs) hs
  · exact (x.rest b o hb (by simp) e).trans fun o' e' => x.fre ▸ y.rest b o' (x.notMem hb e) (fun q => by
      rcases List.mem_append.mp q with q | q
      · exact no b o e q
      · exact hF q) e'
  · obtain ⟨o', e'⟩ := x.alive b o (by simp) e
    exact y.alive b o' (fun q => by
      rcases List.mem_append.mp q with q | q
      · exact no b o e q
      · exact hb q) e'

theorem Ext.get {F α h α' h'} (x : Ext F α h α' h') {i : Nat} {a : Addr} (e : α.ix[i]? = some a) : α'.ix[i]? = some a := by
  obtain ⟨β, q, _⟩ := x.pre
  rw [q, List.getElem?_append_left (List.getElem?_eq_some_iff.mp e).1]; exact e

theorem VR.ext {F α h α' h'} (x : Ext F α h α' h') {p : PV} {v : Value} (r : VR h α p v) : VR h' α' p v := by
  induction r with
  | none => exact .none
  | bool b => exact .bool b
  | int i t => exact .int i t
  | str s t hs => exact .str s t hs
  | tup e hn hl _ ih => exact .tup (x.seqs _ _ (AL.not_ix hn) e .seq) (x.notAll hn e) hl ih
  | fl e hn hl _ ih => exact .fl (x.seqs _ _ (AL.not_ix hn) e .seq) (x.notAll hn e) hl ih
  | ref e => exact .ref (x.get e)
  | exc e hc hd hn => exact .exc (x.seqs _ _ (AL.not_ix hn) e (.inr (.inl ⟨_, _, hc, hd⟩))) hc hd (x.notAll hn e)
  | inst e hn hi => exact .inst (x.seqs _ _ (AL.not_ix hn) e (.inr (.inr ⟨_, rfl, rfl⟩))) (x.notAll hn e) (x.get hi)

/-- lists of values -/
noncomputable def VRs (h : Heap) (α : AL) (xs : List PV) (vs : List Value) : Prop :=
  xs.length = vs.length ∧ ∀ (i : Nat) (x : PV) (v : Value), xs[i]? = some x → vs[i]? = some v → VR h α x v
theorem VRs.nil {h α} : VRs h α [] [] := ⟨rfl, fun _ _ _ e => by simp at e⟩
theorem VRs.cons {h α x xs v vs} (a : VR h α x v) (b : VRs h α xs vs) : VRs h α (x :: xs) (v :: vs) := by
  refine ⟨by simp [b.1], fun i y w e1 e2 => ?_⟩
  cases i with
  | zero => simp at e1 e2; subst e1 e2; exact a
  | succ i => simp at e1 e2; exact b.2 i y w e1 e2
theorem VRs.ext {F α h α' h'} (x : Ext F α h α' h') {p : List PV} {v : List Value} (r : VRs h α p v) : VRs h' α' p v :=
  ⟨r.1, fun i a b e1 e2 => (r.2 i a b e1 e2).ext x⟩
theorem VRs.inv_cons {h α x xs vs} (r : VRs h α (x :: xs) vs) : ∃ v vs', vs = v :: vs' ∧ VR h α x v ∧ VRs h α xs vs' := by
  cases vs with
  | nil => simp [VRs] at r
  | cons v vs' => exact ⟨v, vs', rfl, r.2 0 x v (by simp) (by simp), by have := r.1; simp at this; exact this, fun i a b e1 e2 => r.2 (i + 1) a b (by simpa using e1) (by simpa using e2)⟩
theorem VRs.append {h α xs vs ys ws} (a : VRs h α xs vs) (b : VRs h α ys ws) : VRs h α (xs ++ ys) (vs ++ ws) := by
  refine ⟨by simp [a.1, b.1], fun i y w e1 e2 => ?_⟩
  by_cases hi : i < xs.length
  · rw [List.getElem?_append_left hi] at e1
    rw [List.getElem?_append_left (by rw [← a.1]; exact hi)] at e2
    exact a.2 i y w e1 e2
  · rw [List.getElem?_append_right (by omega)] at e1
    rw [List.getElem?_append_right (by rw [← a.1]; omega), ← a.1] at e2
    exact b.2 _ y w e1 e2
theorem VR.tupI {h : Heap} {α : AL} {xs : List PV} {a : Addr} {items : List Value} {n : Nat} (e : h.get? a = some { cls := .type "tuple", data := .seq items.toArray n }) (hn : a ∉ α.all) (r : VRs h α xs items) : VR h α (.tup xs) (.ref a) :=
  .tup e hn (by simpa using r.1) fun i x v e1 e2 => r.2 i x v e1 (by simpa using e2)
theorem VR.flI {h : Heap} {α : AL} {xs : List PV} {a : Addr} {items : List Value} {n : Nat} (e : h.get? a = some { cls := .type "list", data := .seq items.toArray n }) (hn : a ∉ α.all) (r : VRs h α xs items) : VR h α (.fl xs) (.ref a) :=
  .fl e hn (by simpa using r.1) fun i x v e1 e2 => r.2 i x v e1 (by simpa using e2)
inductive SeqAt (T : String) (h : Heap) (α : AL) (xs : List PV) (v : Value) : Prop
  | mk (a : Addr) (items : List Value) (n : Nat) (e : v = .ref a) (ht : h.get? a = some { cls := .type T, data := .seq (List.toArray items) n }) (hn : a ∉ α.all) (vs : VRs h α xs items) : SeqAt T h α xs v
theorem VR.tupE {h : Heap} {α : AL} {xs : List PV} {v : Value} (r : VR h α (.tup xs) v) : SeqAt "tuple" h α xs v := by
  cases r with
  | tup e hn hl hr => exact ⟨_, _, _, rfl, by simpa using e, hn, by simpa using hl, fun i x v e1 e2 => hr i x v e1 (by simpa using e2)⟩
theorem VR.flE {h : Heap} {α : AL} {xs : List PV} {v : Value} (r : VR h α (.fl xs) v) : SeqAt "list" h α xs v := by
  cases r with
  | fl e hn hl hr => exact ⟨_, _, _, rfl, by simpa using e, hn, by simpa using hl, fun i x v e1 e2 => hr i x v e1 (by simpa using e2)⟩
end Mine

namespace Mine
open PySem Classical

/-- what the text's own classes and functions are, seen from a body -/
structure Cfg where
  call : Nat → List PV → Sto → Out PV
  /-- in a handler: what iterates is not covered -/
  hd : Bool
  callH : Nat → List PV → Sto → Out PV
noncomputable def Cfg.inH (C : Cfg) : Cfg := ⟨C.callH, true, C.callH⟩

noncomputable def watchOk (w : Option (Nat × List PV)) (σ : Sto) : Prop :=
  match w with
  | none => True
  | some (i, xs) => σ[i]? = some (.lst xs)

noncomputable def consO : Option PV → List PV → List PV
  | some v, ys => v :: ys
  | none, ys => ys
noncomputable def compGo (w : Option (Nat × List PV)) (f : PV → Sto → Out (Option PV)) : List PV → Sto → Out (List PV)
  | [], σ => if watchOk w σ then .ok [] σ else .stuck
  | x :: xs, σ => if watchOk w σ then (f x σ).bind fun y σ => (compGo w f xs σ).bind fun ys σ => .ok (consO y ys) σ else .stuck

/-- what is done with the items that a comprehension made; how many there were to look at -/
noncomputable def compFin (n : Nat) (c : Out (List PV)) (f : List PV → Sto → Out PV) : Out PV :=
  match c with
  | .ok ys σ => f ys σ
  | .exc i σ => if n ≤ lim then .exc i σ else .stuck
  | .stuck => .stuck
noncomputable def watchOf (σ : Sto) : PV → Option (Nat × List PV)
  | .ref i => match σ[i]? with
    | some (.lst xs) => some (i, xs)
    | _ => none
  | _ => none

noncomputable def mkLst (fz : Bool) (xs : List PV) (σ : Sto) : Out PV :=
  if xs.length ≤ lim then (if fz then .ok (.fl xs) σ else .ok (.ref σ.length) (σ ++ [.lst xs])) else .stuck

noncomputable def intRange (a c : Int) (n : Nat) : List PV := (List.range n).map fun (i : Nat) => .int (a + (i : Int) * c)
noncomputable def mulOk (a b : Int) : Bool := decide (a.natAbs < 2 ^ 60 ∨ b.natAbs < 2 ^ 60)

/-- on two numbers -/
noncomputable def arith (f : Int → Int → Out PV) (a b : PV) : Out PV :=
  match a with
  | .int x => match b with
    | .int y => f x y
    | _ => .stuck
  | _ => .stuck
noncomputable def addv (a b : PV) (σ : Sto) : Out PV :=
  match a with
  | .int x => match b with
    | .int y => .ok (.int (x + y)) σ
    | _ => .stuck
  | .str x => match b with
    | .str y => if x.length + y.length ≤ lim then .ok (.str (x ++ y)) σ else .stuck
    | _ => .stuck
  | .tup x => match b with
    | .tup y => if x.length + y.length ≤ lim then .ok (.tup (x ++ y)) σ else .stuck
    | _ => .stuck
  | a => match asLst σ a with
    | some x => match asLst σ b with
      | some y => if x.length + y.length ≤ lim then .ok (.fl (x ++ y)) σ else .stuck
      | none => .stuck
    | none => .stuck
noncomputable def mulv (a b : PV) (σ : Sto) : Out PV :=
  match b with
  | .int y => match a with
    | .int x => if mulOk x y then .ok (.int (x * y)) σ else .stuck
    | .str x => if x.length ≤ 100 ∧ 0 ≤ y ∧ y ≤ 100 then .ok (.str (Txt.mul x y)) σ else .stuck
    | .fl xs => if xs.length ≤ 100 ∧ 0 ≤ y ∧ y ≤ 100 then .ok (.fl (List.replicate y.toNat xs).flatten) σ else .stuck
    | .tup xs => if (xs.length ≤ 100 ∧ 2 ≤ y ∧ y ≤ 100) ∧ xs.isEmpty = false then .ok (.tup (List.replicate y.toNat xs).flatten) σ else .stuck
    | _ => .stuck
  | _ => .stuck
noncomputable def binop (o : Op) (a b : PV) (σ : Sto) : Out PV :=
  match o with
  | .add => addv a b σ
  | .sub => arith (fun x y => .ok (.int (x - y)) σ) a b
  | .mul => mulv a b σ
  | .mod => arith (fun x y => if y = 0 then .stuck else .ok (.int (x.fmod y)) σ) a b
  | .fdiv => arith (fun x y => if y ≠ 0 ∧ y.natAbs < 1073741824 then .ok (.int (x.fdiv y)) σ else .stuck) a b
  | .pow => arith (fun x n => if 0 ≤ n ∧ n ≤ 100 ∧ x = 10 then .ok (.int (x ^ n.toNat)) σ else .stuck) a b

noncomputable def ordv (f : Int → Int → Bool) (a b : PV) (σ : Sto) : Out Bool :=
  match a with
  | .int x => match b with
    | .int y => .ok (f x y) σ
    | _ => .stuck
  | _ => .stuck
noncomputable def isNoneV : PV → Bool
  | .none => true
  | _ => false
noncomputable def isv (f : Bool → Bool) (a b : PV) (σ : Sto) : Out Bool :=
  match b with
  | .none => .ok (f (isNoneV a)) σ
  | .bool y => match a with
    | .bool x => .ok (f (decide (x = y))) σ
    | _ => .stuck
  | _ => .stuck
noncomputable def isinv (a b : PV) (σ : Sto) : Option Bool :=
  match b with
  | .str y => match a with
    | .str x => match x.cps.toList with
      | [c] => some (y.cps.toList.contains c)
      | _ => none
    | _ => none
  | .tup xs => memv σ a xs
  | .fl xs => memv σ a xs
  | .ref r => match σ[r]? with
    | some (.lst xs) => memv σ a xs
    | some (.ds es) => match a with
      | .str k => some (aget k es).isSome
      | _ => none
    | some (.dp es) => (keyP a).map fun k => (aget k es).isSome
    | _ => none
  | _ => none
noncomputable def cmpop (o : Cm) (a b : PV) (σ : Sto) : Out Bool :=
  match o with
  | .eq => Out.ofOpt (eqv σ a b) σ
  | .ne => Out.ofOpt ((eqv σ a b).map (!·)) σ
  | .lt => ordv (fun x y => decide (x < y)) a b σ
  | .le => ordv (fun x y => decide (x ≤ y)) a b σ
  | .gt => ordv (fun x y => decide (x > y)) a b σ
  | .ge => ordv (fun x y => decide (x ≥ y)) a b σ
  | .is => isv id a b σ
  | .isNot => isv (!·) a b σ
  | .isin => Out.ofOpt (isinv a b σ) σ
  | .notin => Out.ofOpt ((isinv a b σ).map (!·)) σ

noncomputable def allBools : List PV → Option (List Bool)
  | [] => some []
  | .bool b :: r => (allBools r).map (b :: ·)
  | _ :: _ => none
noncomputable def allStrs : List PV → Option (List Str)
  | [] => some []
  | .str s :: r => (allStrs r).map (s :: ·)
  | _ :: _ => none

/-- each once -/
noncomputable def dedupS (l : List Str) : List Str := l.foldl (fun a x => if a.any (· == x) then a else a ++ [x]) []

/-- what is done with the items of a list or tuple; with the numbers, truth values, texts of a list -/
noncomputable def onSeq (f : List PV → Out PV) (a : PV) (σ : Sto) : Out PV :=
  match seqItems σ a with
  | some xs => f xs
  | none => .stuck
noncomputable def onAll {α : Type} (g : List PV → Option α) (f : α → Out PV) (a : PV) (σ : Sto) : Out PV :=
  match (asLst σ a).bind g with
  | some l => f l
  | none => .stuck
noncomputable def lenv (a : PV) (σ : Sto) : Out PV :=
  match a with
  | .str s => if s.length ≤ lim then .ok (.int s.length) σ else .stuck
  | a => onSeq (fun xs => if xs.length ≤ lim then .ok (.int xs.length) σ else .stuck) a σ
noncomputable def intv (a : PV) (σ : Sto) : Out PV :=
  match a with
  | .bool b => .ok (.int (if b then 1 else 0)) σ
  | _ => .stuck
noncomputable def strv (a : PV) (σ : Sto) : Out PV :=
  match a with
  | .str s => .ok (.str s) σ
  | .int i => if 0 ≤ i ∧ i < 1000000000 then .ok (.str (Str.ofString (toString i))) σ else .stuck
  | _ => .stuck
/-- a dict of pairs -/
noncomputable def dpOf : List PV → List ((Str × Int) × PV) → Option (List ((Str × Int) × PV))
  | [], es => some es
  | .tup [k, v] :: r, es => match keyP k with
    | some k => dpOf r (aput k v es)
    | none => none
  | _ :: _, _ => none
noncomputable def dictv (a : PV) (σ : Sto) : Out PV :=
  match a with
  | .ref r => match σ[r]? with
    | some (.dp es) => if es.length ≤ lim then .ok (.ref σ.length) (σ ++ [.dp es]) else .stuck
    | _ => .stuck
  | .fl xs => match dpOf xs [] with
    | some es => if xs.length ≤ lim then .ok (.ref σ.length) (σ ++ [.dp es]) else .stuck
    | none => .stuck
  | _ => .stuck
noncomputable def b1v (b : B1) (a : PV) (σ : Sto) : Out PV :=
  match b with
  | .dict => dictv a σ
  | .len => lenv a σ
  | .list fz => onSeq (fun xs => mkLst fz xs σ) a σ
  | .tuple => onSeq (fun xs => if xs.length ≤ lim then .ok (.tup xs) σ else .stuck) a σ
  | .all => onAll allBools (fun l => .ok (.bool (l.all id)) σ) a σ
  | .int => intv a σ
  | .str => strv a σ
  | .lenset => match (seqItems σ a).bind allStrs with
    | some l => if l.length ≤ 1000 then .ok (.int (dedupS l).length) σ else .stuck
    | none => .stuck

/-- what iterates -/
noncomputable def heavy : B1 → Bool
  | .all | .lenset => true
  | .dict => true
  | _ => false
noncomputable def b1g (hd : Bool) (b : B1) (a : PV) (σ : Sto) : Out PV := bif hd && heavy b then .stuck else b1v b a σ

/-- of the class or one that stands below it -/
noncomputable def isexcv (a : PV) (sup dom : List Nat) (σ : Sto) : Out Bool :=
  match a with
  | .exc c => if dom.contains c then .ok (sup.contains c) σ else .stuck
  | _ => .stuck

noncomputable def isinstv (a : PV) (t : Ty) (σ : Sto) : Out Bool :=
  match t with
  | .int => match a with
    | .int _ => .ok true σ
    | .bool _ => .ok true σ
    | .none => .ok false σ
    | .str _ => .ok false σ
    | _ => .stuck
  | .bool => match a with
    | .bool _ => .ok true σ
    | .int _ => .ok false σ
    | .none => .ok false σ
    | .str _ => .ok false σ
    | _ => .stuck
  | .str => match a with
    | .str _ => .ok true σ
    | .int _ => .ok false σ
    | .none => .ok false σ
    | .bool _ => .ok false σ
    | .tup _ => .ok false σ
    | _ => .stuck
  | .tuple => match a with
    | .tup _ => .ok true σ
    | .str _ => .ok false σ
    | .int _ => .ok false σ
    | _ => .stuck
  | .list => match a with
    | .tup _ => .ok false σ
    | a => match asLst σ a with
      | some _ => .ok true σ
      | none => .stuck

noncomputable def itemAt (xs : List PV) (i : Int) (σ : Sto) : Out PV := if xs.length ≤ lim then Out.ofOpt ((seqIdx i xs.length).bind (xs[·]?)) σ else .stuck
/-- out of a dict -/
noncomputable def subD (o i : PV) (σ : Sto) : Out PV :=
  match o with
  | .ref r => match σ[r]? with
    | some (.ds es) => match i with
      | .str k => Out.ofOpt (aget k es) σ
      | _ => .stuck
    | some (.dp es) => Out.ofOpt ((keyP i).bind fun k => aget k es) σ
    | _ => .stuck
  | _ => .stuck
noncomputable def subv (o i : PV) (σ : Sto) : Out PV :=
  match i with
  | .int i => match o with
    | .str s => if s.cps.size ≤ lim then
        match (seqIdx i s.cps.size).bind (s.cps[·]?) with
        | some c => .ok (.str ⟨#[c]⟩) σ
        | none => .stuck
      else .stuck
    | .tup xs => itemAt xs i σ
    | o => match asLst σ o with
      | some xs => itemAt xs i σ
      | none => .stuck
  | i => subD o i σ

noncomputable def optInt : PV → Option (Option Int)
  | .none => some none
  | .int i => some (some i)
  | _ => none
noncomputable def sliceOf {α : Type} (xs : List α) (lo hi : Option Int) : List α :=
  (xs.drop (lo.elim 0 (clipAt xs.length))).take (hi.elim xs.length (clipAt xs.length) - lo.elim 0 (clipAt xs.length))
noncomputable def sliceS (s : Str) (lo hi : Option Int) : Str := ⟨(sliceOf s.cps.toList lo hi).toArray⟩
noncomputable def slicev (o lo hi : PV) (σ : Sto) : Out PV :=
  match optInt lo, optInt hi with
  | some lo, some hi => match o with
    | .str x => if x.length ≤ lim then .ok (.str (sliceS x lo hi)) σ else .stuck
    | .tup xs => if xs.length ≤ lim then .ok (.tup (sliceOf xs lo hi)) σ else .stuck
    | o => match asLst σ o with
      | some xs => if xs.length ≤ lim then .ok (.fl (sliceOf xs lo hi)) σ else .stuck
      | none => .stuck
  | _, _ => .stuck
noncomputable def negv (a : PV) (σ : Sto) : Out PV :=
  match a with
  | .int i => .ok (.int (-i)) σ
  | _ => .stuck

noncomputable def isMut (o : PV) (σ : Sto) : Bool :=
  match o with
  | .ref r => match σ[r]? with
    | some (.lst _) => true
    | _ => false
  | _ => false
noncomputable def isTxt : PV → Bool
  | .str _ => true
  | _ => false
noncomputable def isDic (o : PV) (σ : Sto) : Bool :=
  match o with
  | .ref r => match σ[r]? with
    | some (.ds _) => true
    | some (.dp _) => true
    | _ => false
  | _ => false
/-- an object that has the method -/
noncomputable def meOk (m : Me) (o : PV) (σ : Sto) : Bool :=
  match m with
  | .append | .extend | .pop => isMut o σ
  | .get => isDic o σ

noncomputable def appendv (o v : PV) (σ : Sto) : Out PV :=
  match o with
  | .ref r => match σ[r]? with
    | some (.lst xs) => if xs.length < lim then .ok .none (σ.set r (.lst (xs ++ [v]))) else .stuck
    | _ => .stuck
  | _ => .stuck
noncomputable def extendv (o v : PV) (σ : Sto) : Out PV :=
  match o with
  | .ref r => match σ[r]? with
    | some (.lst xs) => match v with
      | .tup ys => if xs.length + ys.length ≤ lim then .ok .none (σ.set r (.lst (xs ++ ys))) else .stuck
      | .fl ys => if xs.length + ys.length ≤ lim then .ok .none (σ.set r (.lst (xs ++ ys))) else .stuck
      | _ => .stuck
    | _ => .stuck
  | _ => .stuck
/-- `get` with nothing else -/
noncomputable def getv (o v : PV) (σ : Sto) : Out PV :=
  match o with
  | .ref r => match σ[r]? with
    | some (.ds es) => match v with
      | .str k => .ok ((aget k es).getD .none) σ
      | _ => .stuck
    | some (.dp es) => match keyP v with
      | some k => .ok ((aget k es).getD .none) σ
      | none => .stuck
    | _ => .stuck
  | _ => .stuck
noncomputable def popv (o v : PV) (σ : Sto) : Out PV :=
  match o with
  | .ref r => match σ[r]? with
    | some (.lst xs) => match v with
      | .int i => if 0 ≤ i ∧ xs.length ≤ lim then match xs[i.toNat]? with
          | some v => .ok v (σ.set r (.lst (xs.eraseIdx i.toNat)))
          | none => .stuck
        else .stuck
      | _ => .stuck
    | _ => .stuck
  | _ => .stuck
/-- a method of a built-in object -/
noncomputable def mev (m : Me) (o : PV) (args : List PV) (σ : Sto) : Out PV :=
  match args with
  | [v] => match m with
    | .append => appendv o v σ
    | .extend => extendv o v σ
    | .pop => popv o v σ
    | .get => getv o v σ
  | _ => .stuck

noncomputable def min2v (x y : PV) (σ : Sto) : Out PV :=
  match x, y with
  | .int x, .int y => .ok (.int (min x y)) σ
  | _, _ => .stuck
noncomputable def fdgetv (ks : List Str) (vals : List PV) (key dflt : PV) (σ : Sto) : Out PV :=
  match key with
  | .str k => .ok ((sget k (ks.zip vals)).getD dflt) σ
  | _ => .stuck

noncomputable def truthv (v : PV) (σ : Sto) : Out Bool :=
  match v with
  | .bool b => .ok b σ
  | _ => .stuck

noncomputable def itv (v : PV) (σ : Sto) : Out (List PV × Option (Nat × List PV)) :=
  match items σ v with
  | some xs => .ok (xs, watchOf σ v) σ
  | none => .stuck
noncomputable def range1v (a : PV) (σ : Sto) : Out (List PV × Option (Nat × List PV)) :=
  match a with
  | .int n => if 0 ≤ n ∧ n ≤ lim then .ok (intRange 0 1 n.toNat, none) σ else .stuck
  | _ => .stuck

/-- the slots of a comprehension -/
noncomputable def capLoc (cap : List (Option Nat)) (ρ : Loc) : Loc := cap.map fun (o : Option Nat) => match o with | some i => (ρ[i]?).join | none => none
noncomputable def valAt (ρ : Loc) (i : Nat) (σ : Sto) : Out PV :=
  match ρ[i]? with
  | some (some v) => .ok v σ
  | _ => .stuck

/-- what an expression means: its value; as a list of expressions: their values, `and`, `or`; its truth; what a loop takes out of it -/
structure Den where
  ev : Loc → Sto → Out PV
  tst : Loc → Sto → Out Bool
  evs : Loc → Sto → Out (List PV)
  evAnd : Loc → Sto → Out PV
  evOr : Loc → Sto → Out PV
  tstAnd : Loc → Sto → Out Bool
  tstOr : Loc → Sto → Out Bool
  evIt : Loc → Sto → Out (List PV × Option (Nat × List PV))
noncomputable def Den.two (e : Loc → Sto → Out PV) (t : Loc → Sto → Out Bool) : Den :=
  ⟨e, t, fun _ _ => .stuck, fun _ _ => .stuck, fun _ _ => .stuck, fun _ _ => .stuck, fun _ _ => .stuck, fun ρ σ => (e ρ σ).bind itv⟩
noncomputable def Den.val (e : Loc → Sto → Out PV) : Den := Den.two e fun ρ σ => (e ρ σ).bind truthv
noncomputable def Den.nil : Den :=
  ⟨fun _ _ => .stuck, fun _ _ => .stuck, fun _ σ => .ok [] σ, fun _ _ => .stuck, fun _ _ => .stuck, fun _ σ => .ok true σ, fun _ σ => .ok false σ, fun _ _ => .stuck⟩
noncomputable def Den.cons (a : Den) (last : Bool) (r : Den) : Den :=
  ⟨fun _ _ => .stuck, fun _ _ => .stuck, fun ρ σ => (a.ev ρ σ).bind fun v σ => (r.evs ρ σ).bind fun vs σ => .ok (v :: vs) σ,
    fun ρ σ => if last then a.ev ρ σ else (a.ev ρ σ).bind fun v σ => (truthv v σ).bind fun b σ => if b then r.evAnd ρ σ else .ok v σ,
    fun ρ σ => if last then a.ev ρ σ else (a.ev ρ σ).bind fun v σ => (truthv v σ).bind fun b σ => if b then .ok v σ else r.evOr ρ σ,
    fun ρ σ => (a.tst ρ σ).bind fun b σ => if b then r.tstAnd ρ σ else .ok false σ,
    fun ρ σ => (a.tst ρ σ).bind fun b σ => if b then .ok true σ else r.tstOr ρ σ,
    fun _ _ => .stuck⟩
/-- only for loops -/
noncomputable def Den.it (f : Loc → Sto → Out (List PV × Option (Nat × List PV))) : Den :=
  ⟨fun _ _ => .stuck, fun _ _ => .stuck, fun _ _ => .stuck, fun _ _ => .stuck, fun _ _ => .stuck, fun _ _ => .stuck, fun _ _ => .stuck, f⟩
noncomputable def X.isNil : X → Bool
  | .nil => true
  | _ => false

/-- a new object of the class -/
noncomputable def newv (C : Cfg) (c f : Nat) (vs : List PV) (σ : Sto) : Out PV :=
  (C.call f (.inst c σ.length :: vs) (σ ++ [.ns []])).bind fun v σ' => match v with
    | .none => .ok (.inst c σ.length) σ'
    | _ => .stuck
noncomputable def sem (C : Cfg) : X → Den
  | .nil => Den.nil
  | .cons a r => Den.cons (sem C a) r.isNil (sem C r)
  | .k v => .val fun _ σ => .ok v σ
  | .v i => .val fun ρ σ => valAt ρ i σ
  | .and xs => .two (sem C xs).evAnd (sem C xs).tstAnd
  | .or xs => .two (sem C xs).evOr (sem C xs).tstOr
  | .not a => .two (fun ρ σ => ((sem C a).ev ρ σ).bind fun v σ => (truthv v σ).bind fun b σ => .ok (.bool (!b)) σ) (fun ρ σ => ((sem C a).tst ρ σ).bind fun b σ => .ok (!b) σ)
  | .neg a => .val fun ρ σ => ((sem C a).ev ρ σ).bind negv
  | .bin o a b => .val fun ρ σ => ((sem C a).ev ρ σ).bind fun x σ => ((sem C b).ev ρ σ).bind fun y σ => binop o x y σ
  | .cmp a o b => .two (fun ρ σ => ((sem C a).ev ρ σ).bind fun x σ => ((sem C b).ev ρ σ).bind fun y σ => (cmpop o x y σ).bind fun r σ => .ok (.bool r) σ)
      (fun ρ σ => ((sem C a).ev ρ σ).bind fun x σ => ((sem C b).ev ρ σ).bind fun y σ => cmpop o x y σ)
  | .cmp2 a o b o2 c => .two (fun ρ σ => ((sem C a).ev ρ σ).bind fun x σ => ((sem C b).ev ρ σ).bind fun y σ => (cmpop o x y σ).bind fun r σ =>
      if r then ((sem C c).ev ρ σ).bind fun z σ => (cmpop o2 y z σ).bind fun r σ => .ok (.bool r) σ else .ok (.bool false) σ)
      (fun ρ σ => ((sem C a).ev ρ σ).bind fun x σ => ((sem C b).ev ρ σ).bind fun y σ => (cmpop o x y σ).bind fun r σ =>
      if r then ((sem C c).ev ρ σ).bind fun z σ => cmpop o2 y z σ else .ok false σ)
  | .lst fz xs => .val fun ρ σ => ((sem C xs).evs ρ σ).bind fun vs σ => mkLst fz vs σ
  | .tup xs => .val fun ρ σ => ((sem C xs).evs ρ σ).bind fun vs σ => if vs.length ≤ lim then .ok (.tup vs) σ else .stuck
  | .fdget ks vals key dflt => .val fun ρ σ => ((sem C key).ev ρ σ).bind fun k σ => ((sem C dflt).ev ρ σ).bind fun d σ => fdgetv ks vals k d σ
  | .comp fz t cap elt cond it => .val fun ρ σ => bif C.hd then .stuck else ((sem C it).evIt ρ σ).bind fun (xs, w) σ =>
      compFin xs.length (compGo w (fun x σ =>
        ((sem C cond).tst ((capLoc cap ρ).set t (some x)) σ).bind fun b σ => if b then ((sem C elt).ev ((capLoc cap ρ).set t (some x)) σ).bind fun v σ => .ok (some v) σ else .ok none σ) xs σ) fun ys σ => mkLst fz ys σ
  | .range1 a => .it fun ρ σ => ((sem C a).ev ρ σ).bind range1v
  | .dnew pk => .val fun _ σ => .ok (.ref σ.length) (σ ++ [bif pk then .dp [] else .ds []])
  | .new c f args => .val fun ρ σ => ((sem C args).evs ρ σ).bind fun vs σ => newv C c f vs σ
  | .call f args => .val fun ρ σ => ((sem C args).evs ρ σ).bind fun vs σ => C.call f vs σ
  | .b1 b a => .val fun ρ σ => ((sem C a).ev ρ σ).bind fun v σ => b1g C.hd b v σ
  | .min2 a b => .val fun ρ σ => bif C.hd then .stuck else ((sem C a).ev ρ σ).bind fun x σ => ((sem C b).ev ρ σ).bind fun y σ => min2v x y σ
  | .isinst a t => .val fun ρ σ => ((sem C a).ev ρ σ).bind fun v σ => (isinstv v t σ).bind fun b σ => .ok (.bool b) σ
  | .isexc a sup dom => .val fun ρ σ => ((sem C a).ev ρ σ).bind fun v σ => (isexcv v sup dom σ).bind fun b σ => .ok (.bool b) σ
  | .me m o args => .val fun ρ σ => ((sem C o).ev ρ σ).bind fun r σ => if meOk m r σ then ((sem C args).evs ρ σ).bind fun vs σ => mev m r vs σ else .stuck
  | .sub o i => .val fun ρ σ => ((sem C o).ev ρ σ).bind fun x σ => ((sem C i).ev ρ σ).bind fun y σ => subv x y σ
  | .slice o lo hi => .val fun ρ σ => ((sem C o).ev ρ σ).bind fun x σ => ((sem C lo).ev ρ σ).bind fun a σ => ((sem C hi).ev ρ σ).bind fun b σ => slicev x a b σ

noncomputable def ev (C : Cfg) (x : X) (ρ : Loc) (σ : Sto) : Out PV := (sem C x).ev ρ σ
noncomputable def evs (C : Cfg) (x : X) (ρ : Loc) (σ : Sto) : Out (List PV) := (sem C x).evs ρ σ
noncomputable def evAnd (C : Cfg) (x : X) (ρ : Loc) (σ : Sto) : Out PV := (sem C x).evAnd ρ σ
noncomputable def evOr (C : Cfg) (x : X) (ρ : Loc) (σ : Sto) : Out PV := (sem C x).evOr ρ σ
noncomputable def tst (C : Cfg) (x : X) (ρ : Loc) (σ : Sto) : Out Bool := (sem C x).tst ρ σ
noncomputable def tstAnd (C : Cfg) (x : X) (ρ : Loc) (σ : Sto) : Out Bool := (sem C x).tstAnd ρ σ
noncomputable def tstOr (C : Cfg) (x : X) (ρ : Loc) (σ : Sto) : Out Bool := (sem C x).tstOr ρ σ
noncomputable def evIt (C : Cfg) (x : X) (ρ : Loc) (σ : Sto) : Out (List PV × Option (Nat × List PV)) := (sem C x).evIt ρ σ

section
variable {C : Cfg} {ρ : Loc} {σ : Sto}
theorem ev_k {v : PV} : ev C (.k v) ρ σ = .ok v σ := rfl
theorem ev_v {i : Nat} : ev C (.v i) ρ σ = valAt ρ i σ := rfl
theorem ev_and {xs : X} : ev C (.and xs) ρ σ = evAnd C xs ρ σ := rfl
theorem ev_or {xs : X} : ev C (.or xs) ρ σ = evOr C xs ρ σ := rfl
theorem ev_not {a : X} : ev C (.not a) ρ σ = (ev C a ρ σ).bind fun v σ => (truthv v σ).bind fun b σ => .ok (.bool (!b)) σ := rfl
theorem ev_neg {a : X} : ev C (.neg a) ρ σ = (ev C a ρ σ).bind negv := rfl
theorem ev_bin {o : Op} {a b : X} : ev C (.bin o a b) ρ σ = (ev C a ρ σ).bind fun x σ => (ev C b ρ σ).bind fun y σ => binop o x y σ := rfl
theorem ev_cmp {o : Cm} {a b : X} : ev C (.cmp a o b) ρ σ = (ev C a ρ σ).bind fun x σ => (ev C b ρ σ).bind fun y σ => (cmpop o x y σ).bind fun r σ => .ok (.bool r) σ := rfl
theorem ev_cmp2 {o o2 : Cm} {a b c : X} : ev C (.cmp2 a o b o2 c) ρ σ = (ev C a ρ σ).bind fun x σ => (ev C b ρ σ).bind fun y σ => (cmpop o x y σ).bind fun r σ =>
      if r then (ev C c ρ σ).bind fun z σ => (cmpop o2 y z σ).bind fun r σ => .ok (.bool r) σ else .ok (.bool false) σ := rfl
theorem ev_lst {fz : Bool} {xs : X} : ev C (.lst fz xs) ρ σ = (evs C xs ρ σ).bind fun vs σ => mkLst fz vs σ := rfl
theorem ev_tup {xs : X} : ev C (.tup xs) ρ σ = (evs C xs ρ σ).bind fun vs σ => if vs.length ≤ lim then .ok (.tup vs) σ else .stuck := rfl
theorem ev_fdget {ks : List Str} {vals : List PV} {key dflt : X} : ev C (.fdget ks vals key dflt) ρ σ = (ev C key ρ σ).bind fun k σ => (ev C dflt ρ σ).bind fun d σ => fdgetv ks vals k d σ := rfl
theorem ev_comp {fz : Bool} {t : Nat} {cap : List (Option Nat)} {elt cond it : X} : ev C (.comp fz t cap elt cond it) ρ σ = bif C.hd then .stuck else (evIt C it ρ σ).bind fun (xs, w) σ =>
      compFin xs.length (compGo w (fun x σ =>
        (tst C cond ((capLoc cap ρ).set t (some x)) σ).bind fun b σ => if b then (ev C elt ((capLoc cap ρ).set t (some x)) σ).bind fun v σ => .ok (some v) σ else .ok none σ) xs σ) fun ys σ => mkLst fz ys σ := rfl
theorem ev_call {f : Nat} {args : X} : ev C (.call f args) ρ σ = (evs C args ρ σ).bind fun vs σ => C.call f vs σ := rfl
theorem ev_b1 {b : B1} {a : X} : ev C (.b1 b a) ρ σ = (ev C a ρ σ).bind fun v σ => b1g C.hd b v σ := rfl
theorem ev_min2 {a b : X} : ev C (.min2 a b) ρ σ = bif C.hd then .stuck else (ev C a ρ σ).bind fun x σ => (ev C b ρ σ).bind fun y σ => min2v x y σ := rfl
theorem ev_isinst {a : X} {t : Ty} : ev C (.isinst a t) ρ σ = (ev C a ρ σ).bind fun v σ => (isinstv v t σ).bind fun b σ => .ok (.bool b) σ := rfl
theorem ev_me {m : Me} {o args : X} : ev C (.me m o args) ρ σ = (ev C o ρ σ).bind fun r σ => if meOk m r σ then (evs C args ρ σ).bind fun vs σ => mev m r vs σ else .stuck := rfl
theorem ev_sub {o i : X} : ev C (.sub o i) ρ σ = (ev C o ρ σ).bind fun x σ => (ev C i ρ σ).bind fun y σ => subv x y σ := rfl
theorem ev_slice {o lo hi : X} : ev C (.slice o lo hi) ρ σ = (ev C o ρ σ).bind fun x σ => (ev C lo ρ σ).bind fun a σ => (ev C hi ρ σ).bind fun b σ => slicev x a b σ := rfl
theorem evs_nil : evs C .nil ρ σ = .ok [] σ := rfl
theorem evs_cons {a r : X} : evs C (.cons a r) ρ σ = (ev C a ρ σ).bind fun v σ => (evs C r ρ σ).bind fun vs σ => .ok (v :: vs) σ := rfl
theorem evAnd_nil : evAnd C .nil ρ σ = .stuck := rfl
theorem evAnd_one {a : X} : evAnd C (.cons a .nil) ρ σ = ev C a ρ σ := rfl
theorem evAnd_cons {a b r : X} : evAnd C (.cons a (.cons b r)) ρ σ = (ev C a ρ σ).bind fun v σ => (truthv v σ).bind fun t σ => if t then evAnd C (.cons b r) ρ σ else .ok v σ := rfl
theorem evOr_nil : evOr C .nil ρ σ = .stuck := rfl
theorem evOr_one {a : X} : evOr C (.cons a .nil) ρ σ = ev C a ρ σ := rfl
theorem evOr_cons {a b r : X} : evOr C (.cons a (.cons b r)) ρ σ = (ev C a ρ σ).bind fun v σ => (truthv v σ).bind fun t σ => if t then .ok v σ else evOr C (.cons b r) ρ σ := rfl
theorem tst_and {xs : X} : tst C (.and xs) ρ σ = tstAnd C xs ρ σ := rfl
theorem tst_or {xs : X} : tst C (.or xs) ρ σ = tstOr C xs ρ σ := rfl
theorem tst_not {a : X} : tst C (.not a) ρ σ = (tst C a ρ σ).bind fun b σ => .ok (!b) σ := rfl
theorem tst_cmp {o : Cm} {a b : X} : tst C (.cmp a o b) ρ σ = (ev C a ρ σ).bind fun x σ => (ev C b ρ σ).bind fun y σ => cmpop o x y σ := rfl
theorem tst_cmp2 {o o2 : Cm} {a b c : X} : tst C (.cmp2 a o b o2 c) ρ σ = (ev C a ρ σ).bind fun x σ => (ev C b ρ σ).bind fun y σ => (cmpop o x y σ).bind fun r σ =>
      if r then (ev C c ρ σ).bind fun z σ => cmpop o2 y z σ else .ok false σ := rfl
theorem tst_call {f : Nat} {args : X} : tst C (.call f args) ρ σ = (ev C (.call f args) ρ σ).bind truthv := rfl
theorem tst_b1 {b : B1} {a : X} : tst C (.b1 b a) ρ σ = (ev C (.b1 b a) ρ σ).bind truthv := rfl
theorem tst_isinst {a : X} {t : Ty} : tst C (.isinst a t) ρ σ = (ev C (.isinst a t) ρ σ).bind truthv := rfl
theorem tst_v {i : Nat} : tst C (.v i) ρ σ = (ev C (.v i) ρ σ).bind truthv := rfl
theorem tst_k {v : PV} : tst C (.k v) ρ σ = truthv v σ := rfl
theorem tstAnd_nil : tstAnd C .nil ρ σ = .ok true σ := rfl
theorem tstAnd_cons {a r : X} : tstAnd C (.cons a r) ρ σ = (tst C a ρ σ).bind fun b σ => if b then tstAnd C r ρ σ else .ok false σ := rfl
theorem tstOr_nil : tstOr C .nil ρ σ = .ok false σ := rfl
theorem tstOr_cons {a r : X} : tstOr C (.cons a r) ρ σ = (tst C a ρ σ).bind fun b σ => if b then .ok true σ else tstOr C r ρ σ := rfl
theorem evIt_range1 {a : X} : evIt C (.range1 a) ρ σ = (ev C a ρ σ).bind range1v := rfl
theorem ev_new {c f : Nat} {args : X} : ev C (.new c f args) ρ σ = (evs C args ρ σ).bind fun vs σ => newv C c f vs σ := rfl
end

/-! statements -/
inductive S where
  | nil | cons (a r : S)
  | asg (i : Nat) (x : X)
  | asgSub (o i x : X)
  | expr (x : X)
  | ret (x : X)
  | ife (c : X) (a b : S)
  | for1 (i : Nat) (it : X) (body : S)
  | brk
  | asgAttr (c : Nat) (o : X) (n : Str) (x : X)
  | asgT (is : List Nat) (x : X)
  | raise (c : Nat)
  | tryE (body : S) (sup : List Nat) (i : Nat) (h : S)

inductive OutS where
  | next (ρ : Loc) (σ : Sto)
  | brk (ρ : Loc) (σ : Sto)
  | cont (ρ : Loc) (σ : Sto)
  | ret (v : PV) (ρ : Loc) (σ : Sto)
  | exc (i : Nat) (ρ : Loc) (σ : Sto)
  | stuck

noncomputable def Out.toS {α : Type} (o : Out α) (ρ : Loc) (f : α → Sto → OutS) : OutS :=
  match o with
  | .ok a σ => f a σ
  | .exc i σ => .exc i ρ σ
  | .stuck => .stuck

/-- behind one turn of a loop -/
noncomputable def loopOn (go : Loc → Sto → OutS) : OutS → OutS
  | .next ρ σ => go ρ σ
  | .cont ρ σ => go ρ σ
  | .brk ρ σ => .next ρ σ
  | .ret v ρ σ => .ret v ρ σ
  | _ => .stuck
noncomputable def bindOn (f : Loc → OutS) : Option Loc → OutS
  | none => .stuck
  | some ρ => f ρ
noncomputable def forGo (w : Option (Nat × List PV)) (bind : PV → Loc → Option Loc) (f : Loc → Sto → OutS) : List PV → Loc → Sto → OutS
  | [], ρ, σ => if watchOk w σ then .next ρ σ else .stuck
  | x :: xs, ρ, σ => if watchOk w σ then bindOn (fun ρ => loopOn (forGo w bind f xs) (f ρ σ)) (bind x ρ) else .stuck

noncomputable def storeSub (o i v : PV) (ρ : Loc) (σ : Sto) : OutS :=
  match o with
  | .ref r => match σ[r]?, i with
    | some (.lst xs), .int i => if 0 ≤ i ∧ i.toNat < xs.length ∧ xs.length ≤ lim then .next ρ (σ.set r (.lst (xs.set i.toNat v))) else .stuck
    | some (.ds es), .str k => if es.length < lim then .next ρ (σ.set r (.ds (aput k v es))) else .stuck
    | some (.dp es), k => match keyP k with
      | some k => if es.length < lim then .next ρ (σ.set r (.dp (aput k v es))) else .stuck
      | none => .stuck
    | _, _ => .stuck
  | _ => .stuck
noncomputable def storeAttr (c : Nat) (o : PV) (n : Str) (v : PV) (ρ : Loc) (σ : Sto) : OutS :=
  match o with
  | .inst c' i => if c' = c then (match σ[i]? with
    | some (.ns fs) => if fs.length < 100 then .next ρ (σ.set i (.ns (aput n v fs))) else .stuck
    | _ => .stuck) else .stuck
  | _ => .stuck
noncomputable def setAll : List Nat → List PV → Loc → Option Loc
  | [], [], ρ => some ρ
  | i :: is, v :: vs, ρ => setAll is vs (ρ.set i (some v))
  | _, _, _ => none
/-- the parts of a tuple -/
noncomputable def bindT (is : List Nat) (v : PV) (ρ : Loc) : Option Loc :=
  match v with
  | .tup xs => if xs.length ≤ 100 then setAll is xs ρ else none
  | _ => none

noncomputable def bind1 (i : Nat) (v : PV) (ρ : Loc) : Option Loc := some (ρ.set i (some v))

/-- behind a handler nothing is known of the names -/
noncomputable def clearS : OutS → OutS
  | .next ρ σ => .next (ρ.map fun _ => none) σ
  | .ret v ρ σ => .ret v (ρ.map fun _ => none) σ
  | _ => .stuck

noncomputable def ex (C : Cfg) (N : Nat) : S → Loc → Sto → OutS
  | .nil, ρ, σ => .next ρ σ
  | .cons a r, ρ, σ => match ex C N a ρ σ with
    | .next ρ σ => ex C N r ρ σ
    | o => o
  | .asg i x, ρ, σ => (ev C x ρ σ).toS ρ fun v σ => .next (ρ.set i (some v)) σ
  | .asgSub o i x, ρ, σ => (ev C x ρ σ).toS ρ fun v σ => (ev C o ρ σ).toS ρ fun o σ => (ev C i ρ σ).toS ρ fun i σ => storeSub o i v ρ σ
  | .asgAttr c o n x, ρ, σ => (ev C x ρ σ).toS ρ fun v σ => (ev C o ρ σ).toS ρ fun o σ => storeAttr c o n v ρ σ
  | .asgT is x, ρ, σ => bif C.hd then .stuck else (ev C x ρ σ).toS ρ fun v σ => match bindT is v ρ with
    | some ρ => .next ρ σ
    | none => .stuck
  | .expr x, ρ, σ => (ev C x ρ σ).toS ρ fun _ σ => .next ρ σ
  | .ret x, ρ, σ => (ev C x ρ σ).toS ρ fun v σ => .ret v ρ σ
  | .ife c a b, ρ, σ => (tst C c ρ σ).toS ρ fun t σ => if t then ex C N a ρ σ else ex C N b ρ σ
  | .for1 i it body, ρ, σ => bif C.hd then .stuck else (evIt C it ρ σ).toS ρ fun (xs, w) σ => forGo w (bind1 i) (fun ρ σ => ex C N body ρ σ) xs ρ σ
  | .brk, ρ, σ => .brk ρ σ
  | .raise c, ρ, σ => bif C.hd then .stuck else .exc c ρ σ
  | .tryE body sup i h, ρ, σ => match ex C N body ρ σ with
    | .exc c ρ σ => bif C.hd then .stuck else if sup.contains c ∧ i < ρ.length then clearS (ex C.inH N h (ρ.set i (some (.exc c))) σ) else .stuck
    | o => o

/-- the text's functions -/
structure Fn where
  params : Nat
  slots : Nat
  body : S

structure Prg where
  fns : List Fn

noncomputable def callH (P : Prg) (N : Nat) : Bool → Nat → Nat → List PV → Sto → Out PV
  | _, 0, _, _, _ => .stuck
  | hd, d + 1, f, vs, σ => match P.fns[f]? with
    | some fn => if vs.length = fn.params then
        match ex ⟨callH P N hd d, hd, callH P N true d⟩ N fn.body (vs.map some ++ List.replicate (fn.slots - fn.params) none) σ with
        | .next _ σ => .ok .none σ
        | .ret v _ σ => .ok v σ
        | .exc i _ σ => .exc i σ
        | _ => .stuck
      else .stuck
    | none => .stuck
noncomputable def callN (P : Prg) (N : Nat) : Nat → Nat → List PV → Sto → Out PV := callH P N false
noncomputable def cfg (P : Prg) (N : Nat) (hd : Bool) (d : Nat) : Cfg := ⟨callH P N hd d, hd, callH P N true d⟩
end Mine

namespace Mine
open PySem

/-! small steps that may fail -/
section
variable {α β γ δ ε ζ : Type} {a : Option α} {b : Option β} {c : Option γ} {d : Option δ}
noncomputable def onlyIf (q : Bool) (o : Option α) : Option α := bif q then o else none
theorem onlyIf_e {q : Bool} {x : α} {P : Prop} (h : onlyIf q a = some x) (k : q = true → a = some x → P) : P := by
  cases q with
  | true => exact k rfl h
  | false => exact nomatch h
noncomputable def optE (a : Option α) (f : α → Option β) (y : Option β) : Option β := match a with
  | some x => f x
  | none => y
theorem optE_e {f : α → Option β} {y : Option β} {z : β} {P : Prop} (h : optE a f y = some z) (k1 : ∀ x, a = some x → f x = some z → P) (k2 : a = none → y = some z → P) : P := by
  cases a with
  | none => exact k2 rfl h
  | some x => exact k1 x rfl h
theorem cond_e {q : Bool} {o o' : Option α} {x : α} {P : Prop} (h : (bif q then o else o') = some x) (k1 : q = true → o = some x → P) (k2 : o' = some x → P) : P := by
  cases q with
  | true => exact k1 rfl h
  | false => exact k2 h
theorem bind_e {f : α → Option β} {z : β} {P : Prop} (h : a.bind f = some z) (k : ∀ x, a = some x → f x = some z → P) : P := by
  cases a with
  | none => exact nomatch h
  | some x => exact k x rfl h
theorem map_e {f : α → β} {M : β → Prop} {z : β} (h : a.map f = some z) (k : ∀ x, a = some x → M (f x)) : M z := by
  cases a with
  | none => exact nomatch h
  | some x => obtain rfl := Option.some.inj h; exact k x rfl
noncomputable def o2 (a : Option α) (b : Option β) (f : α → β → ζ) : Option ζ := a.bind fun x => b.map (f x)
theorem o2_e {f : α → β → ζ} {M : ζ → Prop} {z : ζ} (h : o2 a b f = some z) (k : ∀ x y, a = some x → b = some y → M (f x y)) : M z :=
  bind_e h fun x h1 h => map_e h fun y h2 => k x y h1 h2
noncomputable def o3 (a : Option α) (b : Option β) (c : Option γ) (f : α → β → γ → ζ) : Option ζ := a.bind fun x => o2 b c (f x)
theorem o3_e {f : α → β → γ → ζ} {M : ζ → Prop} {z : ζ} (h : o3 a b c f = some z) (k : ∀ x y w, a = some x → b = some y → c = some w → M (f x y w)) : M z :=
  bind_e h fun x h1 h => o2_e h fun y w h2 h3 => k x y w h1 h2 h3
noncomputable def o4 (a : Option α) (b : Option β) (c : Option γ) (d : Option δ) (f : α → β → γ → δ → ζ) : Option ζ := a.bind fun x => o3 b c d (f x)
theorem o4_e {f : α → β → γ → δ → ζ} {M : ζ → Prop} {z : ζ} (h : o4 a b c d f = some z) (k : ∀ x y w u, a = some x → b = some y → c = some w → d = some u → M (f x y w u)) : M z :=
  bind_e h fun x h1 h => o3_e h fun y w u h2 h3 h4 => k x y w u h1 h2 h3 h4
noncomputable def one : List α → Option α
  | [] => none
  | x :: r => onlyIf r.isEmpty (some x)
theorem one_is {l : List α} {x : α} (h : one l = some x) : l = [x] := by
  cases l with
  | nil => exact nomatch h
  | cons y r =>
    refine onlyIf_e h fun h1 h2 => ?_
    rw [List.isEmpty_iff.mp h1, Option.some.inj h2]
end
noncomputable def relab (N names : List (Str × NameKind)) : List (Str × NameKind) := names.map fun (n, k) => if (k == .free && N.lookup n == some .cell) then (n, .cell) else (n, k)
noncomputable def capOf (N N' : List (Str × NameKind)) : List (Option Nat) := N'.map fun (n, k) => if k == .cell then N.findIdx? (·.1 == n) else none
/-- what the text's names mean -/
structure Tab where
  fns : List Str
  cst : List (Str × PV)
  bins : List Str
  muts : List (Nat × Nat)
  /-- the text's exception classes: name, where it lies, where those above it lie -/
  excs : List (Str × Nat × List Nat)
  /-- the text's class: name and where it lies; its methods, in the program behind the functions -/
  brd : Option (Str × Nat)
  meths : List Str
  /-- `replace` is used -/
  repl : Bool
  /-- where dicts with texts for keys are made -/
  dstr : List (Nat × Nat)

noncomputable def trConst : Const → Option PV
  | .none => some .none
  | .bool b => some (.bool b)
  | .int i => some (.int i)
  | .str s => onlyIf (PyData.strOk s) (some (.str s))
  | _ => none
noncomputable def trOp : Operator → Option Op
  | .Add => some .add | .Sub => some .sub | .Mult => some .mul | .Mod => some .mod | .FloorDiv => some .fdiv | .Pow => some .pow
  | _ => none
noncomputable def trCm : CmpOp → Option Cm
  | .Eq => some .eq | .NotEq => some .ne | .Lt => some .lt | .LtE => some .le | .Gt => some .gt | .GtE => some .ge
  | .Is => some .is | .IsNot => some .isNot | .In => some .isin | .NotIn => some .notin
theorem look_mem {α : Type} {x : Str} {v : α} : ∀ {l : List (Str × α)}, l.lookup x = some v → (x, v) ∈ l
  | [], h => by cases h
  | (y, u) :: l, h => by
    rw [List.lookup_cons] at h
    cases hb : x == y with
    | true => rw [hb] at h; cases h; rw [eq_of_beq hb]; exact .head _
    | false => rw [hb] at h; exact .tail _ (look_mem h)
noncomputable def b1Tab (fz : Bool) : List (Str × B1) := [("len", .len), ("list", .list fz), ("tuple", .tuple), ("all", .all), ("int", .int), ("str", .str)
  ]
noncomputable def b1Name (fz : Bool) (x : Str) : Option B1 := (b1Tab fz).lookup x
noncomputable def meTab : List (Str × Me) := [("append", .append), ("extend", .extend), ("pop", .pop)
  , ("get", .get)
  ]
noncomputable def meName (x : Str) : Option Me := meTab.lookup x
noncomputable def tyTab : List (Str × Ty) := [("int", .int), ("str", .str), ("bool", .bool), ("tuple", .tuple)
  , ("list", .list)
  ]
noncomputable def tyName (x : Str) : Option Ty := tyTab.lookup x
/-- the builtins' values -/
noncomputable def biTab : List (Str × Value) := [("len", .builtin "len"), ("list", .type "list"), ("tuple", .type "tuple"), ("min", .builtin "min"), ("all", .builtin "all"), ("int", .type "int"), ("str", .type "str"), ("bool", .type "bool"), ("ValueError", .type "ValueError"), ("isinstance", .builtin "isinstance"), ("range", .type "range"), ("set", .type "set")
  , ("dict", .type "dict")
  ]
noncomputable def biVal (x : Str) : Option Value := biTab.lookup x

/-- the names that an object of the class may hold -/
noncomputable def attrNames : List Str := ["plan", "turns", "givers", "outer", "here", "gone", "order"]
noncomputable def scOkB : List (Str × NameKind) → Bool
  | [] => true
  | (x, k) :: r => !(r.any fun p => p.1 == x) && !(x == ("__debug__" : Str)) && (k == .local || k == .cell || k == .globalImplicit) && scOkB r
noncomputable def isIt : X → Bool
  | .range1 _ => true
  | _ => false

noncomputable def trL (f : Expr → Option X) : List Expr → Option X
  | [] => some .nil
  | e :: r => o2 (f e) (trL f r) .cons
noncomputable def nameX (T : Tab) (x : Str) (i : Nat) : NameKind → Option X
  | .local => some (.v i)
  | .cell => some (.v i)
  | .globalImplicit => (T.cst.lookup x).map .k
  | _ => none
noncomputable def trName (T : Tab) (N : List (Str × NameKind)) (x : Str) : Option X :=
  (N.findIdx? (·.1 == x)).bind fun i => (N[i]?).bind fun q => nameX T x i q.2
noncomputable def isG (N : List (Str × NameKind)) (x : Str) : Bool := N.lookup x == some .globalImplicit
noncomputable def isB (T : Tab) (N : List (Str × NameKind)) (x : Str) : Bool := isG N x && T.bins.contains x
/-- a text that stands there -/
noncomputable def litS : Expr → Option Str
  | .Constant c _ _ => match c with
    | .str x => onlyIf (PyData.strOk x) (some x)
    | _ => none
  | _ => none
noncomputable def litC : Expr → Option PV
  | .Constant c _ _ => trConst c
  | _ => none
noncomputable def dictKeys : List (Option Expr) → Option (List Str)
  | [] => some []
  | k :: r => o2 (k.bind litS) (dictKeys r) fun s l => s :: l
noncomputable def litCs : List Expr → Option (List PV)
  | [] => some []
  | e :: r => o2 (litC e) (litCs r) fun s l => s :: l
noncomputable def dictVals (n : Nat) (l : List Expr) : Option (List PV) := onlyIf (l.length == n) (litCs l)

/-- the classes at or below a class -/
noncomputable def supOf (T : Tab) (c : Nat) : List Nat := (T.excs.filter fun p => p.2.1 == c || p.2.2.contains c).map (·.2.1)
noncomputable def excOf (T : Tab) (N : List (Str × NameKind)) (x : Str) : Option Nat := onlyIf (isG N x) ((T.excs.lookup x).map (·.1))
/-- the classes that a name covers; all of them are of `ValueError` -/
noncomputable def excSup (T : Tab) (N : List (Str × NameKind)) (x : Str) : Option (List Nat) :=
  optE (excOf T N x) (fun c => some (supOf T c)) (onlyIf (x == "ValueError" && isB T N x) (some (T.excs.map (·.2.1))))
noncomputable def isName : Expr → Option (Str × Pos)
  | .Name x p => some (x, p)
  | _ => none
structure Call1 where
  g : Str
  p : Pos
  a : Expr
  pos : Pos
/-- a name called with one thing -/
noncomputable def call1 : Expr → Option Call1
  | .Call f as ks pos => onlyIf ks.isEmpty (o2 (isName f) (one as) fun n a => ⟨n.1, n.2, a, pos⟩)
  | _ => none
/-- `len(set(x))` -/
noncomputable def lenSet (T : Tab) (N : List (Str × NameKind)) (g : Str) (a : Expr) : Option Expr :=
  (call1 a).bind fun q => onlyIf (g == "len" && q.g == "set" && isB T N q.g) (some q.a)
noncomputable def trRange (T : Tab) (N : List (Str × NameKind)) (f : Expr → Option X) (e : Expr) : Option X :=
  (call1 e).bind fun q => onlyIf (q.g == "range" && isB T N q.g) ((f q.a).map .range1)
noncomputable def trOne (T : Tab) (N : List (Str × NameKind)) (f : Expr → Option X) (pos : Pos) (g : Str) (a : Expr) : Option X :=
  optE (lenSet T N g a) (fun x => (f x).map (.b1 .lenset)) (o2 (b1Name (!(T.muts.contains (pos.line, pos.col))) g) (f a) .b1)
noncomputable def trTwo (T : Tab) (N : List (Str × NameKind)) (f : Expr → Option X) (g : Str) (a b : Expr) : Option X :=
  bif g == "isinstance" then
    (isName b).bind fun q => optE (excSup T N q.1) (fun sup => (f a).map fun x => .isexc x sup (T.excs.map (·.2.1))) (onlyIf (isB T N q.1) (o2 (f a) (tyName q.1) .isinst))
  else onlyIf (g == "min") (o2 (f a) (f b) .min2)
noncomputable def trArgs (T : Tab) (N : List (Str × NameKind)) (f : Expr → Option X) (pos : Pos) (g : Str) : List Expr → Option X
  | [] => none
  | a :: r => match r with
    | [] => trOne T N f pos g a
    | b :: r => onlyIf r.isEmpty (trTwo T N f g a b)
/-- the text's class, called -/
noncomputable def trNew (T : Tab) (f : Expr → Option X) (g : Str) (args : List Expr) : Option X :=
  T.brd.bind fun q => onlyIf (g == q.1 && !args.isEmpty) ((T.meths.findIdx? (· == ("__init__" : Str))).bind fun j => (trL f args).map (.new q.2 (T.fns.length + j)))
noncomputable def trCall (T : Tab) (N : List (Str × NameKind)) (f : Expr → Option X) (pos : Pos) (g : Str) (args : List Expr) : Option X :=
  onlyIf (isG N g) (optE (T.fns.findIdx? (· == g)) (fun i => onlyIf (!args.isEmpty) ((trL f args).map (.call i))) (optE (trNew T f g args) some (onlyIf (T.bins.contains g) (trArgs T N f pos g args))))

noncomputable def trItV (f : Expr → Option X) (e : Expr) : Option X := (f e).bind fun x => onlyIf (!isIt x) (some x)
noncomputable def trIt (T : Tab) (N : List (Str × NameKind)) (f : Expr → Option X) (e : Expr) : Option X :=
  optE (trRange T N f e) some (trItV f e)

noncomputable def trIf (f : Expr → Option X) : List Expr → Option X
  | [] => some (.k (.bool true))
  | c :: r => onlyIf r.isEmpty (f c)
noncomputable def trComp (T : Tab) (N : List (Str × NameKind)) (f : List (Str × NameKind) → Expr → Option X) (elt : Expr) (x : Str) (iter : Expr) (ifs : List Expr) (scope : Scope) (pos : Pos) : Option X :=
  onlyIf (scope.kind == .function && scOkB (relab N scope.names) && scope.names.all (fun p => p.2 != .cell))
    (((relab N scope.names).findIdx? (·.1 == x)).bind fun t => onlyIf ((relab N scope.names)[t]? == some (x, NameKind.local))
      (o3 (trIt T N (f N) iter) (f (relab N scope.names) elt) (trIf (f (relab N scope.names)) ifs) fun it elt c => .comp (!(T.muts.contains (pos.line, pos.col))) t (capOf N (relab N scope.names)) elt c it))

noncomputable def trOpt (f : Expr → Option X) : Option Expr → Option X
  | none => some (.k .none)
  | some e => f e
/-- not a call without arguments -/
noncomputable def notCall0 : Expr → Bool
  | .Call _ a _ _ => !a.isEmpty
  | _ => true

noncomputable def trCmp (f : Expr → Option X) (l : Expr) (os : List CmpOp) (rs : List Expr) : Option X :=
  match os with
  | [] => none
  | o :: os => match rs with
    | [] => none
    | r :: rs => match os with
      | [] => onlyIf rs.isEmpty (o3 (trCm o) (f l) (f r) fun o a b => .cmp a o b)
      | o2 :: os => match rs with
        | [] => none
        | r2 :: rs => onlyIf (os.isEmpty && rs.isEmpty) ((trCm o).bind fun o => o4 (f l) (f r) (trCm o2) (f r2) fun a b o2 c => .cmp2 a o b o2 c)
noncomputable def isDict : Expr → Option (List (Option Expr) × List Expr × Pos)
  | .Dict ks vs p => some (ks, vs, p)
  | _ => none
noncomputable def trGet (f : Expr → Option X) (ks : List (Option Expr)) (vs : List Expr) (m : Str) (args : List Expr) : Option X :=
  match args with
  | [] => none
  | k :: r => (one r).bind fun d => onlyIf (m == "get") ((dictKeys ks).bind fun l => onlyIf (decide l.Nodup && decide (l.length ≤ 15) && !l.isEmpty) (o3 (dictVals ks.length vs) (f k) (f d) fun vs k d => .fdget l vs k d))
noncomputable def trM1 (f : Expr → Option X) (o : Expr) (m : Str) (a : Expr) : Option X := o3 (meName m) (f o) (f a) fun m o a => .me m o (.cons a .nil)
noncomputable def trMs (T : Tab) (f : Expr → Option X) (o : Expr) (m : Str) : List Expr → Option X
  | [] => none
  | a :: r => match r with
    | [] => trM1 f o m a
    | _ :: _ => none
noncomputable def trMeth (T : Tab) (f : Expr → Option X) (o : Expr) (m : Str) (args : List Expr) : Option X :=
  optE (isDict o) (fun q => trGet f q.1 q.2.1 m args) (onlyIf (notCall0 o) (trMs T f o m args))
noncomputable def trCallE (T : Tab) (N : List (Str × NameKind)) (f : Expr → Option X) (fn : Expr) (args : List Expr) (pos : Pos) : Option X :=
  match fn with
  | .Name g _ => trCall T N f pos g args
  | .Attribute o m apos => onlyIf (apos.endLine == pos.line) (trMeth T f o m args)
  | _ => none
noncomputable def trSl (f : Expr → Option X) (o : Expr) (lo hi : Option Expr) : Option Expr → Option X
  | none => o3 (f o) (trOpt f lo) (trOpt f hi) .slice
  | some _ => none
noncomputable def asSlice : Expr → Option (Option Expr × Option Expr × Option Expr × Pos)
  | .Slice lo hi st p => some (lo, hi, st, p)
  | _ => none
noncomputable def trSubs (f : Expr → Option X) (o i : Expr) : Option X :=
  optE (asSlice i) (fun q => trSl f o q.1 q.2.1 q.2.2.1) (o2 (f o) (f i) .sub)
noncomputable def trCompE (T : Tab) (N : List (Str × NameKind)) (f : List (Str × NameKind) → Expr → Option X) (elt : Expr) (gens : List Comprehension) (scope : Scope) (pos : Pos) : Option X :=
  (one gens).bind fun g => onlyIf (g.is_async == 0) ((isName g.target).bind fun q => trComp T N f elt q.1 g.iter g.ifs scope pos)
noncomputable def trStep (T : Tab) (f : List (Str × NameKind) → Expr → Option X) (N : List (Str × NameKind)) (e : Expr) : Option X :=
    match e with
    | .Constant c _ _ => (trConst c).map .k
    | .Name x _ => trName T N x
    | .BoolOp o es _ => match o with
      | .And => (trL (f N) es).map .and
      | .Or => (trL (f N) es).map .or
    | .UnaryOp o a _ => match o with
      | .Not => (f N a).map .not
      | .USub => (f N a).map .neg
      | _ => none
    | .BinOp l o r _ => o3 (trOp o) (f N l) (f N r) .bin
    | .Compare l os rs _ => trCmp (f N) l os rs
    | .List es pos => (trL (f N) es).map (.lst (!(T.muts.contains (pos.line, pos.col))))
    | .Tuple es _ _ => (trL (f N) es).map .tup
    | .Call fn args kws pos => onlyIf kws.isEmpty (trCallE T N (f N) fn args pos)
    | .Subscript o i _ => trSubs (f N) o i
    | .Dict ks vs pos => onlyIf (ks.isEmpty && vs.isEmpty) (some (.dnew (!(T.dstr.contains (pos.line, pos.col)))))
    | .ListComp elt gens scope pos => trCompE T N f elt gens scope pos
    | _ => none
noncomputable def trE (T : Tab) : Nat → List (Str × NameKind) → Expr → Option X
  | 0, _, _ => none
  | n + 1, N, e => trStep T (trE T n) N e
noncomputable def isComp : Expr → Bool
  | .ListComp .. | .SetComp .. | .DictComp .. => true
  | _ => false
noncomputable def slotK : NameKind → Bool
  | .local => true
  | .cell => true
  | _ => false
noncomputable def slotOf (N : List (Str × NameKind)) (x : Str) : Option Nat :=
  (N.findIdx? (·.1 == x)).bind fun i => (N[i]?).bind fun q => onlyIf (slotK q.2) (some i)
noncomputable def trSs (g : Stmt → Option S) : List Stmt → Option S
  | [] => some .nil
  | st :: r => o2 (g st) (trSs g r) .cons
noncomputable def asComp : Expr → Option (Expr × List Comprehension × Scope × Pos)
  | .ListComp elt gens scope pos => some (elt, gens, scope, pos)
  | _ => none
/-- the slots of several names -/
noncomputable def slotsOf (N : List (Str × NameKind)) : List Expr → Option (List Nat)
  | [] => some []
  | e :: r => o2 ((isName e).bind fun q => slotOf N q.1) (slotsOf N r) fun i l => i :: l
noncomputable def trAsg (T : Tab) (N : List (Str × NameKind)) (f₀ : List (Str × NameKind) → Expr → Option X) (f : Expr → Option X) (t v : Expr) : Option S :=
  match t with
  | .Name z _ => optE (asComp v) (fun q => o2 (slotOf N z) (trCompE T N f₀ q.1 q.2.1 q.2.2.1 q.2.2.2) .asg) (onlyIf (!isComp v) (o2 (slotOf N z) (f v) .asg))
  | .Subscript o i _ => onlyIf (!isComp v) (o3 (f o) (f i) (f v) .asgSub)
  | .Attribute o n _ => T.brd.bind fun q => onlyIf (!isComp v && attrNames.contains n) (o2 (f o) (f v) fun o v => .asgAttr q.2 o n v)
  | .Tuple ts _ _ => onlyIf (isName v).isSome (o2 (slotsOf N ts) (f v) .asgT)
  | _ => none
/-- `raise X('..')` -/
noncomputable def trRaise (T : Tab) (N : List (Str × NameKind)) (e : Option Expr) : Option S :=
  (e.bind call1).bind fun q => (litS q.a).bind fun _ => (excOf T N q.g).map .raise
/-- `except X as y:` -/
noncomputable def trH (T : Tab) (N : List (Str × NameKind)) (g : Stmt → Option S) (b : List Stmt) : ExceptHandler → Option S
  | .ExceptHandler t y hb _ => (t.bind isName).bind fun q => y.bind fun y => (excOf T N q.1).bind fun c => (slotOf N y).bind fun i => onlyIf (N[i]? == some (y, NameKind.local) && !hb.isEmpty)
      (o2 (trSs g b) (trSs g hb) fun b h => .tryE b (supOf T c) i h)
noncomputable def trTry (T : Tab) (N : List (Str × NameKind)) (g : Stmt → Option S) (b : List Stmt) (hs : List ExceptHandler) : Option S := (one hs).bind (trH T N g b)
noncomputable def trSStep (T : Tab) (N : List (Str × NameKind)) (f₀ : List (Str × NameKind) → Expr → Option X) (f : Expr → Option X) (g : Stmt → Option S) (st : Stmt) : Option S :=
  match st with
  | .Assign ts v _ => (one ts).bind fun t => trAsg T N f₀ f t v
  | .Expr e _ => onlyIf (!isComp e) ((f e).map .expr)
  | .Return v _ => match v with
    | some e => (f e).map .ret
    | none => none
  | .If t b o _ => o3 (f t) (trSs g b) (trSs g o) .ife
  | .For t it b o _ => onlyIf o.isEmpty ((isName t).bind fun q => o3 (slotOf N q.1) (trIt T N f it) (trSs g b) .for1)
  | .Break _ => some .brk
  | .Raise e c _ => onlyIf c.isNone (trRaise T N e)
  | .Try b hs o fi _ => onlyIf (o.isEmpty && fi.isEmpty) (trTry T N g b hs)
  | _ => none
noncomputable def trS (T : Tab) (N : List (Str × NameKind)) (f : List (Str × NameKind) → Expr → Option X) : Nat → Stmt → Option S
  | 0, _ => none
  | n + 1, st => trSStep T N f (f N) (trS T N f n) st

end Mine

namespace Mine
open PySem

/-! the counter of tokens never goes back -/
theorem runs_toks {M : Model} {Γ : PySem.Ctx} {p : Pos} {t : Sem Fin} {fs : List Frame} {s : Shared} {e : End} {s' : Shared} (h : PySem.Runs M Γ p t fs s e s') : s.toks ≤ s'.toks := by
  induction h <;> first | exact Nat.le_refl _ | assumption | (try simp only [Shared.setGen] at *) <;> first | assumption | omega
theorem wakes_toks {M : Model} {Γ : PySem.Ctx} {p : Pos} {g : Nat} {r : Resume} {s : Shared} {res : GenResult} {s' : Shared} (h : PySem.Wakes M Γ p g r s res s') : s.toks ≤ s'.toks := by
  unfold PySem.Wakes at h
  split at h
  · exact h.elim
  · split at h
    · obtain ⟨e, s₁, h1, _, _, rfl⟩ := h
      have := runs_toks h1; exact this
    · rw [h.2]; exact Nat.le_refl _
    · rw [h.2]; exact Nat.le_refl _
  · obtain ⟨e, s₁, h1, _, _, rfl⟩ := h
    have := runs_toks h1; exact this
  · rw [h.2]; exact Nat.le_refl _
  · rw [h.2]; exact Nat.le_refl _
theorem wp_toks {γ : Type} {M : Model} {Γ : PySem.Ctx} {n : Nat} (t : Sem γ) : ∀ {Q : γ → Pos → Shared → Prop} {E : Value → Pos → Shared → Prop} {p : Pos} {s : Shared}, n ≤ s.toks → Sem.wp M Γ t Q E p s →
    Sem.wp M Γ t (fun a p s => Q a p s ∧ n ≤ s.toks) (fun e p s => E e p s ∧ n ≤ s.toks) p s := by
  induction t with
  | pure a => intro Q E p s hn h; exact ⟨h, hn⟩
  | raise e => intro Q E p s hn h; exact ⟨h, hn⟩
  | rule tag k ih => intro Q E p s hn h; exact ih () hn h
  | «at» p' k ih => intro Q E p s hn h; exact ih () hn h
  | load a part k ih => intro Q E p s hn h; obtain ⟨o, h1, h2⟩ := h; exact ⟨o, h1, ih o hn h2⟩
  | update a part f k ih => intro Q E p s hn h; exact ⟨h.1, ih () (s := { s with heap := s.heap.update a f }) hn h.2⟩
  | alloc o k ih => intro Q E p s hn h; exact ih _ (s := { s with heap := s.heap.push o }) hn h
  | loadIfAlive a k ih => intro Q E p s hn h; exact ih _ hn h
  | point l k ih => intro Q E p s hn h; exact ih () hn h
  | fresh k ih => intro Q E p s hn h; exact ih _ (s := { s with toks := s.toks + 1 }) (Nat.le_succ_of_le hn) h
  | ask k ih => intro Q E p s hn h; exact ih _ hn h
  | choose src m k ih => intro Q E p s hn h; exact ⟨h.1, ih _ (s := { s with drawn := s.drawn.bump src }) hn h.2⟩
  | os q l k ih => intro Q E p s hn h; exact ih _ (s := { s with os := (Os.step s.os q).1 }) hn h
  | call c hd g l k ih =>
    intro Q E p s hn h
    obtain ⟨r, s', h1, h2⟩ := h
    exact ⟨r, s', h1, ih r (Nat.le_trans hn (runs_toks h1)) h2⟩
  | handled own k ih => intro Q E p s hn h; exact ih _ hn h
  | newGen c k ih => intro Q E p s hn h; exact ih _ (s := { s with gens := s.gens.push (.fresh c) }) hn h
  | genState g k ih => intro Q E p s hn h; obtain ⟨st, h1, h2⟩ := h; exact ⟨st, h1, ih _ hn h2⟩
  | resume g r l k ih => intro Q E p s hn h; obtain ⟨res, s', h1, h2⟩ := h; exact ⟨res, s', h1, ih res (Nat.le_trans hn (wakes_toks h1)) h2⟩
  | stack k ih => intro Q E p s hn h; exact ih _ hn h
  | thread k ih => intro Q E p s hn h; exact ih _ hn h
  | _ => intro Q E p s hn h; exact h.elim
theorem toks_up {γ : Type} {M : Model} {A : Around} {t : Sem γ} {Q : γ → Shared → Prop} {E : Value → Shared → Prop} {s : Shared} (h : wpAny M A t Q E s) :
    wpAny M A t (fun v s' => Q v s' ∧ s.toks ≤ s'.toks) (fun e s' => E e s' ∧ s.toks ≤ s'.toks) s :=
  fun Γ p hΓ => wp_toks t (Nat.le_refl _) (h Γ p hΓ)
end Mine

namespace Mine
open PySem

/-- keys that are texts or numbers -/
noncomputable def isMix : Str ⊕ Int → Value → Bool
  | .inl x, v => Value.isStrOf x v
  | .inr i, v => Value.isInt i v
noncomputable def hashMix (w : World) : Str ⊕ Int → Int
  | .inl x => hashStr w x
  | .inr i => hashInt i
noncomputable def mixKind (prog : Program) (w : World) : KeyKind prog w (Str ⊕ Int) where
  is := isMix
  hash := hashMix w
  inj := fun v a b ha hb => by
    cases a with
    | inl x =>
      obtain ⟨t, rfl⟩ := Value.isStrOf_shape (show Value.isStrOf x v = true from ha)
      cases b with
      | inl y => exact congrArg Sum.inl (Value.isStrOf_inj (.str x t) x y ha hb)
      | inr j => cases hb
    | inr i =>
      obtain ⟨t, rfl⟩ := Value.isInt_shape (show Value.isInt i v = true from ha)
      cases b with
      | inl y => cases hb
      | inr j => exact congrArg Sum.inr (Value.isInt_inj (.int i t) i j ha hb)
  byValue := fun k v h => by
    cases k with
    | inl x => obtain ⟨t, rfl⟩ := Value.isStrOf_shape (show Value.isStrOf x v = true from h); rfl
    | inr i => obtain ⟨t, rfl⟩ := Value.isInt_shape (show Value.isInt i v = true from h); rfl
  pyHash := fun {A E s k v Q} hv h => by
    cases k with
    | inl x => obtain ⟨t, rfl⟩ := Value.isStrOf_shape (show Value.isStrOf x v = true from hv); exact wpAny_pyHash_str h
    | inr i => obtain ⟨t, rfl⟩ := Value.isInt_shape (show Value.isInt i v = true from hv); exact wpAny_pyHash_int h
  eqBool := fun {A E s a b u v Q} hu hv h => by
    cases a with
    | inl x =>
      obtain ⟨t, rfl⟩ := Value.isStrOf_shape (show Value.isStrOf x u = true from hu)
      cases b with
      | inl y =>
        obtain ⟨t', rfl⟩ := Value.isStrOf_shape (show Value.isStrOf y v = true from hv)
        refine wpAny_eqBool_str ?_
        have e : decide (Sum.inl (β := Int) x = Sum.inl y) = decide (x = y) := by simp
        rw [← e]; exact h
      | inr j =>
        obtain ⟨t', rfl⟩ := Value.isInt_shape (show Value.isInt j v = true from hv)
        exact SeqAt.EqAt.str_int x t j t' prog w E Q (by simpa using h)
    | inr i =>
      obtain ⟨t, rfl⟩ := Value.isInt_shape (show Value.isInt i u = true from hu)
      cases b with
      | inl y =>
        obtain ⟨t', rfl⟩ := Value.isStrOf_shape (show Value.isStrOf y v = true from hv)
        exact SeqAt.EqAt.int_str i t y t' prog w E Q (by simpa using h)
      | inr j =>
        obtain ⟨t', rfl⟩ := Value.isInt_shape (show Value.isInt j v = true from hv)
        refine wpAny_eqBool_int ?_
        have e : decide (Sum.inr (α := Str) i = Sum.inr j) = (i == j) := by
          by_cases q : i = j <;> simp [q]
        rw [← e]; exact h
  «strs» := fun k x t v h => by
    cases k with
    | inl y => exact (strKind prog w).«strs» y x t v h
    | inr i => cases h
end Mine

namespace Mine
open PySem

/-- what a run stands on: the heap that stood before the law was called, and where the frames' objects lie, the innermost first -/
structure Bs where
  h : Heap
  fr : List Addr
  prog : Program
  w : World
noncomputable abbrev Bs.get? (b : Bs) (a : Addr) : Option Obj := b.h.get? a
/-- where a run stands: the program, its world, the heap that stood before the law was called -/
structure Kt where
  hb : Bs
  mg : Str → Option Value
  mb : Str → Option Value
  /-- whether it must be known that a token has been drawn -/
  pos : Bool
noncomputable abbrev Kt.prog (K : Kt) : Program := K.hb.prog
noncomputable abbrev Kt.w (K : Kt) : World := K.hb.w

noncomputable def Kt.Tk (K : Kt) (s : Shared) : Prop := K.pos = true → 0 < s.toks
theorem Kt.Tk.up {K : Kt} {s s' : Shared} (tk : K.Tk s) (tl : s.toks ≤ s'.toks) : K.Tk s' := fun q => Nat.lt_of_lt_of_le (tk q) tl
theorem wpAny_pos {γ : Type} {K : Kt} {M : Model} {A : Around} {t : Sem γ} {Q : γ → Shared → Prop} {E : Value → Shared → Prop} {s : Shared} (tk : K.Tk s)
    (h : wpAny M A t (fun v s' => K.Tk s' → Q v s') (fun e s' => K.Tk s' → E e s') s) : wpAny M A t Q E s :=
  wpAny_mono (toks_up h) (fun _ _ q => q.1 (tk.up q.2)) fun _ _ q => q.1 (tk.up q.2)
/-- facts of the heap that stood before -/
structure Kt.Ok (K : Kt) : Prop where
  g : K.hb.h.Ns mainGlobals K.mg
  b : K.hb.h.Ns builtinsNs K.mb
  nolimit : K.hb.h.NoLimit
  mods : ∃ o, K.hb.get? sysModules = some o

/-- objects -/
noncomputable def OR (B : Bs) (h : Heap) (α : AL) : MO → Addr → Prop
  | .lst xs, a => ∃ items n, h.get? a = some { cls := .type "list", data := .seq (List.toArray items) n } ∧ VRs h α xs items
  | .ds es, a => ∃ kvs, h.DictOf (strKind B.prog B.w) a kvs ∧ kvs.map (·.1) = es.map (·.1) ∧ VRs h α (es.map (·.2)) (kvs.map (·.2))
  | .dp es, a => ∃ xs, h.DictOfH (tupleKind (mixKind B.prog B.w)) a xs ∧ xs.map (·.1) = es.map (fun e => [.inl e.1.1, .inr e.1.2]) ∧ (∀ x ∈ xs, x.2.1 ∉ α.all) ∧ VRs h α (es.map (·.2)) (xs.map (·.2.2))
  | .ns fs, a => ∃ m, h.Ns1 a m ∧ (∀ n v, aget n fs = some v → ∃ u, m n = some u ∧ VR h α v u) ∧ (∀ n, aget n fs = none → m n = none)
  | .no, _ => False
theorem OR.live {B : Bs} {h : Heap} {α : AL} {m : MO} {a : Addr} (o : OR B h α m a) : ∃ o, h.get? a = some o := by
  cases m with
  | lst xs => obtain ⟨items, n, e, _⟩ := o; exact ⟨_, e⟩
  | ds es => obtain ⟨kvs, ⟨o, _, _, e, _⟩, _⟩ := o; exact ⟨o, e⟩
  | dp es => obtain ⟨kvs, ⟨o, _, _, e, _⟩, _⟩ := o; exact ⟨o, e⟩
  | ns fs => obtain ⟨m, ⟨o, _, _, e, _⟩, _⟩ := o; exact ⟨o, e⟩
  | no => exact o.elim
theorem OR.map {B : Bs} {h h' : Heap} {α α' : AL} {m : MO} {a : Addr} (v : ∀ p u, VR h α p u → VR h' α' p u) (k : h'.get? a = h.get? a)
    (kk : ∀ b o, b ∉ α.all → h.get? b = some o → Solid o → h'.get? b = some o ∧ b ∉ α'.all) (o : OR B h α m a) : OR B h' α' m a := by
  have vs : ∀ {p : List PV} {u : List Value}, VRs h α p u → VRs h' α' p u := fun r => ⟨r.1, fun i x y e1 e2 => v _ _ (r.2 i x y e1 e2)⟩
  cases m with
  | lst xs => obtain ⟨items, n, e, w⟩ := o; exact ⟨items, n, k.trans e, vs w⟩
  | ds es =>
    obtain ⟨kvs, ⟨o, es', ep, e, r⟩, q, w⟩ := o
    exact ⟨kvs, ⟨o, es', ep, k.trans e, r⟩, q, vs w⟩
  | dp es =>
    obtain ⟨xs, ⟨o, es', ep, e, r1, r2, r3, r4, r5⟩, q, hn, w⟩ := o
    have key : ∀ x ∈ xs, IsTupleKey (mixKind B.prog B.w) h' x.1 x.2.1 ∧ x.2.1 ∉ α'.all := fun x hx => by
      obtain ⟨o, items, n, e1, e2, e3, e4⟩ := r4 x hx
      obtain ⟨z1, z2⟩ := kk _ o (hn x hx) e1 (.inl ⟨_, _, e3⟩)
      exact ⟨⟨o, items, n, z1, e2, e3, e4⟩, z2⟩
    exact ⟨xs, ⟨o, es', ep, k.trans e, r1, r2, r3, fun x hx => (key x hx).1, r5⟩, q, fun x hx => (key x hx).2, vs w⟩
  | ns fs =>
    obtain ⟨m, ⟨o, es', ep, e, r⟩, q1, q2⟩ := o
    exact ⟨m, ⟨o, es', ep, k.trans e, r⟩, fun n v' hn => let ⟨u, z1, z2⟩ := q1 n v' hn; ⟨u, z1, v _ _ z2⟩, q2⟩
  | no => exact o.elim
theorem OR.ext {F α h α' h'} {B : Bs} {m : MO} {a : Addr} (x : Ext F α h α' h') (k : h'.get? a = h.get? a) (o : OR B h α m a) : OR B h' α' m a :=
  o.map (fun _ _ r => r.ext x) k fun b o hb e hs => ⟨x.seqs b o (AL.not_ix hb) e hs, x.notAll hb e⟩

structure R (hb : Bs) (h : Heap) (σ : Sto) (α : AL) : Prop where
  base : ∀ b o, hb.get? b = some o → h.get? b = some o
  fresh : ∀ a ∈ α.ix, hb.get? a = none
  nodup : α.ix.Nodup
  len : σ.length = α.ix.length
  hidden : ∀ a ∈ α.hid, a ∉ α.ix ∧ ∃ o, h.get? a = some o
  obj : ∀ (i : Nat) (m : MO) (a : Addr), σ[i]? = some m → α.ix[i]? = some a → OR hb h α m a
  hfr : ∀ a ∈ α.hid, hb.get? a = none
  fe : α.fr = hb.fr
  frs : ∀ a ∈ hb.fr, hb.get? a = none ∧ ∃ o, h.get? a = some o ∧ isDct o
  /-- frames are nothing that may change -/
  frNot : ∀ a ∈ hb.fr, a ∉ α.ix

structure Sm (s s' : Shared) : Prop where
  gens : s'.gens = s.gens
  os : s'.os = s.os
theorem Sm.refl (s : Shared) : Sm s s := ⟨rfl, rfl⟩
theorem Sm.trans {a b c : Shared} (x : Sm a b) (y : Sm b c) : Sm a c := ⟨y.gens.trans x.gens, y.os.trans x.os⟩

/-- only the frames' slots changed -/
noncomputable def Up (fr : List Addr) (h h' : Heap) : Prop := ∀ b o, h.get? b = some o → h'.get? b = some o ∨ (b ∈ fr ∧ ∃ sl, h'.get? b = some { o with slots := sl })
theorem Up.keeps {fr : List Addr} {h h' : Heap} (k : ∀ b o, h.get? b = some o → h'.get? b = some o) : Up fr h h' := fun b o e => .inl (k b o e)
theorem Up.trans {fr : List Addr} {h h' h'' : Heap} (x : Up fr h h') (y : Up fr h' h'') : Up fr h h'' := fun b o e => by
  rcases x b o e with x | ⟨m, sl, x⟩
  · exact y b o x
  · rcases y b _ x with y | ⟨_, sl', y⟩
    · exact .inr ⟨m, sl, y⟩
    · exact .inr ⟨m, sl', y⟩
/-- an exception object, with its traceback's head if there is one -/
inductive ExcTb (h₀ h : Heap) (a : Addr) (noted : Bool) (x : Value) : Prop
  | inl (hn : noted = false) (e : x = .none) : ExcTb h₀ h a noted x
  | inr (T : Addr) (oT : Obj) (ts : Array Value) (e : x = .ref T) (h0 : h₀.get? T = none) (hn : T ≠ a) (ht : h.get? T = some oT) (hc : oT.cls = .type "traceback") (hd : oT.data = .fields ts) (h3 : 3 < ts.size) : ExcTb h₀ h a noted x
inductive ExcAt (h₀ h : Heap) (c : Nat) (a : Addr) (noted : Bool) : Prop
  | mk (new : h₀.get? a = none) (oe : Obj) (vs : Array Value) (x : Value) (he : h.get? a = some oe) (hc : oe.cls = .ref c) (hd : oe.data = .fields vs) (h1 : vs[1]? = some x) (tb : ExcTb h₀ h a noted x) : ExcAt h₀ h c a noted
theorem ExcAt.new {h₀ h : Heap} {c : Nat} {a : Addr} {noted : Bool} (x : ExcAt h₀ h c a noted) : h₀.get? a = none := by cases x; assumption
/-- an exception in flight: what stood when it was made stands still -/
inductive FX (K : Kt) (s : Shared) (α : AL) (i : Nat) (σ : Sto) (noted : Bool) (e : Value) (s' : Shared) : Prop where
  | mk (a : Addr) (h₀ : Heap) (α' : AL) (he : e = .ref a) (x : Ext [] α s.heap α' h₀) (r : R K.hb h₀ σ α') (u : Up K.hb.fr h₀ s'.heap) (ea : ExcAt h₀ s'.heap i a noted) (m : Sm s s') : FX K s α i σ noted e s'

section
variable (K : Kt) {β γ : Type} (Rel : Heap → AL → β → γ → Prop)
inductive Post (c : Out β) (s : Shared) (α : AL) (y : γ) (s' : Shared) : Prop where
  | mk (b : β) (σ' : Sto) (α' : AL) (h : c = .ok b σ') (x : Ext [] α s.heap α' s'.heap) (r : R K.hb s'.heap σ' α') (v : Rel s'.heap α' b y) (m : Sm s s') : Post c s α y s'
inductive PostX (_A : Around) (c : Out β) (s : Shared) (α : AL) (e : Value) (s' : Shared) : Prop where
  | mk (i : Nat) (σ' : Sto) (h : c = .exc i σ') (fx : ∃ nt, FX K s α i σ' nt e s') : PostX _A c s α e s'
/-- a tree runs as the outcome says -/
noncomputable def Runs (A : Around) (t : Sem γ) (c : Out β) (s : Shared) (α : AL) : Prop :=
  c ≠ .stuck → K.Tk s → wpAny (model K.prog K.w) A t (Post K Rel c s α) (PostX K A c s α) s
end

noncomputable def RelEq {β : Type} (_h : Heap) (_α : AL) (b y : β) : Prop := y = b

theorem FX.lift {K : Kt} {s s₁ : Shared} {α α₁ : AL} {i : Nat} {σ : Sto} {nt : Bool} {e : Value} {s' : Shared} (x : Ext [] α s.heap α₁ s₁.heap) (m : Sm s s₁) (f : FX K s₁ α₁ i σ nt e s') : FX K s α i σ nt e s' := by
  obtain ⟨a, h₀, α', e, x', r, u, ea, m'⟩ := f
  exact ⟨a, h₀, α', e, x.trans x', r, u, ea, m.trans m'⟩
theorem PostX.lift {K : Kt} {A : Around} {β : Type} {s : Shared} {α : AL} {c : Out β} {s₁ : Shared} {α₁ : AL} {y : Value} {s' : Shared} (x : Ext [] α s.heap α₁ s₁.heap) (m : Sm s s₁) (p : PostX K A c s₁ α₁ y s') : PostX K A c s α y s' := by
  obtain ⟨i, σ', e, nt, fx⟩ := p
  exact ⟨i, σ', e, nt, fx.lift x m⟩

section
variable {K : Kt} {A : Around} {β γ β' γ' : Type} {Rel : Heap → AL → β → γ → Prop} {Rel' : Heap → AL → β' → γ' → Prop} {s : Shared} {α : AL}

theorem Runs.bind {t : Sem γ} {k : γ → Sem γ'} {c : Out β} {f : β → Sto → Out β'} (H : Runs K Rel A t c s α)
    (N : ∀ b σ' α' y s', c = .ok b σ' → Ext [] α s.heap α' s'.heap → R K.hb s'.heap σ' α' → Rel s'.heap α' b y → Sm s s' → Runs K Rel' A (k y) (f b σ') s' α') :
    Runs K Rel' A (t >>= k) (c.bind f) s α := by
  intro hc tk
  have h1 : c ≠ .stuck := by rintro rfl; exact hc rfl
  refine wpAny_bind (wpAny_mono (toks_up (H h1 tk)) (fun y s' hp => ?_) fun e s' hx => ?_)
  · obtain ⟨⟨b, σ', α', rfl, x, r, v, m⟩, tl⟩ := hp
    refine wpAny_mono (N b σ' α' y s' rfl x r v m hc (Kt.Tk.up tk tl)) (fun y' s'' hp' => ?_) fun e s'' hx => ?_
    · obtain ⟨b', σ'', α'', e', x', r', v', m'⟩ := hp'
      exact ⟨b', σ'', α'', e', x.trans x', r', v', m.trans m'⟩
    · exact hx.lift x m
  · obtain ⟨⟨i, σ', rfl, fx⟩, _⟩ := hx
    exact ⟨i, σ', rfl, fx⟩

theorem Runs.pure {y : γ} {b : β} {σ : Sto} (r : R K.hb s.heap σ α) (v : Rel s.heap α b y) : Runs K Rel A (pure y) (.ok b σ) s α :=
  fun _ _ => wpAny_pure ⟨b, σ, α, rfl, .refl, r, v, .refl s⟩

theorem Runs.standAt {pos : Pos} {t : Sem γ} {c : Out β} (H : Runs K Rel A t c s α) : Runs K Rel A (do standAt pos; t) c s α :=
  fun h tk => wpAny_bind (wpAny_standAt (H h tk))
theorem Runs.holding {vs : List Value} {t : Sem γ} {c : Out β} (H : Runs K Rel A t c s α) : Runs K Rel A (holding vs t) c s α :=
  fun h tk => wpAny_holding (H h tk)

/-- one step of the library's rules: the tree gives a value, the heap only grows -/
theorem Runs.step {t : Sem γ} {b : β} {σ : Sto} (r : R K.hb s.heap σ α)
    (H : ∀ (Q : γ → Shared → Prop) (E : Value → Shared → Prop), (∀ y s', (∀ b o, s.heap.get? b = some o → s'.heap.get? b = some o) → R K.hb s'.heap σ α → Rel s'.heap α b y → Sm s s' → Q y s') → wpAny (model K.prog K.w) A t Q E s) :
    Runs K Rel A t (.ok b σ) s α :=
  fun _ _ => H _ _ fun y s' k r' v m => ⟨b, σ, α, rfl, .keeps k, r', v, m⟩
end

theorem R.live {hb h σ α} (r : R hb h σ α) {a : Addr} (ha : a ∈ α.ix) : ∃ o, h.get? a = some o := by
  obtain ⟨i, hi, rfl⟩ := List.mem_iff_getElem.mp ha
  have hs : i < σ.length := by rw [r.len]; exact hi
  exact (r.obj i σ[i] α.ix[i] (by simp [hs]) (by simp [hi])).live

theorem R.keeps {hb h h' σ α} (r : R hb h σ α) (k : ∀ b o, h.get? b = some o → h'.get? b = some o) : R hb h' σ α :=
  ⟨fun b o e => k b o (r.base b o e), r.fresh, r.nodup, r.len, fun a ha => ⟨(r.hidden a ha).1, let ⟨o, e⟩ := (r.hidden a ha).2; ⟨o, k a o e⟩⟩, fun i m a e1 e2 => (r.obj i m a e1 e2).ext (.keeps (F := []) k) (by
    obtain ⟨o, e⟩ := r.live (List.mem_of_getElem? e2)
    rw [e, k a o e]), r.hfr, r.fe, fun a ha => ⟨(r.frs a ha).1, let ⟨o, e, d⟩ := (r.frs a ha).2; ⟨o, k a o e, d⟩⟩, r.frNot⟩
theorem R.liveAll {hb h σ α} (r : R hb h σ α) {a : Addr} (ha : a ∈ α.all) : ∃ o, h.get? a = some o := by
  rcases List.mem_append.mp ha with q | q
  · exact r.live q
  · exact (r.hidden a q).2
/-- lists do not change where only the frames' slots do -/
theorem R.upExt {hb h h' σ α} (r : R hb h σ α) (u : Up hb.fr h h') : Ext [] α h α h' := by
  refine ⟨rfl, ⟨[], by simp, fun _ hx => by simp at hx⟩, fun b o hb e hs => ?_, fun b o hb _ e => ?_, fun b o _ e => ?_, rfl⟩
  · rcases u b o e with u | ⟨m, _⟩
    · exact u
    · obtain ⟨_, o', e', d⟩ := r.frs b m
      rw [e] at e'; obtain rfl := Option.some.inj e'
      exact absurd hs d.notSolid
  · rcases u b o e with u | ⟨m, sl, u⟩
    · exact .inl u
    · obtain ⟨_, o', e', d⟩ := r.frs b m
      rw [e] at e'; obtain rfl := Option.some.inj e'
      exact .inr ⟨r.fe ▸ m, d, sl, u⟩
  · rcases u b o e with u | ⟨m, sl, u⟩
    · exact ⟨_, u⟩
    · exact ⟨_, u⟩
theorem R.up {hb h h' σ α} (r : R hb h σ α) (u : Up hb.fr h h') : R hb h' σ α := by
  have x := r.upExt u
  refine ⟨fun b o e => ?_, r.fresh, r.nodup, r.len, fun a ha => ⟨(r.hidden a ha).1, ?_⟩, fun i m a e1 e2 => ?_, r.hfr, r.fe, fun a ha => ⟨(r.frs a ha).1, ?_⟩, r.frNot⟩
  · rcases u b o (r.base b o e) with u | ⟨m, _⟩
    · exact u
    · rw [(r.frs b m).1] at e; contradiction
  · obtain ⟨o, e⟩ := (r.hidden a ha).2
    exact x.alive a o (by simp) e
  · refine (r.obj i m a e1 e2).ext x ?_
    obtain ⟨o, e⟩ := r.live (List.mem_of_getElem? e2)
    rcases u a o e with u | ⟨m, _⟩
    · rw [e, u]
    · exact absurd (List.mem_of_getElem? e2) (r.frNot a m)
  · obtain ⟨_, o, e, d⟩ := r.frs a ha
    rcases u a o e with u | ⟨m, sl, u⟩
    · exact ⟨o, u, d⟩
    · exact ⟨_, u, d⟩
end Mine

namespace Mine
open PySem PyProof.Rows

noncomputable def AL.add (α : AL) (D : Addr) : AL := ⟨α.ix ++ [D], α.hid, α.fr⟩
theorem Ext.add {α : AL} {h h' : Heap} {D : Addr} (k : ∀ b o, h.get? b = some o → h'.get? b = some o) (hD : h.get? D = none) : Ext [] α h (α.add D) h' :=
  ⟨rfl, ⟨[D], rfl, fun y hy => by simp at hy; rw [hy]; exact ⟨hD, by simp⟩⟩, fun b o _ e _ => k b o e, fun b o _ _ e => .inl (k b o e), fun b o _ e => ⟨o, k b o e⟩, rfl⟩
theorem R.add {hb h h' σ α} {D : Addr} {m : MO} (r : R hb h σ α) (k : ∀ b o, h.get? b = some o → h'.get? b = some o) (hD : h.get? D = none)
    (o : OR hb h' (α.add D) m D) : R hb h' (σ ++ [m]) (α.add D) ∧ Ext [] α h (α.add D) h' := by
  have x : Ext [] α h (α.add D) h' := .add k hD
  have hDa : D ∉ α.all := fun hm => by obtain ⟨o, e⟩ := r.liveAll hm; rw [hD] at e; contradiction
  refine ⟨⟨fun b o e => k b o (r.base b o e), fun a ha => ?_, ?_, by simp [AL.add, r.len], fun a ha => ?_, fun i m' a e1 e2 => ?_, r.hfr, r.fe, fun a ha => ⟨(r.frs a ha).1, let ⟨o, e, d⟩ := (r.frs a ha).2; ⟨o, k a o e, d⟩⟩, fun a ha => ?_⟩, x⟩
  · rcases List.mem_append.mp ha with q | q
    · exact r.fresh a q
    · simp at q; subst q
      cases hq : hb.get? a with
      | none => rfl
      | some o => rw [r.base _ _ hq] at hD; contradiction
  · show (α.ix ++ [D]).Nodup
    rw [List.nodup_append]
    exact ⟨r.nodup, by simp, fun a ha b hb => by simp at hb; subst hb; rintro rfl; exact AL.not_ix hDa ha⟩
  · have ha' : a ∈ α.hid := ha
    refine ⟨fun q => ?_, let ⟨o, e⟩ := (r.hidden a ha').2; ⟨o, k a o e⟩⟩
    rcases List.mem_append.mp q with q | q
    · exact (r.hidden a ha').1 q
    · simp at q; subst q; exact hDa (List.mem_append_right _ ha')
  · have e2' : (α.ix ++ [D])[i]? = some a := e2
    by_cases hi : i < σ.length
    · rw [List.getElem?_append_left hi] at e1
      rw [List.getElem?_append_left (by rw [← r.len]; exact hi)] at e2'
      have := r.obj i m' a e1 e2'
      have hk : h'.get? a = h.get? a := by
        obtain ⟨o, e⟩ := r.live (List.mem_of_getElem? e2')
        rw [e, k a o e]
      exact this.ext x hk
    · have e3 : i = σ.length := by
        have := (List.getElem?_eq_some_iff.mp e1).1
        simp at this; omega
      subst e3
      rw [List.getElem?_append_right (Nat.le_refl _)] at e1
      rw [List.getElem?_append_right (by rw [r.len]; exact Nat.le_refl _)] at e2'
      simp [r.len] at e1 e2'
      subst e1 e2'
      exact o
  · intro q
    rcases List.mem_append.mp q with q | q
    · exact r.frNot a ha q
    · simp at q; subst q
      obtain ⟨_, o, e, _⟩ := r.frs a ha
      rw [hD] at e; contradiction

section
variable {K : Kt} {A : Around} {s : Shared} {α : AL} {σ : Sto}

theorem lim_line {n : Nat} (h : n ≤ lim) : n ≤ sizeLine := Nat.le_trans h (by decide)

/-- a new list -/
theorem newList_sound {xs : List PV} {vs : List Value} {fz : Bool} (r : R K.hb s.heap σ α) (v : VRs s.heap α xs vs) :
    Runs K VR A (newList vs) (mkLst fz xs σ) s α := by
  intro hc tk
  unfold mkLst at hc ⊢
  by_cases hl : xs.length ≤ lim
  · rw [if_pos hl]
    have hD : s.heap.get? s.heap.objs.size = none := by
      cases hq : s.heap.get? s.heap.objs.size with
      | none => rfl
      | some o => exact absurd (Heap.lt_size hq) (Nat.lt_irrefl _)
    have k : ∀ b o, s.heap.get? b = some o → (s.heap.push { cls := .type "list", data := .seq vs.toArray }).get? b = some o := fun b o e => Heap.get?_push_of_some _ e
    refine wpAny_newObj_type ?_ (by show vs.toArray.size ≤ sizeLine; rw [List.size_toArray, ← v.1]; exact lim_line hl)
    cases fz with
    | true =>
      refine ⟨_, _, _, rfl, .keeps k, r.keeps k, ?_, ⟨rfl, rfl⟩⟩
      refine VR.flI (n := 0) (Heap.get?_push_size _ rfl) (fun hm => ?_) (v.ext (.keeps (F := []) k))
      obtain ⟨o, e⟩ := r.liveAll hm; rw [hD] at e; contradiction
    | false =>
      obtain ⟨r', x⟩ := r.add (D := s.heap.objs.size) (m := .lst xs) k hD ⟨vs, 0, Heap.get?_push_size _ rfl, v.ext (.add k hD)⟩
      refine ⟨_, _, _, rfl, x, r', .ref ?_, ⟨rfl, rfl⟩⟩
      rw [r.len]; simp [AL.add]
  · rw [if_neg hl] at hc; exact absurd rfl hc

theorem newTuple_sound {xs : List PV} {vs : List Value} (r : R K.hb s.heap σ α) (v : VRs s.heap α xs vs) :
    Runs K VR A (newTuple vs) (if xs.length ≤ lim then .ok (.tup xs) σ else .stuck) s α := by
  intro hc tk
  by_cases hl : xs.length ≤ lim
  · rw [if_pos hl]
    have hD : s.heap.get? s.heap.objs.size = none := by
      cases hq : s.heap.get? s.heap.objs.size with
      | none => rfl
      | some o => exact absurd (Heap.lt_size hq) (Nat.lt_irrefl _)
    have k : ∀ b o, s.heap.get? b = some o → (s.heap.push { cls := .type "tuple", data := .seq vs.toArray }).get? b = some o := fun b o e => Heap.get?_push_of_some _ e
    refine wpAny_newObj_type ?_ (by show vs.toArray.size ≤ sizeLine; rw [List.size_toArray, ← v.1]; exact lim_line hl)
    refine ⟨_, _, _, rfl, .keeps k, r.keeps k, ?_, ⟨rfl, rfl⟩⟩
    refine VR.tupI (n := 0) (Heap.get?_push_size _ rfl) (fun hm => ?_) (v.ext (.keeps (F := []) k))
    obtain ⟨o, e⟩ := r.liveAll hm; rw [hD] at e; contradiction
  · rw [if_neg hl] at hc; exact absurd rfl hc
end
end Mine

namespace Mine
open PySem PyProof.Rows

/-! plain data -/
theorem mapM_reads {h : Heap} {n : Nat} {f : PV → Option PyData} : ∀ {xs : List PV} {vs : List Value} {ds : List PyData}, xs.mapM f = some ds → xs.length = vs.length →
    (∀ (i : Nat) (x : PV) (v : Value) (d : PyData), xs[i]? = some x → vs[i]? = some v → f x = some d → ∃ as, Reads h v d as ∧ d.canLay0 = true ∧ d.depth ≤ n) →
    ∃ as, ReadsAll h vs ds as ∧ PyData.canLayAll0 ds = true ∧ PyData.depthAll ds ≤ n
  | [], vs, ds, e, hl, _ => by
    cases vs with
    | nil => simp at e; subst e; exact ⟨[], .nil, rfl, Nat.zero_le _⟩
    | cons => simp at hl
  | x :: xs, vs, ds, e, hl, H => by
    cases vs with
    | nil => simp at hl
    | cons v vs =>
      rw [List.mapM_cons] at e
      cases hx : f x with
      | none => rw [hx] at e; contradiction
      | some d =>
        rw [hx] at e
        cases hr : xs.mapM f with
        | none => rw [hr] at e; contradiction
        | some ds' =>
          rw [hr] at e
          obtain rfl := Option.some.inj e
          obtain ⟨as, r1, c1, d1⟩ := H 0 x v d (by simp) (by simp) hx
          obtain ⟨bs, r2, c2, d2⟩ := mapM_reads hr (by simpa using hl) fun i y w d' e1 e2 e3 => H (i + 1) y w d' (by simpa using e1) (by simpa using e2) e3
          exact ⟨as ++ bs, .cons r1 r2, by simp [PyData.canLayAll0, c1, c2], by simp only [PyData.depthAll]; omega⟩

theorem reads_of {hb : Bs} {h : Heap} {σ : Sto} {α : AL} (r : R hb h σ α) : ∀ (n : Nat) (p : PV) (v : Value) (d : PyData), VR h α p v → toD n σ p = some d → ∃ as, Reads h v d as ∧ d.canLay0 = true ∧ d.depth ≤ n := by
  intro n
  induction n with
  | zero => intro p v d _ e; simp [toD] at e
  | succ n ih =>
    intro p v d hv e
    cases p with
    | exc c => simp [toD] at e
    | inst c i => simp [toD] at e
    | none => cases hv; simp [toD] at e; subst e; exact ⟨[], .none, rfl, by simp [PyData.depth]⟩
    | bool b => cases hv; simp [toD] at e; subst e; exact ⟨[], .bool _, rfl, by simp [PyData.depth]⟩
    | int i => cases hv; simp [toD] at e; subst e; exact ⟨[], .int _ _, rfl, by simp [PyData.depth]⟩
    | str x => cases hv with | str _ _ hs => simp [toD] at e; subst e; exact ⟨[], .str _ _, hs, by simp [PyData.depth]⟩
    | tup xs =>
      obtain ⟨a, items, k, rfl, e1, _, vs⟩ := hv.tupE
      simp only [toD] at e
      cases hm : xs.mapM (toD n σ) with
      | none => rw [hm] at e; contradiction
      | some ds =>
        rw [hm] at e; obtain rfl := Option.some.inj e
        obtain ⟨as, r1, c1, d1⟩ := mapM_reads (n := n) hm vs.1 fun i x v d e1 e2 e3 => ih x v d (vs.2 i x v e1 e2) e3
        exact ⟨as, .tuple e1 rfl rfl (by simpa using r1), by simpa [PyData.canLay0] using c1, by simp only [PyData.depth]; omega⟩
    | fl xs =>
      obtain ⟨a, items, k, rfl, e1, _, vs⟩ := hv.flE
      simp only [toD] at e
      cases hm : xs.mapM (toD n σ) with
      | none => rw [hm] at e; contradiction
      | some ds =>
        rw [hm] at e; obtain rfl := Option.some.inj e
        obtain ⟨as, r1, c1, d1⟩ := mapM_reads (n := n) hm vs.1 fun i x v d e1 e2 e3 => ih x v d (vs.2 i x v e1 e2) e3
        exact ⟨a :: as, .list e1 rfl rfl (by simpa using r1), by simpa [PyData.canLay0] using c1, by simp only [PyData.depth]; omega⟩
    | ref i =>
      cases hv with
      | @ref _ a ea =>
        simp only [toD] at e
        cases hs : σ[i]? with
        | none => rw [hs] at e; contradiction
        | some m =>
          rw [hs] at e
          cases m with
          | lst xs =>
            simp only at e
            cases hm : xs.mapM (toD n σ) with
            | none => rw [hm] at e; contradiction
            | some ds =>
              rw [hm] at e; obtain rfl := Option.some.inj e
              obtain ⟨items, k, e1, vs⟩ := r.obj i _ a hs ea
              obtain ⟨as, r1, c1, d1⟩ := mapM_reads (n := n) hm vs.1 fun i x v d e1 e2 e3 => ih x v d (vs.2 i x v e1 e2) e3
              exact ⟨a :: as, .list e1 rfl rfl (by simpa using r1), by simpa [PyData.canLay0] using c1, by simp only [PyData.depth]; omega⟩
          | _ => simp at e

theorem shaped_of {d : PyData} (c : d.canLay0 = true) (h : d.depth ≤ 16) : SeqAt.shaped d = true := by
  unfold SeqAt.shaped
  rw [c]; simp; (exact Nat.le_trans (by assumption) (by decide))

/-- a truth value -/
noncomputable def RelB (_h : Heap) (_α : AL) (b : Bool) (y : Value) : Prop := y = .bool b

structure AOk (A : Around) : Prop where
  depth : A.depth + 200 < recursionLimit
  units : A.units + 200 < cLine

section
variable {K : Kt} {A : Around} {s : Shared} {α : AL} {σ : Sto}

theorem cmpEq_sound {a b : PV} {x y : Value} (hA : AOk A) (r : R K.hb s.heap σ α) (va : VR s.heap α a x) (vb : VR s.heap α b y) :
    Runs K RelB A (compareOp .Eq x y) (Out.ofOpt (eqv σ a b) σ) s α := by
  intro hc tk
  unfold eqv at hc ⊢
  cases h1 : toD 16 σ a with
  | none => rw [h1] at hc; exact absurd rfl hc
  | some d1 =>
    cases h2 : toD 16 σ b with
    | none => rw [h1, h2] at hc; exact absurd rfl hc
    | some d2 =>
      obtain ⟨as, r1, c1, p1⟩ := reads_of r 16 a x d1 va h1
      obtain ⟨bs, r2, c2, p2⟩ := reads_of r 16 b y d2 vb h2
      exact eq_dataH r1 r2 (shaped_of c1 p1) (shaped_of c2 p2) (by have := hA.units; omega) ⟨_, σ, α, rfl, .refl, r, rfl, .refl s⟩

theorem cmpNe_sound {a b : PV} {x y : Value} (hA : AOk A) (r : R K.hb s.heap σ α) (va : VR s.heap α a x) (vb : VR s.heap α b y) :
    Runs K RelB A (compareOp .NotEq x y) (Out.ofOpt ((eqv σ a b).map (!·)) σ) s α := by
  intro hc tk
  unfold eqv at hc ⊢
  cases h1 : toD 16 σ a with
  | none => rw [h1] at hc; exact absurd rfl hc
  | some d1 =>
    cases h2 : toD 16 σ b with
    | none => rw [h1, h2] at hc; exact absurd rfl hc
    | some d2 =>
      obtain ⟨as, r1, c1, p1⟩ := reads_of r 16 a x d1 va h1
      obtain ⟨bs, r2, c2, p2⟩ := reads_of r 16 b y d2 vb h2
      exact ne_dataH r1 r2 (shaped_of c1 p1) (shaped_of c2 p2) (by have := hA.units; omega) ⟨_, σ, α, rfl, .refl, r, rfl, .refl s⟩
end
end Mine

namespace Mine
open PySem PyProof.Rows

/-! dicts -/
section
variable {h : Heap} {α : AL} {κ κ' : Type} [DecidableEq κ] [DecidableEq κ'] {g : κ → κ'}

theorem aget_cons {e : κ × PV} {es : List (κ × PV)} {k : κ} : aget k (e :: es) = if e.1 = k then some e.2 else aget k es := by
  unfold aget
  rw [List.find?_cons]
  by_cases q : e.1 = k
  · simp [q]
  · simp [q]
theorem valueAt_cons {e : κ' × Value} {es : List (κ' × Value)} {k : κ'} : valueAt (e :: es) k = if e.1 = k then some e.2 else valueAt es k := by
  unfold valueAt
  rw [List.find?_cons]
  by_cases q : e.1 = k
  · simp [q]
  · simp [q]
theorem aget_rel (hg : ∀ a b, g a = g b → a = b) : ∀ {es : List (κ × PV)} {ys : List (κ' × Value)}, ys.map (·.1) = es.map (fun e => g e.1) → VRs h α (es.map (·.2)) (ys.map (·.2)) → ∀ k,
    (∀ v, aget k es = some v → ∃ u, valueAt ys (g k) = some u ∧ VR h α v u) ∧ (aget k es = none → valueAt ys (g k) = none)
  | [], ys, h1, _, k => by
    have : ys = [] := by simpa using h1
    subst this
    exact ⟨fun v e => (by contradiction), fun _ => rfl⟩
  | e :: es, [], h1, _, k => by simp at h1
  | e :: es, y :: ys, h1, h2, k => by
    simp only [List.map_cons, List.cons.injEq] at h1 h2
    obtain ⟨u, us, q, v1, v2⟩ := h2.inv_cons
    cases q
    have ih := aget_rel hg h1.2 v2 k
    rw [aget_cons, valueAt_cons, h1.1]
    by_cases q : e.1 = k
    · rw [if_pos q, if_pos (by rw [q])]
      exact ⟨fun v e' => (by obtain rfl := Option.some.inj e'; exact ⟨_, rfl, v1⟩), fun e' => (by contradiction)⟩
    · rw [if_neg q, if_neg (fun z => q (hg _ _ z))]
      exact ih
theorem any_rel (hg : ∀ a b, g a = g b → a = b) : ∀ {es : List (κ × PV)} {ys : List (κ' × Value)}, ys.map (·.1) = es.map (fun e => g e.1) → ∀ k, (ys.any fun y => decide (y.1 = g k)) = es.any fun e => decide (e.1 = k)
  | [], ys, h1, k => by
    have : ys = [] := by simpa using h1
    subst this; rfl
  | e :: es, [], h1, k => by simp at h1
  | e :: es, y :: ys, h1, k => by
    simp only [List.map_cons, List.cons.injEq] at h1
    rw [List.any_cons, List.any_cons, any_rel hg h1.2 k, h1.1]
    congr 1
    by_cases q : e.1 = k
    · simp [q]
    · rw [decide_eq_false q, decide_eq_false (fun z => q (hg _ _ z))]
theorem put_rel (hg : ∀ a b, g a = g b → a = b) {k : κ} {v : PV} {u : Value} (vu : VR h α v u) : ∀ {es : List (κ × PV)} {ys : List (κ' × Value)}, ys.map (·.1) = es.map (fun e => g e.1) → VRs h α (es.map (·.2)) (ys.map (·.2)) →
    (ys.map fun y => if y.1 = g k then (y.1, u) else y).map (·.1) = (es.map fun e => if e.1 = k then (e.1, v) else e).map (fun e => g e.1) ∧
    VRs h α ((es.map fun e => if e.1 = k then (e.1, v) else e).map (·.2)) ((ys.map fun y => if y.1 = g k then (y.1, u) else y).map (·.2))
  | [], ys, h1, h2 => by
    have : ys = [] := by simpa using h1
    subst this; exact ⟨rfl, .nil⟩
  | e :: es, [], h1, _ => by simp at h1
  | e :: es, y :: ys, h1, h2 => by
    simp only [List.map_cons, List.cons.injEq] at h1 h2
    obtain ⟨w, ws, q, v1, v2⟩ := h2.inv_cons
    cases q
    obtain ⟨i1, i2⟩ := put_rel hg vu h1.2 v2
    simp only [List.map_cons]
    rw [i1]
    by_cases q : e.1 = k
    · rw [if_pos q, if_pos (by rw [h1.1, q])]
      exact ⟨by rw [h1.1], .cons vu i2⟩
    · rw [if_neg q, if_neg (fun z => q (hg _ _ (h1.1 ▸ z)))]
      exact ⟨by rw [h1.1], .cons v1 i2⟩
theorem aput_rel (hg : ∀ a b, g a = g b → a = b) {k : κ} {v : PV} {u : Value} {es : List (κ × PV)} {ys : List (κ' × Value)} (h1 : ys.map (·.1) = es.map (fun e => g e.1)) (h2 : VRs h α (es.map (·.2)) (ys.map (·.2))) (vu : VR h α v u) :
    (stored ys (g k) u).map (·.1) = (aput k v es).map (fun e => g e.1) ∧ VRs h α ((aput k v es).map (·.2)) ((stored ys (g k) u).map (·.2)) := by
  unfold stored aput
  rw [any_rel hg h1 k]
  split
  · exact put_rel hg vu h1 h2
  · rw [List.map_append, List.map_append, List.map_append, List.map_append, h1]
    exact ⟨rfl, h2.append (.cons vu .nil)⟩
end

noncomputable def key2 (k : Str × Int) : List (Str ⊕ Int) := [.inl k.1, .inr k.2]
theorem key2_inj (a b : Str × Int) (h : key2 a = key2 b) : a = b := by
  unfold key2 at h
  simp only [List.cons.injEq, Sum.inl.injEq, Sum.inr.injEq, and_true] at h
  exact Prod.ext h.1 h.2
theorem keyP_is {p : PV} {k : Str × Int} (h : keyP p = some k) : p = .tup [.str k.1, .int k.2] := by
  unfold keyP at h
  split at h
  · obtain rfl := Option.some.inj h; rfl
  · contradiction

section
variable {K : Kt} {A : Around} {s : Shared} {α : AL} {σ : Sto}

/-- a text and a number, as a key -/
theorem key_at {p : PV} {k : Str × Int} {x : Value} (h : keyP p = some k) (v : VR s.heap α p x) : ∃ a, x = .ref a ∧ IsTupleKey (mixKind K.prog K.w) s.heap (key2 k) a ∧ a ∉ α.all := by
  rw [keyP_is h] at v
  obtain ⟨a, items, n, rfl, e, hn, w⟩ := v.tupE
  obtain ⟨u1, us, rfl, w1, w2⟩ := w.inv_cons
  obtain ⟨u2, us, rfl, w3, w4⟩ := w2.inv_cons
  have : us = [] := List.eq_nil_of_length_eq_zero w4.1.symm
  subst this
  cases w1 with | str _ t1 _ =>
  cases w3 with | int _ t2 =>
  refine ⟨a, rfl, ⟨_, _, n, e, rfl, rfl, ?_⟩, hn⟩
  refine .cons ?_ (.cons ?_ .nil)
  · show Value.isStrOf k.1 (.str k.1 t1) = true
    simp [Value.isStrOf]
  · show Value.isInt k.2 (.int k.2 t2) = true
    simp [Value.isInt]

theorem not_mods (hK : K.Ok) (r : R K.hb s.heap σ α) {a : Addr} (ha : a ∈ α.ix) : (a == sysModules) = false := by
  obtain ⟨o, e⟩ := hK.mods
  rw [beq_eq_false_iff_ne]
  rintro rfl
  rw [r.fresh _ ha] at e; contradiction
theorem room1 (hA : AOk A) : (tupleKind (mixKind K.prog K.w)).room A.in1 := by
  have := hA.units
  show A.units + 1 < cLine
  omega
theorem dp_at {i : Nat} {a : Addr} {es : List ((Str × Int) × PV)} (r : R K.hb s.heap σ α) (hs : σ[i]? = some (.dp es)) (ea : α.ix[i]? = some a) :
    ∃ xs, s.heap.DictOfH (tupleKind (mixKind K.prog K.w)) a xs ∧ (kvsOf xs).map (·.1) = es.map (fun e => key2 e.1) ∧ (∀ x ∈ xs, x.2.1 ∉ α.all) ∧ VRs s.heap α (es.map (·.2)) ((kvsOf xs).map (·.2)) := by
  obtain ⟨xs, h1, h2, h3, h4⟩ := r.obj i _ a hs ea
  refine ⟨xs, h1, ?_, h3, ?_⟩
  · rw [kvsOf, List.map_map]; exact h2
  · rw [kvsOf, List.map_map]; exact h4
theorem ds_at {i : Nat} {a : Addr} {es : List (Str × PV)} (r : R K.hb s.heap σ α) (hs : σ[i]? = some (.ds es)) (ea : α.ix[i]? = some a) :
    ∃ kvs, s.heap.DictOf (strKind K.prog K.w) a kvs ∧ kvs.map (·.1) = es.map (fun e => id e.1) ∧ VRs s.heap α (es.map (·.2)) (kvs.map (·.2)) := r.obj i _ a hs ea
theorem str_is {k : Str} {t : Tok} : (strKind K.prog K.w).is k (.str k t) = true := by
  show Value.isStrOf k (.str k t) = true
  simp [Value.isStrOf]

theorem in_dp {i : Nat} {a : Addr} {es : List ((Str × Int) × PV)} {p : PV} {k : Str × Int} {x : Value} (hK : K.Ok) (hA : AOk A) (r : R K.hb s.heap σ α) (hs : σ[i]? = some (.dp es)) (ea : α.ix[i]? = some a) (hk : keyP p = some k) (vp : VR s.heap α p x) :
    Runs K RelB A (compareOp .In x (.ref a)) (.ok (aget k es).isSome σ) s α ∧ Runs K RelB A (compareOp .NotIn x (.ref a)) (.ok (!(aget k es).isSome) σ) s α := by
  obtain ⟨xs, h1, h2, _, h4⟩ := dp_at r hs ea
  obtain ⟨b, rfl, hb, _⟩ := key_at (K := K) hk vp
  have e : (atKey xs (key2 k)).isSome = (aget k es).isSome := by
    have := aget_rel key2_inj h2 h4 k
    rw [valueAt_kvsOf] at this
    cases hq : aget k es with
    | none => have := this.2 hq; cases hz : atKey xs (key2 k) with | none => rfl | some z => rw [hz] at this; contradiction
    | some v => obtain ⟨u, z, _⟩ := this.1 v hq; cases hz : atKey xs (key2 k) with | none => rw [hz] at z; cases z | some z => rfl
  have hm := not_mods hK r (List.mem_of_getElem? ea)
  exact ⟨fun _ _ => wpAny_in_heap (room1 hA) hb hm h1 (by rw [e]; exact ⟨_, σ, α, rfl, .refl, r, rfl, ⟨rfl, rfl⟩⟩), fun _ _ => wpAny_notIn_heap (room1 hA) hb hm h1 (by rw [e]; exact ⟨_, σ, α, rfl, .refl, r, rfl, ⟨rfl, rfl⟩⟩)⟩
theorem in_ds {i : Nat} {a : Addr} {es : List (Str × PV)} {k : Str} {t : Tok} (hK : K.Ok) (r : R K.hb s.heap σ α) (hs : σ[i]? = some (.ds es)) (ea : α.ix[i]? = some a) :
    Runs K RelB A (compareOp .In (.str k t) (.ref a)) (.ok (aget k es).isSome σ) s α ∧ Runs K RelB A (compareOp .NotIn (.str k t) (.ref a)) (.ok (!(aget k es).isSome) σ) s α := by
  obtain ⟨kvs, h1, h2, h4⟩ := ds_at r hs ea
  have e : (valueAt kvs k).isSome = (aget k es).isSome := by
    have := aget_rel (g := id) (fun _ _ h => h) h2 h4 k
    cases hq : aget k es with
    | none => have := this.2 hq; simp only [id] at this; rw [this]; rfl
    | some v => obtain ⟨u, z, _⟩ := this.1 v hq; simp only [id] at z; rw [z]; rfl
  have hm := not_mods hK r (List.mem_of_getElem? ea)
  exact ⟨fun _ _ => wpAny_in_of str_is hm h1.mapOf (by rw [e]; exact ⟨_, σ, α, rfl, .refl, r, rfl, ⟨rfl, rfl⟩⟩), fun _ _ => wpAny_notIn_of str_is hm h1.mapOf (by rw [e]; exact ⟨_, σ, α, rfl, .refl, r, rfl, ⟨rfl, rfl⟩⟩)⟩

theorem item_dp {i : Nat} {a : Addr} {es : List ((Str × Int) × PV)} {p v : PV} {k : Str × Int} {x : Value} {E : Value → Shared → Prop} (hA : AOk A) (r : R K.hb s.heap σ α) (hs : σ[i]? = some (.dp es)) (ea : α.ix[i]? = some a) (hk : keyP p = some k) (vp : VR s.heap α p x) (hv : aget k es = some v) :
    wpAny (model K.prog K.w) A (getItem (.ref a) x) (Post K VR (.ok v σ) s α) E s := by
  obtain ⟨xs, h1, h2, _, h4⟩ := dp_at r hs ea
  obtain ⟨b, rfl, hb, _⟩ := key_at (K := K) hk vp
  obtain ⟨u, z, vu⟩ := (aget_rel key2_inj h2 h4 k).1 v hv
  rw [valueAt_kvsOf] at z
  obtain ⟨q, hq, rfl⟩ := Option.map_eq_some_iff.mp z
  exact wpAny_getItem_heap (room1 hA) hb h1 hq ⟨_, σ, α, rfl, .refl, r, vu, ⟨rfl, rfl⟩⟩
theorem item_ds {i : Nat} {a : Addr} {es : List (Str × PV)} {v : PV} {k : Str} {t : Tok} {E : Value → Shared → Prop} (r : R K.hb s.heap σ α) (hs : σ[i]? = some (.ds es)) (ea : α.ix[i]? = some a) (hv : aget k es = some v) :
    wpAny (model K.prog K.w) A (getItem (.ref a) (.str k t)) (Post K VR (.ok v σ) s α) E s := by
  obtain ⟨kvs, h1, h2, h4⟩ := ds_at r hs ea
  obtain ⟨u, z, vu⟩ := (aget_rel (g := id) (fun _ _ h => h) h2 h4 k).1 v hv
  exact wpAny_getItem_of str_is h1.mapOf z ⟨_, σ, α, rfl, .refl, r, vu, ⟨rfl, rfl⟩⟩
theorem get_dp {i : Nat} {a : Addr} {es : List ((Str × Int) × PV)} {p : PV} {k : Str × Int} {x : Value} {E : Value → Shared → Prop} (hK : K.Ok) (hA : AOk A) (r : R K.hb s.heap σ α) (hs : σ[i]? = some (.dp es)) (ea : α.ix[i]? = some a) (hk : keyP p = some k) (vp : VR s.heap α p x) :
    wpAny (model K.prog K.w) A (call (.builtin "dict.get") [.ref a, x]) (Post K VR (.ok ((aget k es).getD .none) σ) s α) E s := by
  obtain ⟨xs, h1, h2, _, h4⟩ := dp_at r hs ea
  obtain ⟨b, rfl, hb, _⟩ := key_at (K := K) hk vp
  refine call_meetsIn F.slot_dict_get h1.typeIs F.entry_dict_get (F.args_dict_get_2 _ _) (meetsH_dict_get (tupleKind (mixKind K.prog K.w)) a b (not_mods hK r (List.mem_of_getElem? ea))) ⟨room1 hA, key2 k, xs, hb, h1, ?_⟩
  rw [← valueAt_kvsOf]
  have := aget_rel key2_inj h2 h4 k
  cases hq : aget k es with
  | none => rw [this.2 hq]; exact ⟨_, σ, α, rfl, .refl, r, .none, ⟨rfl, rfl⟩⟩
  | some v => obtain ⟨u, z, vu⟩ := this.1 v hq; rw [z]; exact ⟨_, σ, α, rfl, .refl, r, vu, ⟨rfl, rfl⟩⟩
theorem get_ds {i : Nat} {a : Addr} {es : List (Str × PV)} {k : Str} {t : Tok} {E : Value → Shared → Prop} (hK : K.Ok) (r : R K.hb s.heap σ α) (hs : σ[i]? = some (.ds es)) (ea : α.ix[i]? = some a) :
    wpAny (model K.prog K.w) A (call (.builtin "dict.get") [.ref a, .str k t]) (Post K VR (.ok ((aget k es).getD .none) σ) s α) E s := by
  obtain ⟨kvs, h1, h2, h4⟩ := ds_at r hs ea
  refine call_meetsIn F.slot_dict_get h1.typeIs F.entry_dict_get (F.args_dict_get_2 _ _) (meets_dict_get (strKind K.prog K.w) a str_is (not_mods hK r (List.mem_of_getElem? ea))) ⟨_, h1.mapOf, ?_⟩
  have := aget_rel (g := id) (fun _ _ h => h) h2 h4 k
  cases hq : aget k es with
  | none => have z := this.2 hq; simp only [id] at z; rw [z]; exact ⟨_, σ, α, rfl, .refl, r, .none, ⟨rfl, rfl⟩⟩
  | some v => obtain ⟨u, z, vu⟩ := this.1 v hq; simp only [id] at z; rw [z]; exact ⟨_, σ, α, rfl, .refl, r, vu, ⟨rfl, rfl⟩⟩
end
end Mine

namespace Mine
open PySem PyProof.Rows

noncomputable def opOf : Op → Operator
  | .add => .Add | .sub => .Sub | .mul => .Mult | .mod => .Mod | .fdiv => .FloorDiv | .pow => .Pow
noncomputable def cmOf : Cm → CmpOp
  | .eq => .Eq | .ne => .NotEq | .lt => .Lt | .le => .LtE | .gt => .Gt | .ge => .GtE | .is => .Is | .isNot => .IsNot | .isin => .In | .notin => .NotIn

theorem strOk_append {x y : Str} (a : PyData.strOk x = true) (b : PyData.strOk y = true) : PyData.strOk (x ++ y) = true := by
  unfold PyData.strOk at *
  rw [Str.cps_append]
  simp only [Array.all_eq_true', Array.mem_append] at *
  rintro c (h | h)
  · exact a c h
  · exact b c h

theorem strOk_mul {x : Str} {n : Int} (h : PyData.strOk x = true) : PyData.strOk (Txt.mul x n) = true := by
  unfold Txt.mul
  split
  · simp [PyData.strOk, Str.empty]
  · split
    · exact h
    · have key : ∀ (k : Nat) (acc : Array Nat), PyData.strOk ⟨acc⟩ = true → PyData.strOk ⟨(List.replicate k x.cps).foldl (· ++ ·) acc⟩ = true := by
        intro k
        induction k with
        | zero => intro acc h2; exact h2
        | succ k ih =>
          intro acc h2
          rw [List.replicate_succ, List.foldl_cons]
          exact ih _ (strOk_append (x := ⟨acc⟩) (y := x) h2 h)
      exact key _ _ (by simp [PyData.strOk])
theorem mulOk_small {x : Str} {n : Int} (h : x.length ≤ 100 ∧ 0 ≤ n ∧ n ≤ 100) : MulOk x n :=
  mulOk_of 100 100 h.1 h.2.2 (by omega) (by decide) (by decide)
theorem bits_small {a : Int} (h : a.natAbs < 2 ^ 60) : Builtin.Int.intBits a ≤ 64 := by
  unfold Builtin.Int.intBits
  by_cases h0 : a.natAbs = 0
  · have : a = 0 := by omega
    subst this; decide
  · have := (Nat.log2_lt h0).mpr h
    split <;> omega

inductive LstAt (h : Heap) (α : AL) (xs : List PV) (v : Value) : Prop
  | mk (a : Addr) (items : List Value) (n : Nat) (e : v = .ref a) (ht : h.get? a = some { cls := .type "list", data := .seq (List.toArray items) n }) (vs : VRs h α xs items) : LstAt h α xs v
theorem asLst_is {h : Heap} {hb : Bs} {σ : Sto} {α : AL} {a : PV} {x : Value} {xs : List PV} (r : R hb h σ α) (v : VR h α a x) (e : asLst σ a = some xs) :
    LstAt h α xs x := by
  cases a with
  | fl ys => obtain rfl := Option.some.inj e; obtain ⟨l, items, n, rfl, e1, _, vs⟩ := v.flE; exact ⟨l, items, n, rfl, e1, vs⟩
  | ref i =>
    cases v with
    | @ref _ l el =>
      simp only [asLst] at e
      cases hs : σ[i]? with
      | none => rw [hs] at e; contradiction
      | some m =>
        rw [hs] at e
        cases m with
        | lst ys => obtain rfl := Option.some.inj e; obtain ⟨items, n, e1, vs⟩ := r.obj i _ l hs el; exact ⟨l, items, n, rfl, e1, vs⟩
        | _ => contradiction
  | _ => contradiction

section
variable {K : Kt} {A : Around} {s : Shared} {α : AL} {σ : Sto}

theorem none_at (s : Shared) : s.heap.get? s.heap.objs.size = none := by
  cases hq : s.heap.get? s.heap.objs.size with
  | none => rfl
  | some o => exact absurd (Heap.lt_size hq) (Nat.lt_irrefl _)

/-- the end of a step that makes a new list that stays as it is -/
theorem Post.fl {xs : List PV} {vs : List Value} (r : R K.hb s.heap σ α) (v : VRs s.heap α xs vs) :
    Post K VR (.ok (.fl xs) σ) s α (.ref s.heap.objs.size) { s with heap := s.heap.push { cls := .type "list", data := .seq vs.toArray } } := by
  have k : ∀ b o, s.heap.get? b = some o → (s.heap.push { cls := .type "list", data := .seq vs.toArray }).get? b = some o := fun b o e => Heap.get?_push_of_some _ e
  refine ⟨_, _, _, rfl, .keeps k, r.keeps k, ?_, ⟨rfl, rfl⟩⟩
  refine VR.flI (n := 0) (Heap.get?_push_size _ rfl) (fun hm => ?_) (v.ext (.keeps (F := []) k))
  obtain ⟨o, e⟩ := r.liveAll hm; rw [none_at] at e; contradiction
theorem Post.tup {xs : List PV} {vs : List Value} (r : R K.hb s.heap σ α) (v : VRs s.heap α xs vs) :
    Post K VR (.ok (.tup xs) σ) s α (.ref s.heap.objs.size) { s with heap := s.heap.push { cls := .type "tuple", data := .seq vs.toArray } } := by
  have k : ∀ b o, s.heap.get? b = some o → (s.heap.push { cls := .type "tuple", data := .seq vs.toArray }).get? b = some o := fun b o e => Heap.get?_push_of_some _ e
  refine ⟨_, _, _, rfl, .keeps k, r.keeps k, ?_, ⟨rfl, rfl⟩⟩
  refine VR.tupI (n := 0) (Heap.get?_push_size _ rfl) (fun hm => ?_) (v.ext (.keeps (F := []) k))
  obtain ⟨o, e⟩ := r.liveAll hm; rw [none_at] at e; contradiction
theorem Post.here {β γ : Type} {Rel : Heap → AL → β → γ → Prop} {b : β} {y : γ} {tk : Nat} (r : R K.hb s.heap σ α) (v : Rel s.heap α b y) : Post K Rel (.ok b σ) s α y { s with toks := tk } :=
  ⟨_, _, _, rfl, .refl, r, v, ⟨rfl, rfl⟩⟩

theorem addLists_raw {l b : Addr} {vs ws : List Value} {n n2 : Nat} {Q : Value → Shared → Prop} {E : Value → Shared → Prop} (ho : s.heap.get? l = some { cls := .type "list", data := .seq vs.toArray n })
    (ho2 : s.heap.get? b = some { cls := .type "list", data := .seq ws.toArray n2 }) (hsz : vs.length + ws.length ≤ sizeLine)
    (h : Q (.ref s.heap.objs.size) { s with heap := s.heap.push { cls := .type "list", data := .seq (vs ++ ws).toArray } }) : wpAny (model K.prog K.w) A (binaryOp .Add (.ref l) (.ref b)) Q E s := by
  have e : vs.toArray ++ ws.toArray = (vs ++ ws).toArray := by simp
  refine concat_meets ⟨_, ho, rfl⟩ ⟨_, ho2, rfl⟩ noFill_list_add seq_list_add PySem.F.slot_list_add PySem.F.entry_list_add (PySem.F.args_list_add_2 _ _) (list_addW l b vs.toArray ws.toArray n n2 none none #[] #[] (by simpa using hsz)) ⟨ho, ho2, ?_⟩
  rw [e]; exact h

theorem addTuples_raw {t b : Addr} {vs ws : List Value} {n n2 : Nat} {Q : Value → Shared → Prop} {E : Value → Shared → Prop} (ho : s.heap.get? t = some { cls := .type "tuple", data := .seq vs.toArray n })
    (ho2 : s.heap.get? b = some { cls := .type "tuple", data := .seq ws.toArray n2 }) (hsz : vs.length + ws.length ≤ sizeLine)
    (h0 : vs = [] → Q (.ref b) s) (h1 : vs ≠ [] → ws = [] → Q (.ref t) s)
    (h2 : Q (.ref s.heap.objs.size) { s with heap := s.heap.push { cls := .type "tuple", data := .seq (vs ++ ws).toArray } }) : wpAny (model K.prog K.w) A (binaryOp .Add (.ref t) (.ref b)) Q E s := by
  have e : vs.toArray ++ ws.toArray = (vs ++ ws).toArray := by simp
  by_cases hv : vs = []
  · exact concat_meets ⟨_, ho, rfl⟩ ⟨_, ho2, rfl⟩ noFill_tuple_add seq_tuple_add PySem.F.slot_tuple_add PySem.F.entry_tuple_add (PySem.F.args_tuple_add_2 _ _)
      (tuple_addW0 t b vs.toArray ws.toArray n n2 none none #[] #[] (by simp [hv])) ⟨ho, ho2, h0 hv⟩
  · by_cases hw : ws = []
    · exact concat_meets ⟨_, ho, rfl⟩ ⟨_, ho2, rfl⟩ noFill_tuple_add seq_tuple_add PySem.F.slot_tuple_add PySem.F.entry_tuple_add (PySem.F.args_tuple_add_2 _ _)
        (tuple_addW1 t b vs.toArray ws.toArray n n2 none none #[] #[] (by simpa using hv) (by simp [hw])) ⟨ho, ho2, h1 hv hw⟩
    · refine concat_meets ⟨_, ho, rfl⟩ ⟨_, ho2, rfl⟩ noFill_tuple_add seq_tuple_add PySem.F.slot_tuple_add PySem.F.entry_tuple_add (PySem.F.args_tuple_add_2 _ _)
        (tuple_addW2 t b vs.toArray ws.toArray n n2 none none #[] #[] (by simpa using hv) (by simpa using hw) (by rw [List.size_toArray, List.size_toArray]; exact hsz)) ⟨ho, ho2, ?_⟩
      rw [e]; exact h2

theorem arith_sound {f : Int → Int → Out PV} {o : Operator} {a b : PV} {x y : Value} (va : VR s.heap α a x) (vb : VR s.heap α b y)
    (H : ∀ i j t u, f i j ≠ .stuck → wpAny (model K.prog K.w) A (binaryOp o (.int i t) (.int j u)) (Post K VR (f i j) s α) (PostX K A (f i j) s α) s) : Runs K VR A (binaryOp o x y) (arith f a b) s α := by
  intro hc tk
  cases a with
  | int i =>
    cases b with
    | int j => cases va; cases vb; exact H i j _ _ hc
    | _ => exact absurd rfl hc
  | _ => exact absurd rfl hc
theorem addL_sound {a b : PV} {x y : Value} (r : R K.hb s.heap σ α) (va : VR s.heap α a x) (vb : VR s.heap α b y) (he : addv a b σ = (match asLst σ a with
    | some x => match asLst σ b with
      | some y => if x.length + y.length ≤ lim then .ok (.fl (x ++ y)) σ else .stuck
      | none => .stuck
    | none => .stuck)) : Runs K VR A (binaryOp .Add x y) (addv a b σ) s α := by
  intro hc tk
  rw [he] at hc ⊢
  cases h1 : asLst σ a with
  | none => rw [h1] at hc; exact absurd rfl hc
  | some xs =>
    cases h2 : asLst σ b with
    | none => rw [h1, h2] at hc; exact absurd rfl hc
    | some ys =>
      rw [h1, h2] at hc
      dsimp only at hc ⊢
      by_cases hl : xs.length + ys.length ≤ lim
      · rw [if_pos hl]
        obtain ⟨l, vs, n, rfl, e1, v1⟩ := asLst_is r va h1
        obtain ⟨l2, ws, m, rfl, e2, v2⟩ := asLst_is r vb h2
        exact addLists_raw e1 e2 (by rw [← v1.1, ← v2.1]; exact lim_line hl) (.fl r (v1.append v2))
      · rw [if_neg hl] at hc; exact absurd rfl hc
theorem addv_sound {a b : PV} {x y : Value} (r : R K.hb s.heap σ α) (va : VR s.heap α a x) (vb : VR s.heap α b y) : Runs K VR A (binaryOp .Add x y) (addv a b σ) s α := by
  cases a with
  | int i =>
    intro hc tk
    cases b with
    | int j => cases va; cases vb; exact P.add_int (.here r (.int _ _))
    | _ => exact absurd rfl hc
  | str p =>
    intro hc tk
    cases b with
    | str q =>
      cases va with | str _ _ h1 => cases vb with | str _ _ h2 =>
      change (if p.length + q.length ≤ lim then Out.ok (PV.str (p ++ q)) σ else .stuck) ≠ .stuck at hc
      show wpAny _ _ _ (Post K VR (if p.length + q.length ≤ lim then Out.ok (PV.str (p ++ q)) σ else .stuck) s α) (PostX K A (if p.length + q.length ≤ lim then Out.ok (PV.str (p ++ q)) σ else .stuck) s α) s
      by_cases hl : p.length + q.length ≤ lim
      · rw [if_pos hl]; exact PyProof.Rows.add_str (fun t' tk => .here r (.str _ _ (strOk_append h1 h2))) (lim_line hl)
      · rw [if_neg hl] at hc; exact absurd rfl hc
    | _ => exact absurd rfl hc
  | tup p =>
    intro hc tk
    cases b with
    | tup q =>
      change (if p.length + q.length ≤ lim then Out.ok (PV.tup (p ++ q)) σ else .stuck) ≠ .stuck at hc
      show wpAny _ _ _ (Post K VR (if p.length + q.length ≤ lim then Out.ok (PV.tup (p ++ q)) σ else .stuck) s α) (PostX K A (if p.length + q.length ≤ lim then Out.ok (PV.tup (p ++ q)) σ else .stuck) s α) s
      by_cases hl : p.length + q.length ≤ lim
      · rw [if_pos hl]
        obtain ⟨t, vs, n, rfl, e1, n1, v1⟩ := va.tupE
        obtain ⟨u, ws, m, rfl, e2, n2, v2⟩ := vb.tupE
        refine addTuples_raw e1 e2 (by rw [← v1.1, ← v2.1]; exact lim_line hl) (fun h => ?_) (fun _ h => ?_) (.tup r (v1.append v2))
        · refine ⟨_, _, _, rfl, .refl, r, ?_, .refl _⟩
          have : _ = 0 := v1.1.trans (by rw [h]; rfl)
          rw [List.eq_nil_of_length_eq_zero this]; exact vb
        · refine ⟨_, _, _, rfl, .refl, r, ?_, .refl _⟩
          have : _ = 0 := v2.1.trans (by rw [h]; rfl)
          rw [List.eq_nil_of_length_eq_zero this, List.append_nil]; exact va
      · rw [if_neg hl] at hc; exact absurd rfl hc
    | _ => exact absurd rfl hc
  | none => exact addL_sound r va vb rfl
  | bool _ => exact addL_sound r va vb rfl
  | fl _ => exact addL_sound r va vb rfl
  | ref _ => exact addL_sound r va vb rfl
  | exc _ => exact addL_sound r va vb rfl
  | inst _ _ => exact addL_sound r va vb rfl
theorem VRs.rep {h : Heap} {xs : List PV} {vs : List Value} (v : VRs h α xs vs) : ∀ k : Nat, VRs h α (List.replicate k xs).flatten (List.replicate k vs).flatten
  | 0 => by simpa using VRs.nil
  | k + 1 => by simpa [List.replicate_succ] using v.append (v.rep k)
theorem mulList_raw {l : Addr} {vs : List Value} {n : Nat} {x : Int} {u : Tok} {Q : Value → Shared → Prop} {E : Value → Shared → Prop} (hl : s.heap.get? l = some { cls := .type "list", data := .seq vs.toArray n }) (h0 : 0 ≤ x) (h1 : x ≤ 100) (h2 : vs.length ≤ 100)
    (h : Q (.ref s.heap.objs.size) { s with heap := s.heap.push { cls := .type "list", data := .seq (List.replicate x.toNat vs).flatten.toArray } }) : wpAny (model K.prog K.w) A (binaryOp .Mult (.ref l) (.int x u)) Q E s := by
  have hsz : vs.toArray.size * x.toNat ≤ 2 ^ 24 := by
    rw [List.size_toArray]
    exact Nat.le_trans (Nat.mul_le_mul h2 (show x.toNat ≤ 100 by omega)) (by decide)
  refine wpAny_binaryOp_repeat_ref (T := "list") (U := "int") (by decide) ⟨_, hl, rfl⟩ (fun s' => typeIs_int s' x u) noFill_list_mul F.fills_int_mul F.slot_int_rmul repeat_list F.slot_int_index.lookup
    (call_meets F.slot_int_rmul (typeIs_int s x u) F.entry_int_rmul (F.args_int_rmul_2 _ _) (int___rmul___int_list x u l vs.toArray n)
      ⟨hl, rfl, ⟨_, hl, rfl⟩, call_meets F.slot_list_mul ⟨_, hl, rfl⟩ F.entry_list_mul (F.args_list_mul_2 _ _)
        (AutoListH.list___mul___list_int_3 l vs.toArray n x u (by simp [Builtin.List.listFitsIndex]; omega) (by omega) (by simp [Builtin.List.listTooLong, sizeLine]; simpa using hsz)) ⟨hl, ?_⟩⟩)
  rw [listMul_foldl]
  have e : (if vs.toArray.isEmpty = true then 0 else x.toNat) = x.toNat ∨ vs = [] := by
    cases vs with
    | nil => exact .inr rfl
    | cons => exact .inl rfl
  rcases e with e | rfl
  · rw [e]; simpa using h
  · simpa using h
theorem noFill_tuple_mul : fillsNumberSlot (.type "tuple") "mul" = pure false :=
  PySem.fillsNumberSlot_seq (id := "tuple.__mul__") (r := some (.builtin "tuple.__rmul__")) F.slot_tuple_mul.lookup (by decide +kernel) F.slot_tuple_rmul.lookup (by decide +kernel)
theorem repeat_tuple : seqRepeat? (.type "tuple") = pure (some (.builtin "tuple.__mul__")) := by
  unfold seqRepeat?
  rw [PySem.seqSlot_of (T := "tuple") (name := "__mul__") (id := "tuple.__mul__") F.slot_tuple_mul.lookup (by decide +kernel), PySem.seqSlot_of (T := "tuple") (name := "__rmul__") (id := "tuple.__rmul__") F.slot_tuple_rmul.lookup (by decide +kernel)]
  rfl
theorem rmul_tuple (a : Int) (t : Tok) (l : Addr) (items : Array Value) (n : Nat) :
    Meets (Builtin.«int.__rmul__» ⟨[.int a t, .ref l], []⟩) (fun _ R s => s.heap.get? l = some { cls := .type "tuple", dict := none, data := .seq items n, slots := #[] } ∧ R (.ok (.ret Value.notImplemented)) s) :=
  .of_wp fun prog w A R s h => by obtain ⟨hp, g, d, tk, os⟩ := s; obtain ⟨hl, h⟩ := h; wp_walk; exact ⟨_, rfl, h⟩
theorem fold_size {items : Array Value} : ∀ (k : Nat) (acc : Array Value), (List.foldl (fun x1 x2 => x1 ++ x2) acc (List.replicate k items)).size = acc.size + k * items.size
  | 0, acc => by simp
  | k + 1, acc => by rw [List.replicate_succ, List.foldl_cons, fold_size k, Array.size_append, Nat.succ_mul]; omega
theorem mul_tuple (l : Addr) (items : Array Value) (n : Nat) (a : Int) (t : Tok) (h1 : 2 ≤ a) (h2 : a ≤ 100) (h3 : items.isEmpty = false) (h4 : items.size ≤ 100) :
    Meets (Builtin.«tuple.__mul__» ⟨[.ref l, .int a t], []⟩) (fun _ R s => s.heap.get? l = some { cls := .type "tuple", dict := none, data := .seq items n, slots := #[] } ∧
      R (.ok (.ret (.ref s.heap.objs.size))) { s with heap := s.heap.push { cls := .type "tuple", data := .seq ((List.replicate a.toNat items).foldl (· ++ ·) #[]) } }) :=
  .of_wp fun prog w A R s h => by
    obtain ⟨hp, g, d, tk, os⟩ := s
    obtain ⟨hl, h⟩ := h
    have c1 : (decide (a < -2 ^ 63) || decide (a ≥ 2 ^ 63)) = false := by
      rw [decide_eq_false (by omega), decide_eq_false (by omega)]; rfl
    have c2 : (items.isEmpty || a == 1) = false := by rw [h3, Bool.false_or]; exact beq_eq_false_iff_ne.mpr (by omega)
    have c3 : (decide (a ≤ 0) || items.isEmpty) = false := by rw [h3, decide_eq_false (by omega)]; rfl
    wp_walk
    refine wpAny_ite_false (decide_eq_false (by rw [c1]; exact Bool.false_ne_true)) ?_
    wp_walk
    refine wpAny_ite_false (decide_eq_false (by rw [c2]; exact Bool.false_ne_true)) ?_
    wp_walk
    refine wpAny_ite_false (decide_eq_false (by rw [c3]; exact Bool.false_ne_true)) ?_
    have c4 : (items.size : Int) * a ≤ 100 * 100 := Int.mul_le_mul (Int.ofNat_le.mpr h4) h2 (by omega) (by decide)
    have c5 : Builtin.Tuple.tupleTooMany ((items.size : Int) * a) = false := by
      unfold Builtin.Tuple.tupleTooMany
      exact decide_eq_false (by rw [sizeLine_eq]; omega)
    wp_walk
    refine wpAny_ite_false (decide_eq_false (by omega)) ?_
    wp_walk
    refine wpAny_ite_false (decide_eq_false (Nat.not_lt.mpr (by
      rw [fold_size, sizeLine_eq]
      exact Nat.le_trans (Nat.add_le_add (Nat.le_refl 0) (Nat.mul_le_mul (Int.toNat_le.mpr h2) h4)) (by decide)))) ?_
    wp_walk
    exact ⟨_, rfl, h⟩
theorem mulTup_raw {l : Addr} {vs : List Value} {n : Nat} {x : Int} {u : Tok} {Q : Value → Shared → Prop} {E : Value → Shared → Prop} (hl : s.heap.get? l = some { cls := .type "tuple", data := .seq vs.toArray n }) (h0 : 2 ≤ x) (h1 : x ≤ 100) (h2 : vs.length ≤ 100) (h3 : vs.isEmpty = false)
    (h : Q (.ref s.heap.objs.size) { s with heap := s.heap.push { cls := .type "tuple", data := .seq (List.replicate x.toNat vs).flatten.toArray } }) : wpAny (model K.prog K.w) A (binaryOp .Mult (.ref l) (.int x u)) Q E s := by
  refine wpAny_binaryOp_repeat_ref (T := "tuple") (U := "int") (by decide) ⟨_, hl, rfl⟩ (fun s' => typeIs_int s' x u) noFill_tuple_mul F.fills_int_mul F.slot_int_rmul repeat_tuple F.slot_int_index.lookup
    (call_meets F.slot_int_rmul (typeIs_int s x u) F.entry_int_rmul (F.args_int_rmul_2 _ _) (rmul_tuple x u l vs.toArray n)
      ⟨hl, rfl, ⟨_, hl, rfl⟩, call_meets F.slot_tuple_mul ⟨_, hl, rfl⟩ F.entry_tuple_mul (F.args_tuple_mul_2 _ _)
        (mul_tuple l vs.toArray n x u h0 h1 (by simpa using h3) (by simpa using h2)) ⟨hl, ?_⟩⟩)
  rw [listMul_foldl]
  simpa using h
theorem mulv_sound {a b : PV} {x y : Value} (r : R K.hb s.heap σ α) (va : VR s.heap α a x) (vb : VR s.heap α b y) : Runs K VR A (binaryOp .Mult x y) (mulv a b σ) s α := by
  intro hc tk
  cases b with
  | int j =>
    cases vb
    cases a with
    | int i =>
      cases va
      change (if mulOk i j = true then Out.ok (PV.int (i * j)) σ else .stuck) ≠ .stuck at hc
      show wpAny _ _ _ (Post K VR (if mulOk i j = true then Out.ok (PV.int (i * j)) σ else .stuck) s α) (PostX K A (if mulOk i j = true then Out.ok (PV.int (i * j)) σ else .stuck) s α) s
      by_cases hm : mulOk i j = true
      · rw [if_pos hm]
        refine P.mul_int (.here r (.int _ _)) ?_
        exact (of_decide_eq_true hm).elim (fun h => .of_left (bits_small h)) fun h => .of_right (bits_small h)
      · rw [if_neg hm] at hc; exact absurd rfl hc
    | str p =>
      cases va with | str _ _ hx =>
      change (if p.length ≤ 100 ∧ 0 ≤ j ∧ j ≤ 100 then Out.ok (PV.str (Txt.mul p j)) σ else .stuck) ≠ .stuck at hc
      show wpAny _ _ _ (Post K VR (if p.length ≤ 100 ∧ 0 ≤ j ∧ j ≤ 100 then Out.ok (PV.str (Txt.mul p j)) σ else .stuck) s α) (PostX K A (if p.length ≤ 100 ∧ 0 ≤ j ∧ j ≤ 100 then Out.ok (PV.str (Txt.mul p j)) σ else .stuck) s α) s
      by_cases h0 : p.length ≤ 100 ∧ 0 ≤ j ∧ j ≤ 100
      · rw [if_pos h0]; exact SB.mul (mulOk_small h0) fun t' tk => .here r (.str _ _ (strOk_mul hx))
      · rw [if_neg h0] at hc; exact absurd rfl hc
    | fl xs =>
      obtain ⟨l, vs, n, rfl, e1, _, v⟩ := va.flE
      change (if xs.length ≤ 100 ∧ 0 ≤ j ∧ j ≤ 100 then Out.ok (PV.fl (List.replicate j.toNat xs).flatten) σ else .stuck) ≠ .stuck at hc
      show wpAny _ _ _ (Post K VR (if xs.length ≤ 100 ∧ 0 ≤ j ∧ j ≤ 100 then Out.ok (PV.fl (List.replicate j.toNat xs).flatten) σ else .stuck) s α) (PostX K A (if xs.length ≤ 100 ∧ 0 ≤ j ∧ j ≤ 100 then Out.ok (PV.fl (List.replicate j.toNat xs).flatten) σ else .stuck) s α) s
      by_cases h0 : xs.length ≤ 100 ∧ 0 ≤ j ∧ j ≤ 100
      · rw [if_pos h0]; exact mulList_raw e1 h0.2.1 h0.2.2 (by rw [← v.1]; exact h0.1) (Post.fl r (v.rep _))
      · rw [if_neg h0] at hc; exact absurd rfl hc
    | tup xs =>
      obtain ⟨l, vs, n, rfl, e1, hn, v⟩ := va.tupE
      have e : mulv (.tup xs) (.int j) σ = if (xs.length ≤ 100 ∧ 2 ≤ j ∧ j ≤ 100) ∧ xs.isEmpty = false then .ok (.tup (List.replicate j.toNat xs).flatten) σ else .stuck := rfl
      rw [e] at hc ⊢
      by_cases h0 : (xs.length ≤ 100 ∧ 2 ≤ j ∧ j ≤ 100) ∧ xs.isEmpty = false
      · rw [if_pos h0]
        refine mulTup_raw e1 h0.1.2.1 h0.1.2.2 (by rw [← v.1]; exact h0.1.1) ?_ (Post.tup r (v.rep _))
        cases vs with
        | nil => rw [List.eq_nil_of_length_eq_zero v.1] at h0; exact absurd h0.2 (by simp)
        | cons _ _ => rfl
      · rw [if_neg h0] at hc; exact absurd rfl hc
    | _ => exact absurd rfl hc
  | _ => exact absurd rfl hc
theorem binop_sound {o : Op} {a b : PV} {x y : Value} (hA : AOk A) (r : R K.hb s.heap σ α) (va : VR s.heap α a x) (vb : VR s.heap α b y) :
    Runs K VR A (binaryOp (opOf o) x y) (binop o a b σ) s α := by
  cases o with
  | add => exact addv_sound r va vb
  | mul => exact mulv_sound r va vb
  | sub => exact arith_sound va vb fun i j t u _ => P.sub_int (.here r (.int _ _))
  | mod =>
    refine arith_sound va vb fun i j t u hc => ?_
    by_cases h0 : j = 0
    · rw [if_pos h0] at hc; exact absurd rfl hc
    · rw [if_neg h0]; exact mod_int' h0 (.here r (.int _ _))
  | fdiv =>
    refine arith_sound va vb fun i j t u hc => ?_
    by_cases h0 : j ≠ 0 ∧ j.natAbs < 1073741824
    · rw [if_pos h0]; exact floordiv_int h0.1 (.here r (.int _ _)) (.inl (PyProof.noPylong_small h0.2))
    · rw [if_neg h0] at hc; exact absurd rfl hc
  | pow =>
    refine arith_sound va vb fun i j t u hc => ?_
    by_cases h0 : 0 ≤ j ∧ j ≤ 100 ∧ i = 10
    · rw [if_pos h0]
      obtain ⟨h1, h2, rfl⟩ := h0
      refine pow_int h1 ?_ (.here r (.int _ _))
      have : Builtin.Int.intBits 10 = 4 := by decide +kernel
      rw [this]; omega
    · rw [if_neg h0] at hc; exact absurd rfl hc
end
end Mine

namespace Mine
open PySem PyProof.Rows

section
variable {K : Kt} {A : Around} {s : Shared} {α : AL} {σ : Sto}

theorem VR.ne_none {h : Heap} {a : PV} {x : Value} (v : VR h α a x) (hn : a ≠ .none) : x ≠ .none := by
  cases v <;> first | exact absurd rfl hn | (intro e; contradiction)

/-- `x in xs` over a list or tuple -/
theorem memv_sound {a : PV} {x : Value} {xs : List PV} {l : Addr} {items : List Value} {n : Nat} {T : String} (hT : T = "list" ∨ T = "tuple") (hA : AOk A) (r : R K.hb s.heap σ α) (va : VR s.heap α a x)
    (e1 : s.heap.get? l = some { cls := .type T, data := .seq items.toArray n }) (vs : VRs s.heap α xs items) :
    Runs K RelB A (compareOp .In x (.ref l)) (Out.ofOpt (memv σ a xs) σ) s α ∧
    Runs K RelB A (compareOp .NotIn x (.ref l)) (Out.ofOpt ((memv σ a xs).map (!·)) σ) s α := by
  unfold memv
  cases h1 : toD 16 σ a with
  | none => exact ⟨fun hc => absurd rfl hc, fun hc => absurd rfl hc⟩
  | some d =>
    cases h2 : xs.mapM (toD 16 σ) with
    | none => exact ⟨fun hc => absurd rfl hc, fun hc => absurd rfl hc⟩
    | some ds =>
      obtain ⟨as, r1, c1, p1⟩ := reads_of r 16 a x d va h1
      obtain ⟨bs, r2, c2, p2⟩ := mapM_reads (n := 16) h2 vs.1 fun i x v d e1 e2 e3 => reads_of r 16 x v d (vs.2 i x v e1 e2) e3
      have hu : A.units + 1 + min (PyData.depthAll ds) d.depth < cLine := by have := hA.units; omega
      rcases hT with rfl | rfl
      · have rc : Reads s.heap (.ref l) (.list ds) (l :: bs) := .list e1 rfl rfl (by simpa using r2)
        exact ⟨fun _ _ => SeqAt.in_list_reads rc r1 (by simpa [PyData.canLay0] using c2) c1 hu ⟨_, σ, α, rfl, .refl, r, rfl, .refl s⟩,
          fun _ _ => SeqAt.notIn_list_reads rc r1 (by simpa [PyData.canLay0] using c2) c1 hu ⟨_, σ, α, rfl, .refl, r, rfl, .refl s⟩⟩
      · have rc : Reads s.heap (.ref l) (.tuple ds) bs := .tuple e1 rfl rfl (by simpa using r2)
        exact ⟨fun _ _ => SeqAt.in_tuple_reads rc r1 (by simpa [PyData.canLay0] using c2) c1 hu ⟨_, σ, α, rfl, .refl, r, rfl, .refl s⟩,
          fun _ _ => SeqAt.notIn_tuple_reads rc r1 (by simpa [PyData.canLay0] using c2) c1 hu ⟨_, σ, α, rfl, .refl, r, rfl, .refl s⟩⟩

theorem occ_one (x : Str) (c : Nat) : (!(Builtin.Str.occurrences x ⟨#[c]⟩ 0 x.length 1).isEmpty) = x.cps.toList.contains c := by
  rw [StrLaws.found_one]; simp

theorem ord_sound {f : Int → Int → Bool} {o : CmpOp} {a b : PV} {x y : Value} (r : R K.hb s.heap σ α) (va : VR s.heap α a x) (vb : VR s.heap α b y)
    (H : ∀ i j t u (Q : Value → Shared → Prop) (E : Value → Shared → Prop), Q (.bool (f i j)) s → wpAny (model K.prog K.w) A (compareOp o (.int i t) (.int j u)) Q E s) : Runs K RelB A (compareOp o x y) (ordv f a b σ) s α := by
  intro hc tk
  cases a with
  | int i =>
    cases b with
    | int j => cases va; cases vb; exact H i j _ _ _ _ ⟨_, σ, α, rfl, .refl, r, rfl, .refl s⟩
    | _ => exact absurd rfl hc
  | _ => exact absurd rfl hc
theorem isv_sound {f : Bool → Bool} {o : CmpOp} {a b : PV} {x y : Value} (r : R K.hb s.heap σ α) (va : VR s.heap α a x) (vb : VR s.heap α b y)
    (H1 : ∀ (Q : Value → Shared → Prop) (E : Value → Shared → Prop), Q (.bool (f true)) s → wpAny (model K.prog K.w) A (compareOp o .none .none) Q E s)
    (H2 : ∀ (x : Value) (Q : Value → Shared → Prop) (E : Value → Shared → Prop), x ≠ .none → Q (.bool (f false)) s → wpAny (model K.prog K.w) A (compareOp o x .none) Q E s)
    (H3 : ∀ (p q : Bool) (Q : Value → Shared → Prop) (E : Value → Shared → Prop), Q (.bool (f (decide (p = q)))) s → wpAny (model K.prog K.w) A (compareOp o (.bool p) (.bool q)) Q E s) : Runs K RelB A (compareOp o x y) (isv f a b σ) s α := by
  intro hc tk
  cases b with
  | none =>
    cases vb
    show wpAny _ _ _ (Post K RelB (.ok (f (isNoneV a)) σ) s α) _ _
    by_cases hn : a = .none
    · subst hn; cases va; exact H1 _ _ ⟨_, σ, α, rfl, .refl, r, rfl, .refl s⟩
    · have : isNoneV a = false := by cases a <;> first | rfl | exact absurd rfl hn
      rw [this]
      exact H2 _ _ _ (va.ne_none hn) ⟨_, σ, α, rfl, .refl, r, rfl, .refl s⟩
  | bool q =>
    cases a with
    | bool p => cases va; cases vb; exact H3 _ _ _ _ ⟨_, σ, α, rfl, .refl, r, rfl, .refl s⟩
    | _ => exact absurd rfl hc
  | _ => exact absurd rfl hc
theorem isinv_ref {a : PV} {i : Nat} : isinv a (.ref i) σ = match σ[i]? with
      | some (.lst xs) => memv σ a xs
      | some (.ds es) => (match a with
        | .str k => some (aget k es).isSome
        | _ => none)
      | some (.dp es) => (keyP a).map fun k => (aget k es).isSome
      | _ => none := rfl
theorem isin_sound {a b : PV} {x y : Value} (hK : K.Ok) (hA : AOk A) (r : R K.hb s.heap σ α) (va : VR s.heap α a x) (vb : VR s.heap α b y) : Runs K RelB A (compareOp .In x y) (Out.ofOpt (isinv a b σ) σ) s α ∧ Runs K RelB A (compareOp .NotIn x y) (Out.ofOpt ((isinv a b σ).map (!·)) σ) s α := by
  cases b with
  | tup xs => obtain ⟨l, items, n, rfl, e1, _, vs⟩ := vb.tupE; exact memv_sound (.inr rfl) hA r va e1 vs
  | str z =>
    cases vb
    cases a with
    | str w =>
      cases va
      have e : isinv (.str w) (.str z) σ = match w.cps.toList with
        | [c] => some (z.cps.toList.contains c)
        | _ => none := rfl
      rw [e]
      cases hcs : w.cps.toList with
      | nil => exact ⟨fun hc => absurd rfl hc, fun hc => absurd rfl hc⟩
      | cons c rr =>
        cases rr with
        | cons _ _ => exact ⟨fun hc => absurd rfl hc, fun hc => absurd rfl hc⟩
        | nil =>
          have hw : w = ⟨#[c]⟩ := by cases w; simp at hcs; simp [← hcs]
          subst hw
          exact ⟨fun _ _ => PyProof.Rows.in_str (by rw [occ_one]; exact ⟨_, σ, α, rfl, .refl, r, rfl, .refl s⟩), fun _ _ => PyProof.Rows.notIn_str (by rw [occ_one]; exact ⟨_, σ, α, rfl, .refl, r, rfl, .refl s⟩)⟩
    | _ => exact ⟨fun hc => absurd rfl hc, fun hc => absurd rfl hc⟩
  | fl xs => obtain ⟨l, items, n, rfl, e1, _, vs⟩ := vb.flE; exact memv_sound (.inl rfl) hA r va e1 vs
  | ref i =>
    cases vb with | @ref _ l el =>
    rw [isinv_ref]
    cases hs : σ[i]? with
    | none => exact ⟨fun hc => absurd rfl hc, fun hc => absurd rfl hc⟩
    | some m =>
      cases m with
      | lst xs => obtain ⟨items, n, e1, vs⟩ := r.obj i _ l hs el; exact memv_sound (.inl rfl) hA r va e1 vs
      | ds es =>
        cases a with
        | str k => cases va; exact in_ds hK r hs el
        | _ => exact ⟨fun hc => absurd rfl hc, fun hc => absurd rfl hc⟩
      | dp es =>
        cases hk : keyP a with
        | none => exact ⟨fun hc => absurd rfl hc, fun hc => absurd rfl hc⟩
        | some k => exact in_dp hK hA r hs el hk va
      | _ => exact ⟨fun hc => absurd rfl hc, fun hc => absurd rfl hc⟩
  | _ => exact ⟨fun hc => absurd rfl hc, fun hc => absurd rfl hc⟩
theorem cmpop_sound {o : Cm} {a b : PV} {x y : Value} (hK : K.Ok) (hA : AOk A) (r : R K.hb s.heap σ α) (va : VR s.heap α a x) (vb : VR s.heap α b y) :
    Runs K RelB A (compareOp (cmOf o) x y) (cmpop o a b σ) s α := by
  cases o with
  | eq => exact cmpEq_sound hA r va vb
  | ne => exact cmpNe_sound hA r va vb
  | lt => exact ord_sound r va vb fun i j t u Q E h => P.lt_int h
  | le => exact ord_sound r va vb fun i j t u Q E h => P.le_int h
  | gt => exact ord_sound r va vb fun i j t u Q E h => P.gt_int h
  | ge => exact ord_sound r va vb fun i j t u Q E h => P.ge_int h
  | is => exact isv_sound (f := id) r va vb (fun Q E h => is_none_none h) (fun x Q E hn h => is_none_ne hn h) fun p q Q E h => is_bool h
  | isNot => exact isv_sound (f := (!·)) r va vb (fun Q E h => isnot_none_none h) (fun x Q E hn h => isnot_none_ne hn h) fun p q Q E h => isnot_bool h
  | isin => exact (isin_sound hK hA r va vb).1
  | notin => exact (isin_sound hK hA r va vb).2
end
end Mine

namespace Mine
open PySem PyProof.Rows

/-! the set of some texts -/
noncomputable def metS (ys : List Str) (i : Nat) : List Str := dedupS (ys.take i)
noncomputable def putS (a : List Str) (x : Str) : List Str := if a.any (· == x) then a else a ++ [x]
theorem metS_succ {ys : List Str} {i : Nat} {y : Str} (h : ys[i]? = some y) : metS ys (i + 1) = putS (metS ys i) y := by
  unfold metS dedupS
  rw [List.take_add_one, h, Option.toList_some, List.foldl_append]; rfl
theorem putS_any (a : List Str) (v k : Str) : (putS a v).any (· == k) = (a.any (· == k) || decide (k = v)) := by
  unfold putS
  by_cases h : a.any (· == v) = true
  · rw [if_pos h]
    by_cases e : k = v
    · subst e; rw [h]; rfl
    · simp [e]
  · rw [if_neg h, List.any_append]
    congr 1
    by_cases e : k = v
    · subst e; simp
    · have : (v == k) = false := by simpa using fun q : v = k => e q.symm
      simp [e, this]
theorem putS_length (a : List Str) (v : Str) : (putS a v).length = if a.any (· == v) then a.length else a.length + 1 := by
  unfold putS; split <;> simp
theorem dedupS_le (l : List Str) : (dedupS l).length ≤ l.length := by
  unfold dedupS
  have : ∀ (l a : List Str), (l.foldl putS a).length ≤ a.length + l.length := by
    intro l
    induction l with
    | nil => intro a; simp
    | cons x l ih =>
      intro a
      have h1 := ih (putS a x)
      have h2 := putS_length a x
      rw [List.foldl_cons, List.length_cons]
      split at h2 <;> omega
  have h := this l []
  rw [List.length_nil, Nat.zero_add] at h
  exact h
theorem metS_le (ys : List Str) (i : Nat) : (metS ys i).length ≤ i := Nat.le_trans (dedupS_le _) (by rw [List.length_take]; exact Nat.min_le_left _ _)

theorem strs_at : ∀ {vs : List Value} {ys : List Str}, StrsAre vs ys → ∀ (i : Nat) (v : Value), vs[i]? = some v → ∃ y t, ys[i]? = some y ∧ v = .str y t
  | _, _, .nil, i, v, h => by simp at h
  | _, _, .cons y t r, 0, v, h => by simp at h; exact ⟨y, t, rfl, h.symm⟩
  | _, _, .cons y t r, i + 1, v, h => by simpa using strs_at r i v (by simpa using h)
theorem strs_len : ∀ {vs : List Value} {ys : List Str}, StrsAre vs ys → vs.length = ys.length
  | _, _, .nil => rfl
  | _, _, .cons _ _ r => by simp [strs_len r]

section
variable {prog : Program} {w : World} {A : Around} {R : Result → Shared → Prop} {I : Addr} {fp wr : List Addr} {G : Array GenState → Array GenState → Prop} {n : Nat} {P : Nat → Value → Prop} {St : Nat → Shared → Prop}

theorem set_fill (W : WalksS prog w A.in1 I fp wr G n P St) (S : Addr) (hSf : S ∉ fp) (ys : List Str) (hval : ∀ i v, P i v → ∃ y t, ys[i]? = some y ∧ v = .str y t) (hb : n + 1 < scanBound) :
    ∀ (k i : Nat) (s : Shared), n - i = k → i ≤ n → St i s → s.heap.SetOf (strKind prog w) S (fun z => (metS ys i).any (· == z)) (metS ys i).length →
      (∀ s', Moved (S :: wr) G s s' → s'.heap.SetOf (strKind prog w) S (fun z => (metS ys n).any (· == z)) (metS ys n).length → R (.ok (.ret .none)) s') →
      codeAny (model prog w) A (.builtin "set.update.loop" ⟨[.ref S, .ref I], []⟩) R s := by
  have hSw : S ∉ wr := fun h => hSf (W.sub _ h)
  have hsub : ∀ b ∈ wr, b ∈ S :: wr := fun b hb => List.mem_cons_of_mem _ hb
  have stay : ∀ {s s' : Shared} {i : Nat}, Moved wr G s s' → s.heap.SetOf (strKind prog w) S (fun z => (metS ys i).any (· == z)) (metS ys i).length → s'.heap.SetOf (strKind prog w) S (fun z => (metS ys i).any (· == z)) (metS ys i).length := by
    intro s s' i hm hS
    obtain ⟨o, es, ep, t, ho, rest⟩ := hS
    exact ⟨o, es, ep, t, hm.heap S _ hSw ho, rest⟩
  intro k
  induction k with
  | zero =>
    intro i s hk hi hst hS hR
    have : i = n := by omega
    subst this
    refine codeAny_builtin F.entry_set_update_loop ?_
    rw [Around.under_plainId F.plain_set_update_loop _]
    show wpAny _ A.in1 (pyNext (.ref I) >>= _) _ _ s
    refine wpAny_bind (W.done s _ _ hst fun s' hm => ?_)
    exact wpAny_pure (hR s' (hm.mono hsub) (stay hm hS))
  | succ k ih =>
    intro i s hk hi hst hS hR
    have hlt : i < n := by omega
    refine codeAny_builtin F.entry_set_update_loop ?_
    rw [Around.under_plainId F.plain_set_update_loop _]
    show wpAny _ A.in1 (pyNext (.ref I) >>= _) _ _ s
    refine wpAny_bind (W.item i s _ _ hlt hst fun v s' hP hst' hm => ?_)
    obtain ⟨y, t, hy, rfl⟩ := hval i v hP
    show wpAny _ A.in1 (holding [Value.str y t] (setAdd S (.str y t)) >>= _) _ _ s'
    refine wpAny_bind (wpAny_holding ?_)
    unfold setAdd
    refine wpAny_holding (wpAny_bind ((strKind prog w).pyHash (k := y) (strKind_is _ _ _ _) ?_))
    have hS' : s'.heap.SetOf (strKind prog w) S (fun z => (metS ys i).any (· == z)) (metS ys i).length := stay hm hS
    refine wpAny_setAddHashed_of (knd := strKind prog w) (s := { s' with toks := s'.toks + 1 }) (strKind_is _ _ _ _) rfl hS' (by have := metS_le ys i; omega) fun h' hsb hS2 => ?_
    have hSi : h'.SetOf (strKind prog w) S (fun z => (metS ys (i + 1)).any (· == z)) (metS ys (i + 1)).length :=
      SetOf_congr hS2 (fun z => by rw [metS_succ hy, putS_any]) (by rw [metS_succ hy, putS_length])
    refine wpAny_pure ⟨plainId_quiet F.plain_set_update_loop _, ih (i + 1) _ (by omega) hlt (W.frame _ s' _ _ hst' (Nat.le_succ _) fun b hb o e => ?_) hSi fun s'' hm'' hS'' => ?_⟩
    · rw [hsb.2 b (fun h : b = S => hSf (h ▸ hb))]; exact e
    · refine hR s'' (Moved.trans W.gtrans ((hm.mono hsub).then_heap (Nat.le_succ _) fun b o hb e => ?_) hm'') hS''
      rw [hsb.2 b (fun h : b = S => hb (by rw [h]; exact List.mem_cons_self))]; exact e
end

theorem sub_tuple_set : isSubtype (.type "tuple") (.type "set") = pure false := by rw [isSubtype_type]; kernel_rfl
theorem sub_tuple_frozenset : isSubtype (.type "tuple") (.type "frozenset") = pure false := by rw [isSubtype_type]; kernel_rfl

section
variable {prog : Program} {w : World} {A : Around} {E : Value → Shared → Prop} {s : Shared}

set_option maxHeartbeats 1600000 in
/-- the middle of `set(x)`: from the new empty set on -/
theorem set_init {l : Addr} {T : String} {items : Array Value} {n : Nat} {ys : List Str} {led : Bool} {Q : Value → Shared → Prop} (hh : A.handled = none) (hT : T = "list" ∨ T = "tuple")
    (ho : s.heap.get? l = some { cls := .type T, data := .seq items n }) (hi : StrsAre items.toList ys) (hb : items.size + 1 < scanBound)
    (h : ∀ (h' : Heap) (tk : Nat), h'.SetOf (strKind prog w) s.heap.objs.size (fun z => (dedupS ys).any (· == z)) (dedupS ys).length → (∀ b o, b < s.heap.objs.size → s.heap.get? b = some o → h'.get? b = some o) → Q .none { s with heap := h', toks := tk }) :
    codeAny (model prog w) A (.call (.builtin "set.__init__") ⟨[.ref s.heap.objs.size, .ref l], []⟩) (wants Q E) { s with heap := s.heap.push { cls := .type "set", dict := none, data := .set #[] 0 (.fresh 0 0 led) } } := by
  have hS : (s.heap.push { cls := .type "set", dict := none, data := .set #[] 0 (.fresh 0 0 led) }).get? s.heap.objs.size = some { cls := .type "set", dict := none, data := .set #[] 0 (.fresh 0 0 led) } := Heap.get?_push_size _ rfl
  have hTs : Shared.TypeIs { s with heap := s.heap.push { cls := .type "set", dict := none, data := .set #[] 0 (.fresh 0 0 led) } } (.ref s.heap.objs.size) "set" := ⟨_, hS, rfl⟩
  have hlS : l < s.heap.objs.size := Heap.lt_size ho
  have hol : (s.heap.push { cls := .type "set", dict := none, data := .set #[] 0 (.fresh 0 0 led) }).get? l = some { cls := .type T, data := .seq items n } := Heap.get?_push_of_some _ ho
  have hlen : (ys.take items.size) = ys := List.take_of_length_le (by rw [← strs_len hi]; simp)
  have hmet : metS ys items.size = dedupS ys := by unfold metS; rw [hlen]
  have hh3 : A.in1.in1.handled = none := by simp [hh]
  have hneI : l ≠ (s.heap.push { cls := .type "set", dict := none, data := .set #[] 0 (.fresh 0 0 led) }).objs.size := by
    rw [Heap.size_push]; exact Nat.ne_of_lt (Nat.lt_succ_of_lt hlS)
  have hSf : s.heap.objs.size ∉ [(s.heap.push { cls := .type "set", dict := none, data := .set #[] 0 (.fresh 0 0 led) }).objs.size, l] := by
    rw [Heap.size_push]; simp only [List.mem_cons, List.not_mem_nil, or_false, not_or]
    exact ⟨Nat.ne_of_lt (Nat.lt_succ_self _), Nat.ne_of_gt hlS⟩
  have hval : ∀ (i : Nat) (v : Value), items[i]? = some v → ∃ y t, ys[i]? = some y ∧ v = .str y t := fun i v hv => strs_at hi i v (by rw [Array.getElem?_toList]; exact hv)
  have fin : ∀ (s' : Shared) (wr : List Addr), (∀ b ∈ wr, b = s.heap.objs.size ∨ b = (s.heap.push { cls := .type "set", dict := none, data := .set #[] 0 (.fresh 0 0 led) }).objs.size) → ∀ (h1 : Heap), (∀ b o, s.heap.get? b = some o → h1.get? b = some o) →
      Moved wr (fun a b => b = a) { s with heap := h1 } s' → s'.heap.SetOf (strKind prog w) s.heap.objs.size (fun z => (metS ys items.size).any (· == z)) (metS ys items.size).length → Q .none s' := by
    intro s' wr hwr h1 hk hm hS'
    obtain ⟨h', g', d', tk', os'⟩ := s'
    have eg : g' = s.gens := hm.gens
    have ed : d' = s.drawn := hm.drawn
    have eo : os' = s.os := hm.os
    subst eg; subst ed; subst eo
    refine h h' tk' (hmet ▸ hS') fun b o hb e => hm.heap b o (fun q => ?_) (hk b o e)
    rcases hwr b q with q | q
    · exact absurd q (Nat.ne_of_lt hb)
    · rw [Heap.size_push] at q
      exact absurd q (Nat.ne_of_lt (Nat.lt_succ_of_lt hb))
  have start : ∀ (c : String), Heap.SetOf (strKind prog w) ((s.heap.push { cls := .type "set", dict := none, data := .set #[] 0 (.fresh 0 0 led) }).push { cls := .type c, data := .fields #[.ref l, .int 0 0] }) s.heap.objs.size (fun z => (metS ys 0).any (· == z)) (metS ys 0).length := fun c =>
    SetOf_congr ((setObjOf_fresh (knd := strKind prog w) led).setOf (Heap.get?_push_of_some _ hS) (by unfold scanBound; omega)) (fun _ => rfl) rfl
  refine codeAny_call_builtin F.called_set.init.plain F.entry_set_init (check_set_init_1 hTs ?_)
  rcases hT with rfl | rfl
  · have hsls := F.sub_list_set
    have hslf := F.sub_list_frozenset
    have hne : (Value.type "list" == Value.type "dict") = false := by decide
    have hl1 : (s.heap.push { cls := .type "set", dict := none, data := .set #[] 0 (.fresh 0 0 led) }).IsList l items := ⟨_, hol, rfl, n, rfl⟩
    unfold Builtin.«set.__init__» noKeywords Builtin.Frozenset.updateFrom
    generalize hPI : pyIter = PI
    wp_walk
    subst hPI
    refine wpAny_pyIter_list hl1 (wpAny_bind (wpAny_runValue ?_))
    refine set_fill ((Walks.list hh3 _ l hneI items).toS) s.heap.objs.size hSf ys hval hb (items.size - 0) 0 _ (by omega) (Nat.zero_le _) ?hst ?hS0 ?hR
    case hst => exact ⟨⟨_, Heap.get?_push_size _ rfl, rfl, rfl⟩, hl1.push _⟩
    case hS0 => exact start _
    case hR =>
    intro s' hm hS'
    show wpAny _ _ _ _ _ _
    refine wpAny_pure ?_
    show wpAny _ _ (ret Value.none) _ _ _
    refine wpAny_pure ?_
    refine fin s' _ ?_ _ (fun b o e => Heap.get?_push_of_some _ (Heap.get?_push_of_some _ e)) hm hS'
    intro b hb
    rcases List.mem_cons.mp hb with q | q
    · exact .inl q
    · exact .inr (List.mem_singleton.mp q)
  · have hsls := sub_tuple_set
    have hslf := sub_tuple_frozenset
    have hne : (Value.type "tuple" == Value.type "dict") = false := by decide
    have hl1 : (s.heap.push { cls := .type "set", dict := none, data := .set #[] 0 (.fresh 0 0 led) }).IsTuple l items := ⟨_, hol, rfl, n, rfl⟩
    unfold Builtin.«set.__init__» noKeywords Builtin.Frozenset.updateFrom
    generalize hPI : pyIter = PI
    wp_walk
    subst hPI
    refine wpAny_pyIter_tuple hl1 (wpAny_bind (wpAny_runValue ?_))
    refine set_fill ((Walks.tuple hh3 _ l hneI items).toS) s.heap.objs.size hSf ys hval hb (items.size - 0) 0 _ (by omega) (Nat.zero_le _) ?hst2 ?hS2 ?hR2
    case hst2 => exact ⟨⟨_, Heap.get?_push_size _ rfl, rfl, rfl⟩, ⟨_, Heap.get?_push_of_some _ hol, rfl, n, rfl⟩⟩
    case hS2 => exact start _
    case hR2 =>
    intro s' hm hS'
    show wpAny _ _ _ _ _ _
    refine wpAny_pure ?_
    show wpAny _ _ (ret Value.none) _ _ _
    refine wpAny_pure ?_
    refine fin s' _ ?_ _ (fun b o e => Heap.get?_push_of_some _ (Heap.get?_push_of_some _ e)) hm hS'
    intro b hb
    rcases List.mem_cons.mp hb with q | q
    · exact .inl q
    · exact .inr (List.mem_singleton.mp q)

set_option maxRecDepth 100000 in
set_option maxHeartbeats 3200000 in
theorem call_set_strs {l : Addr} {T : String} {items : Array Value} {n : Nat} {ys : List Str} {Q : Value → Shared → Prop} (hh : A.handled = none) (hT : T = "list" ∨ T = "tuple")
    (ho : s.heap.get? l = some { cls := .type T, data := .seq items n }) (hi : StrsAre items.toList ys) (hb : items.size + 1 < scanBound)
    (h : ∀ (h' : Heap) (tk : Nat), h'.SetOf (strKind prog w) s.heap.objs.size (fun z => (dedupS ys).any (· == z)) (dedupS ys).length → (∀ b o, b < s.heap.objs.size → s.heap.get? b = some o → h'.get? b = some o) → Q (.ref s.heap.objs.size) { s with heap := h', toks := tk }) :
    wpAny (model prog w) A (call (.type "set") [.ref l]) Q E s := by
  obtain ⟨c, tl, hmro⟩ := F.called_set.mro
  have hmade := F.called_set.made
  have hsub := F.called_set.sub
  refine wpAny_call (codeAny_of_tree ?_)
  show wpAny _ _ (callAny (.type "set") _) _ _ _
  refine wpAny_pure ⟨Code.quiet_builtin _ (by decide +kernel), codeAny_builtin F.entry_type_call ?_⟩
  rw [Around.under_plain (weight_type_call_type "set" [.ref l] []) rfl]
  have h1 := F.called_set.notType
  have h2 := F.called_set.canCreate
  have hct := F.typeCall_set_1 (.ref l)
  repeat (any_goals (first | assumption | wp_step))
  refine codeAny_mono (code_set_new_1 (.ref l) (E := E) (Q₁ := fun obj s₁ => ∃ led : Bool, obj = .ref s.heap.objs.size ∧ s₁ = { s with heap := s.heap.push { cls := .type "set", dict := none, data := .set #[] 0 (.fresh 0 0 led) } }) fun led => ⟨led, rfl, rfl⟩) fun r s₁ hr => ?_
  cases r with
  | error e => exact hr
  | ok fl =>
    cases fl with
    | ret obj =>
      obtain ⟨led, rfl, rfl⟩ := hr
      have hS : (s.heap.push { cls := .type "set", dict := none, data := .set #[] 0 (.fresh 0 0 led) }).get? s.heap.objs.size = some { cls := .type "set", dict := none, data := .set #[] 0 (.fresh 0 0 led) } := Heap.get?_push_size _ rfl
      have hTy : Shared.TypeIs { s with heap := s.heap.push { cls := .type "set", dict := none, data := .set #[] 0 (.fresh 0 0 led) } } (.ref s.heap.objs.size) "set" := ⟨_, hS, rfl⟩
      have hli := F.called_set.init.lookup
      have hbi := F.called_set.init.bind (.ref s.heap.objs.size)
      repeat (any_goals (first | assumption | wp_step))
      refine codeAny_mono (set_init (led := led) (E := E) (Q := fun r s₂ => r = .none ∧ ∃ h' tk, s₂ = { s with heap := h', toks := tk } ∧
          h'.SetOf (strKind prog w) s.heap.objs.size (fun z => (dedupS ys).any (· == z)) (dedupS ys).length ∧ (∀ b o, b < s.heap.objs.size → s.heap.get? b = some o → h'.get? b = some o)) (by simp [hh]) hT ho hi hb fun h' tk hS' hk => ⟨rfl, h', tk, rfl, hS', hk⟩) fun r₂ s₂ hr₂ => ?_
      cases r₂ with
      | error e => exact hr₂
      | ok fl₂ =>
        cases fl₂ with
        | ret r =>
          obtain ⟨rfl, h', tk, rfl, hS', hk'⟩ := hr₂
          repeat (any_goals (first | assumption | wp_step))
          exact h _ _ hS' hk'
        | _ => exact hr₂.elim
    | _ => exact hr.elim
end
end Mine

namespace Mine
open PySem PyProof.Rows

theorem allStrs_are {h : Heap} {α : AL} : ∀ {xs : List PV} {l : List Str} {items : List Value}, allStrs xs = some l → VRs h α xs items → StrsAre items l
  | [], l, items, e, v => by
    obtain rfl := Option.some.inj e
    have : items = [] := List.eq_nil_of_length_eq_zero v.1.symm
    rw [this]; exact .nil
  | x :: xs, l, items, e, v => by
    obtain ⟨u, us, rfl, v1, v2⟩ := v.inv_cons
    cases x with
    | str i =>
      cases v1
      simp only [allStrs] at e
      cases hr : allStrs xs with
      | none => rw [hr] at e; contradiction
      | some l' => rw [hr] at e; obtain rfl := Option.some.inj e; exact .cons _ _ (allStrs_are hr v2)
    | _ => simp [allStrs] at e
theorem strOk_ofString (x : String) : PyData.strOk (Str.ofString x) = true := by
  rw [Str.ofString_eq_toList]
  unfold PyData.strOk
  rw [Array.all_eq_true']
  intro c hc
  simp at hc
  obtain ⟨d, _, rfl⟩ := hc
  have := d.valid
  simp only [decide_eq_true_eq]
  rcases this with h | ⟨_, h⟩
  · exact Nat.lt_trans h (by decide)
  · exact h
theorem small_log {i : Int} (h : 0 ≤ i ∧ i < 1000000000) : i.natAbs.log2 < 1920 := by
  by_cases h0 : i.natAbs = 0
  · rw [h0]; decide
  · rw [Nat.log2_lt h0]
    exact Nat.lt_of_lt_of_le (show i.natAbs < 1000000000 by omega) (Nat.le_trans (show 1000000000 ≤ 2 ^ 30 by decide) (Nat.pow_le_pow_right (by decide) (by decide)))

section
variable {K : Kt} {A : Around} {s : Shared} {α : AL} {σ : Sto}

theorem isL {a : Addr} {items : List Value} {n : Nat} (e : s.heap.get? a = some { cls := .type "list", data := .seq items.toArray n }) : s.heap.IsList a items.toArray := ⟨_, e, rfl, n, rfl⟩
theorem isT {a : Addr} {items : List Value} {n : Nat} (e : s.heap.get? a = some { cls := .type "tuple", data := .seq items.toArray n }) : IsTup s.heap a items.toArray := ⟨_, e, rfl, n, rfl⟩

noncomputable def b1Val : B1 → Value
  | .len => .builtin "len" | .list _ => .type "list" | .tuple => .type "tuple" | .all => .builtin "all" | .int => .type "int" | .str => .type "str" | .lenset => .none
  | .dict => .none

inductive SeqIs (h : Heap) (α : AL) (a : PV) (xs : List PV) (x : Value) : Prop
  | mk (l : Addr) (T : String) (vs : List Value) (n : Nat) (e : x = .ref l) (hT : T = "list" ∨ T = "tuple") (ht : h.get? l = some { cls := .type T, data := .seq (List.toArray vs) n }) (v : VRs h α xs vs) (ha : T = "tuple" → a = .tup xs) : SeqIs h α a xs x
theorem seq_is {a : PV} {x : Value} {xs : List PV} (r : R K.hb s.heap σ α) (va : VR s.heap α a x) (e : seqItems σ a = some xs) :
    SeqIs s.heap α a xs x := by
  cases a with
  | fl ys => obtain rfl := Option.some.inj e; obtain ⟨l, vs, n, rfl, e1, _, v⟩ := va.flE; exact ⟨l, _, vs, n, rfl, .inl rfl, e1, v, fun h => by simp at h⟩
  | tup ys => obtain rfl := Option.some.inj e; obtain ⟨l, vs, n, rfl, e1, _, v⟩ := va.tupE; exact ⟨l, _, vs, n, rfl, .inr rfl, e1, v, fun _ => rfl⟩
  | ref i =>
    cases va with
    | @ref _ l el =>
      simp only [seqItems] at e
      cases hs : σ[i]? with
      | none => rw [hs] at e; contradiction
      | some m =>
        rw [hs] at e
        cases m with
        | lst ys => obtain rfl := Option.some.inj e; obtain ⟨vs, n, e1, v⟩ := r.obj i _ l hs el; exact ⟨l, _, vs, n, rfl, .inl rfl, e1, v, fun h => by simp at h⟩
        | _ => contradiction
  | _ => contradiction

theorem Post.list {fz : Bool} {xs : List PV} {vs : List Value} {D : Addr} {h' : Heap} {n tk : Nat} (hl : xs.length ≤ lim) (r : R K.hb s.heap σ α) (v : VRs s.heap α xs vs) (k : ∀ b o, s.heap.get? b = some o → h'.get? b = some o)
    (hD : s.heap.get? D = none) (e : h'.get? D = some { cls := .type "list", data := .seq vs.toArray n }) : Post K VR (mkLst fz xs σ) s α (.ref D) { s with heap := h', toks := tk } := by
  unfold mkLst
  rw [if_pos hl]
  cases fz with
  | true =>
    refine ⟨_, _, _, rfl, .keeps k, r.keeps k, ?_, ⟨rfl, rfl⟩⟩
    refine VR.flI e (fun hm => ?_) (v.ext (.keeps (F := []) k))
    obtain ⟨o, e⟩ := r.liveAll hm; rw [hD] at e; contradiction
  | false =>
    obtain ⟨r', x⟩ := r.add (D := D) (m := .lst xs) k hD ⟨vs, n, e, v.ext (.add k hD)⟩
    refine ⟨_, _, _, rfl, x, r', .ref ?_, ⟨rfl, rfl⟩⟩
    rw [r.len]; simp [AL.add]
theorem mkLst_lim {fz : Bool} {xs : List PV} (h : mkLst fz xs σ ≠ .stuck) : xs.length ≤ lim := by
  unfold mkLst at h
  by_cases hl : xs.length ≤ lim
  · exact hl
  · rw [if_neg hl] at h; exact absurd rfl h

theorem list_call_sound {fz : Bool} {a : PV} {x : Value} (r : R K.hb s.heap σ α) (va : VR s.heap α a x) :
    Runs K VR A (call (.type "list") [x]) (b1v (.list fz) a σ) s α := by
  intro hc tk
  cases he : seqItems σ a with
  | none => exact absurd (show (match seqItems σ a with | some xs => mkLst fz xs σ | none => .stuck) = .stuck by rw [he]) hc
  | some xs =>
    have e0 : b1v (.list fz) a σ = mkLst fz xs σ := show (match seqItems σ a with | some xs => mkLst fz xs σ | none => .stuck) = _ by rw [he]
    rw [e0] at hc ⊢
    have hl := mkLst_lim hc
    obtain ⟨l, T, vs, n, rfl, hT, e1, v, _⟩ := seq_is r va he
    refine call_list_seq l hT e1 rfl rfl (fun h' c' k e => ?_) (by simpa [← v.1] using lim_line hl)
    exact Post.list (tk := s.toks) hl r v k (none_at s) e

theorem lim63 {n : Nat} (h : n ≤ lim) : ((n : Nat) : Int) < 2 ^ 63 := by
  have : lim = 1000000 := rfl
  omega

theorem allBools_at {h : Heap} : ∀ {xs : List PV} {l : List Bool} {vs : List Value}, allBools xs = some l → VRs h α xs vs → vs = l.map .bool
  | [], l, vs, e, v => by obtain rfl := Option.some.inj e; exact List.eq_nil_of_length_eq_zero v.1.symm
  | x :: xs, l, vs, e, v => by
    obtain ⟨u, us, rfl, v1, v2⟩ := v.inv_cons
    cases x with
    | bool b =>
      cases v1
      simp only [allBools] at e
      cases hr : allBools xs with
      | none => rw [hr] at e; contradiction
      | some l' => rw [hr] at e; obtain rfl := Option.some.inj e; rw [allBools_at hr v2]; rfl
    | _ => simp [allBools] at e

theorem range_all (l : List Bool) : (List.range l.length).all (fun i => l.getD i false) = l.all id := by
  induction l with
  | nil => rfl
  | cons b l ih => rw [List.length_cons, List.range_succ_eq_map, List.all_cons, List.all_map, List.all_cons, ← ih]; rfl
theorem keeps_push {o : Obj} {h' : Heap} (hk : ∀ b o', b ∉ [s.heap.objs.size] → (s.heap.push o).get? b = some o' → h'.get? b = some o') : ∀ b o', s.heap.get? b = some o' → h'.get? b = some o' :=
  fun b o' e => hk b o' (by simp; exact Nat.ne_of_lt (Heap.lt_size e)) (Heap.get?_push_of_some _ e)

theorem bools_truth (bs : List Bool) : TruthOf K.prog K.w A.in1 (fun i v => (bs.map Value.bool).toArray[i]? = some v) (fun i => bs.getD i false) := fun i v s' Q' E' hP hQ => by
  simp only [List.getElem?_toArray, List.getElem?_map] at hP
  obtain ⟨b, hb, rfl⟩ := Option.map_eq_some_iff.mp hP
  refine wpAny_truthy_bool ?_
  have : bs.getD i false = b := by simp [List.getD, hb]
  rw [← this]; exact hQ
theorem bools_start {l : Addr} {bs : List Bool} {n : Nat} (e1 : s.heap.get? l = some { cls := .type "list", data := .seq (bs.map Value.bool).toArray n }) :
    (s.heap.push { cls := .type "list_iterator", data := .fields #[.ref l, .int 0 0] }).IsListIter s.heap.objs.size l 0 ∧ (s.heap.push { cls := .type "list_iterator", data := .fields #[.ref l, .int 0 0] }).IsList l (bs.map Value.bool).toArray :=
  ⟨⟨_, Heap.get?_push_size _ rfl, rfl, rfl⟩, ⟨_, Heap.get?_push_of_some _ e1, rfl, n, rfl⟩⟩
theorem all_raw {l : Addr} {bs : List Bool} {n : Nat} {Q : Value → Shared → Prop} {E : Value → Shared → Prop} (hA : AOk A) (hh : A.handled = none) (e1 : s.heap.get? l = some { cls := .type "list", data := .seq (bs.map Value.bool).toArray n })
    (h : ∀ h' tk, (∀ b o', s.heap.get? b = some o' → h'.get? b = some o') → Q (.bool (bs.all id)) { s with heap := h', toks := tk }) : wpAny (model K.prog K.w) A (call (.builtin "all") [.ref l]) Q E s := by
  refine call_all_walk (wpAny_pyIter_list (isL e1) ⟨_, _, _, _, _, _, _, rfl, Walks.list (A := A.in1) hh _ l (Nat.ne_of_lt (Heap.lt_size e1)) (bs.map Value.bool).toArray, bools_start e1, bools_truth bs, fun h' tk hk => ?_⟩)
  have := h h' tk (keeps_push hk)
  rw [show (bs.map Value.bool).toArray.size = bs.length by simp, range_all]; exact this
/-- how many unlike texts -/
theorem lenset_raw {a : PV} {x : Value} {l : List Str} {Q : Value → Shared → Prop} {E : Value → Shared → Prop} (hA : AOk A) (hh : A.handled = none) (r : R K.hb s.heap σ α) (va : VR s.heap α a x) (hl : (seqItems σ a).bind allStrs = some l) (hn : l.length ≤ 1000)
    (h : ∀ D h' tk, (∀ b o, s.heap.get? b = some o → h'.get? b = some o) → (∀ (Q' : Value → Shared → Prop) (E' : Value → Shared → Prop), (∀ t tk', Q' (.int (dedupS l).length t) { s with heap := h', toks := tk' }) → wpAny (model K.prog K.w) A (call (.builtin "len") [.ref D]) Q' E' { s with heap := h', toks := tk }) → Q (.ref D) { s with heap := h', toks := tk }) :
    wpAny (model K.prog K.w) A (call (.type "set") [x]) Q E s := by
  obtain ⟨xs, h1, h2⟩ := Option.bind_eq_some_iff.mp hl
  obtain ⟨ad, T, vs, n, rfl, hT, e1, v, _⟩ := seq_is r va h1
  have hS := allStrs_are h2 v
  have hlen : vs.length = l.length := strs_len hS
  refine call_set_strs hh hT e1 (by simpa using hS) (by rw [List.size_toArray, hlen]; unfold scanBound; omega) fun h' tk hset hk => ?_
  refine h _ h' tk (fun b o e => hk b o (Heap.lt_size e) e) fun Q' E' hq => ?_
  obtain ⟨o, es, ep, t, ho, hex, hd, hel, hmem, hb, hf, hn'⟩ := hset
  refine call_len_set (s := { s with heap := h', toks := tk }) ho hex hd hf (by unfold scanBound at hb; omega) ?_
  rw [hn']; exact hq _ _

theorem b1v_sound {b : B1} {a : PV} {x : Value} (hb : b1Val b ≠ .none) (hA : AOk A) (hh : heavy b = true → A.handled = none) (r : R K.hb s.heap σ α) (va : VR s.heap α a x) :
    Runs K VR A (call (b1Val b) [x]) (b1v b a σ) s α := by
  cases b with
  | len =>
    intro hc tk
    by_cases hz : ∃ z, a = .str z
    · obtain ⟨z, rfl⟩ := hz
      cases va
      have e0 : b1v .len (.str z) σ = if z.length ≤ lim then .ok (.int z.length) σ else .stuck := rfl
      rw [e0] at hc ⊢
      by_cases hl : z.length ≤ lim
      · rw [if_pos hl]
        exact P.len_str (by have := lim63 hl; omega) (.here r (.int _ _))
      · rw [if_neg hl] at hc; exact absurd rfl hc
    · have e0 : b1v .len a σ = match seqItems σ a with
          | some xs => if xs.length ≤ lim then .ok (.int xs.length) σ else .stuck
          | none => .stuck := by
        cases a <;> first | rfl | exact absurd ⟨_, rfl⟩ hz
      rw [e0] at hc ⊢
      cases he : seqItems σ a with
      | none => rw [he] at hc; exact absurd rfl hc
      | some xs =>
        rw [he] at hc
        dsimp only at hc ⊢
        split at hc
        · rename_i hl; rw [if_pos hl]
          obtain ⟨l, T, vs, n, rfl, hT, e1, v, _⟩ := seq_is r va he
          have hs : (vs.toArray.size : Int) < 2 ^ 63 := by rw [List.size_toArray, ← v.1]; exact lim63 hl
          rcases hT with rfl | rfl
          · refine PyProof.Rows.len_list (isL e1) hs ?_
            simp only [List.size_toArray, ← v.1]; exact .here r (.int _ _)
          · refine PyProof.Rows.len_tuple (isT e1) hs ?_
            simp only [List.size_toArray, ← v.1]; exact .here r (.int _ _)
        · exact absurd rfl hc
  | list fz => exact list_call_sound r va
  | tuple =>
    intro hc tk
    have e0 : b1v .tuple a σ = match seqItems σ a with
        | some xs => if xs.length ≤ lim then .ok (.tup xs) σ else .stuck
        | none => .stuck := rfl
    rw [e0] at hc ⊢
    cases he : seqItems σ a with
    | none => rw [he] at hc; exact absurd rfl hc
    | some xs =>
      rw [he] at hc
      dsimp only at hc ⊢
      split at hc
      · rename_i hl; rw [if_pos hl]
        obtain ⟨l, T, vs, n, rfl, hT, e1, v, ht⟩ := seq_is r va he
        rcases hT with rfl | rfl
        · refine call_tuple_list (isL e1) (fun h' k => ?_) (by simpa [← v.1] using lim_line hl)
          have k' : ∀ b o, s.heap.get? b = some o → (h'.push { cls := .type "tuple", data := .seq vs.toArray }).get? b = some o := fun b o e => Heap.get?_push_of_some _ (k b o e)
          refine ⟨_, _, _, rfl, .keeps k', r.keeps k', ?_, ⟨rfl, rfl⟩⟩
          refine VR.tupI (n := 0) (Heap.get?_push_size _ rfl) (fun hm => ?_) (v.ext (.keeps (F := []) k'))
          obtain ⟨o, e⟩ := r.liveAll hm
          exact absurd (Heap.lt_size (k _ _ e)) (Nat.lt_irrefl _)
        · rw [ht rfl] at va
          exact call_tuple_tup (isT e1) ⟨_, _, _, rfl, .refl, r, va, .refl s⟩
      · exact absurd rfl hc
  | all =>
    intro hc tk
    have e0 : b1v .all a σ = match (asLst σ a).bind allBools with
        | some l => .ok (.bool (l.all id)) σ
        | none => .stuck := by
      show onAll allBools _ a σ = _
      unfold onAll
      cases (asLst σ a).bind allBools <;> rfl
    rw [e0] at hc ⊢
    cases he : (asLst σ a).bind allBools with
    | none => rw [he] at hc; exact absurd rfl hc
    | some l =>
      dsimp only
      obtain ⟨xs, h1, h2⟩ := Option.bind_eq_some_iff.mp he
      obtain ⟨ad, vs, n, rfl, e1, v⟩ := asLst_is r va h1
      rw [allBools_at h2 v] at e1
      exact all_raw hA (hh rfl) e1 fun h' tk k => ⟨_, _, _, rfl, .keeps k, r.keeps k, .bool _, ⟨rfl, rfl⟩⟩
  | int =>
    intro hc tk
    cases a with
    | bool b => cases va; exact call_int_bool (.here r (.int _ _))
    | _ => exact absurd rfl hc
  | str =>
    intro hc tk
    cases a with
    | str z => cases va with | str _ _ hz => exact P.str_of_str ⟨_, _, _, rfl, .refl, r, .str _ _ hz, .refl s⟩
    | int i =>
      cases va
      have e0 : b1v .str (.int i) σ = if 0 ≤ i ∧ i < 1000000000 then .ok (.str (Str.ofString (toString i))) σ else .stuck := rfl
      rw [e0] at hc ⊢
      by_cases hl : 0 ≤ i ∧ i < 1000000000
      · rw [if_pos hl]
        exact P.str_of_int (small_log hl) (.here r (.str _ _ (strOk_ofString _)))
      · rw [if_neg hl] at hc; exact absurd rfl hc
    | _ => exact absurd rfl hc
  | lenset => exact absurd rfl hb
  | dict => exact absurd rfl hb
end
end Mine

namespace Mine
open PySem PyProof.Rows

theorem R.set {hb h h' σ α} {i : Nat} {a : Addr} {m : MO} {oa : Obj} (r : R hb h σ α) (ea : α.ix[i]? = some a) (k : ∀ b o, b ≠ a → h.get? b = some o → h'.get? b = some o) (al : h'.get? a = some oa)
    (o : Ext [] α h α h' → OR hb h' α m a) : R hb h' (σ.set i m) α ∧ Ext [] α h α h' := by
  have ha : a ∈ α.ix := List.mem_of_getElem? ea
  have x : Ext [] α h α h' := ⟨rfl, ⟨[], by simp, fun _ hx => by simp at hx⟩, fun b o hb e _ => k b o (fun q => hb (q ▸ ha)) e, fun b o hb _ e => .inl (k b o (fun q => hb (q ▸ ha)) e),
    fun b o _ e => by
      by_cases q : b = a
      · subst q; exact ⟨oa, al⟩
      · exact ⟨o, k b o q e⟩, rfl⟩
  refine ⟨⟨fun b o e => k b o (fun q => ?_) (r.base b o e), r.fresh, r.nodup, by simp [r.len], fun b hb => ⟨(r.hidden b hb).1, let ⟨o, e⟩ := (r.hidden b hb).2; ⟨o, k b o (fun q => (r.hidden b hb).1 (q ▸ ha)) e⟩⟩, fun j m' a' e1 e2 => ?_, r.hfr, r.fe, fun b hb => ⟨(r.frs b hb).1, let ⟨o, e, d⟩ := (r.frs b hb).2; ⟨o, k b o (fun q => r.frNot b hb (q ▸ ha)) e, d⟩⟩, r.frNot⟩, x⟩
  · rw [q, r.fresh a ha] at e; contradiction
  · by_cases hj : j = i
    · subst hj
      rw [ea] at e2; obtain rfl := Option.some.inj e2
      rw [List.getElem?_set_self (by rw [r.len]; exact (List.getElem?_eq_some_iff.mp ea).1)] at e1
      obtain rfl := Option.some.inj e1; exact o x
    · rw [List.getElem?_set_ne (Ne.symm hj)] at e1
      have hne : a' ≠ a := fun q => by
        subst q
        exact hj ((List.getElem?_inj (List.getElem?_eq_some_iff.mp e2).1 r.nodup).mp (e2.trans ea.symm))
      obtain ⟨o', e'⟩ := r.live (List.mem_of_getElem? e2)
      exact (r.obj j m' a' e1 e2).ext x (by rw [e', k a' o' hne e'])

section
variable {K : Kt} {A : Around} {s : Shared} {α : AL} {σ : Sto}

theorem neg_sound {a : PV} {x : Value} (r : R K.hb s.heap σ α) (va : VR s.heap α a x) : Runs K VR A (unaryOp .USub x) (negv a σ) s α := by
  intro hc tk
  cases a with
  | int i => cases va; exact P.neg_int (.here r (.int _ _))
  | _ => exact absurd rfl hc

theorem truth_sound {a : PV} {x : Value} (r : R K.hb s.heap σ α) (va : VR s.heap α a x) : Runs K RelEq A (truthy x) (truthv a σ) s α := by
  intro hc tk
  cases a with
  | bool b => cases va; exact wpAny_truthy_bool ⟨_, _, _, rfl, .refl, r, rfl, .refl s⟩
  | _ => exact absurd rfl hc

noncomputable def tyVal : Ty → Option Value
  | .int => some (.type "int") | .str => some (.type "str") | .bool => some (.type "bool") | .tuple => some (.type "tuple")
  | .list => some (.type "list")

theorem isinst_sound {t : Ty} {tv : Value} {a : PV} {x : Value} (ht : tyVal t = some tv) (r : R K.hb s.heap σ α) (va : VR s.heap α a x) :
    Runs K RelB A (call (.builtin "isinstance") [x, tv]) (isinstv a t σ) s α := by
  intro hc tk
  have ok : ∀ {b : Bool} {tk : Nat}, Post K RelB (.ok b σ) s α (.bool b) { s with toks := tk } := ⟨_, _, _, rfl, .refl, r, rfl, ⟨rfl, rfl⟩⟩
  cases t with
  | int =>
    obtain rfl := Option.some.inj ht
    cases a with
    | int i => cases va; exact IsiPair.int_int (ok (tk := s.toks))
    | bool b => cases va; exact IsiPair.bool_int (ok (tk := s.toks))
    | none => cases va; exact IsiPair.NoneType_int ok
    | str z => cases va; exact IsiPair.str_int ok
    | _ => exact absurd rfl hc
  | bool =>
    obtain rfl := Option.some.inj ht
    cases a with
    | int i => cases va; exact IsiPair.int_bool ok
    | bool b => cases va; exact IsiPair.bool_bool (ok (tk := s.toks))
    | none => cases va; exact IsiPair.NoneType_bool ok
    | str z => cases va; exact IsiPair.str_bool ok
    | _ => exact absurd rfl hc
  | str =>
    obtain rfl := Option.some.inj ht
    cases a with
    | int i => cases va; exact IsiPair.int_str ok
    | bool b => cases va; exact IsiPair.bool_str ok
    | none => cases va; exact IsiPair.NoneType_str ok
    | str z => cases va; exact IsiPair.str_str (ok (tk := s.toks))
    | tup xs => obtain ⟨l, vs, n, rfl, e1, _, v⟩ := va.tupE; exact IsiPair.tuple_str e1 rfl ok
    | _ => exact absurd rfl hc
  | tuple =>
    obtain rfl := Option.some.inj ht
    cases a with
    | int i => cases va; exact IsiPair.int_tuple ok
    | str z => cases va; exact IsiPair.str_tuple ok
    | tup xs => obtain ⟨l, vs, n, rfl, e1, _, v⟩ := va.tupE; exact IsiPair.tuple_tuple e1 rfl (ok (tk := s.toks))
    | _ => exact absurd rfl hc
  | list =>
    obtain rfl := Option.some.inj ht
    have gen : ∀ (e : isinstv a .list σ = match asLst σ a with | some _ => .ok true σ | none => .stuck), wpAny (model K.prog K.w) A (call (.builtin "isinstance") [x, .type "list"]) (Post K RelB (isinstv a .list σ) s α) (PostX K A (isinstv a .list σ) s α) s := fun e => by
      rw [e] at hc ⊢
      cases h1 : asLst σ a with
      | none => rw [h1] at hc; exact absurd rfl hc
      | some xs => obtain ⟨l, vs, n, rfl, e1, v⟩ := asLst_is r va h1; exact IsiPair.list_list e1 rfl (ok (tk := s.toks))
    cases a with
    | tup xs => obtain ⟨l, vs, n, rfl, e1, _, v⟩ := va.tupE; exact IsiPair.tuple_list e1 rfl ok
    | none => exact gen rfl
    | bool _ => exact gen rfl
    | int _ => exact gen rfl
    | str _ => exact gen rfl
    | fl _ => exact gen rfl
    | ref _ => exact gen rfl
    | exc _ => exact gen rfl
    | inst _ _ => exact gen rfl

theorem seqIdx_eq (i : Int) (n : Nat) : seqIdx i n = seqIndex? i n := by
  unfold seqIdx seqIndex?
  by_cases h : 0 ≤ i
  · have h' : ¬ i < 0 := by omega
    rw [if_pos h, if_neg h']
    by_cases h2 : i.toNat < n
    · rw [if_pos h2, if_pos (by simp; omega)]
    · rw [if_neg h2, if_neg (by simp; omega)]
  · have h' : i < 0 := by omega
    rw [if_neg h, if_pos h']
    by_cases h2 : 0 ≤ i + n
    · rw [if_pos h2, if_pos (by simp; omega)]
    · rw [if_neg h2, if_neg (by simp; omega)]

theorem seqIdx_range {i : Int} {n j : Nat} (h : seqIdx i n = some j) : -(n : Int) ≤ i ∧ i < n := by
  unfold seqIdx at h
  split at h
  · split at h
    · omega
    · contradiction
  · split at h
    · omega
    · contradiction
/-- an item of a list -/
theorem getItem_list_raw {l : Addr} {vs : List Value} {n j : Nat} {i : Int} {t : Tok} {u : Value} {Q : Value → Shared → Prop} {E : Value → Shared → Prop} (e1 : s.heap.get? l = some { cls := .type "list", data := .seq vs.toArray n })
    (hsz : vs.length ≤ lim) (hj : seqIdx i vs.length = some j) (hu : vs[j]? = some u) (h : Q u s) : wpAny (model K.prog K.w) A (getItem (.ref l) (.int i t)) Q E s := by
  have hl := lim63 hsz
  unfold seqIdx at hj
  by_cases h0 : 0 ≤ i
  · rw [if_pos h0] at hj
    split at hj
    · cases hj; exact wpAny_getItem_list (isL e1) h0 (by omega) (by simpa using hu) h
    · cases hj
  · rw [if_neg h0] at hj
    split at hj
    · cases hj; exact wpAny_getItem_list_neg (isL e1) (by omega) (by simp; omega) (by omega) (by simpa using hu) h
    · cases hj

theorem VRs.get {h : Heap} {xs : List PV} {vs : List Value} {j : Nat} {p : PV} (v : VRs h α xs vs) (e : xs[j]? = some p) : ∃ u, vs[j]? = some u ∧ VR h α p u := by
  have hj := (List.getElem?_eq_some_iff.mp e).1
  have hv : j < vs.length := by rw [← v.1]; exact hj
  exact ⟨vs[j], by simp [hv], v.2 j p vs[j] e (by simp [hv])⟩

theorem itemAt_sound {value slice : Expr} {xs : List PV} {l : Addr} {vs : List Value} {n : Nat} {i : Int} {t : Tok} {T : String} (hT : T = "list" ∨ T = "tuple") (hs : ∀ o i : Value, subscripted slice false o i = operate [o, i] (getItem o i))
    (r : R K.hb s.heap σ α) (e1 : s.heap.get? l = some { cls := .type T, data := .seq vs.toArray n }) (v : VRs s.heap α xs vs) : Runs K VR A (subscriptTail value slice (.ref l) (.int i t)) (itemAt xs i σ) s α := by
  intro hc tk
  unfold itemAt at hc ⊢
  by_cases hl : xs.length ≤ lim
  · rw [if_pos hl] at hc ⊢
    cases hj : (seqIdx i xs.length).bind (xs[·]?) with
    | none => rw [hj] at hc; exact absurd rfl hc
    | some p =>
      obtain ⟨j, h1, h2⟩ := Option.bind_eq_some_iff.mp hj
      obtain ⟨u, hu, hv⟩ := v.get h2
      have hl' : vs.length ≤ lim := by rw [← v.1]; exact hl
      rcases hT with rfl | rfl
      · refine tail_any (isL e1).typeIs slot_list_getitem.lookup ?_ (hs _ _)
        exact getItem_list_raw e1 hl' (by rw [← v.1]; exact h1) hu ⟨_, _, _, rfl, .refl, r, hv, .refl s⟩
      · have hl3 := lim63 hl'
        have hr := seqIdx_range h1
        have hlen := v.1
        exact item_tupleT (isT e1) (by omega) (by omega) (by rw [← seqIdx_eq, ← v.1]; exact h1) hu ⟨_, _, _, rfl, .refl, r, hv, .refl s⟩ (hs _ _)
  · rw [if_neg hl] at hc; exact absurd rfl hc
theorem subD_sound {value slice : Expr} {a b : PV} {x y : Value} (hA : AOk A) (hs : ∀ o i : Value, subscripted slice false o i = operate [o, i] (getItem o i)) (r : R K.hb s.heap σ α) (va : VR s.heap α a x) (vb : VR s.heap α b y) :
    Runs K VR A (subscriptTail value slice x y) (subD a b σ) s α := by
  intro hc tk
  cases a with
  | ref i =>
    cases va with | @ref _ l el =>
    have e : subD (.ref i) b σ = match σ[i]? with
      | some (.ds es) => (match b with
        | .str k => Out.ofOpt (aget k es) σ
        | _ => .stuck)
      | some (.dp es) => Out.ofOpt ((keyP b).bind fun k => aget k es) σ
      | _ => .stuck := by cases b <;> rfl
    rw [e] at hc ⊢
    cases hq : σ[i]? with
    | none => rw [hq] at hc; exact absurd rfl hc
    | some m =>
      rw [hq] at hc
      cases m with
      | ds es =>
        cases b with
        | str k =>
          cases vb
          dsimp only at hc ⊢
          cases hv : aget k es with
          | none => rw [hv] at hc; exact absurd rfl hc
          | some v =>
            obtain ⟨kvs, h1, _⟩ := ds_at r hq el
            exact tail_any h1.typeIs slot_dict_getitem.lookup (item_ds r hq el hv) (hs _ _)
        | _ => exact absurd rfl hc
      | dp es =>
        dsimp only at hc ⊢
        cases hv : (keyP b).bind fun k => aget k es with
        | none => rw [hv] at hc; exact absurd rfl hc
        | some v =>
          obtain ⟨k, hk, hv'⟩ := Option.bind_eq_some_iff.mp hv
          obtain ⟨xs, h1, _⟩ := dp_at r hq el
          exact tail_any h1.typeIs slot_dict_getitem.lookup (item_dp hA r hq el hk vb hv') (hs _ _)
      | _ => exact absurd rfl hc
  | _ => exact absurd rfl hc
theorem subv_sound {value slice : Expr} {a b : PV} {x y : Value} (hA : AOk A) (hns : ∀ l u p, slice ≠ .Slice l u none p) (r : R K.hb s.heap σ α) (va : VR s.heap α a x) (vb : VR s.heap α b y) :
    Runs K VR A (subscriptTail value slice x y) (subv a b σ) s α := by
  have hs : ∀ o i : Value, subscripted slice false o i = operate [o, i] (getItem o i) := fun o i => by
    unfold subscripted
    split
    · rename_i q; exact absurd rfl (hns _ _ _)
    · rename_i q; contradiction
    · rfl
  cases b with
  | int i =>
    cases vb with | int _ t =>
    have gen : ∀ (e : subv a (.int i) σ = match asLst σ a with | some xs => itemAt xs i σ | none => .stuck), Runs K VR A (subscriptTail value slice x (.int i t)) (subv a (.int i) σ) s α := fun e => by
      rw [e]
      cases h1 : asLst σ a with
      | none => exact fun hc => absurd rfl hc
      | some xs => obtain ⟨l, vs, n, rfl, e1, v⟩ := asLst_is r va h1; exact itemAt_sound (.inl rfl) hs r e1 v
    cases a with
    | tup xs => obtain ⟨l, vs, n, rfl, e1, _, v⟩ := va.tupE; exact itemAt_sound (.inr rfl) hs r e1 v
    | str z =>
      cases va with | str _ _ hz =>
      have e : subv (.str z) (.int i) σ = if z.cps.size ≤ lim then (match (seqIdx i z.cps.size).bind (z.cps[·]?) with | some c => Out.ok (.str ⟨#[c]⟩) σ | none => .stuck) else .stuck := rfl
      rw [e]
      intro hc tk
      by_cases hl : z.cps.size ≤ lim
      · rw [if_pos hl] at hc ⊢
        cases hj : (seqIdx i z.cps.size).bind (z.cps[·]?) with
        | none => rw [hj] at hc; exact absurd rfl hc
        | some c =>
          have hl3 := lim63 hl
          obtain ⟨j, h1, h2⟩ := Option.bind_eq_some_iff.mp hj
          have hr := seqIdx_range h1
          refine tail_any (typeIs_str s z _) F.slot_str_getitem.lookup ?_ (hs _ _)
          refine P.getItem_str (c := c) (by simp; omega) (by rw [← seqIdx_eq]; exact hj) (.here r (.str _ _ ?_))
          unfold PyData.strOk at hz ⊢
          simp only [Array.all_eq_true'] at hz ⊢
          intro d hd
          simp at hd
          subst hd
          exact hz _ (Array.mem_of_getElem? h2)
      · rw [if_neg hl] at hc; exact absurd rfl hc
    | none => exact gen rfl
    | bool _ => exact gen rfl
    | int _ => exact gen rfl
    | fl _ => exact gen rfl
    | ref _ => exact gen rfl
    | exc _ => exact gen rfl
    | inst _ _ => exact gen rfl
  | str _ => exact subD_sound hA hs r va vb
  | tup _ => exact subD_sound hA hs r va vb
  | none => exact subD_sound hA hs r va vb
  | bool _ => exact subD_sound hA hs r va vb
  | fl _ => exact subD_sound hA hs r va vb
  | ref _ => exact subD_sound hA hs r va vb
  | exc _ => exact subD_sound hA hs r va vb
  | inst _ _ => exact subD_sound hA hs r va vb
end
end Mine

namespace Mine
open PySem PyProof.Rows

structure EnvOk (env : Env) : Prop where
  kind : env.scope.kind = .function
  glob : env.globals = mainGlobals
  bins : env.builtins = builtinsNs
  ws : ∀ (i : Nat) (x : Str) (k : NameKind), env.scope.names[i]? = some (x, k) → env.kindOf x = some k
  nodbg : ∀ (i : Nat) (x : Str) (k : NameKind), env.scope.names[i]? = some (x, k) → (x == ("__debug__" : Str)) = false

structure EnvRel (env : Env) (ρ : Loc) (h : Heap) (α : AL) : Prop where
  ok : EnvOk env
  la : env.locals ∉ α.all
  ns : ∃ m, h.Ns env.locals m ∧ ∀ (i : Nat) (x : Str) (v : PV), env.scope.names[i]? = some (x, .local) → ρ[i]? = some (some v) → ∃ u, m x = some u ∧ VR h α v u
  ca : ∀ x c, env.cells.lookup x = some c → c ∉ α.all ∧ c ≠ env.locals ∧ ∃ v, h.IsCell c v
  cd : ∀ x y c, env.cells.lookup x = some c → env.cells.lookup y = some c → x = y
  cv : ∀ (i : Nat) (x : Str), env.scope.names[i]? = some (x, .cell) → ∃ c, env.cells.lookup x = some c ∧ ∀ v, ρ[i]? = some (some v) → ∃ u, h.IsCell c (some u) ∧ VR h α v u
  inb : ∀ (i : Nat) (v : PV), ρ[i]? = some (some v) → ∃ x k, env.scope.names[i]? = some (x, k) ∧ (k = .local ∨ k = .cell)

theorem cell_stays {h h' : Heap} {fr : List Addr} {c : Addr} {o : Obj} {v : Option Value} (_e : h.get? c = some o) (_d : o.data = .cell v) (x : Stays fr h' c o) : h'.get? c = some o := x.same (by rintro ⟨es, n, q⟩; rw [_d] at q; cases q)

theorem isCell_ext {F α h α' h'} {c : Addr} {v : Option Value} (x : Ext F α h α' h') (hc : c ∉ α.ix) (hF : c ∉ F) (i : h.IsCell c v) : h'.IsCell c v := by
  obtain ⟨o, e, d⟩ := i
  exact ⟨o, cell_stays e d (x.rest c o hc hF e), d⟩

theorem ns_ext {F α h α' h'} {a : Addr} {m : Str → Option Value} (x : Ext F α h α' h') (ha : a ∉ α.ix) (hF : a ∉ F) (n : h.Ns a m) : h'.Ns a m := by
  obtain ⟨o, es, ep, e, r⟩ := id n
  exact (x.rest a o ha hF e).ns n e

/-- the frame's own objects are not touched -/
noncomputable def Apart (env : Env) (F : List Addr) : Prop := env.locals ∉ F ∧ ∀ x c, env.cells.lookup x = some c → c ∉ F
theorem Apart.nil {env : Env} : Apart env [] := ⟨by simp, fun _ _ _ => by simp⟩

theorem EnvRel.ext {F α h α' h'} {env : Env} {ρ : Loc} (x : Ext F α h α' h') (ap : Apart env F) (E : EnvRel env ρ h α) : EnvRel env ρ h' α' := by
  obtain ⟨m, n, hm⟩ := E.ns
  obtain ⟨oL, _, _, eL, _⟩ := id n
  refine ⟨E.ok, x.notAll E.la eL, ⟨m, ns_ext x (AL.not_ix E.la) ap.1 n, fun i y v e1 e2 => ?_⟩, fun y c hc => ?_, E.cd, fun i y e1 => ?_, E.inb⟩
  · obtain ⟨u, h1, h2⟩ := hm i y v e1 e2
    exact ⟨u, h1, h2.ext x⟩
  · obtain ⟨h1, h2, v, h3⟩ := E.ca y c hc
    obtain ⟨o, e, d⟩ := id h3
    exact ⟨x.notAll h1 e, h2, v, isCell_ext x (AL.not_ix h1) (ap.2 y c hc) h3⟩
  · obtain ⟨c, hc, hv⟩ := E.cv i y e1
    refine ⟨c, hc, fun v e2 => ?_⟩
    obtain ⟨u, h1, h2⟩ := hv v e2
    exact ⟨u, isCell_ext x (AL.not_ix (E.ca y c hc).1) (ap.2 y c hc) h1, h2.ext x⟩

section
variable {K : Kt} {A : Around} {s : Shared} {α : AL} {σ : Sto} {env : Env} {ρ : Loc}

theorem name_sound {C : Cfg} {i : Nat} {x : Str} {k : NameKind} {p : Pos} (r : R K.hb s.heap σ α) (E : EnvRel env ρ s.heap α) (hn : env.scope.names[i]? = some (x, k)) :
    Runs K VR A (eval (.Name x p) env) (ev C (.v i) ρ σ) s α := by
  intro hc tk
  simp only [ev_v, valAt] at hc ⊢
  split at hc
  · rename_i v hv
    obtain ⟨x', k', h1, h2⟩ := E.inb i v hv
    rw [hn] at h1; cases h1
    have hk := E.ok.ws i x k hn
    refine wpAny_Name ?_ (E.ok.nodbg i x k hn)
    rcases h2 with rfl | rfl
    · obtain ⟨m, n, hm⟩ := E.ns
      obtain ⟨u, h3, h4⟩ := hm i x v hn hv
      exact wpAny_loadName_local E.ok.kind hk n h3 ⟨_, _, _, rfl, .refl, r, h4, .refl s⟩
    · obtain ⟨c, h3, h4⟩ := E.cv i x hn
      obtain ⟨u, h5, h6⟩ := h4 v hv
      exact wpAny_loadName_cell E.ok.kind hk h3 h5 ⟨_, _, _, rfl, .refl, r, h6, .refl s⟩
  · exact absurd rfl hc

theorem name_glob {i : Nat} {x : Str} {p : Pos} {v : Value} {Q : Value → Shared → Prop} {X : Value → Shared → Prop} (hK : K.Ok) (r : R K.hb s.heap σ α) (E : EnvOk env) (hn : env.scope.names[i]? = some (x, .globalImplicit))
    (hv : K.mg x = some v) (h : Q v s) : wpAny (model K.prog K.w) A (eval (.Name x p) env) Q X s :=
  Calls.Name_function_global E.kind (E.ws i x _ hn) (Calls.loadGlobal_global (by rw [E.glob]; exact hK.g.keeps r.base) hv h) (E.nodbg i x _ hn)

theorem name_bin {i : Nat} {x : Str} {p : Pos} {v : Value} {Q : Value → Shared → Prop} {X : Value → Shared → Prop} (hK : K.Ok) (r : R K.hb s.heap σ α) (E : EnvOk env) (hn : env.scope.names[i]? = some (x, .globalImplicit))
    (hm : K.mg x = none) (hv : K.mb x = some v) (h : Q v s) : wpAny (model K.prog K.w) A (eval (.Name x p) env) Q X s :=
  Calls.Name_function_global E.kind (E.ws i x _ hn) (Calls.loadGlobal_builtin (by rw [E.glob]; exact hK.g.keeps r.base) hm (by rw [E.bins]; exact hK.b.keeps r.base) hv h) (E.nodbg i x _ hn)
end
end Mine

namespace Mine
open PySem PyProof.Rows

theorem VR.re {h : Heap} {α α' : AL} (h1 : ∀ (i : Nat) (a : Addr), α.ix[i]? = some a → α'.ix[i]? = some a) (h2 : ∀ a, a ∈ α'.all → a ∈ α.all) {p : PV} {v : Value} (r : VR h α p v) : VR h α' p v := by
  induction r with
  | none => exact .none
  | bool b => exact .bool b
  | int i t => exact .int i t
  | str s t hs => exact .str s t hs
  | tup e hn hl _ ih => exact .tup e (fun q => hn (h2 _ q)) hl ih
  | fl e hn hl _ ih => exact .fl e (fun q => hn (h2 _ q)) hl ih
  | exc e hc hd hn => exact .exc e hc hd (fun q => hn (h2 _ q))
  | inst e hn hi => exact .inst e (fun q => hn (h2 _ q)) (h1 _ _ hi)
  | ref e => exact .ref (h1 _ _ e)
theorem VR.hide {h : Heap} {α : AL} {D : Addr} (hD : h.get? D = Option.none) {p : PV} {v : Value} (r : VR h α p v) : VR h ⟨α.ix, D :: α.hid, α.fr⟩ p v := by
  have key : ∀ {a : Addr} {o : Obj}, h.get? a = some o → a ∉ α.all → a ∉ (⟨α.ix, D :: α.hid, α.fr⟩ : AL).all := fun {a o} e hn q => by
    rcases List.mem_append.mp q with q | q
    · exact hn (List.mem_append_left _ q)
    · rcases List.mem_cons.mp q with q | q
      · subst q; rw [hD] at e; contradiction
      · exact hn (List.mem_append_right _ q)
  induction r with
  | none => exact .none
  | bool b => exact .bool b
  | int i t => exact .int i t
  | str s t hs => exact .str s t hs
  | tup e hn hl _ ih => exact .tup e (key e hn) hl ih
  | fl e hn hl _ ih => exact .fl e (key e hn) hl ih
  | exc e hc hd hn => exact .exc e hc hd (key e hn)
  | inst e hn hi => exact .inst e (key e hn) hi
  | ref e => exact .ref e
theorem VRs.re {h : Heap} {α α' : AL} (h1 : ∀ (i : Nat) (a : Addr), α.ix[i]? = some a → α'.ix[i]? = some a) (h2 : ∀ a, a ∈ α'.all → a ∈ α.all) {p : List PV} {v : List Value} (r : VRs h α p v) : VRs h α' p v :=
  ⟨r.1, fun i x y e1 e2 => (r.2 i x y e1 e2).re h1 h2⟩
theorem VRs.hide {h : Heap} {α : AL} {D : Addr} (hD : h.get? D = none) {p : List PV} {v : List Value} (r : VRs h α p v) : VRs h ⟨α.ix, D :: α.hid, α.fr⟩ p v :=
  ⟨r.1, fun i x y e1 e2 => (r.2 i x y e1 e2).hide hD⟩
theorem AL.not_hide {h : Heap} {α : AL} {D a : Addr} {o : Obj} (hD : h.get? D = none) (e : h.get? a = some o) (hn : a ∉ α.all) : a ∉ (⟨α.ix, D :: α.hid, α.fr⟩ : AL).all := fun q => by
  rcases List.mem_append.mp q with q | q
  · exact hn (List.mem_append_left _ q)
  · rcases List.mem_cons.mp q with q | q
    · subst q; rw [hD] at e; contradiction
    · exact hn (List.mem_append_right _ q)
theorem VR.sameBut {h h' : Heap} {α : AL} {D : Addr} (hD : D ∈ α.all) (k : ∀ b, b ≠ D → h'.get? b = h.get? b) {p : PV} {v : Value} (r : VR h α p v) : VR h' α p v := by
  induction r with
  | none => exact .none
  | bool b => exact .bool b
  | int i t => exact .int i t
  | str s t hs => exact .str s t hs
  | tup e hn hl _ ih => exact .tup ((k _ (by rintro rfl; exact hn hD)).trans e) hn hl ih
  | fl e hn hl _ ih => exact .fl ((k _ (by rintro rfl; exact hn hD)).trans e) hn hl ih
  | exc e hc hd hn => exact .exc ((k _ (by rintro rfl; exact hn hD)).trans e) hc hd hn
  | inst e hn hi => exact .inst ((k _ (by rintro rfl; exact hn hD)).trans e) hn hi
  | ref e => exact .ref e
theorem VRs.sameBut {h h' : Heap} {α : AL} {D : Addr} (hD : D ∈ α.all) (k : ∀ b, b ≠ D → h'.get? b = h.get? b) {p : List PV} {v : List Value} (r : VRs h α p v) : VRs h' α p v :=
  ⟨r.1, fun i x y e1 e2 => (r.2 i x y e1 e2).sameBut hD k⟩

/-- an iterator that gives these items -/
structure Iter (K : Kt) (A : Around) (own : List Addr) (it : Value) (xs : List PV) (wt : Option (Nat × List PV)) (St : Nat → Heap → AL → Prop) : Prop where
  live : ∀ i h α, St i h α → ∀ b ∈ own, ∃ o, h.get? b = some o
  apart : ∀ i h α, St i h α → ∀ b ∈ own, b ∉ α.all
  frame : ∀ i F α h α' h', St i h α → Ext F α h α' h' → (∀ b ∈ own, b ∉ F) → St i h' α'
  but : ∀ i D α h h', St i h α → D ∈ α.all → (∀ b, b ≠ D → h'.get? b = h.get? b) → St i h' α
  hide : ∀ i D α h, St i h α → h.get? D = none → St i h ⟨α.ix, D :: α.hid, α.fr⟩
  item : ∀ (i : Nat) (s : Shared) (σ : Sto) (α : AL) (p : PV), xs[i]? = some p → St i s.heap α → R K.hb s.heap σ α → watchOk wt σ → ∀ (Q : Option Value → Shared → Prop) (E : Value → Shared → Prop),
    (∀ v s', VR s'.heap α p v → St (i + 1) s'.heap α → Ext own α s.heap α s'.heap → R K.hb s'.heap σ α → Sm s s' → Q (some v) s') → wpAny (model K.prog K.w) A (pyNext it) Q E s
  done : ∀ (s : Shared) (σ : Sto) (α : AL), St xs.length s.heap α → R K.hb s.heap σ α → watchOk wt σ → ∀ (Q : Option Value → Shared → Prop) (E : Value → Shared → Prop),
    (∀ s', Ext own α s.heap α s'.heap → R K.hb s'.heap σ α → Sm s s' → Q none s') → wpAny (model K.prog K.w) A (pyNext it) Q E s
  self : ∀ (i : Nat) (s : Shared) (α : AL), St i s.heap α → ∀ (Q : Value → Shared → Prop) (E : Value → Shared → Prop), Q it s → wpAny (model K.prog K.w) A (pyIter it) Q E s

theorem R.but {hb h h' σ α} {I : Addr} (r : R hb h σ α) (hI' : I ∉ α.all) (hbI : hb.get? I = none) (k : ∀ b o, b ≠ I → h.get? b = some o → h'.get? b = some o)
    (hs : ∀ o, h.get? I = some o → ¬ Solid o) (hd : I ∈ hb.fr → ∀ o, h.get? I = some o → isDct o → ∃ o', h'.get? I = some o' ∧ isDct o') : R hb h' σ α ∧ Ext [I] α h α h' := by
  have hI : I ∉ α.ix := AL.not_ix hI'
  have hI2 : I ∉ α.hid := fun q => hI' (List.mem_append_right _ q)
  have x : Ext [I] α h α h' := ⟨rfl, ⟨[], by simp, fun _ hx => by simp at hx⟩, fun b o hb e q => k b o (fun z => by subst z; exact hs o e q) e, fun b o hb hF e => .inl (k b o (by simpa using hF) e), fun b o hF e => ⟨o, k b o (by simpa using hF) e⟩, rfl⟩
  refine ⟨⟨fun b o e => k b o (fun q => by rw [q, hbI] at e; contradiction) (r.base b o e), r.fresh, r.nodup, r.len, fun b hb => ⟨(r.hidden b hb).1, ?_⟩, fun j m a e1 e2 => ?_, r.hfr, r.fe, fun b hb => ⟨(r.frs b hb).1, ?_⟩, r.frNot⟩, x⟩
  · obtain ⟨o, e⟩ := (r.hidden b hb).2
    exact ⟨o, k b o (fun q => hI2 (q ▸ hb)) e⟩
  · obtain ⟨o', e'⟩ := r.live (List.mem_of_getElem? e2)
    exact (r.obj j m a e1 e2).ext x (by rw [e', k a o' (fun q => hI (q ▸ List.mem_of_getElem? e2)) e'])
  · obtain ⟨_, o, e, d⟩ := r.frs b hb
    by_cases q : b = I
    · subst q; exact hd hb o e d
    · exact ⟨o, k b o q e, d⟩

theorem fields_stays {h h' : Heap} {fr : List Addr} {c : Addr} {o : Obj} {v : Array Value} (_e : h.get? c = some o) (_d : o.data = .fields v) (x : Stays fr h' c o) : h'.get? c = some o := x.same (by rintro ⟨es, n, q⟩; rw [_d] at q; contradiction)

theorem fields_no_seq {o : Obj} {v : Array Value} {T : String} (d : o.data = .fields v) (hc : o.cls = .type T) : ¬ Solid o := by
  rintro (⟨xs, n, e⟩ | ⟨C, vs, e, _⟩ | ⟨C, e, _⟩)
  · rw [d] at e; contradiction
  · rw [hc] at e; contradiction
  · rw [hc] at e; contradiction
theorem fields_no_dct {o : Obj} {v : Array Value} (d : o.data = .fields v) : ¬ isDct o := by
  rintro ⟨xs, n, e⟩; rw [d] at e; contradiction

section
variable {K : Kt} {A : Around}

theorem Iter.list (hA : AOk A) (hh : A.handled = none) {I : Addr} {l : Addr} {xs : List PV} (hbI : K.hb.get? I = none) :
    Iter K A [I] (.ref I) xs none (fun i h α => h.IsListIter I l i ∧ I ∉ α.all ∧ VR h α (.fl xs) (.ref l)) where
  live := fun i h α st b hb => by simp at hb; subst hb; obtain ⟨⟨o, e, _⟩, _⟩ := st; exact ⟨o, e⟩
  apart := fun i h α st b hb => by simp at hb; subst hb; exact st.2.1
  frame := fun i F α h α' h' st x hF => by
    obtain ⟨⟨o, e, hc, hd⟩, hI, v⟩ := st
    exact ⟨⟨o, fields_stays e hd (x.rest I o (AL.not_ix hI) (hF I (by simp)) e), hc, hd⟩, x.notAll hI e, v.ext x⟩
  but := fun i D α h h' st hD k => by
    obtain ⟨⟨o, e, hc, hd⟩, hI, v⟩ := st
    exact ⟨⟨o, (k I (fun q => hI (q ▸ hD))).trans e, hc, hd⟩, hI, v.sameBut hD k⟩
  hide := fun i D α h st hD => by
    obtain ⟨⟨o, e, hc, hd⟩, hI, v⟩ := st
    exact ⟨⟨o, e, hc, hd⟩, AL.not_hide hD e hI, v.hide hD⟩
  item := fun i s σ α p hp st r _ Q E hQ => by
    obtain ⟨hit, hI, v⟩ := st
    obtain ⟨l', vs, n, hl, e1, hn, w⟩ := v.flE
    cases hl
    obtain ⟨u, hu, hv⟩ := w.get hp
    obtain ⟨o, e, hc, hd⟩ := id hit
    refine wpAny_pyNext_list_item hit (isL e1) (by simpa using hu) fun h' hit' hs' => ?_
    obtain ⟨r', x⟩ := r.but hI hbI (fun b o hb e => (hs'.2 b hb).trans e) (fun o' e' => by rw [e] at e'; obtain rfl := Option.some.inj e'; exact fields_no_seq hd hc) fun _ o' e' d' => by rw [e] at e'; obtain rfl := Option.some.inj e'; exact absurd d' (fields_no_dct hd)
    exact hQ u _ (hv.ext x) ⟨hit', hI, v.ext x⟩ x r' ⟨rfl, rfl⟩
  done := fun s σ α st r _ Q E hQ => by
    obtain ⟨hit, hI, v⟩ := st
    obtain ⟨l', vs, n, hl, e1, hn, w⟩ := v.flE
    cases hl
    obtain ⟨o, e, hc, hd⟩ := id hit
    refine wpAny_pyNext_list_end hh hit (isL e1) (by simp [w.1]) fun h' he' => ?_
    obtain ⟨r', x⟩ := r.but hI hbI (fun b o hb e => he' b o hb e) (fun o' e' => by rw [e] at e'; obtain rfl := Option.some.inj e'; exact fields_no_seq hd hc) fun _ o' e' d' => by rw [e] at e'; obtain rfl := Option.some.inj e'; exact absurd d' (fields_no_dct hd)
    exact hQ _ x r' ⟨rfl, rfl⟩
  self := fun i s α st Q E hQ => wpAny_pyIter_listiter st.1 hQ

theorem Iter.mlist (hA : AOk A) (hh : A.handled = none) {I : Addr} {l : Addr} {j : Nat} {xs : List PV} (hbI : K.hb.get? I = none) :
    Iter K A [I] (.ref I) xs (some (j, xs)) (fun i h α => h.IsListIter I l i ∧ I ∉ α.all ∧ α.ix[j]? = some l) where
  live := fun i h α st b hb => by simp at hb; subst hb; obtain ⟨⟨o, e, _⟩, _⟩ := st; exact ⟨o, e⟩
  apart := fun i h α st b hb => by simp at hb; subst hb; exact st.2.1
  frame := fun i F α h α' h' st x hF => by
    obtain ⟨⟨o, e, hc, hd⟩, hI, v⟩ := st
    exact ⟨⟨o, fields_stays e hd (x.rest I o (AL.not_ix hI) (hF I (by simp)) e), hc, hd⟩, x.notAll hI e, x.get v⟩
  but := fun i D α h h' st hD k => by
    obtain ⟨⟨o, e, hc, hd⟩, hI, v⟩ := st
    exact ⟨⟨o, (k I (fun q => hI (q ▸ hD))).trans e, hc, hd⟩, hI, v⟩
  hide := fun i D α h st hD => by
    obtain ⟨⟨o, e, hc, hd⟩, hI, v⟩ := st
    exact ⟨⟨o, e, hc, hd⟩, AL.not_hide hD e hI, v⟩
  item := fun i s σ α p hp st r wt Q E hQ => by
    obtain ⟨hit, hI, v⟩ := st
    obtain ⟨vs, n, e1, w⟩ := r.obj j _ l wt v
    obtain ⟨u, hu, hv⟩ := w.get hp
    obtain ⟨o, e, hc, hd⟩ := id hit
    refine wpAny_pyNext_list_item hit (isL e1) (by simpa using hu) fun h' hit' hs' => ?_
    obtain ⟨r', x⟩ := r.but hI hbI (fun b o hb e => (hs'.2 b hb).trans e) (fun o' e' => by rw [e] at e'; obtain rfl := Option.some.inj e'; exact fields_no_seq hd hc) fun _ o' e' d' => by rw [e] at e'; obtain rfl := Option.some.inj e'; exact absurd d' (fields_no_dct hd)
    exact hQ u _ (hv.ext x) ⟨hit', hI, v⟩ x r' ⟨rfl, rfl⟩
  done := fun s σ α st r wt Q E hQ => by
    obtain ⟨hit, hI, v⟩ := st
    obtain ⟨vs, n, e1, w⟩ := r.obj j _ l wt v
    obtain ⟨o, e, hc, hd⟩ := id hit
    refine wpAny_pyNext_list_end hh hit (isL e1) (by simp [w.1]) fun h' he' => ?_
    obtain ⟨r', x⟩ := r.but hI hbI (fun b o hb e => he' b o hb e) (fun o' e' => by rw [e] at e'; obtain rfl := Option.some.inj e'; exact fields_no_seq hd hc) fun _ o' e' d' => by rw [e] at e'; obtain rfl := Option.some.inj e'; exact absurd d' (fields_no_dct hd)
    exact hQ _ x r' ⟨rfl, rfl⟩
  self := fun i s α st Q E hQ => wpAny_pyIter_listiter st.1 hQ

theorem Iter.signs {I : Addr} {x : Str} {t : Tok} {ty : String} (hbI : K.hb.get? I = none) (hx : PyData.strOk x = true)
    (it1 : ∀ (s : Shared) (i c : Nat) (Q : Option Value → Shared → Prop) (E : Value → Shared → Prop), s.heap.IsStrIter I ty x t i → x.cps[i]? = some c →
      (∀ h', h'.IsStrIter I ty x t (i + 1) → Heap.SameBut I s.heap h' → Q (some (.str ⟨#[c]⟩ s.toks)) { s with heap := h', toks := s.toks + 1 }) → wpAny (model K.prog K.w) A (pyNext (.ref I)) Q E s)
    (it2 : ∀ (s : Shared) (i : Nat) (Q : Option Value → Shared → Prop) (E : Value → Shared → Prop), s.heap.IsStrIter I ty x t i → x.cps[i]? = none → (∀ h', Heap.ExtBut I s.heap h' → Q none { s with heap := h' }) → wpAny (model K.prog K.w) A (pyNext (.ref I)) Q E s)
    (it3 : ∀ (s : Shared) (i : Nat) (Q : Value → Shared → Prop) (E : Value → Shared → Prop), s.heap.IsStrIter I ty x t i → Q (.ref I) s → wpAny (model K.prog K.w) A (pyIter (.ref I)) Q E s) :
    Iter K A [I] (.ref I) (signsV x) none (fun i h α => h.IsStrIter I ty x t i ∧ I ∉ α.all) where
  live := fun i h α st b hb => by simp at hb; subst hb; obtain ⟨⟨o, e, _⟩, _⟩ := st; exact ⟨o, e⟩
  apart := fun i h α st b hb => by simp at hb; subst hb; exact st.2
  frame := fun i F α h α' h' st x hF => by
    obtain ⟨⟨o, e, hc, hd⟩, hI⟩ := st
    exact ⟨⟨o, fields_stays e hd (x.rest I o (AL.not_ix hI) (hF I (by simp)) e), hc, hd⟩, x.notAll hI e⟩
  but := fun i D α h h' st hD k => by
    obtain ⟨⟨o, e, hc, hd⟩, hI⟩ := st
    exact ⟨⟨o, (k I (fun q => hI (q ▸ hD))).trans e, hc, hd⟩, hI⟩
  hide := fun i D α h st hD => by
    obtain ⟨⟨o, e, hc, hd⟩, hI⟩ := st
    exact ⟨⟨o, e, hc, hd⟩, AL.not_hide hD e hI⟩
  item := fun i s σ α p hp st r _ Q E hQ => by
    obtain ⟨hit, hI⟩ := st
    obtain ⟨o, e, hc, hd⟩ := id hit
    simp only [signsV, List.getElem?_map] at hp
    obtain ⟨c, hcq, rfl⟩ := Option.map_eq_some_iff.mp hp
    have hcx : x.cps[i]? = some c := by rw [← Array.getElem?_toList]; exact hcq
    refine it1 s i c Q E hit hcx fun h' hit' hs' => ?_
    obtain ⟨r', x'⟩ := r.but hI hbI (fun b o hb e => (hs'.2 b hb).trans e) (fun o' e' => by rw [e] at e'; obtain rfl := Option.some.inj e'; exact fields_no_seq hd hc) fun _ o' e' d' => by rw [e] at e'; obtain rfl := Option.some.inj e'; exact absurd d' (fields_no_dct hd)
    refine hQ _ _ (.str _ _ ?_) ⟨hit', hI⟩ x' r' ⟨rfl, rfl⟩
    unfold PyData.strOk at hx ⊢
    simp only [Array.all_eq_true'] at hx ⊢
    intro d hd'
    simp at hd'
    subst hd'
    exact hx _ (Array.mem_of_getElem? hcx)
  done := fun s σ α st r _ Q E hQ => by
    obtain ⟨hit, hI⟩ := st
    obtain ⟨o, e, hc, hd⟩ := id hit
    refine it2 s _ Q E hit (by simp [signsV]) fun h' he' => ?_
    obtain ⟨r', x'⟩ := r.but hI hbI (fun b o hb e => he' b o hb e) (fun o' e' => by rw [e] at e'; obtain rfl := Option.some.inj e'; exact fields_no_seq hd hc) fun _ o' e' d' => by rw [e] at e'; obtain rfl := Option.some.inj e'; exact absurd d' (fields_no_dct hd)
    exact hQ _ x' r' ⟨rfl, rfl⟩
  self := fun i s α st Q E hQ => it3 s i Q E st.1 hQ

theorem isTu {s : Shared} {a : Addr} {items : List Value} {n : Nat} (e : s.heap.get? a = some { cls := .type "tuple", data := .seq items.toArray n }) : s.heap.IsTuple a items.toArray := ⟨_, e, rfl, n, rfl⟩

theorem Iter.tuple (hA : AOk A) (hh : A.handled = none) {I : Addr} {l : Addr} {xs : List PV} (hbI : K.hb.get? I = none) :
    Iter K A [I] (.ref I) xs none (fun i h α => h.IsTupleIter I l i ∧ I ∉ α.all ∧ VR h α (.tup xs) (.ref l)) where
  live := fun i h α st b hb => by simp at hb; subst hb; obtain ⟨⟨o, e, _⟩, _⟩ := st; exact ⟨o, e⟩
  apart := fun i h α st b hb => by simp at hb; subst hb; exact st.2.1
  frame := fun i F α h α' h' st x hF => by
    obtain ⟨⟨o, e, hc, hd⟩, hI, v⟩ := st
    exact ⟨⟨o, fields_stays e hd (x.rest I o (AL.not_ix hI) (hF I (by simp)) e), hc, hd⟩, x.notAll hI e, v.ext x⟩
  but := fun i D α h h' st hD k => by
    obtain ⟨⟨o, e, hc, hd⟩, hI, v⟩ := st
    exact ⟨⟨o, (k I (fun q => hI (q ▸ hD))).trans e, hc, hd⟩, hI, v.sameBut hD k⟩
  hide := fun i D α h st hD => by
    obtain ⟨⟨o, e, hc, hd⟩, hI, v⟩ := st
    exact ⟨⟨o, e, hc, hd⟩, AL.not_hide hD e hI, v.hide hD⟩
  item := fun i s σ α p hp st r _ Q E hQ => by
    obtain ⟨hit, hI, v⟩ := st
    obtain ⟨l', vs, n, hl, e1, hn, w⟩ := v.tupE
    cases hl
    obtain ⟨u, hu, hv⟩ := w.get hp
    obtain ⟨o, e, hc, hd⟩ := id hit
    refine wpAny_pyNext_tuple_item hit (isTu e1) (by simpa using hu) fun h' hit' hs' => ?_
    obtain ⟨r', x⟩ := r.but hI hbI (fun b o hb e => (hs'.2 b hb).trans e) (fun o' e' => by rw [e] at e'; obtain rfl := Option.some.inj e'; exact fields_no_seq hd hc) fun _ o' e' d' => by rw [e] at e'; obtain rfl := Option.some.inj e'; exact absurd d' (fields_no_dct hd)
    exact hQ u _ (hv.ext x) ⟨hit', hI, v.ext x⟩ x r' ⟨rfl, rfl⟩
  done := fun s σ α st r _ Q E hQ => by
    obtain ⟨hit, hI, v⟩ := st
    obtain ⟨l', vs, n, hl, e1, hn, w⟩ := v.tupE
    cases hl
    obtain ⟨o, e, hc, hd⟩ := id hit
    refine wpAny_pyNext_tuple_end hh hit (isTu e1) (by simp [w.1]) fun h' he' => ?_
    obtain ⟨r', x⟩ := r.but hI hbI (fun b o hb e => he' b o hb e) (fun o' e' => by rw [e] at e'; obtain rfl := Option.some.inj e'; exact fields_no_seq hd hc) fun _ o' e' d' => by rw [e] at e'; obtain rfl := Option.some.inj e'; exact absurd d' (fields_no_dct hd)
    exact hQ _ x r' ⟨rfl, rfl⟩
  self := fun i s α st Q E hQ => wpAny_pyIter_tupleiter st.1 hQ

theorem Iter.range (hA : AOk A) (hh : A.handled = none) {I : Addr} {a c : Int} {n : Nat} (hbI : K.hb.get? I = none) :
    Iter K A [I] (.ref I) (intRange a c n) none (fun i h α => IsRangeIter h I (a + (i : Nat) * c) ((n : Int) - (i : Nat)) c ∧ I ∉ α.all) where
  live := fun i h α st b hb => by simp at hb; subst hb; exact ⟨_, st.1⟩
  apart := fun i h α st b hb => by simp at hb; subst hb; exact st.2
  frame := fun i F α h α' h' st x hF => by
    obtain ⟨e, hI⟩ := st
    exact ⟨fields_stays e rfl (x.rest I _ (AL.not_ix hI) (hF I (by simp)) e), x.notAll hI e⟩
  but := fun i D α h h' st hD k => by
    obtain ⟨e, hI⟩ := st
    exact ⟨(k I (fun q => hI (q ▸ hD))).trans e, hI⟩
  hide := fun i D α h st hD => by
    obtain ⟨e, hI⟩ := st
    exact ⟨e, AL.not_hide hD e hI⟩
  item := fun i s σ α p hp st r _ Q E hQ => by
    obtain ⟨hit, hI⟩ := st
    have hi : i < n := by have := (List.getElem?_eq_some_iff.mp hp).1; simpa [intRange] using this
    have hp' : p = .int (a + (i : Int) * c) := by
      simp only [intRange, List.getElem?_map, List.getElem?_range hi, Option.map_some, Option.some.injEq] at hp
      exact hp.symm
    subst hp'
    refine wpAny_pyNext_range_item hit (by omega) fun h' hit' hs' => ?_
    obtain ⟨r', x⟩ := r.but hI hbI (fun b o hb e => (hs'.2 b hb).trans e) (fun o' e' => by rw [show s.heap.get? I = _ from hit] at e'; obtain rfl := Option.some.inj e'; exact fields_no_seq rfl rfl) fun _ o' e' d' => by rw [show s.heap.get? I = _ from hit] at e'; obtain rfl := Option.some.inj e'; exact absurd d' (fields_no_dct rfl)
    refine hQ _ _ (.int _ _) ⟨?_, hI⟩ x r' ⟨rfl, rfl⟩
    have e1 : a + ((i + 1 : Nat) : Int) * c = a + (i : Int) * c + c := by push_cast; rw [Int.add_mul, Int.one_mul, Int.add_assoc]
    have e2 : (n : Int) - ((i + 1 : Nat) : Int) = (n : Int) - (i : Int) - 1 := by push_cast; omega
    rw [e1, e2]; exact hit'
  done := fun s σ α st r _ Q E hQ => by
    obtain ⟨hit, hI⟩ := st
    refine wpAny_pyNext_range_end hh hit (by simp [intRange]) fun h' he' => ?_
    obtain ⟨r', x⟩ := r.but hI hbI (fun b o hb e => he' b o hb e) (fun o' e' => by rw [show s.heap.get? I = _ from hit] at e'; obtain rfl := Option.some.inj e'; exact fields_no_seq rfl rfl) fun _ o' e' d' => by rw [show s.heap.get? I = _ from hit] at e'; obtain rfl := Option.some.inj e'; exact absurd d' (fields_no_dct rfl)
    exact hQ _ x r' ⟨rfl, rfl⟩
  self := fun i s α st Q E hQ => wpAny_pyIter_rangeiter st.1 hQ
end
end Mine

namespace Mine
open PySem PyProof.Rows

theorem OR.hide {B : Bs} {h : Heap} {α : AL} {D : Addr} {m : MO} {a : Addr} (hD : h.get? D = none) (r : OR B h α m a) : OR B h ⟨α.ix, D :: α.hid, α.fr⟩ m a :=
  r.map (fun _ _ v => v.hide hD) rfl fun b o hb e _ => ⟨e, AL.not_hide hD e hb⟩
theorem OR.re {B : Bs} {h : Heap} {α α' : AL} {m : MO} {a : Addr} (h1 : ∀ (i : Nat) (a : Addr), α.ix[i]? = some a → α'.ix[i]? = some a) (h2 : ∀ a, a ∈ α'.all → a ∈ α.all) (r : OR B h α m a) : OR B h α' m a :=
  r.map (fun _ _ v => v.re h1 h2) rfl fun b o hb e _ => ⟨e, fun q => hb (h2 b q)⟩
theorem EnvRel.hide {h : Heap} {α : AL} {D : Addr} {env : Env} {ρ : Loc} (hD : h.get? D = none) (E : EnvRel env ρ h α) : EnvRel env ρ h ⟨α.ix, D :: α.hid, α.fr⟩ := by
  obtain ⟨m, n, hm⟩ := E.ns
  obtain ⟨oL, _, _, eL, _⟩ := id n
  refine ⟨E.ok, AL.not_hide hD eL E.la, ⟨m, n, fun i x v e1 e2 => let ⟨u, a, b⟩ := hm i x v e1 e2; ⟨u, a, b.hide hD⟩⟩, fun x c hc => ?_, E.cd, fun i x e1 => ?_, E.inb⟩
  · obtain ⟨h1, h2, v, h3⟩ := E.ca x c hc
    obtain ⟨o, e, d⟩ := id h3
    exact ⟨AL.not_hide hD e h1, h2, v, h3⟩
  · obtain ⟨c, hc, hv⟩ := E.cv i x e1
    exact ⟨c, hc, fun v e2 => let ⟨u, a, b⟩ := hv v e2; ⟨u, a, b.hide hD⟩⟩

theorem R.hide {hb h h' σ α} {D : Addr} {o : Obj} (r : R hb h σ α) (hD : h.get? D = none) (k : ∀ b o, h.get? b = some o → h'.get? b = some o) (e : h'.get? D = some o) : R hb h' σ ⟨α.ix, D :: α.hid, α.fr⟩ := by
  have r' := r.keeps k
  have hDi : D ∉ α.ix := fun q => by obtain ⟨o, e⟩ := r.live q; rw [hD] at e; cases e
  refine ⟨r'.base, r'.fresh, r'.nodup, r'.len, fun a ha => ?_, fun i m a e1 e2 => ?_, fun a ha => ?_, r'.fe, r'.frs, r'.frNot⟩
  · rcases List.mem_cons.mp ha with q | q
    · subst q; exact ⟨hDi, _, e⟩
    · exact r'.hidden a q
  · have x : Ext [] (⟨α.ix, D :: α.hid, α.fr⟩ : AL) h ⟨α.ix, D :: α.hid, α.fr⟩ h' := .keeps k
    obtain ⟨o', e'⟩ := r.live (List.mem_of_getElem? e2)
    exact ((r.obj i m a e1 e2).hide hD).ext x (by rw [e', k a o' e'])
  · rcases List.mem_cons.mp ha with q | q
    · subst q
      cases hq : hb.get? a with
      | none => rfl
      | some o => rw [r.base _ _ hq] at hD; cases hD
    · exact r.hfr a q

section
variable {K : Kt} {A : Around} {s : Shared} {α : AL} {σ : Sto}

inductive IterPost (K : Kt) (A : Around) (c : Out (List PV × Option (Nat × List PV))) (s : Shared) (α : AL) (it : Value) (s' : Shared) : Prop where
  | mk (xs : List PV) (wt : Option (Nat × List PV)) (σ' : Sto) (α' : AL) (own : List Addr) (St : Nat → Heap → AL → Prop) (h : c = .ok (xs, wt) σ') (x : Ext [] α s.heap α' s'.heap) (r : R K.hb s'.heap σ' α') (m : Sm s s') (I : Iter K A own it xs wt St) (st : St 0 s'.heap α') (ho : ∀ b ∈ own, s.heap.get? b = none ∧ K.hb.get? b = none) : IterPost K A c s α it s'
theorem IterPost.lift {c : Out (List PV × Option (Nat × List PV))} {s₁ : Shared} {α₁ : AL} {it : Value} {s' : Shared} (x : Ext [] α s.heap α₁ s₁.heap) (m : Sm s s₁) (p : IterPost K A c s₁ α₁ it s') : IterPost K A c s α it s' := by
  obtain ⟨xs, wt, σ', α', own, St, e, x', r, m', I, st, ho⟩ := p
  refine ⟨xs, wt, σ', α', own, St, e, x.trans x', r, m.trans m', I, st, fun b hb => ⟨?_, (ho b hb).2⟩⟩
  cases hq : s.heap.get? b with
  | none => rfl
  | some o => obtain ⟨o', e'⟩ := x.alive b o (by simp) hq; rw [(ho b hb).1] at e'; cases e'

noncomputable def RunsIt (K : Kt) (A : Around) (t : Sem Value) (c : Out (List PV × Option (Nat × List PV))) (s : Shared) (α : AL) : Prop :=
  c ≠ .stuck → K.Tk s → wpAny (model K.prog K.w) A t (fun x s₁ => wpAny (model K.prog K.w) A (pyIter x) (IterPost K A c s α) (PostX K A c s α) s₁) (PostX K A c s α) s

theorem hb_none (r : R K.hb s.heap σ α) : K.hb.get? s.heap.objs.size = none := by
  cases hq : K.hb.get? s.heap.objs.size with
  | none => rfl
  | some o => exact absurd (Heap.lt_size (r.base _ _ hq)) (Nat.lt_irrefl _)

/-- an iterator newly made -/
theorem IterPost.new {I : Addr} {o : Obj} {xs : List PV} {wt : Option (Nat × List PV)} {St : Nat → Heap → AL → Prop} {tk : Nat} (hI : I = s.heap.objs.size) (r : R K.hb s.heap σ α) (it : Iter K A [I] (.ref I) xs wt St)
    (st : ∀ h', h' = s.heap.push o → (∀ b o', s.heap.get? b = some o' → h'.get? b = some o') → I ∉ α.all → St 0 h' α) : IterPost K A (.ok (xs, wt) σ) s α (.ref I) { s with heap := s.heap.push o, toks := tk } := by
  subst hI
  have k : ∀ b o', s.heap.get? b = some o' → (s.heap.push o).get? b = some o' := fun b o' e => Heap.get?_push_of_some _ e
  refine ⟨xs, wt, σ, α, _, St, rfl, .keeps k, r.keeps k, ⟨rfl, rfl⟩, it, st _ rfl k (fun hm => ?_), fun b hb => ?_⟩
  · obtain ⟨o, e⟩ := r.liveAll hm; rw [none_at] at e; cases e
  · simp at hb; subst hb; exact ⟨none_at s, hb_none r⟩

theorem iter_val {a : PV} {x : Value} (hA : AOk A) (hh : A.handled = none) (r : R K.hb s.heap σ α) (va : VR s.heap α a x) {E : Value → Shared → Prop}
    (hc : itv a σ ≠ .stuck) :
    wpAny (model K.prog K.w) A (pyIter x) (IterPost K A (itv a σ) s α) E s := by
  unfold itv at hc ⊢
  cases a with
  | fl xs =>
    obtain ⟨l, vs, n, rfl, e1, hn, v⟩ := va.flE
    refine wpAny_pyIter_list (isL e1) (IterPost.new (tk := s.toks) rfl r (.list hA hh (l := l) (hb_none r)) fun h' hh k hI => ?_)
    exact ⟨⟨_, by rw [hh]; exact Heap.get?_push_size _ rfl, rfl, rfl⟩, hI, va.ext (.keeps (F := []) k)⟩
  | tup xs =>
    obtain ⟨l, vs, n, rfl, e1, hn, v⟩ := va.tupE
    refine wpAny_pyIter_tuple (isTu e1) (IterPost.new (tk := s.toks) rfl r (.tuple hA hh (l := l) (hb_none r)) fun h' hh k hI => ?_)
    exact ⟨⟨_, by rw [hh]; exact Heap.get?_push_size _ rfl, rfl, rfl⟩, hI, va.ext (.keeps (F := []) k)⟩
  | ref i =>
    cases va with
    | @ref _ l el =>
      simp only [items, watchOf] at hc ⊢
      cases hs : σ[i]? with
      | none => rw [hs] at hc; exact absurd rfl hc
      | some m =>
        cases m with
        | lst xs =>
          obtain ⟨vs, n, e1, v⟩ := r.obj i _ l hs el
          refine wpAny_pyIter_list (isL e1) (IterPost.new (tk := s.toks) rfl r (.mlist hA hh (l := l) (j := i) (hb_none r)) fun h' hh k hI => ?_)
          exact ⟨⟨_, by rw [hh]; exact Heap.get?_push_size _ rfl, rfl, rfl⟩, hI, el⟩
        | _ => rw [hs] at hc; exact absurd rfl hc
  | str z =>
    cases va with | str _ t hz =>
    cases ha : z.cps.all (· < 128)
    · refine wpAny_pyIter_wide ha (IterPost.new (tk := s.toks) rfl r (.signs (t := t) (ty := "str_iterator") (hb_none r) hz (fun s i c Q E h1 h2 h3 => wpAny_pyNext_wide_item h1 h2 h3) (fun s i Q E h1 h2 h3 => wpAny_pyNext_wide_end hh h1 h2 h3) fun s i Q E h1 h2 => wpAny_pyIter_striter_wide h1 h2) fun h' hh k hI => ?_)
      exact ⟨⟨_, by rw [hh]; exact Heap.get?_push_size _ rfl, rfl, rfl⟩, hI⟩
    · refine wpAny_pyIter_ascii ha (IterPost.new (tk := s.toks) rfl r (.signs (t := t) (ty := "str_ascii_iterator") (hb_none r) hz (fun s i c Q E h1 h2 h3 => wpAny_pyNext_ascii_item h1 h2 h3) (fun s i Q E h1 h2 h3 => wpAny_pyNext_ascii_end hh h1 h2 h3) fun s i Q E h1 h2 => wpAny_pyIter_striter_ascii h1 h2) fun h' hh k hI => ?_)
      exact ⟨⟨_, by rw [hh]; exact Heap.get?_push_size _ rfl, rfl, rfl⟩, hI⟩
  | _ => exact absurd rfl hc

theorem size_1 {n : Int} (h0 : 0 ≤ n) : Builtin.Range.rangeSize 0 n 1 = n := by
  unfold Builtin.Range.rangeSize
  simp; omega
theorem small_1 {n : Int} (h0 : 0 ≤ n) (h1 : n ≤ (lim : Int)) : Builtin.Range.small 0 n 1 = true := by
  have hl2 : (lim : Int) = 1000000 := rfl
  rw [hl2] at h1
  unfold Builtin.Range.small
  rw [size_1 h0]
  simp only [Builtin.Range.rangeFitsLong, Bool.and_eq_true, Bool.or_eq_true, decide_eq_true_eq, beq_iff_eq, show ((1 : Int) > 0) by decide, if_true]
  omega
theorem iter_range1 {a : PV} {x : Value} (hA : AOk A) (hh : A.handled = none) (r : R K.hb s.heap σ α) (va : VR s.heap α a x) {E : Value → Shared → Prop} (hc : range1v a σ ≠ .stuck) :
    wpAny (model K.prog K.w) A (call (.type "range") [x]) (fun y s₁ => wpAny (model K.prog K.w) A (pyIter y) (IterPost K A (range1v a σ) s α) E s₁) E s := by
  unfold range1v at hc ⊢
  cases a with
  | int n =>
    cases va with | int _ t =>
    dsimp only at hc ⊢
    split at hc
    · rename_i hl; rw [if_pos hl]
      have hl2 : (lim : Int) = 1000000 := rfl
      refine call_range_1 (wpAny_pyIter_range (IsRange.new _ _ _ _ _ _ _) (small_1 hl.1 hl.2) ?_)
      have k : ∀ b o', s.heap.get? b = some o' → (s.heap.push { cls := .type "range", data := .fields #[.int 0 s.toks, .int n t, .int 1 (s.toks + 1)] }).get? b = some o' := fun b o' e => Heap.get?_push_of_some _ e
      refine IterPost.lift (s₁ := { s with heap := s.heap.push { cls := .type "range", data := .fields #[.int 0 s.toks, .int n t, .int 1 (s.toks + 1)] }, toks := s.toks + 1 + 1 }) (.keeps k) ⟨rfl, rfl⟩ ?_
      have r' := r.keeps k
      refine IterPost.new (K := K) (A := A) (α := α) (σ := σ) (s := { s with heap := s.heap.push { cls := .type "range", data := .fields #[.int 0 s.toks, .int n t, .int 1 (s.toks + 1)] }, toks := s.toks + 1 + 1 }) (tk := s.toks + 1 + 1) rfl r' (.range hA hh (a := 0) (c := 1) (n := n.toNat) (hb_none (s := { s with heap := s.heap.push { cls := .type "range", data := .fields #[.int 0 s.toks, .int n t, .int 1 (s.toks + 1)] }, toks := s.toks + 1 + 1 }) r')) fun h' hh k' hI => ⟨?_, hI⟩
      rw [hh]
      have e : Builtin.Range.rangeSize 0 n 1 = n := size_1 hl.1
      unfold IsRangeIter
      rw [e]
      simp only [Int.ofNat_zero, Int.zero_mul, Int.add_zero, Int.sub_zero, Int.toNat_of_nonneg hl.1]
      exact Heap.get?_push_size _ rfl
    · exact absurd rfl hc
  | _ => exact absurd rfl hc
end
end Mine

namespace Mine
open PySem PyProof.Rows

/-- the frame's objects are made after the base heap -/
structure EnvNew (hb : Bs) (env : Env) : Prop where
  l : hb.get? env.locals = none
  c : ∀ x c, env.cells.lookup x = some c → hb.get? c = none
  f : ∃ L r, env.frame = some L ∧ hb.fr = L :: r

theorem OR.sameBut {B : Bs} {h h' : Heap} {α : AL} {D : Addr} {m : MO} {a : Addr} (hD : D ∈ α.all) (hne : a ≠ D) (k : ∀ b, b ≠ D → h'.get? b = h.get? b) (r : OR B h α m a) : OR B h' α m a :=
  r.map (fun _ _ v => v.sameBut hD k) (k a hne) fun b o hb e _ => ⟨(k b (by rintro rfl; exact hb hD)).trans e, hb⟩
theorem EnvRel.sameBut {h h' : Heap} {α : AL} {D : Addr} {env : Env} {ρ : Loc} (hD : D ∈ α.all) (k : ∀ b, b ≠ D → h'.get? b = h.get? b) (E : EnvRel env ρ h α) : EnvRel env ρ h' α := by
  obtain ⟨m, n, hm⟩ := E.ns
  have hL : env.locals ≠ D := by intro q; exact E.la (q ▸ hD)
  refine ⟨E.ok, E.la, ⟨m, ?_, fun i x v e1 e2 => let ⟨u, a, b⟩ := hm i x v e1 e2; ⟨u, a, b.sameBut hD k⟩⟩, fun x c hc => ?_, E.cd, fun i x e1 => ?_, E.inb⟩
  · obtain ⟨o, es, ep, e, r⟩ := n
    exact ⟨o, es, ep, (k _ hL).trans e, r⟩
  · obtain ⟨h1, h2, v, o, e, d⟩ := E.ca x c hc
    exact ⟨h1, h2, v, o, (k _ (by intro q; exact h1 (q ▸ hD))).trans e, d⟩
  · obtain ⟨c, hc, hv⟩ := E.cv i x e1
    refine ⟨c, hc, fun v e2 => ?_⟩
    obtain ⟨u, ⟨o, e, d⟩, b⟩ := hv v e2
    exact ⟨u, ⟨o, (k _ (by intro q; exact (E.ca x c hc).1 (q ▸ hD))).trans e, d⟩, b.sameBut hD k⟩
theorem R.sameHid {hb h h' σ α} {D : Addr} (r : R hb h σ α) (hD : D ∈ α.hid) (hbD : hb.get? D = none) (k : ∀ b, b ≠ D → h'.get? b = h.get? b) (al : ∃ o, h'.get? D = some o) (nd : ∀ o, h.get? D = some o → ¬ isDct o) : R hb h' σ α := by
  have hDi := (r.hidden D hD).1
  have hDa : D ∈ α.all := List.mem_append_right _ hD
  refine ⟨fun b o e => (k b (by rintro rfl; rw [hbD] at e; contradiction)).trans (r.base b o e), r.fresh, r.nodup, r.len, fun b hb' => ⟨(r.hidden b hb').1, ?_⟩, fun j m a e1 e2 => ?_, r.hfr, r.fe, fun b hb' => ⟨(r.frs b hb').1, ?_⟩, r.frNot⟩
  · by_cases q : b = D
    · subst q; exact al
    · rw [k b q]; exact (r.hidden b hb').2
  · exact (r.obj j m a e1 e2).sameBut hDa (by rintro rfl; exact hDi (List.mem_of_getElem? e2)) k
  · obtain ⟨_, o, e, d⟩ := r.frs b hb'
    exact ⟨o, (k b (by rintro rfl; exact nd o e d)).trans e, d⟩

/-- a change of an object that was not there before -/
theorem Ext.sameBut {F α h α' h' h''} {D : Addr} (x : Ext F α h α' h') (hD : h.get? D = none) (k : ∀ b, b ≠ D → h''.get? b = h'.get? b) : Ext F α h α' h'' := by
  have ne : ∀ b o, h.get? b = some o → b ≠ D := fun b o e q => by rw [q, hD] at e; contradiction
  refine ⟨x.hid, x.pre, fun b o hb e hs => (k b (ne b o e)).trans (x.seqs b o hb e hs), fun b o hb hF e => ?_, fun b o hF e => ?_, x.fre⟩
  · rcases x.rest b o hb hF e with q | ⟨f, d, sl, q⟩
    · exact .inl ((k b (ne b o e)).trans q)
    · exact .inr ⟨f, d, sl, (k b (ne b o e)).trans q⟩
  · obtain ⟨o', e'⟩ := x.alive b o hF e
    exact ⟨o', (k b (ne b o e)).trans e'⟩
theorem Ext.rehid {F α h α' h'} (x : Ext F α h α' h') (hid : List Addr) : Ext F ⟨α.ix, hid, α.fr⟩ h ⟨α'.ix, hid, α'.fr⟩ h' :=
  ⟨rfl, x.pre, x.seqs, x.rest, x.alive, x.fre⟩

section
variable {K : Kt} {A : Around} {s : Shared} {α : AL} {σ : Sto} {env : Env} {ρ : Loc}

/-- slots of one name are one slot -/
noncomputable def Uniq (names : List (Str × NameKind)) : Prop := ∀ (i j : Nat) (x : Str) (k k' : NameKind), names[i]? = some (x, k) → names[j]? = some (x, k') → i = j

theorem get_set {ρ : Loc} {i j : Nat} {v w : PV} (e : (ρ.set i (some v))[j]? = some (some w)) : (j = i ∧ w = v) ∨ (j ≠ i ∧ ρ[j]? = some (some w)) := by
  by_cases q : j = i
  · subst q
    rw [List.getElem?_set_self'] at e
    cases hq : ρ[j]? with
    | none => rw [hq] at e; contradiction
    | some o => rw [hq] at e; simp at e; exact .inl ⟨rfl, e.symm⟩
  · rw [List.getElem?_set_ne (Ne.symm q)] at e
    exact .inr ⟨q, e⟩

theorem store_local {i : Nat} {x : Str} {v : PV} {u : Value} {Q : Unit → Shared → Prop} {X : Value → Shared → Prop} (hU : Uniq env.scope.names) (r : R K.hb s.heap σ α) (E : EnvRel env ρ s.heap α) (hL : K.hb.get? env.locals = none)
    (hn : env.scope.names[i]? = some (x, .local)) (vu : VR s.heap α v u)
    (hQ : ∀ s', R K.hb s'.heap σ α → EnvRel env (ρ.set i (some v)) s'.heap α → Ext [env.locals] α s.heap α s'.heap → (∀ b, b ≠ env.locals → s'.heap.get? b = s.heap.get? b) → Sm s s' → Q () s') :
    wpAny (model K.prog K.w) A (storeName env x u) Q X s := by
  obtain ⟨m, n, hm⟩ := E.ns
  refine wpAny_storeName_local (E.ok.ws i x _ hn) n (fun h' hn' hs' => ?_) (by rw [E.ok.kind]; rfl)
  obtain ⟨r', x'⟩ := r.but E.la hL (fun b o hb e => (hs'.2 b hb).trans e) (fun o e => by
    obtain ⟨o', es, ep, e', d, _⟩ := id n
    rw [e] at e'; obtain rfl := Option.some.inj e'
    exact isDct.notSolid ⟨_, _, d⟩) fun _ o e _ => by
    obtain ⟨o', es, ep, e', d, _⟩ := id hn'
    exact ⟨o', e', es, ep, d⟩
  refine hQ _ r' ⟨E.ok, E.la, ⟨_, hn', fun j y w e1 e2 => ?_⟩, fun y c hc => ?_, E.cd, fun j y e1 => ?_, fun j w e => ?_⟩ x' (fun b hb => hs'.2 b hb) ⟨rfl, rfl⟩
  · rcases get_set e2 with ⟨rfl, rfl⟩ | ⟨hne, e2⟩
    · rw [hn] at e1; cases e1
      exact ⟨u, by simp, vu.ext x'⟩
    · obtain ⟨u', h1, h2⟩ := hm j y w e1 e2
      have : y ≠ x := by rintro rfl; exact hne (hU j i _ _ _ e1 hn)
      exact ⟨u', by simp [this, h1], h2.ext x'⟩
  · obtain ⟨h1, h2, w, h3⟩ := E.ca y c hc
    exact ⟨h1, h2, w, isCell_ext x' (AL.not_ix h1) (by simpa using h2) h3⟩
  · obtain ⟨c, hc, hv⟩ := E.cv j y e1
    refine ⟨c, hc, fun w e2 => ?_⟩
    rcases get_set e2 with ⟨rfl, rfl⟩ | ⟨hne, e2⟩
    · rw [hn] at e1; cases e1
    · obtain ⟨u', h1, h2⟩ := hv w e2
      obtain ⟨q1, q2, _⟩ := E.ca y c hc
      exact ⟨u', isCell_ext x' (AL.not_ix q1) (by simpa using q2) h1, h2.ext x'⟩
  · rcases get_set e with ⟨rfl, rfl⟩ | ⟨hne, e2⟩
    · exact ⟨x, _, hn, .inl rfl⟩
    · exact E.inb j w e2

theorem store_cell {i : Nat} {x : Str} {v : PV} {u : Value} {Q : Unit → Shared → Prop} {X : Value → Shared → Prop} (hU : Uniq env.scope.names) (r : R K.hb s.heap σ α) (E : EnvRel env ρ s.heap α) (hN : EnvNew K.hb env)
    (hn : env.scope.names[i]? = some (x, .cell)) (vu : VR s.heap α v u)
    (hQ : ∀ c s', env.cells.lookup x = some c → R K.hb s'.heap σ α → EnvRel env (ρ.set i (some v)) s'.heap α → Ext [c] α s.heap α s'.heap → Sm s s' → Q () s') :
    wpAny (model K.prog K.w) A (storeName env x u) Q X s := by
  obtain ⟨m, n, hm⟩ := E.ns
  obtain ⟨c, hc, hv⟩ := E.cv i x hn
  obtain ⟨q1, q2, v0, q3⟩ := E.ca x c hc
  refine wpAny_storeName_cell E.ok.kind (E.ok.ws i x _ hn) hc q3 fun h' hc' hs' => ?_
  obtain ⟨r', x'⟩ := r.but q1 (hN.c x c hc) (fun b o hb e => (hs'.2 b hb).trans e) (fun o e => by
    obtain ⟨o', e', d⟩ := q3
    rw [e] at e'; obtain rfl := Option.some.inj e'
    rintro (⟨xs, n, q⟩ | ⟨C, vs, _, q⟩ | ⟨C, _, q⟩) <;> rw [d] at q <;> contradiction) fun _ o e dd => by
    obtain ⟨o', e', d⟩ := q3
    rw [e] at e'; obtain rfl := Option.some.inj e'
    obtain ⟨xs, n, q⟩ := dd
    rw [d] at q; contradiction
  have hns : h'.Ns env.locals m := ns_ext x' (AL.not_ix E.la) (by simpa using (Ne.symm q2)) n
  refine hQ c _ hc r' ⟨E.ok, E.la, ⟨m, hns, fun j y w e1 e2 => ?_⟩, fun y c' hy => ?_, E.cd, fun j y e1 => ?_, fun j w e => ?_⟩ x' ⟨rfl, rfl⟩
  · rcases get_set e2 with ⟨rfl, rfl⟩ | ⟨hne, e2⟩
    · rw [hn] at e1; cases e1
    · obtain ⟨u', h1, h2⟩ := hm j y w e1 e2
      exact ⟨u', h1, h2.ext x'⟩
  · obtain ⟨h1, h2, w, h3⟩ := E.ca y c' hy
    by_cases q : c' = c
    · subst q; exact ⟨h1, h2, _, hc'⟩
    · exact ⟨h1, h2, w, isCell_ext x' (AL.not_ix h1) (by simpa using q) h3⟩
  · obtain ⟨c', hy, hv'⟩ := E.cv j y e1
    refine ⟨c', hy, fun w e2 => ?_⟩
    rcases get_set e2 with ⟨rfl, rfl⟩ | ⟨hne, e2⟩
    · rw [hn] at e1; cases e1
      rw [hc] at hy; obtain rfl := Option.some.inj hy
      exact ⟨u, hc', vu.ext x'⟩
    · obtain ⟨u', h1, h2⟩ := hv' w e2
      have : c' ≠ c := by
        rintro rfl
        have := E.cd _ _ _ hy hc
        subst this
        exact hne (hU j i _ _ _ e1 hn)
      exact ⟨u', isCell_ext x' (AL.not_ix (E.ca y c' hy).1) (by simpa using this) h1, h2.ext x'⟩
  · rcases get_set e with ⟨rfl, rfl⟩ | ⟨hne, e2⟩
    · exact ⟨x, _, hn, .inr rfl⟩
    · exact E.inb j w e2
end

/-! closures of comprehensions -/
noncomputable def clOf (cells : List (Str × Addr)) : List (Str × NameKind) → List (Str × Addr) → List (Str × Addr)
  | [], acc => acc
  | (n, k) :: r, acc => if k == .free then clOf cells r ((n, (cells.lookup n).getD 0) :: acc) else clOf cells r acc

theorem closureFor_go {env : Env} (f : Str × NameKind → List (Str × Addr) → Sem (ForInStep (List (Str × Addr))))
    (hf : ∀ n k cs, f (n, k) cs = if k == .free then (do let c ← cellOf env n; pure (.yield ((n, c) :: cs))) else pure (.yield cs)) :
    ∀ (names : List (Str × NameKind)) (acc : List (Str × Addr)), (∀ n, (n, NameKind.free) ∈ names → (env.cells.lookup n).isSome) → (forIn names acc f) = pure (clOf env.cells names acc)
  | [], acc, _ => by rw [List.forIn_nil]; rfl
  | (n, k) :: r, acc, h => by
    rw [List.forIn_cons, hf]
    unfold clOf
    cases hk : k == .free with
    | true =>
      have hk' : k = .free := by simpa using hk
      subst hk'
      obtain ⟨c, hc⟩ := Option.isSome_iff_exists.mp (h n List.mem_cons_self)
      simp only [if_true]
      unfold cellOf
      rw [hc]
      simp only [Option.getD_some, pure_bind]
      exact closureFor_go f hf r _ fun n hn => h n (List.mem_cons_of_mem _ hn)
    | false =>
      simp only [Bool.false_eq_true, if_false, pure_bind]
      exact closureFor_go f hf r _ fun n hn => h n (List.mem_cons_of_mem _ hn)
theorem closureFor_eq {scope : Scope} {env : Env} (h : ∀ n, (n, NameKind.free) ∈ scope.names → (env.cells.lookup n).isSome) : closureFor scope env = pure (clOf env.cells scope.names []) := by
  unfold closureFor
  refine (congrArg (· >>= fun cs => pure cs) (closureFor_go (env := env) _ (fun n k cs => ?_) scope.names [] h)).trans (pure_bind _ _)
  cases hk : k == NameKind.free <;> simp [hk]
theorem clOf_sub {cells : List (Str × Addr)} : ∀ (names : List (Str × NameKind)) (acc : List (Str × Addr)), (∀ n, (n, NameKind.free) ∈ names → (cells.lookup n).isSome) → (∀ n c, (n, c) ∈ acc → cells.lookup n = some c) →
    ∀ n c, (n, c) ∈ clOf cells names acc → cells.lookup n = some c
  | [], _, _, h2, n, c, h => h2 n c h
  | (n', k) :: r, acc, h1, h2, n, c, h => by
    unfold clOf at h
    split at h
    · rename_i hk
      have hk' : k = .free := by simpa using hk
      subst hk'
      refine clOf_sub r _ (fun n hn => h1 n (List.mem_cons_of_mem _ hn)) (fun m d hm => ?_) n c h
      rcases List.mem_cons.mp hm with e | hm
      · cases e
        obtain ⟨c', hc'⟩ := Option.isSome_iff_exists.mp (h1 n' List.mem_cons_self)
        rw [hc']; rfl
      · exact h2 m d hm
    · exact clOf_sub r _ (fun n hn => h1 n (List.mem_cons_of_mem _ hn)) h2 n c h
theorem clOf_acc {cells : List (Str × Addr)} : ∀ (names : List (Str × NameKind)) (acc : List (Str × Addr)) (n : Str) (c : Addr), (n, c) ∈ acc → (n, c) ∈ clOf cells names acc
  | [], _, _, _, h => h
  | (_, k) :: r, acc, n, c, h => by
    unfold clOf
    split
    · exact clOf_acc r _ n c (List.mem_cons_of_mem _ h)
    · exact clOf_acc r _ n c h
theorem clOf_has {cells : List (Str × Addr)} : ∀ (names : List (Str × NameKind)) (acc : List (Str × Addr)) (n : Str), (n, NameKind.free) ∈ names → ∃ c, (n, c) ∈ clOf cells names acc
  | (n', k) :: r, acc, n, h => by
    unfold clOf
    rcases List.mem_cons.mp h with e | h
    · cases e; exact ⟨_, clOf_acc r _ _ _ List.mem_cons_self⟩
    · split
      · exact clOf_has r _ n h
      · exact clOf_has r _ n h
theorem lookup_of_mem {l : List (Str × Addr)} {n : Str} {c : Addr} (h : (n, c) ∈ l) : ∃ c', l.lookup n = some c' := by
  induction l with
  | nil => simp at h
  | cons p r ih =>
    obtain ⟨k, v⟩ := p
    rw [List.lookup_cons]
    cases hb : n == k with
    | true => exact ⟨v, rfl⟩
    | false =>
      rcases List.mem_cons.mp h with e | h
      · cases e; simp at hb
      · exact ih h
theorem clOf_lookup {cells : List (Str × Addr)} {names : List (Str × NameKind)} (h : ∀ n, (n, NameKind.free) ∈ names → (cells.lookup n).isSome) {n : Str} {c : Addr} (e : (clOf cells names []).lookup n = some c) : cells.lookup n = some c :=
  clOf_sub names [] h (fun _ _ h => by simp at h) n c (mem_of_lookup e)
theorem clOf_free {cells : List (Str × Addr)} {names : List (Str × NameKind)} (h : ∀ n, (n, NameKind.free) ∈ names → (cells.lookup n).isSome) {n : Str} (hn : (n, NameKind.free) ∈ names) : (clOf cells names []).lookup n = cells.lookup n := by
  obtain ⟨c, hc⟩ := clOf_has (cells := cells) names [] n hn
  obtain ⟨c', hc'⟩ := lookup_of_mem hc
  rw [hc', clOf_lookup h hc']
end Mine

namespace Mine
open PySem PyProof.Rows

/-- what a list of names must be -/
structure ScOk (names : List (Str × NameKind)) : Prop where
  uniq : Uniq names
  nodbg : ∀ (i : Nat) (x : Str) (k : NameKind), names[i]? = some (x, k) → (x == ("__debug__" : Str)) = false
  kinds : ∀ (i : Nat) (x : Str) (k : NameKind), names[i]? = some (x, k) → k = .local ∨ k = .cell ∨ k = .globalImplicit
theorem lookup_of_uniq : ∀ {names : List (Str × NameKind)}, Uniq names → ∀ {i : Nat} {x : Str} {k : NameKind}, names[i]? = some (x, k) → names.lookup x = some k
  | [], _, i, x, k, h => by simp at h
  | (y, k') :: r, hU, i, x, k, h => by
    rw [List.lookup_cons]
    cases i with
    | zero => simp at h; obtain ⟨rfl, rfl⟩ := h; simp
    | succ i =>
      have h' : r[i]? = some (x, k) := by simpa using h
      have hne : (x == y) = false := by
        cases hb : x == y with
        | false => rfl
        | true =>
          have : x = y := by simpa using hb
          subst this
          exact absurd (hU 0 (i + 1) x k' k (by simp) h) (by omega)
      rw [hne]
      exact lookup_of_uniq (fun i j x k k' h1 h2 => by have := hU (i + 1) (j + 1) x k k' (by simpa using h1) (by simpa using h2); omega) h'
theorem idx_of_lookup : ∀ {names : List (Str × NameKind)} {x : Str} {k : NameKind}, names.lookup x = some k → ∃ i, names.findIdx? (·.1 == x) = some i ∧ names[i]? = some (x, k)
  | [], _, _, h => by simp at h
  | (y, k') :: r, x, k, h => by
    rw [List.lookup_cons] at h
    rw [List.findIdx?_cons]
    cases hb : x == y with
    | true =>
      rw [hb] at h; obtain rfl := Option.some.inj h
      have : x = y := by simpa using hb
      subst this
      exact ⟨0, by simp, by simp⟩
    | false =>
      rw [hb] at h
      obtain ⟨i, h1, h2⟩ := idx_of_lookup h
      have : (y == x) = false := by
        cases hq : y == x with
        | false => rfl
        | true => have : y = x := by simpa using hq
                  subst this; simp at hb
      exact ⟨i + 1, by simp [this, h1], by simpa using h2⟩

theorem relabel_names {scope : Scope} {env : Env} (hk : env.scope.kind = .function) : (relabel scope env).names = relab env.scope.names scope.names := by
  unfold relabel relab Env.kindOf
  simp [hk]

/-- what the scope of a comprehension must be -/
structure CompOk (N : List (Str × NameKind)) (scope : Scope) (t : Nat) (x : Str) : Prop where
  kind : scope.kind = .function
  sc : ScOk (relab N scope.names)
  nocell : ∀ y ∈ scope.names, y.2 ≠ .cell
  tgt : (relab N scope.names)[t]? = some (x, .local)

section
variable {N : List (Str × NameKind)} {scope : Scope} {t : Nat} {x : Str}

theorem CompOk.free (c : CompOk N scope t x) {n : Str} (h : (n, NameKind.free) ∈ scope.names) : N.lookup n = some .cell := by
  obtain ⟨i, hi⟩ := List.mem_iff_getElem?.mp h
  by_cases hq : N.lookup n = some .cell
  · exact hq
  · have : (relab N scope.names)[i]? = some (n, .free) := by simp [relab, hi, hq]
    rcases c.sc.kinds i n _ this with q | q | q <;> contradiction
theorem CompOk.cell_ (c : CompOk N scope t x) {i : Nat} {y : Str} (h : (relab N scope.names)[i]? = some (y, .cell)) : (y, NameKind.free) ∈ scope.names ∧ N.lookup y = some .cell := by
  simp only [relab, List.getElem?_map] at h
  cases hq : scope.names[i]? with
  | none => rw [hq] at h; contradiction
  | some p =>
    obtain ⟨n, k⟩ := p
    rw [hq] at h
    simp only [Option.map_some, Option.some.injEq] at h
    split at h
    · rename_i hc
      (first | contradiction | (obtain rfl := Option.some.inj h) | cases h)
      simp at hc
      exact ⟨hc.1 ▸ List.mem_of_getElem? hq, hc.2⟩
    · (first | contradiction | (obtain rfl := Option.some.inj h) | cases h)
      exact absurd rfl (c.nocell _ (List.mem_of_getElem? hq))
theorem CompOk.names (c : CompOk N scope t x) : ∀ y ∈ scope.names, y.2 = .local → scope.names.lookup y.1 = some .local := by
  rintro ⟨y, k⟩ hy rfl
  obtain ⟨i, hi⟩ := List.mem_iff_getElem?.mp hy
  refine lookup_of_uniq (i := i) (fun i j z k k' h1 h2 => ?_) hi
  have e1 : ∃ q, (relab N scope.names)[i]? = some (z, q) := by
    simp only [relab, List.getElem?_map, h1]; simp only [Option.map_some, Option.some.injEq]; split <;> exact ⟨_, rfl⟩
  have e2 : ∃ q, (relab N scope.names)[j]? = some (z, q) := by
    simp only [relab, List.getElem?_map, h2]; simp only [Option.map_some, Option.some.injEq]; split <;> exact ⟨_, rfl⟩
  obtain ⟨_, e1⟩ := e1
  obtain ⟨_, e2⟩ := e2
  exact c.sc.uniq i j z _ _ e1 e2
end

section
variable {K : Kt} {A : Around} {s : Shared} {α : AL} {σ : Sto} {env : Env} {ρ : Loc} {scope : Scope} {t : Nat} {x : Str}

theorem comp_clos {h : Heap} (c : CompOk env.scope.names scope t x) (E : EnvRel env ρ h α) : ∀ n, (n, NameKind.free) ∈ scope.names → (env.cells.lookup n).isSome := fun n hn => by
  obtain ⟨i, _, hi⟩ := idx_of_lookup (c.free hn)
  obtain ⟨a, ha, _⟩ := E.cv i n hi
  rw [ha]; rfl

theorem comp_env {h : Heap} {C : Addr} {m : Str → Option Value} (c : CompOk env.scope.names scope t x) (E : EnvRel env ρ h α) (hC : h.Ns C m) (hCa : C ∉ α.all) (hne : ∀ y a, env.cells.lookup y = some a → a ≠ C) :
    EnvRel (compEnvC scope (clOf env.cells scope.names []) C env) (capLoc (capOf env.scope.names (relab env.scope.names scope.names)) ρ) h α := by
  have hcl := comp_clos c E
  have hnm : (compEnvC scope (clOf env.cells scope.names []) C env).scope.names = relab env.scope.names scope.names := relabel_names E.ok.kind
  refine ⟨⟨?_, E.ok.glob, E.ok.bins, ?_, ?_⟩, hCa, ⟨m, hC, fun i y v e1 e2 => ?_⟩, fun y a ha => ?_, fun y z a h1 h2 => ?_, fun i y e1 => ?_, fun i v e => ?_⟩
  · exact c.kind
  · intro i y k hi
    rw [hnm] at hi
    show (compEnvC scope (clOf env.cells scope.names []) C env).scope.names.lookup y = some k
    rw [hnm]; exact lookup_of_uniq c.sc.uniq hi
  · intro i y k hi
    rw [hnm] at hi
    exact c.sc.nodbg i y k hi
  · rw [hnm] at e1
    exfalso
    simp only [capLoc, capOf, List.getElem?_map, e1] at e2
    simp at e2
  · have ha' := clOf_lookup hcl ha
    obtain ⟨h1, h2, h3⟩ := E.ca y a ha'
    exact ⟨h1, hne y a ha', h3⟩
  · exact E.cd y z a (clOf_lookup hcl h1) (clOf_lookup hcl h2)
  · rw [hnm] at e1
    obtain ⟨h1, h2⟩ := c.cell_ e1
    obtain ⟨j, hj, hj'⟩ := idx_of_lookup h2
    obtain ⟨a, ha, hv⟩ := E.cv j y hj'
    refine ⟨a, (clOf_free hcl h1).trans ha, fun v e2 => hv v ?_⟩
    simp only [capLoc, capOf, List.getElem?_map, e1] at e2
    simp [hj] at e2
    cases hq : ρ[j]? with
    | none => rw [hq] at e2; contradiction
    | some o => rw [hq] at e2; simp at e2; rw [e2]
  · rw [hnm]
    simp only [capLoc, capOf, List.getElem?_map] at e
    cases hq : (relab env.scope.names scope.names)[i]? with
    | none => rw [hq] at e; contradiction
    | some p =>
      obtain ⟨y, k⟩ := p
      rw [hq] at e
      by_cases hk : k = .cell
      · exact ⟨y, k, rfl, .inr hk⟩
      · simp [hk] at e

end
end Mine

namespace Mine
open PySem PyProof.Rows

/-- the frames that stand around -/
structure FrA (K : Kt) (A : Around) : Prop where
  ex : ∃ l, A.frames = some l ∧ l.map (·.frame) = K.hb.fr.map some ∧ ∀ e ∈ l, e.scope.kind ≠ .module

theorem frames_fun {h base : Heap} : ∀ {l : List Env} {fr : List Addr}, l.map (·.frame) = fr.map some → (∀ e ∈ l, e.scope.kind ≠ .module) → (∀ a ∈ fr, base.get? a = none ∧ ∃ o, h.get? a = some o ∧ isDct o) → h.FunFrames base l ∧ l.filterMap (·.frame) = fr
  | [], [], _, _, _ => ⟨trivial, rfl⟩
  | [], _ :: _, h, _, _ => by simp at h
  | _ :: _, [], h, _, _ => by simp at h
  | e :: l, a :: fr, h1, h2, h3 => by
    simp only [List.map_cons, List.cons.injEq] at h1
    obtain ⟨p, q⟩ := frames_fun h1.2 (fun e he => h2 e (List.mem_cons_of_mem _ he)) fun a ha => h3 a (List.mem_cons_of_mem _ ha)
    obtain ⟨b1, o, b2, es, n, b3⟩ := h3 a List.mem_cons_self
    exact ⟨⟨h2 e List.mem_cons_self, ⟨a, o, h1.1, b1, b2, fun vs z => by rw [b3] at z; cases z⟩, p⟩, by rw [List.filterMap_cons, h1.1, q]⟩

section
variable {K : Kt} {A : Around} {env : Env} {s : Shared} {h₀ : Heap} {σ : Sto} {α : AL}

theorem frameOf_any {e₀ : Env} {outer : List Env} {L : Addr} {base : Heap} {Q : Value → Shared → Prop} {E : Value → Shared → Prop} (hfr : A.frames = some (e₀ :: outer)) (hl : s.heap.FunFrames base (e₀ :: outer)) (hf0 : e₀.frame = some L) (hf : env.frame = some L)
    (h : ∀ h', Heap.SlotsOnly ((e₀ :: outer).filterMap (·.frame)) s.heap h' → Q (.ref L) { s with heap := h' }) : wpAny (model K.prog K.w) A (frameOf env) Q E s := by
  unfold PySem.frameOf
  refine wpAny_bind (wpAny_frameEnvs hfr ?_)
  have hdw : ((e₀ :: outer).dropWhile fun x => x.frame != env.frame) = e₀ :: outer := by simp [List.dropWhile, hf0, hf]
  rw [hdw]
  unfold frameObject
  refine wpAny_bind (wpAny_bind (wpAny_readyFrames_fun hl fun h₁ hs₁ => wpAny_pure ?_))
  rw [hf0]
  exact wpAny_pure (h h₁ hs₁)

/-- a new entry at the head of the traceback -/
theorem entry_exc {i : Nat} {a L : Addr} {oe : Obj} {vs : Array Value} {head : Value} {hadNext : Bool} {Q : Unit → Shared → Prop} {E : Value → Shared → Prop} (hA : FrA K A) (hN : EnvNew K.hb env) (hL : env.frame = some L) (r : R K.hb h₀ σ α) (u : Up K.hb.fr h₀ s.heap)
    (new : h₀.get? a = none) (he : s.heap.get? a = some oe) (hc : oe.cls = .ref i) (hd : oe.data = .fields vs) (hsz : 1 < vs.size)
    (hQ : ∀ h', Up K.hb.fr h₀ h' → ExcAt h₀ h' i a true → Q () { s with heap := h' }) :
    wpAny (model K.prog K.w) A (do let x ← frameOf env; let pl ← entryPlaceOf L hadNext; let b ← EntryCells.newEntry head x .none (rawInt L) .none pl; setField (.ref a) 1 b) Q E s := by
  obtain ⟨l, hl1, hl2, hl3⟩ := hA.ex
  have r' := r.up u
  obtain ⟨hl, hfm⟩ := frames_fun hl2 hl3 r'.frs
  obtain ⟨L', rest, hf, hfr⟩ := hN.f
  rw [hL] at hf; obtain rfl := Option.some.inj hf
  cases l with
  | nil => rw [hfr] at hl2; simp at hl2
  | cons e₀ outer =>
    have hf0 : e₀.frame = some L := by rw [hfr] at hl2; simp at hl2; exact hl2.1
    have haf : a ∉ K.hb.fr := fun q => by
      obtain ⟨_, o, e, es, n, d⟩ := r'.frs a q
      rw [he] at e; obtain rfl := Option.some.inj e
      rw [hd] at d; contradiction
    refine wpAny_bind (frameOf_any hl1 hl hf0 hL fun h₁ hs₁ => ?_)
    rw [hfm] at hs₁
    refine wpAny_bind (wpAny_entryPlaceOf fun pl hpl => ?_)
    unfold EntryCells.newEntry newFields
    refine wpAny_bind (wpAny_newObj_type ?_ (hpl.sizeOk5 _ _ _ _ _))
    have he₁ : h₁.get? a = some oe := (hs₁.2.1 a haf).trans he
    have he₂ := Heap.get?_push_of_some (h := h₁) { cls := .type "traceback", dict := none, data := .fields ([head, .ref L, .none, rawInt L, .none] ++ (if pl.isEmpty then List.replicate 6 Value.none else pl)).toArray } he₁
    refine wpAny_setField he₂ hd hsz (hQ _ ?_ ?_)
    · intro b o hb
      have hba : a ≠ b := fun q => by rw [← q, new] at hb; contradiction
      have keep : ∀ o', h₁.get? b = some o' → ((h₁.push { cls := .type "traceback", dict := none, data := .fields ([head, .ref L, .none, rawInt L, .none] ++ (if pl.isEmpty then List.replicate 6 Value.none else pl)).toArray }).update a (Obj.mapFields (·.setIfInBounds 1 (Value.ref h₁.objs.size)))).get? b = some o' := fun o' q => by
        rw [Heap.get?_update_other _ _ hba]; exact Heap.get?_push_of_some _ q
      rcases u b o hb with q | ⟨m, sl, q⟩
      · by_cases hm : b ∈ K.hb.fr
        · obtain ⟨sl, z⟩ := hs₁.2.2 b o q
          exact .inr ⟨hm, sl, keep _ z⟩
        · exact .inl (keep _ ((hs₁.2.1 b hm).trans q))
      · obtain ⟨sl', z⟩ := hs₁.2.2 b _ q
        exact .inr ⟨m, sl', keep _ z⟩
    · have hTe : h₁.objs.size ≠ a := Nat.ne_of_gt (Heap.lt_size he₁)
      have hd₃ := Obj.data_mapFields hd (·.setIfInBounds 1 (Value.ref h₁.objs.size))
      have he₃ := Heap.get?_update_self (Obj.mapFields (·.setIfInBounds 1 (Value.ref h₁.objs.size))) he₂ (Obj.isFreed_of_fields hd₃)
      have hT₃ := (Heap.get?_update_other (h₁.push { cls := .type "traceback", dict := none, data := .fields ([head, .ref L, .none, rawInt L, .none] ++ (if pl.isEmpty then List.replicate 6 Value.none else pl)).toArray })
        (Obj.mapFields (·.setIfInBounds 1 (Value.ref h₁.objs.size))) (Ne.symm hTe)).trans (Heap.get?_push_size h₁ rfl)
      refine ⟨new, _, _, .ref h₁.objs.size, he₃, (Obj.cls_mapFields _ _).trans hc, hd₃, by simp [hsz], .inr h₁.objs.size _ _ rfl ?_ hTe hT₃ rfl rfl ?_⟩
      · cases q : h₀.get? h₁.objs.size with
        | none => rfl
        | some o =>
          have : ∃ o', s.heap.get? h₁.objs.size = some o' := by
            rcases u _ _ q with q | ⟨_, _, q⟩
            · exact ⟨_, q⟩
            · exact ⟨_, q⟩
          obtain ⟨o', z⟩ := this
          obtain ⟨sl, z'⟩ := hs₁.2.2 _ _ z
          exact absurd (Heap.lt_size z') (Nat.lt_irrefl _)
      · simp

theorem note_exc {i : Nat} {a : Addr} {nt : Bool} {Q : Unit → Shared → Prop} {E : Value → Shared → Prop} (hA : FrA K A) (hN : EnvNew K.hb env) (r : R K.hb h₀ σ α) (u : Up K.hb.fr h₀ s.heap) (x : ExcAt h₀ s.heap i a nt)
    (hQ : ∀ h', Up K.hb.fr h₀ h' → ExcAt h₀ h' i a true → Q () { s with heap := h' }) : wpAny (model K.prog K.w) A (noteFrame (.ref a) env) Q E s := by
  obtain ⟨new, oe, vs, xv, he, hc, hd, h1, ht⟩ := x
  obtain ⟨L, rest, hf, hfr⟩ := id hN.f
  have hsz := (Array.getElem?_eq_some_iff.mp h1).1
  unfold noteFrame
  simp only [hf]
  refine wpAny_bind (wpAny_field he hd h1 ?_)
  rcases ht with ⟨_, rfl⟩ | ⟨T, oT, ts, rfl, hT0, hTa, hT, hTc, hTd, hT3⟩
  · rw [if_neg (by decide)]
    exact entry_exc hA hN hf r u new he hc hd hsz hQ
  · rw [if_pos (show (Value.ref T != Value.none) = true from by simp)]
    refine wpAny_bind (wpAny_field hT hTd (x := ts[3]) (by simp [hT3]) ?_)
    by_cases hq : (ts[3] == rawInt L) = true
    · rw [if_pos hq]
      exact wpAny_pure (hQ _ u ⟨new, oe, vs, _, he, hc, hd, h1, .inr T oT ts rfl hT0 hTa hT hTc hTd hT3⟩)
    · rw [if_neg hq]
      refine wpAny_bind (wpAny_setField hT hTd hT3 ?_)
      have other : ∀ b, b ≠ T → (s.heap.update T (Obj.mapFields (·.setIfInBounds 3 Value.none))).get? b = s.heap.get? b := fun b hb => Heap.get?_update_other _ _ (Ne.symm hb)
      refine entry_exc (s := { s with heap := s.heap.update T (Obj.mapFields (·.setIfInBounds 3 Value.none)) }) hA hN hf r (fun b o hb => ?_) new ((other a (Ne.symm hTa)).trans he) hc hd hsz hQ
      have hbT : b ≠ T := fun q => by rw [q, hT0] at hb; contradiction
      show (s.heap.update T _).get? b = _ ∨ _
      rcases u b o hb with q | ⟨m, sl, q⟩
      · exact .inl ((other b hbT).trans q)
      · exact .inr ⟨m, sl, (other b hbT).trans q⟩

theorem flight_exc {i : Nat} {a : Addr} {f : Option Addr} {Q : Unit → Shared → Prop} {E : Value → Shared → Prop} (r : R K.hb h₀ σ α) (u : Up K.hb.fr h₀ s.heap) (x : ExcAt h₀ s.heap i a true)
    (hQ : ∀ h', Up K.hb.fr h₀ h' → ExcAt h₀ h' i a true → Q () { s with heap := h' }) : wpAny (model K.prog K.w) A (setFlight (.ref a) f) Q E s := by
  obtain ⟨new, oe, vs, xv, he, hc, hd, h1, ht⟩ := x
  rcases ht with ⟨z, _⟩ | ⟨T, oT, ts, rfl, hT0, hTa, hT, hTc, hTd, hT3⟩
  · contradiction
  unfold setFlight
  refine wpAny_bind (wpAny_field he hd h1 ?_)
  rw [if_pos (show (Value.ref T != Value.none) = true from by simp)]
  have other : ∀ (g : Obj → Obj) b, b ≠ T → (s.heap.update T g).get? b = s.heap.get? b := fun g b hb => Heap.get?_update_other _ _ (Ne.symm hb)
  refine wpAny_setField hT hTd hT3 (hQ _ (fun b o hb => ?_) ⟨new, oe, vs, _, (other _ a (Ne.symm hTa)).trans he, hc, hd, h1, .inr T _ _ rfl hT0 hTa (Heap.get?_update_self _ hT (Obj.isFreed_of_fields (Obj.data_mapFields hTd _))) ((Obj.cls_mapFields _ _).trans hTc) (Obj.data_mapFields hTd _) (by simpa using hT3)⟩)
  have hbT : b ≠ T := fun q => by rw [q, hT0] at hb; contradiction
  rcases u b o hb with q | ⟨m, sl, q⟩
  · exact .inl ((other _ b hbT).trans q)
  · exact .inr ⟨m, sl, (other _ b hbT).trans q⟩

theorem head_exc {i : Nat} {a : Addr} {Q : Value → Shared → Prop} {E : Value → Shared → Prop} (x : ExcAt h₀ s.heap i a true) (hQ : ∀ v, (v == Value.none) = false → Q v s) : wpAny (model K.prog K.w) A (field (.ref a) 1) Q E s := by
  obtain ⟨new, oe, vs, xv, he, hc, hd, h1, ht⟩ := x
  rcases ht with ⟨z, _⟩ | ⟨T, oT, ts, rfl, hT0, hTa, hT, hTc, hTd, hT3⟩
  · contradiction
  exact wpAny_field he hd h1 (hQ _ (by simp))
theorem leave_exc {i : Nat} {a : Addr} {nt : Bool} {Q : Unit → Shared → Prop} {E : Value → Shared → Prop} (hA : FrA K A) (hN : EnvNew K.hb env) (r : R K.hb h₀ σ α) (u : Up K.hb.fr h₀ s.heap) (x : ExcAt h₀ s.heap i a nt)
    (hQ : ∀ h', Up K.hb.fr h₀ h' → ExcAt h₀ h' i a true → Q () { s with heap := h' }) : wpAny (model K.prog K.w) A (leaving env (.ref a)) Q E s := by
  unfold leaving
  refine wpAny_bind (note_exc hA hN r u x fun h' u' x' => ?_)
  exact flight_exc (s := { s with heap := h' }) r u' x' fun h'' u'' x'' => hQ h'' u'' x''
theorem pass_exc {β : Type} {what : String} {i : Nat} {a : Addr} {Q : β → Shared → Prop} {E : Value → Shared → Prop} (r : R K.hb h₀ σ α) (u : Up K.hb.fr h₀ s.heap) (x : ExcAt h₀ s.heap i a true)
    (hQ : ∀ h', Up K.hb.fr h₀ h' → ExcAt h₀ h' i a true → E (.ref a) { s with heap := h' }) : wpAny (model K.prog K.w) A (PySem.passOn what (.ref a) env : Sem β) Q E s := by
  unfold PySem.passOn
  refine wpAny_bind (head_exc x fun v hv => ?_)
  rw [hv]
  exact wpAny_bind (flight_exc r u x fun h' u' x' => wpAny_throw (hQ h' u' x'))
end
end Mine

namespace Mine
open PySem PyProof.Rows

noncomputable def compF (tC : PV → Sto → Out Bool) (eC : PV → Sto → Out PV) (x : PV) (σ : Sto) : Out (Option PV) :=
  (tC x σ).bind fun b σ => if b then (eC x σ).bind fun v σ => .ok (some v) σ else .ok none σ

theorem VRs.snoc {h : Heap} {α : AL} {xs : List PV} {vs : List Value} {p : PV} {v : Value} (a : VRs h α xs vs) (b : VR h α p v) : VRs h α (xs ++ [p]) (vs ++ [v]) :=
  a.append (.cons b .nil)

section
variable {K : Kt} {A : Around} {s : Shared} {α : AL} {env : Env} {ρ : Loc} {scope : Scope} {t : Nat} {x : Str}

/-- an exception leaves a comprehension's loop -/
inductive FXC (K : Kt) (s : Shared) (α : AL) (i : Nat) (σ : Sto) (C : Addr) (e : Value) (s' : Shared) : Prop where
  | mk (a : Addr) (h₀ : Heap) (α' : AL) (m : Str → Option Value) (he : e = .ref a) (x : Ext [] α s.heap α' h₀) (r : R K.hb h₀ σ α') (u : Up K.hb.fr h₀ s'.heap) (ea : ExcAt h₀ s'.heap i a true) (sm : Sm s s') (ns : s'.heap.Ns C m) (h1 : C ∉ α'.all) (h2 : s.heap.get? C = none) (h3 : K.hb.get? C = none) (h4 : C ∉ K.hb.fr) : FXC K s α i σ C e s'
/-- a comprehension's loop is over -/
inductive CompDone (K : Kt) (s : Shared) (α : AL) (c : Out PV) (acc : Value) (C : Addr) (r : Result) (s' : Shared) : Prop
  | inl (e : r = .ok .next) (v : PV) (σ' : Sto) (α' : AL) (m : Str → Option Value) (hc : c = .ok v σ') (x : Ext [] α s.heap α' s'.heap) (rr : R K.hb s'.heap σ' α') (vr : VR s'.heap α' v acc) (sm : Sm s s') (ns : s'.heap.Ns C m) (h1 : C ∉ α'.all) (h2 : s.heap.get? C = none) (h3 : K.hb.get? C = none) (h4 : C ∉ K.hb.fr) : CompDone K s α c acc C r s'
  | inr (e : Value) (i : Nat) (σ' : Sto) (he : r = .error e) (hc : c = .exc i σ') (fx : FXC K s α i σ' C e s') : CompDone K s α c acc C r s'
/-- where a comprehension's loop stands -/
inductive LoopInv (K : Kt) (s : Shared) (α : AL) (xs : List PV) (St : Nat → Heap → AL → Prop) (D : Addr) (cenv : Env) (t : Nat) (ρc : Loc) (go : List PV → List PV → Sto → Out PV) (c : Out PV) (n : Nat) (s₁ : Shared) : Prop
  | mk (i : Nat) (σ₁ : Sto) (α₁ : AL) (ys : List PV) (us : List Value) (ρ₁ : Loc) (nn : Nat) (hn : n = xs.length - i) (hi : i ≤ xs.length) (hid : α₁.hid = D :: α.hid) (x : Ext [] α s.heap ⟨α₁.ix, α.hid, α₁.fr⟩ s₁.heap) (r : R K.hb s₁.heap σ₁ α₁) (st : St i s₁.heap α₁) (E : EnvRel cenv ρ₁ s₁.heap α₁)
      (hρ : ∀ v, ρ₁.set t (some v) = ρc.set t (some v)) (hl : s₁.heap.get? D = some { cls := .type "list", data := .seq (List.toArray us) nn }) (vs : VRs s₁.heap α₁ ys us) (m : Sm s s₁) (hgo : go ys (xs.drop i) σ₁ = c) (hyl : ys.length ≤ i) (tk : K.Tk s₁) : LoopInv K s α xs St D cenv t ρc go c n s₁

theorem hide_ne {h : Heap} {C b : Addr} (hb : b ≠ C) : (PySem.W.hideAll h [C]).get? b = h.get? b := by
  cases e : h.get? b with
  | some o => exact PySem.W.hideAll_get _ e (by simpa using hb)
  | none =>
    cases e' : (PySem.W.hideAll h [C]).get? b with
    | none => rfl
    | some o => rw [PySem.W.of_hideAll _ e'] at e; contradiction
theorem Up.ns {fr : List Addr} {h h' : Heap} {C : Addr} {m : Str → Option Value} (u : Up fr h h') (n : h.Ns C m) : h'.Ns C m := by
  obtain ⟨o, es, ep, e, d, k⟩ := n
  rcases u C o e with q | ⟨_, sl, q⟩
  · exact ⟨o, es, ep, q, d, k⟩
  · exact ⟨_, es, ep, q, d, k⟩
theorem R.unhide {hb h σ α} {hid : List Addr} (r : R hb h σ α) (hs : ∀ a ∈ hid, a ∈ α.hid) : R hb h σ ⟨α.ix, hid, α.fr⟩ :=
  ⟨r.base, r.fresh, r.nodup, r.len, fun a ha => r.hidden a (hs a ha), fun j m a e1 e2 => (r.obj j m a e1 e2).re (α := α) (α' := ⟨α.ix, hid, α.fr⟩) (fun _ _ e => e) (fun a ha => by
    rcases List.mem_append.mp ha with q | q
    · exact List.mem_append_left _ q
    · exact List.mem_append_right _ (hs a q)), fun a ha => r.hfr a (hs a ha), r.fe, r.frs, r.frNot⟩

theorem FXC.letGo {i : Nat} {σ : Sto} {C : Addr} {e : Value} {s' : Shared} {h' : Heap} {β : Type} {what : String} {cenv : Env} {Q : β → Shared → Prop} {E : Value → Shared → Prop} (f : FXC K s α i σ C e s') (hs : Heap.SameBut C s'.heap h')
    (hE : ∀ s'', FX K s α i σ true e s'' → E e s'') : wpAny (model K.prog K.w) A (PySem.passOn what e cenv : Sem β) Q E { s' with heap := h' } := by
  obtain ⟨a, h₀, α', m, rfl, x, r, u, ea, sm, ns, hC, hC0, hCb, hCf⟩ := f
  have keep : ∀ b, b ≠ C → (PySem.W.hideAll h₀ [C]).get? b = h₀.get? b := fun b hb => hide_ne hb
  obtain ⟨oC, es, ep, eC, dC, _⟩ := id ns
  obtain ⟨r', _⟩ := r.but (h' := PySem.W.hideAll h₀ [C]) hC hCb (fun b o hb e => (keep b hb).trans e) (fun o e => by
    rcases u C o e with q | ⟨_, sl, q⟩
    · rw [q] at eC; cases eC; exact isDct.notSolid ⟨_, _, dC⟩
    · rw [q] at eC; cases eC; exact isDct.notSolid (o := o) ⟨_, _, dC⟩) fun q => absurd q hCf
  have x' : Ext [] α s.heap α' (PySem.W.hideAll h₀ [C]) := x.sameBut hC0 keep
  have none0 : ∀ b, h₀.get? b = none → (PySem.W.hideAll h₀ [C]).get? b = none := fun b hb => by
    cases q : (PySem.W.hideAll h₀ [C]).get? b with
    | none => rfl
    | some o => rw [PySem.W.of_hideAll _ q] at hb; cases hb
  have notC : ∀ {b : Addr} {o : Obj} {vs : Array Value}, s'.heap.get? b = some o → o.data = .fields vs → b ≠ C := fun {b o vs} e d q => by
    subst q; rw [eC] at e; cases e; rw [dC] at d; cases d
  have u' : Up K.hb.fr (PySem.W.hideAll h₀ [C]) h' := fun b o hb => by
    have hbC : b ≠ C := fun q => by rw [q, PySem.W.hideAll_none _ (by simp)] at hb; cases hb
    rcases u b o (PySem.W.of_hideAll _ hb) with q | ⟨m, sl, q⟩
    · exact .inl ((hs.2 b hbC).trans q)
    · exact .inr ⟨m, sl, (hs.2 b hbC).trans q⟩
  have ea' : ExcAt (PySem.W.hideAll h₀ [C]) h' i a true := by
    obtain ⟨new, oe, vs, xv, he, hc, hd, h1, ht⟩ := ea
    refine ⟨none0 a new, oe, vs, xv, (hs.2 a (notC he hd)).trans he, hc, hd, h1, ?_⟩
    rcases ht with ⟨q, q'⟩ | ⟨T, oT, ts, q, hT0, hTa, hT, hTc, hTd, hT3⟩
    · exact .inl q q'
    · exact .inr T oT ts q (none0 T hT0) hTa ((hs.2 T (notC hT hTd)).trans hT) hTc hTd hT3
  exact pass_exc (s := { s' with heap := h' }) r' u' ea' fun h'' u'' x'' => hE _ ⟨a, _, α', rfl, x', r', u'', x'', ⟨sm.gens, sm.os⟩⟩

noncomputable def goOn (n : Nat) (fz : Bool) (w : Option (Nat × List PV)) (tC : PV → Sto → Out Bool) (eC : PV → Sto → Out PV) (ys xs : List PV) (σ : Sto) : Out PV :=
  compFin n (compGo w (compF tC eC) xs σ) fun zs σ => mkLst fz (ys ++ zs) σ

theorem goOn_w {n fz w tC eC ys xs σ} (h : goOn n fz w tC eC ys xs σ ≠ .stuck) : watchOk w σ := by
  by_cases hw : watchOk w σ
  · exact hw
  · refine absurd ?_ h
    unfold goOn
    cases xs with
    | nil => rw [show compGo w (compF tC eC) [] σ = .stuck from if_neg hw]; rfl
    | cons x xs => rw [show compGo w (compF tC eC) (x :: xs) σ = .stuck from if_neg hw]; rfl
theorem goOn_eq {n fz w tC eC ys p xs σ} (hw : watchOk w σ) : goOn n fz w tC eC ys (p :: xs) σ = compFin n ((compF tC eC p σ).bind fun y σ => (compGo w (compF tC eC) xs σ).bind fun zs σ => .ok (consO y zs) σ) fun zs σ => mkLst fz (ys ++ zs) σ := by
  unfold goOn
  rw [show compGo w (compF tC eC) (p :: xs) σ = _ from if_pos hw]
theorem goOn_exc {n : Nat} {i : Nat} {σ : Sto} {f : List PV → Sto → Out PV} (h : compFin n (.exc i σ) f ≠ .stuck) : compFin n (.exc i σ) f = .exc i σ := by
  by_cases hn : n ≤ lim
  · exact if_pos hn
  · exact absurd (if_neg hn) h
theorem goOn_cons {n fz w tC eC ys p xs σ} (h : goOn n fz w tC eC ys (p :: xs) σ ≠ .stuck) : watchOk w σ ∧ tC p σ ≠ .stuck ∧ (∀ i σ', tC p σ = .exc i σ' → goOn n fz w tC eC ys (p :: xs) σ = .exc i σ') ∧
    (∀ σ', tC p σ = .ok false σ' → goOn n fz w tC eC ys (p :: xs) σ = goOn n fz w tC eC ys xs σ') ∧
    (∀ σ', tC p σ = .ok true σ' → eC p σ' ≠ .stuck ∧ (∀ i σ'', eC p σ' = .exc i σ'' → goOn n fz w tC eC ys (p :: xs) σ = .exc i σ'') ∧ ∀ v σ'', eC p σ' = .ok v σ'' → goOn n fz w tC eC ys (p :: xs) σ = goOn n fz w tC eC (ys ++ [v]) xs σ'') := by
  have hw := goOn_w h
  rw [goOn_eq hw] at h ⊢
  have cf : ∀ {c}, (tC p σ).bind (fun b σ => if b then (eC p σ).bind fun v σ => .ok (some v) σ else .ok none σ) = c → compF tC eC p σ = c := fun q => q
  have ct : ∀ {σ'}, tC p σ = .ok true σ' → compF tC eC p σ = (eC p σ').bind fun v σ => .ok (some v) σ := fun q => cf (by rw [q]; rfl)
  refine ⟨hw, fun e => ?_, fun i σ' e => ?_, fun σ' e => ?_, fun σ' e => ⟨fun e' => ?_, fun i σ'' e' => ?_, fun v σ'' e' => ?_⟩⟩
  · rw [cf (c := .stuck) (by rw [e]; rfl)] at h; exact h rfl
  · rw [cf (c := .exc i σ') (by rw [e]; rfl)] at h ⊢; exact goOn_exc h
  · rw [cf (c := .ok none σ') (by rw [e]; rfl)]
    unfold goOn
    show compFin n ((compGo w (compF tC eC) xs σ').bind fun zs σ => .ok zs σ) _ = _
    cases compGo w (compF tC eC) xs σ' <;> rfl
  · rw [ct e, e'] at h; exact h rfl
  · rw [ct e, e'] at h ⊢; exact goOn_exc h
  · rw [ct e, e']
    unfold goOn
    show compFin n ((compGo w (compF tC eC) xs σ'').bind fun zs σ => .ok (v :: zs) σ) _ = _
    cases compGo w (compF tC eC) xs σ'' with
    | ok zs σ => show mkLst _ _ _ = mkLst _ _ _; rw [List.append_assoc]; rfl
    | exc i σ => rfl
    | stuck => rfl
theorem goOn_len {n fz w tC eC ys xs σ} (hn : ys.length ≤ n) (h : goOn n fz w tC eC ys xs σ ≠ .stuck) : ys.length ≤ lim := by
  unfold goOn at h
  cases hq : compGo w (compF tC eC) xs σ with
  | ok zs σ' =>
    rw [hq] at h
    simp only [compFin, mkLst] at h
    split at h
    · rename_i hl; simp at hl; omega
    · exact absurd rfl h
  | exc i σ' =>
    rw [hq] at h
    simp only [compFin] at h
    split at h
    · (exact Nat.le_trans (by assumption) (by assumption))
    · exact absurd rfl h
  | stuck => rw [hq] at h; exact absurd rfl h

theorem comp_loop {elt iter : Expr} {px : Pos} {ifs : List Expr} {pos : Pos} {it : Value} {own : List Addr} {xs : List PV} {w : Option (Nat × List PV)} {St : Nat → Heap → AL → Prop} {D C : Addr}
    {tC : PV → Sto → Out Bool} {eC : PV → Sto → Out PV} {fz : Bool} {c : Out PV} {cenv : Env} {ρc : Loc}
    (I : Iter K A own it xs w St) (hx : cenv.scope.names[t]? = some (x, .local)) (hU : Uniq cenv.scope.names) (hCl : cenv.locals = C)
    (hown : ∀ b ∈ own, s.heap.get? b = none) (hD : s.heap.get? D = none) (hC : s.heap.get? C = none) (hbD : K.hb.get? D = none) (hbC : K.hb.get? C = none)
    (hDx : D ∉ α.hid) (apart : Apart cenv own) (hc : c ≠ .stuck) (hF : FrA K A) (hNc : EnvNew K.hb cenv) (hCf : C ∉ K.hb.fr)
    (htest : ∀ v s σ α, EnvRel cenv (ρc.set t (some v)) s.heap α → R K.hb s.heap σ α →
      Runs K RelEq A (forIn ifs true fun c r => if r = true then do let ok ← isTrue c cenv (eval c cenv); pure (ForInStep.yield ok) else pure (ForInStep.yield r)) (tC v σ) s α)
    (helt : ∀ v s σ α, EnvRel cenv (ρc.set t (some v)) s.heap α → R K.hb s.heap σ α → Runs K VR A (eval elt cenv) (eC v σ) s α)
    {i : Nat} {σ₁ : Sto} {α₁ : AL} {s₁ : Shared} {ys : List PV} {us : List Value} {ρ₁ : Loc} {n : Nat}
    (hi : i ≤ xs.length) (hid : α₁.hid = D :: α.hid) (x₁ : Ext [] α s.heap ⟨α₁.ix, α.hid, α₁.fr⟩ s₁.heap) (r₁ : R K.hb s₁.heap σ₁ α₁) (st : St i s₁.heap α₁) (E₁ : EnvRel cenv ρ₁ s₁.heap α₁)
    (hρ : ∀ v, ρ₁.set t (some v) = ρc.set t (some v)) (hl : s₁.heap.get? D = some { cls := .type "list", data := .seq us.toArray n }) (vs : VRs s₁.heap α₁ ys us) (m₁ : Sm s s₁)
    (hgo : goOn xs.length fz w tC eC ys (xs.drop i) σ₁ = c) (hyl : ys.length ≤ i) (tk₁ : K.Tk s₁) :
    codeAny (model K.prog K.w) A (.compLoop (.ListComp elt [⟨.Name x px, iter, ifs, 0⟩] scope pos) 0 it (.ref D) cenv) (CompDone K s α c (.ref D) C) s₁ := by
  refine codeAny_compLoop_tests (LoopInv K s α xs St D cenv t ρc (goOn xs.length fz w tC eC) c)
    (fun n s₁ inv => ?_) _ ⟨i, σ₁, α₁, ys, us, ρ₁, n, rfl, hi, hid, x₁, r₁, st, E₁, hρ, hl, vs, m₁, hgo, hyl, tk₁⟩
  clear tk₁ hyl hgo m₁ vs hl hρ E₁ st r₁ x₁ hid hi
  obtain ⟨i, σ₁, α₁, ys, us, ρ₁, nn, rfl, hi, hid, x₁, r₁, st, E₁, hρ, hl, vs, m₁, hgo, hyl, tk₁⟩ := inv
  have hDh : D ∈ α₁.hid := by rw [hid]; exact List.mem_cons_self
  have hDa : D ∈ α₁.all := List.mem_append_right _ hDh
  have boom : ∀ {s₂ s₃ : Shared} {α₂ : AL} {ρ₂ : Loc} {e : Value} {j : Nat} {σ₃ : Sto} {nt : Bool}, α₂.hid = D :: α.hid → Ext [] α s.heap ⟨α₂.ix, α.hid, α₂.fr⟩ s₂.heap → EnvRel cenv ρ₂ s₂.heap α₂ → Sm s s₂ → FX K s₂ α₂ j σ₃ nt e s₃ → c = .exc j σ₃ →
      notedBy (model K.prog K.w) A cenv (fun e s' => CompDone K s α c (.ref D) C (.error e) s') e s₃ := fun {s₂ s₃ α₂ ρ₂ e j σ₃ nt} h1 h2 E h3 fx h5 => by
    obtain ⟨a, h₀, α', rfl, x', r', u', ea, m'⟩ := fx
    unfold notedBy
    have E' := E.ext x' .nil
    obtain ⟨mC, nC, _⟩ := E'.ns
    rw [hCl] at nC
    have hla : C ∉ α'.all := by rw [← hCl]; exact E'.la
    refine note_exc hF hNc r' u' ea fun h'' u'' ea'' => .inr _ j σ₃ rfl h5 ⟨a, h₀, ⟨α'.ix, α.hid, α'.fr⟩, mC, rfl, h2.trans (x'.rehid α.hid), r'.unhide (fun a ha => by rw [x'.hid, h1]; exact List.mem_cons_of_mem _ ha), u'', ea'', h3.trans ⟨m'.gens, m'.os⟩, u''.ns nC, fun q => hla ?_, hC, hbC, hCf⟩
    rcases List.mem_append.mp q with q | q
    · exact List.mem_append_left _ q
    · exact List.mem_append_right _ (by rw [x'.hid, h1]; exact List.mem_cons_of_mem _ q)
  by_cases hlt : i < xs.length
  · -- one more item
    have hdrop : xs.drop i = xs[i] :: xs.drop (i + 1) := List.drop_eq_getElem_cons hlt
    rw [hdrop] at hgo
    obtain ⟨hw, ht1, ht2, ht3, ht4⟩ := goOn_cons (by rw [hgo]; exact hc)
    refine wpAny_pos tk₁ (I.item i s₁ σ₁ α₁ xs[i] (by simp [hlt]) st r₁ hw _ _ fun v s₂ vr st₂ xo r₂ m₂ tk₂ => ?_)
    have x₂ : Ext [] α s.heap ⟨α₁.ix, α.hid, α₁.fr⟩ s₂.heap := Ext.drop x₁ hown (by simp) (by simpa using xo.rehid α.hid)
    have E₂ := E₁.ext xo apart
    have hl₂ := xo.seqs D _ (r₁.hidden D hDh).1 hl .seq
    have vs₂ := vs.ext xo
    refine wpAny_pos tk₂ (wpAny_assign_Name (store_local hU r₂ E₂ (by rw [hCl]; exact hbC) hx vr fun s₃ r₃ E₃ xc sb m₃ tk₃ => ?_))
    rw [hρ] at E₃
    rw [hCl] at xc sb
    have hCD : D ≠ C := by rintro rfl; exact E₁.la (by rw [hCl]; exact hDa)
    have x₃ : Ext [] α s.heap ⟨α₁.ix, α.hid, α₁.fr⟩ s₃.heap := x₂.sameBut hC sb
    have hl₃ : s₃.heap.get? D = _ := (sb D hCD).trans hl₂
    have vs₃ := vs₂.ext xc
    have st₃ := I.frame _ _ _ _ _ _ st₂ xc (fun b hb q => by simp at q; subst q; exact apart.1 (hCl ▸ hb))
    refine wpAny_mono (toks_up (htest xs[i] s₃ σ₁ α₁ E₃ r₃ ht1 tk₃)) (fun ok s₄ hp => ?_) fun e s₄ hx => ?_
    · obtain ⟨⟨b, σ₄, α₄, hb, x4, r₄, e4, m₄⟩, tl₄⟩ := hp
      have tk₄ := Kt.Tk.up tk₃ tl₄
      have e4' : ok = b := e4
      subst e4'
      have hid₄ : α₄.hid = D :: α.hid := x4.hid.trans hid
      have x₄ : Ext [] α s.heap ⟨α₄.ix, α.hid, α₄.fr⟩ s₄.heap := x₃.trans (x4.rehid α.hid)
      have E₄ := E₃.ext x4 .nil
      have hl₄ := x4.seqs D _ (r₃.hidden D hDh).1 hl₃ .seq
      have vs₄ := vs₃.ext x4
      have st₄ := I.frame _ _ _ _ _ _ st₃ x4 (by simp)
      cases ok with
      | false =>
        rw [if_neg (by simp)]
        refine ⟨xs.length - (i + 1), by omega, i + 1, σ₄, α₄, ys, us, _, nn, rfl, hlt, hid₄, x₄, r₄, st₄, E₄, fun v => by rw [List.set_set], hl₄, vs₄, ((m₁.trans m₂).trans m₃).trans m₄, ?_, by omega, tk₄⟩
        rw [← ht3 _ hb]; exact hgo
      | true =>
        rw [if_pos rfl]
        obtain ⟨he1, he2, he3⟩ := ht4 _ hb
        refine wpAny_mono (toks_up (helt xs[i] s₄ σ₄ α₄ E₄ r₄ he1 tk₄)) (fun u s₅ hp => ?_) fun e s₅ hx => ?_
        · obtain ⟨⟨v5, σ₅, α₅, hv5, x5, r₅, vr5, m₅⟩, tl₅⟩ := hp
          have tk₅ := Kt.Tk.up tk₄ tl₅
          have hid₅ : α₅.hid = D :: α.hid := x5.hid.trans hid₄
          have hDh₅ : D ∈ α₅.hid := by rw [hid₅]; exact List.mem_cons_self
          have hDa₅ : D ∈ α₅.all := List.mem_append_right _ hDh₅
          have x₅ : Ext [] α s.heap ⟨α₅.ix, α.hid, α₅.fr⟩ s₅.heap := x₄.trans (x5.rehid α.hid)
          have E₅ := E₄.ext x5 .nil
          have hl₅ := x5.seqs D _ (r₄.hidden D (by rw [hid₄]; exact List.mem_cons_self)).1 hl₄ .seq
          have vs₅ := vs₄.ext x5
          have st₅ := I.frame _ _ _ _ _ _ st₄ x5 (by simp)
          refine wpAny_list_append_plain ⟨_, hl₅⟩ (fun h₆ hl₆ sb₆ => ?_) ?_
          · obtain ⟨n6, hl₆⟩ := hl₆
            have kb : ∀ b, b ≠ D → h₆.get? b = s₅.heap.get? b := fun b hb => sb₆.2 b hb
            refine ⟨xs.length - (i + 1), by omega, i + 1, σ₅, α₅, ys ++ [v5], us ++ [u], _, n6, rfl, hlt, hid₅, x₅.sameBut hD kb, r₅.sameHid hDh₅ hbD kb ⟨_, hl₆⟩ (fun o e => by rw [hl₅] at e; obtain rfl := Option.some.inj e; rintro ⟨_, _, q⟩; contradiction), I.but _ _ _ _ _ st₅ hDa₅ kb, E₅.sameBut hDa₅ kb, fun v => by rw [List.set_set], ?_, (vs₅.snoc vr5).sameBut hDa₅ kb, (((m₁.trans m₂).trans m₃).trans m₄).trans (m₅.trans ⟨rfl, rfl⟩), ?_, by simp; (assumption), tk₅⟩
            · rw [hl₆]; simp
            · rw [← he3 _ _ hv5]; exact hgo
          · have := goOn_len (n := xs.length) (ys := ys) (by (exact Nat.le_trans (by assumption) (by assumption))) (by rw [hgo]; exact hc)
            have h2 := vs.1
            simp
            rw [← h2]
            exact lim_line this
        · obtain ⟨⟨j, σ₅, e5, nt, fx⟩, _⟩ := hx
          exact boom hid₄ x₄ E₄ (((m₁.trans m₂).trans m₃).trans m₄) fx (hgo.symm.trans (he2 _ _ e5))
    · obtain ⟨⟨j, σ₅, e5, nt, fx⟩, _⟩ := hx
      exact boom hid x₃ E₃ ((m₁.trans m₂).trans m₃) fx (hgo.symm.trans (ht2 _ _ e5))
  · -- the end
    have hie : i = xs.length := by omega
    subst hie
    rw [List.drop_length] at hgo
    have hw := goOn_w (by rw [hgo]; exact hc)
    have hlim := goOn_len (n := xs.length) (ys := ys) (by (assumption)) (by rw [hgo]; exact hc)
    have hgo' : mkLst fz ys σ₁ = c := by
      rw [← hgo]
      unfold goOn
      rw [show compGo w (compF tC eC) [] σ₁ = .ok [] σ₁ from if_pos hw]
      show _ = mkLst fz (ys ++ []) σ₁
      rw [List.append_nil]
    refine I.done s₁ σ₁ α₁ st r₁ hw _ _ fun s₂ xo r₂ m₂ => ?_
    have x₂ : Ext [] α s.heap ⟨α₁.ix, α.hid, α₁.fr⟩ s₂.heap := Ext.drop x₁ hown (by simp) (by simpa using xo.rehid α.hid)
    have E₂ := E₁.ext xo apart
    have hDi := (r₂.hidden D hDh).1
    have hl₂ := xo.seqs D _ (r₁.hidden D hDh).1 hl .seq
    have vs₂ := vs.ext xo
    obtain ⟨mC, nC, _⟩ := E₂.ns
    rw [hCl] at nC
    have hCa : C ∉ α₁.all := by rw [← hCl]; exact E₁.la
    have sub1 : ∀ a, a ∈ (⟨α₁.ix, α.hid, α₁.fr⟩ : AL).all → a ∈ α₁.all := fun a ha => by
      rcases List.mem_append.mp ha with q | q
      · exact List.mem_append_left _ q
      · exact List.mem_append_right _ (by rw [hid]; exact List.mem_cons_of_mem _ q)
    unfold mkLst at hgo'
    rw [if_pos hlim] at hgo'
    cases fz with
    | true =>
      refine .inl rfl _ _ ⟨α₁.ix, α.hid, α₁.fr⟩ mC hgo'.symm x₂ (r₂.unhide fun a ha => by rw [hid]; exact List.mem_cons_of_mem _ ha) ?_ (m₁.trans m₂) nC (fun q => hCa (sub1 _ q)) hC hbC hCf
      refine VR.flI hl₂ (fun q => ?_) (vs₂.re (α := α₁) (α' := ⟨α₁.ix, α.hid, α₁.fr⟩) (fun _ _ e => e) sub1)
      rcases List.mem_append.mp q with q | q
      · exact hDi q
      · exact hDx q
    | false =>
      have get1 : ∀ (j : Nat) (a : Addr), α₁.ix[j]? = some a → (α₁.ix ++ [D])[j]? = some a := fun j a e => by
        rw [List.getElem?_append_left (List.getElem?_eq_some_iff.mp e).1]; exact e
      have sub2 : ∀ a, a ∈ (⟨α₁.ix ++ [D], α.hid, α₁.fr⟩ : AL).all → a ∈ α₁.all := fun a ha => by
        rcases List.mem_append.mp ha with q | q
        · rcases List.mem_append.mp q with q | q
          · exact List.mem_append_left _ q
          · simp at q; subst q; exact hDa
        · exact List.mem_append_right _ (by rw [hid]; exact List.mem_cons_of_mem _ q)
      refine .inl rfl _ _ ⟨α₁.ix ++ [D], α.hid, α₁.fr⟩ mC hgo'.symm ?_ ⟨r₂.base, ?_, ?_, ?_, fun a ha => ⟨?_, (r₂.hidden a (by rw [hid]; exact List.mem_cons_of_mem _ ha)).2⟩, fun j m a e1 e2 => ?_, fun a ha => r₂.hfr a (by rw [hid]; exact List.mem_cons_of_mem _ ha), r₂.fe, r₂.frs, fun a ha q => ?_⟩ (.ref ?_) (m₁.trans m₂) nC (fun q => hCa (sub2 _ q)) hC hbC hCf
      · obtain ⟨β, q1, q2⟩ := x₂.pre
        refine ⟨rfl, ⟨β ++ [D], by show α₁.ix ++ [D] = _; rw [show α₁.ix = α.ix ++ β from q1, List.append_assoc], fun a ha => ?_⟩, x₂.seqs, x₂.rest, x₂.alive, x₂.fre⟩
        rcases List.mem_append.mp ha with q | q
        · exact q2 a q
        · simp at q; subst q; exact ⟨hD, by simp⟩
      · intro a ha
        rcases List.mem_append.mp ha with q | q
        · exact r₂.fresh a q
        · simp at q; subst q; exact hbD
      · show (α₁.ix ++ [D]).Nodup
        rw [List.nodup_append]
        exact ⟨r₂.nodup, by simp, fun a ha b hb => by simp at hb; subst hb; rintro rfl; exact hDi ha⟩
      · simp [r₂.len]
      · intro q
        rcases List.mem_append.mp q with q | q
        · exact (r₂.hidden a (by rw [hid]; exact List.mem_cons_of_mem _ ha)).1 q
        · simp at q; subst q; exact hDx ha
      · by_cases hj : j < σ₁.length
        · rw [List.getElem?_append_left hj] at e1
          have e2' : (α₁.ix ++ [D])[j]? = some a := e2
          rw [List.getElem?_append_left (by rw [← r₂.len]; exact hj)] at e2'
          exact (r₂.obj j m a e1 e2').re get1 sub2
        · have e3 : j = σ₁.length := by
            have := (List.getElem?_eq_some_iff.mp e1).1
            simp at this; omega
          subst e3
          have e2' : (α₁.ix ++ [D])[σ₁.length]? = some a := e2
          rw [List.getElem?_append_right (Nat.le_refl _)] at e1
          rw [List.getElem?_append_right (by rw [r₂.len]; exact Nat.le_refl _)] at e2'
          simp [r₂.len] at e1 e2'
          subst e1 e2'
          exact ⟨us, nn, hl₂, vs₂.re get1 sub2⟩
      · rcases List.mem_append.mp q with q | q
        · exact r₂.frNot a ha q
        · simp at q; subst q
          obtain ⟨_, o, e, es, n', d⟩ := r₂.frs a ha
          rw [hl₂] at e; obtain rfl := Option.some.inj e; contradiction
      · rw [r₂.len]; simp
end
end Mine

namespace Mine
open PySem PyProof.Rows

section
variable {K : Kt} {A : Around} {s : Shared} {α : AL} {env : Env} {ρ : Loc} {scope : Scope} {t : Nat} {x : Str}

noncomputable abbrev compCenv (scope : Scope) (C : Addr) (env : Env) : Env := compEnvC scope (clOf env.cells scope.names []) C env
noncomputable abbrev compRho (scope : Scope) (env : Env) (ρ : Loc) : Loc := capLoc (capOf env.scope.names (relab env.scope.names scope.names)) ρ
noncomputable def compOut (fz : Bool) (tC : PV → Sto → Out Bool) (eC : PV → Sto → Out PV) (ci : Out (List PV × Option (Nat × List PV))) : Out PV :=
  ci.bind fun p σ => goOn p.1.length fz p.2 tC eC [] p.1 σ

theorem comp_block {elt iter : Expr} {px : Pos} {ifs : List Expr} {pos : Pos} {ci : Out (List PV × Option (Nat × List PV))}
    {tC : PV → Sto → Out Bool} {eC : PV → Sto → Out PV} {fz : Bool} {RR : Value → Addr → Result → Shared → Prop} {E : Value → Shared → Prop}
    (c : CompOk env.scope.names scope t x) (E₀ : EnvRel env ρ s.heap α) (hit : RunsIt K A (eval iter env) ci s α) (hc : compOut fz tC eC ci ≠ .stuck) (tk : K.Tk s)
    (htest : ∀ C v s σ α, EnvNew K.hb (compCenv scope C env) → EnvRel (compCenv scope C env) ((compRho scope env ρ).set t (some v)) s.heap α → R K.hb s.heap σ α →
      Runs K RelEq A (forIn ifs true fun c r => if r = true then do let ok ← isTrue c (compCenv scope C env) (eval c (compCenv scope C env)); pure (ForInStep.yield ok) else pure (ForInStep.yield r)) (tC v σ) s α)
    (helt : ∀ C v s σ α, EnvNew K.hb (compCenv scope C env) → EnvRel (compCenv scope C env) ((compRho scope env ρ).set t (some v)) s.heap α → R K.hb s.heap σ α → Runs K VR A (eval elt (compCenv scope C env)) (eC v σ) s α)
    (hF : FrA K A) (hN : EnvNew K.hb env) (r₀ : ∃ σ, R K.hb s.heap σ α)
    (hE : ∀ e s', PostX K A ci s α e s' → E e s') (hRR : ∀ acc C r s', CompDone K s α (compOut fz tC eC ci) acc C r s' → RR acc C r s') :
    wpAny (model K.prog K.w) A (eval iter env) (fun xv s₁ => wpAny (model K.prog K.w) A (pyIter xv) (fun it s₂ => wpAny (model K.prog K.w) A (newList []) (fun acc s₃ =>
      wpAny (model K.prog K.w) A (newFunctionEnv scope env.globals (clOf env.cells scope.names []) [] env.qual none .none (some env)) (fun cenv s₄ =>
        codeAny (model K.prog K.w) A (.compStart (.ListComp elt [⟨.Name x px, iter, ifs, 0⟩] scope pos) 0 it acc { cenv with scope := relabel scope env }) (RR acc cenv.locals) s₄) E s₃) E s₂) E s₁) E s := by
  have hci : ci ≠ .stuck := by rintro rfl; exact hc rfl
  refine wpAny_mono (toks_up (hit hci tk)) (fun xv s₁ h₁ => wpAny_mono (toks_up h₁.1) (fun it s₂ h₂ => ?_) fun e s' h => hE e s' h.1) fun e s' h => hE e s' h.1
  have tk₂ : K.Tk s₂ := Kt.Tk.up tk (Nat.le_trans h₁.2 h₂.2)
  obtain ⟨xs, w, σ₂, α₂, own, St, hci2, x₂, r₂, m₂, I, st, ho⟩ := h₂.1
  have cell : ∀ y ∈ scope.names, y.2 ≠ .cell := c.nocell
  refine wpAny_newObj_type (wpAny_newFunctionEnv cell (by intro y hy; simp at hy) (fun h₁ hns₁ hsb₁ => ?_) c.kind)
  dsimp only at hns₁ hsb₁ ⊢
  generalize hH2 : s₂.heap.push { cls := .type "list", dict := none, data := .seq ([] : List Value).toArray } = H2 at hns₁ hsb₁ ⊢
  have hCs : H2.objs.size = s₂.heap.objs.size + 1 := by rw [← hH2, Heap.size_push]
  have hDC : s₂.heap.objs.size ≠ H2.objs.size := by rw [hCs]; exact Nat.ne_of_lt (Nat.lt_succ_self _)
  have old : ∀ b o, s₂.heap.get? b = some o → h₁.get? b = some o := fun b o e => hsb₁.extBut b o (by rw [hCs]; exact Nat.ne_of_lt (Nat.lt_succ_of_lt (Heap.lt_size e))) (Heap.get?_push_of_some _ (hH2 ▸ Heap.get?_push_of_some _ e))
  have hacc : h₁.get? s₂.heap.objs.size = some { cls := .type "list", data := .seq ([] : List Value).toArray } := hsb₁.extBut _ _ hDC (Heap.get?_push_of_some _ (hH2 ▸ Heap.get?_push_size _ rfl))
  have fresh : ∀ a, s₂.heap.objs.size ≤ a → s₂.heap.get? a = none := fun a ha => by
    cases e : s₂.heap.get? a with
    | none => rfl
    | some o' => exact absurd (Heap.lt_size e) (Nat.not_lt.mpr ha)
  have hD2 := fresh s₂.heap.objs.size (Nat.le_refl _)
  have hC2 : s₂.heap.get? H2.objs.size = none := fresh _ (by rw [hCs]; exact Nat.le_succ _)
  have back : ∀ a, s₂.heap.get? a = none → s.heap.get? a = none := fun a ha => by
    cases e : s.heap.get? a with
    | none => rfl
    | some o => obtain ⟨o', e'⟩ := x₂.alive a o (by simp) e; rw [ha] at e'; contradiction
  have base : ∀ a, s₂.heap.get? a = none → K.hb.get? a = none := fun a ha => by
    cases e : K.hb.get? a with
    | none => rfl
    | some o => rw [r₂.base a o e] at ha; contradiction
  have E₂ := E₀.ext x₂ .nil
  have r₃ : R K.hb h₁ σ₂ ⟨α₂.ix, s₂.heap.objs.size :: α₂.hid, α₂.fr⟩ := r₂.hide hD2 old hacc
  have E₃ : EnvRel env ρ h₁ ⟨α₂.ix, s₂.heap.objs.size :: α₂.hid, α₂.fr⟩ := (E₂.hide hD2).ext (.keeps (F := []) old) .nil
  have cells : ∀ y a, env.cells.lookup y = some a → ∃ o, s.heap.get? a = some o := fun y a ha => by
    obtain ⟨_, _, v, o, e, _⟩ := E₀.ca y a ha; exact ⟨o, e⟩
  have hCa : H2.objs.size ∉ (⟨α₂.ix, s₂.heap.objs.size :: α₂.hid, α₂.fr⟩ : AL).all := fun q => by
    rcases List.mem_append.mp q with q | q
    · obtain ⟨o, e⟩ := r₂.live q; rw [hC2] at e; contradiction
    · rcases List.mem_cons.mp q with q | q
      · exact hDC q.symm
      · obtain ⟨o, e⟩ := (r₂.hidden _ q).2; rw [hC2] at e; contradiction
  have hne : ∀ y a, env.cells.lookup y = some a → a ≠ H2.objs.size := fun y a ha q => by
    obtain ⟨o, e⟩ := cells y a ha
    rw [q, back _ hC2] at e; contradiction
  have E₄ := comp_env c E₃ hns₁ hCa hne
  have hcl := comp_clos c E₀
  have apart : Apart (compCenv scope H2.objs.size env) own := by
    refine ⟨fun q => ?_, fun y a ha q => ?_⟩
    · obtain ⟨o, e⟩ := I.live _ _ _ st _ q
      have e' : s₂.heap.get? H2.objs.size = some o := e
      rw [hC2] at e'; contradiction
    · obtain ⟨o, e⟩ := cells y a (clOf_lookup hcl ha)
      rw [(ho a q).1] at e; contradiction
  have hN' : EnvNew K.hb (compCenv scope H2.objs.size env) := ⟨base _ hC2, fun y a ha => hN.c y a (clOf_lookup hcl ha), hN.f⟩
  have hCf : H2.objs.size ∉ K.hb.fr := fun q => by
    obtain ⟨_, o, e, _⟩ := r₂.frs _ q
    rw [hC2] at e; contradiction
  have hnm : (compCenv scope H2.objs.size env).scope.names = relab env.scope.names scope.names := relabel_names E₀.ok.kind
  have st₃ : St 0 h₁ ⟨α₂.ix, s₂.heap.objs.size :: α₂.hid, α₂.fr⟩ := I.frame _ [] _ _ _ _ (I.hide _ _ _ _ st hD2) (.keeps old) (by simp)
  have loop : ∀ s₃ : Shared, s₃ = { s₂ with heap := h₁, toks := s₂.toks + ([] : List (Str × Value)).length } →
      codeAny (model K.prog K.w) A (.compLoop (.ListComp elt [⟨.Name x px, iter, ifs, 0⟩] scope pos) 0 it (.ref s₂.heap.objs.size) (compEnvC scope (clOf env.cells scope.names []) H2.objs.size env))
        (RR (.ref s₂.heap.objs.size) H2.objs.size) s₃ := by
    rintro s₃ rfl
    refine codeAny_mono (comp_loop (s := s) (α := α) (D := s₂.heap.objs.size) (C := H2.objs.size) (fz := fz) (c := compOut fz tC eC ci) (cenv := compCenv scope H2.objs.size env) (ρc := compRho scope env ρ) (t := t) (tC := tC) (eC := eC)
      (i := 0) (σ₁ := σ₂) (α₁ := ⟨α₂.ix, s₂.heap.objs.size :: α₂.hid, α₂.fr⟩) (ys := []) (us := []) (ρ₁ := compRho scope env ρ) (n := 0) I (by rw [hnm]; exact c.tgt) (by rw [hnm]; exact c.sc.uniq) rfl (fun b hb => (ho b hb).1) (back _ hD2) (back _ hC2) (base _ hD2) (base _ hC2) ?_ apart hc hF hN' hCf
      (fun v s σ α => htest _ v s σ α hN') (fun v s σ α => helt _ v s σ α hN') (Nat.zero_le _) (by show _ :: α₂.hid = _; rw [x₂.hid]) ?_ r₃ st₃ E₄ (fun v => rfl) hacc .nil ⟨m₂.gens, m₂.os⟩ ?_ (Nat.le_refl _) (Kt.Tk.up tk₂ (Nat.le_add_right _ _))) (fun r s' => hRR _ _ r s')
    · obtain ⟨σ, r₀⟩ := r₀
      intro q
      obtain ⟨o, e⟩ := (r₀.hidden _ q).2
      rw [back _ hD2] at e; contradiction
    · have h3 : Ext [] α s.heap ⟨α₂.ix, α.hid, α₂.fr⟩ s₂.heap := by
        have := x₂.rehid α.hid
        exact this
      exact h3.trans (.keeps old)
    · rw [hci2]; rfl
  exact codeAny_compStart_list (loop _ rfl) (I.self 0 _ _ st₃ _ _ (loop _ rfl))

theorem listComp_sound {elt iter : Expr} {px : Pos} {ifs : List Expr} {pos : Pos} {ci : Out (List PV × Option (Nat × List PV))} {σ : Sto}
    {tC : PV → Sto → Out Bool} {eC : PV → Sto → Out PV} {fz : Bool}
    (c : CompOk env.scope.names scope t x) (E₀ : EnvRel env ρ s.heap α) (hit : RunsIt K A (eval iter env) ci s α)
    (htest : ∀ C v s σ α, EnvNew K.hb (compCenv scope C env) → EnvRel (compCenv scope C env) ((compRho scope env ρ).set t (some v)) s.heap α → R K.hb s.heap σ α →
      Runs K RelEq A (forIn ifs true fun c r => if r = true then do let ok ← isTrue c (compCenv scope C env) (eval c (compCenv scope C env)); pure (ForInStep.yield ok) else pure (ForInStep.yield r)) (tC v σ) s α)
    (helt : ∀ C v s σ α, EnvNew K.hb (compCenv scope C env) → EnvRel (compCenv scope C env) ((compRho scope env ρ).set t (some v)) s.heap α → R K.hb s.heap σ α → Runs K VR A (eval elt (compCenv scope C env)) (eC v σ) s α)
    (hF : FrA K A) (hN : EnvNew K.hb env) (r₀ : R K.hb s.heap σ α) (hs : ∀ x, foldedSetIterable iter env x = pure x) :
    Runs K VR A (eval (.ListComp elt [⟨.Name x px, iter, ifs, 0⟩] scope pos) env) (compOut fz tC eC ci) s α := by
  intro hc tk
  rw [eval_ListComp]
  refine wpAny_comprehension_free (use := none) rfl hs (closureFor_eq (comp_clos c E₀)) c.kind c.names (comp_block (fz := fz) (RR := fun acc C => compPost (model K.prog K.w) A _ none _ acc C) c E₀ hit hc tk htest helt hF hN ⟨_, r₀⟩ (fun e s' hx => ?_) ?_)
  · obtain ⟨i, σ', e1, fx⟩ := hx
    exact ⟨i, σ', by rw [e1]; rfl, fx⟩
  · rintro acc C r s' (⟨rfl, v, σ', α', m, e, x', r', vr, sm, ns, ha, hC, hbC, hCf⟩ | ⟨e, i, σ', rfl, e1, fx⟩)
    · refine ⟨m, ns, fun h' hs' => ?_⟩
      obtain ⟨r'', x''⟩ := r'.but ha hbC (fun b o hb e => (hs'.2 b hb).trans e) (fun o e => by
        obtain ⟨o', es, ep, e', d, _⟩ := id ns
        rw [e] at e'; obtain rfl := Option.some.inj e'
        exact isDct.notSolid ⟨_, _, d⟩) fun q => absurd q hCf
      exact ⟨v, σ', α', e, x'.sameBut hC (fun b hb => hs'.2 b hb), r'', vr.ext x'', sm.trans ⟨rfl, rfl⟩⟩
    · obtain ⟨a, h₀, α', m, _, _, _, _, _, _, q, _⟩ := id fx
      exact ⟨m, q, fun h' hs' cenv _ => fx.letGo hs' fun s'' f => ⟨i, σ', e1, _, f⟩⟩
end
end Mine

namespace Mine
open PySem PyProof.Rows

noncomputable def plainE : Expr → Bool
  | .Set .. => false
  | .Starred .. => false
  | _ => true
theorem plain_marks {op : CmpOp} {e : Expr} (h : plainE e = true) : behindInMarks op e = false := by
  cases e <;> first | rfl | contradiction
theorem plain_folded {e : Expr} {env : Env} (h : plainE e = true) (x : Value) : foldedSetIterable e env x = pure x := by
  cases e <;> first | rfl | contradiction
theorem plain_star {e : Expr} {rest : List Expr} {env : Env} (h : plainE e = true) : starEach (e :: rest) env = (false, eval e env) :: starEach rest env := by
  cases e <;> first | rfl | contradiction

inductive ExcOb (h : Heap) (c : Nat) (up : List Nat) : Prop
  | mk (nm q : Str) (N : Addr) (bs : List Value) (hdct : Bool) (sn : List Str) (sub : List Value) (ab : Bool) (col : Option Bool) (dd : Option Addr) (k0 k1 k2 k3 k5 : Option Value)
      (ho : h.get? c = some (excClassObj nm q c N bs (up.map Value.ref ++ [.type "ValueError", .type "Exception", .type "BaseException", .type "object"]) hdct sn sub ab col dd k0 k1 k2 k3 k5 "ValueError.__new__"))
      (mN : Str → Option Value) (hN : h.Ns N mN) (hi : mN "__init__" = none) : ExcOb h c up
/-- an exception class of the text, at or below `ValueError` -/
structure ExcCls (K : Kt) (x : Str) (c : Nat) (up : List Nat) : Prop where
  mg : K.mg x = some (.ref c)
  ob : ExcOb K.hb.h c up
  tail : OwnTail K.hb.h [.type "ValueError", .type "Exception", .type "BaseException", .type "object"] (up.map Value.ref ++ [.type "ValueError", .type "Exception", .type "BaseException", .type "object"])
open PySem.W in
/-- what `isinstance` reads of an exception class -/
noncomputable def excFr (F : PySem.W.Frag) (T : Tab) (c : Nat) : Bool :=
  findIn F (.ref c) "__getattribute__" == some (some (.builtin "BaseException.__getattribute__")) && findIn F (.ref c) "__getattr__" == some none && findIn F (.ref c) "__class__" == some (some (.builtin "object.__class__")) &&
    subIn F (.ref c) (.type "BaseException") == some true && subIn F (.ref c) (.type "object") == some true && (clsIn F c).isSome &&
    T.excs.all (fun q => kitOne F (.ref c) (.ref q.2.1) == some ((supOf T q.2.1).contains c)) && kitOne F (.ref c) (.type "ValueError") == some true
open PySem.W in
/-- the text's class -/
structure BrdCls (K : Kt) (F : Frag) (b : Str) (c : Addr) : Prop where
  mg : K.mg b = some (.ref c)
  inn : F.In K.hb.h
  keep : keepIn F (.ref c) = true
  makes : makesIn F c = true
  plain : plainOver F c = true
  hasd : (clsIn F c).any (·.hasDict) = true
  seta : findIn F (.ref c) "__setattr__" = some (some (.builtin "object.__setattr__"))
  free : ∀ n ∈ attrNames, takerIn F c n = some none
structure Ctx (K : Kt) (A : Around) (T : Tab) (C : Cfg) : Prop where
  hK : K.Ok
  hA : AOk A
  hd : C.hd = false → A.handled = none
  rp : T.repl = true → K.pos = true
  fr : FrA K A
  exc : ∃ F : PySem.W.Frag, F.In K.hb.h ∧ ∀ p ∈ T.excs, ExcCls K p.1 p.2.1 p.2.2 ∧ excFr F T p.2.1 = true
  cst : ∀ x v, T.cst.lookup x = some v → ∃ u, K.mg x = some u ∧ ∀ h σ α, R K.hb h σ α → VR h α v u
  fn : ∀ f x, T.fns[f]? = some x → ∃ a o fd, K.mg x = some (.ref a) ∧ K.hb.get? a = some o ∧ o.data = .func fd ∧ ∀ vs us s σ α, R K.hb s.heap σ α → VRs s.heap α vs us → Runs K VR A (call (.ref a) us) (C.call f vs σ) s α
  bin : ∀ x, x ∈ T.bins → K.mg x = none ∧ ∃ v, biVal x = some v ∧ K.mb x = some v
  brd : ∀ b c, T.brd = some (b, c) → ∃ F, BrdCls K F b c ∧ ∀ j, T.meths[j]? = some ("__init__" : Str) → ∀ vs us s σ α, R K.hb s.heap σ α → VRs s.heap α vs us → Runs K VR A (call (.ref c) us) (newv C c (T.fns.length + j) vs σ) s α

noncomputable def Both (K : Kt) (A : Around) (C : Cfg) (N : List (Str × NameKind)) (e : Expr) (x : X) : Prop :=
  ∀ env ρ σ s α, env.scope.names = N → EnvNew K.hb env → EnvRel env ρ s.heap α → R K.hb s.heap σ α →
    Runs K VR A (eval e env) (ev C x ρ σ) s α ∧ Runs K RelEq A (isTrue e env (eval e env)) (tst C x ρ σ) s α
noncomputable def SE (K : Kt) (A : Around) (C : Cfg) (f : List (Str × NameKind) → Expr → Option X) : Prop :=
  ∀ N e x, f N e = some x → plainE e = true ∧ Both K A C N e x

section
variable {K : Kt} {A : Around} {β γ β' γ' : Type} {Rel : Heap → AL → β → γ → Prop} {Rel' : Heap → AL → β' → γ' → Prop} {s : Shared} {α : AL} {σ : Sto}

theorem Runs.operate {vs : List Value} {t : Sem Value} {Rel : Heap → AL → β → Value → Prop} {c : Out β} (H : Runs K Rel A t c s α) : Runs K Rel A (operate vs t) c s α :=
  fun h tk => wpAny_operating (H h tk)
/-- the truth of a value -/
theorem gen_tst {t : Sem Value} {c : Out PV} {p : Pos} (H : Runs K VR A t c s α) : Runs K RelEq A (do let v ← t; standAt p; holding [v] (truthy v)) (c.bind truthv) s α :=
  Runs.bind H fun b σ' α' y s' _ x r v m => Runs.standAt (Runs.holding (truth_sound r v))

theorem RelB.vr {h : Heap} {α : AL} {b : Bool} {y : Value} (v : RelB h α b y) : VR h α (.bool b) y := by
  have : y = .bool b := v
  subst this; exact .bool b
end

section
variable {K : Kt} {A : Around} {T : Tab} {C : Cfg} {f : List (Str × NameKind) → Expr → Option X} {N : List (Str × NameKind)} {env : Env} {ρ : Loc} {σ : Sto} {s : Shared} {α : AL}

theorem const_sound {c : Const} {v : PV} {k : Nat} {p : Pos} (h : trConst c = some v) (r : R K.hb s.heap σ α) : Runs K VR A (eval (.Constant c k p) env) (.ok v σ) s α := by
  intro _ _
  cases c with
  | none => obtain rfl := Option.some.inj h; exact wpAny_Constant_none (Post.here (tk := s.toks) r .none)
  | bool b => obtain rfl := Option.some.inj h; exact wpAny_Constant_bool (Post.here (tk := s.toks) r (.bool b))
  | int i => obtain rfl := Option.some.inj h; exact wpAny_Constant_int (Post.here r (.int i _))
  | str x =>
    change onlyIf _ _ = _ at h
    exact onlyIf_e h fun hx h => by obtain rfl := Option.some.inj h; exact wpAny_Constant_str (Post.here r (.str x _ hx))
  | _ => contradiction

/-- the truth of most expressions is that of their value -/
theorem both_gen {e : Expr} {y : X} (he : ∀ env whole, isTrue e env whole = (do let v ← whole; standAt e.pos; holding [v] (truthy v))) (ht : ∀ ρ σ, tst C y ρ σ = (ev C y ρ σ).bind truthv)
    (H : ∀ {env ρ σ s α}, env.scope.names = N → EnvNew K.hb env → EnvRel env ρ s.heap α → R K.hb s.heap σ α → Runs K VR A (eval e env) (ev C y ρ σ) s α) : Both K A C N e y := fun env ρ σ s α hN hn E r =>
  ⟨H hN hn E r, by rw [he, ht]; exact gen_tst (H hN hn E r)⟩
theorem idx_name {N : List (Str × NameKind)} {x : Str} {i : Nat} {q : Str × NameKind} (hi : N.findIdx? (·.1 == x) = some i) (hq : N[i]? = some q) : q.1 = x := by
  obtain ⟨h1, h2, _⟩ := List.findIdx?_eq_some_iff_getElem.mp hi
  obtain rfl := Option.some.inj ((List.getElem?_eq_getElem h1).symm.trans hq)
  exact eq_of_beq h2
theorem trName_sound {x : Str} {y : X} {p : Pos} (c : Ctx K A T C) (h : trName T N x = some y) : Both K A C N (.Name x p) y := by
  unfold trName at h
  refine bind_e h fun i hi h => bind_e h fun q hq h => ?_
  have hx := idx_name hi hq
  obtain ⟨z, k⟩ := q
  dsimp only at hx
  subst hx
  cases k with
  | «local» => obtain rfl := Option.some.inj h; exact both_gen (fun _ _ => rfl) (fun _ _ => rfl) fun hN _ E r => name_sound r E (by rw [hN]; exact hq)
  | cell => obtain rfl := Option.some.inj h; exact both_gen (fun _ _ => rfl) (fun _ _ => rfl) fun hN _ E r => name_sound r E (by rw [hN]; exact hq)
  | globalImplicit =>
    change (T.cst.lookup z).map X.k = _ at h
    refine map_e h fun v hv => ?_
    obtain ⟨u, h1, h2⟩ := c.cst z v hv
    exact both_gen (fun _ _ => rfl) (fun _ _ => rfl) fun {env ρ σ s α} hN _ E r _ _ => name_glob c.hK r E.ok (by rw [hN]; exact hq) h1 ⟨v, σ, α, rfl, .refl, r, h2 _ _ _ r, .refl s⟩
  | _ => contradiction

theorem trL_cons {g : Expr → Option X} {e : Expr} {es : List Expr} {xs : X} (h : trL g (e :: es) = some xs) : ∃ a b, g e = some a ∧ trL g es = some b ∧ xs = .cons a b := by
  change o2 _ _ _ = _ at h
  exact o2_e (M := fun xs => ∃ a b, g e = some a ∧ trL g es = some b ∧ xs = .cons a b) h fun a b h1 h2 => ⟨a, b, h1, h2, rfl⟩
theorem evs_sound {es : List Expr} {xs : X} {pos : Pos} (S : SE K A C f) (h : trL (f N) es = some xs) (hN : env.scope.names = N) (hn : EnvNew K.hb env) :
    ∀ {σ s α}, EnvRel env ρ s.heap α → R K.hb s.heap σ α → Runs K VRs A (spliced (backTo pos (starEach es env))) (evs C xs ρ σ) s α := by
  induction es generalizing xs with
  | nil =>
    obtain rfl := Option.some.inj h
    intro σ s α E r
    simp only [evs_nil, evs_cons]
    exact fun _ _ => wpAny_items_nil ⟨[], σ, α, rfl, .refl, r, .nil, .refl s⟩
  | cons e es ih =>
    obtain ⟨a, b, ha, hb, rfl⟩ := trL_cons h
    · skip
      intro σ s α E r
      obtain ⟨hp, H⟩ := S N e a ha
      have H := (H env ρ σ s α hN hn E r).1
      simp only [evs_nil, evs_cons]
      intro hc tk
      refine wpAny_items_cons ?_ (plain_star hp)
      have h1 : ev C a ρ σ ≠ .stuck := by intro q; rw [q] at hc; exact hc rfl
      refine wpAny_mono (toks_up (H h1 tk)) (fun v s₁ hp => ?_) fun e s₁ hx => ?_
      · obtain ⟨⟨pv, σ₁, α₁, e1, x1, r1, v1, m1⟩, tl1⟩ := hp
        rw [e1] at hc ⊢
        have h2 : evs C b ρ σ₁ ≠ .stuck := by intro q; simp [Out.bind, q] at hc
        refine wpAny_mono (ih hb (E.ext x1 .nil) r1 h2 (Kt.Tk.up tk tl1)) (fun vs s₂ hp => ?_) fun e s₂ hx => ?_
        · obtain ⟨pvs, σ₂, α₂, e2, x2, r2, v2, m2⟩ := hp
          refine ⟨pv :: pvs, σ₂, α₂, by simp [Out.bind, e2], x1.trans x2, r2, .cons (v1.ext x2) v2, m1.trans m2⟩
        · obtain ⟨i, σ₂, e2, nt, fx⟩ := hx
          exact ⟨i, σ₂, by simp [Out.bind, e2], nt, fx.lift x1 m1⟩
      · obtain ⟨⟨i, σ₁, e1, nt, fx⟩, _⟩ := hx
        exact ⟨i, σ₁, by rw [e1]; rfl, nt, fx⟩

theorem and_sound {es : List Expr} {xs : X} {pos : Pos} (S : SE K A C f) (h : trL (f N) es = some xs) (hN : env.scope.names = N) (hn : EnvNew K.hb env) :
    ∀ {σ s α}, EnvRel env ρ s.heap α → R K.hb s.heap σ α → Runs K VR A (boolOp pos .And (evalEach es env)) (evAnd C xs ρ σ) s α ∧ Runs K RelEq A (allTrue .And es env) (tstAnd C xs ρ σ) s α := by
  induction es generalizing xs with
  | nil =>
    obtain rfl := Option.some.inj h
    intro σ s α E r
    refine ⟨fun hc => absurd (by simp only [evAnd_nil, evAnd_one, evAnd_cons]) hc, ?_⟩
    simp only [tstAnd_nil, tstAnd_cons]
    exact fun _ _ => wpAny_allTrue_And_nil ⟨true, σ, α, rfl, .refl, r, rfl, .refl s⟩
  | cons e es ih =>
    obtain ⟨a, b, ha, hb, rfl⟩ := trL_cons h
    · skip
      intro σ s α E r
      obtain ⟨hp, H⟩ := S N e a ha
      have H := H env ρ σ s α hN hn E r
      constructor
      · cases es with
        | nil =>
          obtain rfl := Option.some.inj hb
          simp only [evAnd_nil, evAnd_one, evAnd_cons]
          exact H.1
        | cons e2 es2 =>
          have hbc : ∃ b1 b2, b = .cons b1 b2 := by
            obtain ⟨b1, b2, _, _, rfl⟩ := trL_cons hb
            exact ⟨_, _, rfl⟩
          obtain ⟨b1, b2, rfl⟩ := hbc
          simp only [evAnd_nil, evAnd_one, evAnd_cons]
          refine Runs.bind H.1 fun v σ₁ α₁ y s₁ e1 x1 r1 v1 m1 => Runs.standAt ?_
          refine Runs.bind (Runs.holding (truth_sound r1 v1)) fun t σ₂ α₂ y2 s₂ e2 x2 r2 v2 m2 => ?_
          have : y2 = t := v2
          subst this
          cases y2 with
          | false => simp only [Bool.false_eq_true, if_false]; exact Runs.pure r2 (v1.ext x2)
          | true => simp only [if_true]; exact (ih hb ((E.ext x1 .nil).ext x2 .nil) r2).1
      · simp only [tstAnd_nil, tstAnd_cons]
        refine Runs.bind H.2 fun t σ₁ α₁ y s₁ e1 x1 r1 v1 m1 => ?_
        have : y = t := v1
        subst this
        cases y with
        | false => simp only [Bool.false_eq_true, if_false]; exact Runs.pure r1 rfl
        | true => simp only [if_true]; exact (ih hb (E.ext x1 .nil) r1).2

theorem or_sound {es : List Expr} {xs : X} {pos : Pos} (S : SE K A C f) (h : trL (f N) es = some xs) (hN : env.scope.names = N) (hn : EnvNew K.hb env) :
    ∀ {σ s α}, EnvRel env ρ s.heap α → R K.hb s.heap σ α → Runs K VR A (boolOp pos .Or (evalEach es env)) (evOr C xs ρ σ) s α ∧ Runs K RelEq A (allTrue .Or es env) (tstOr C xs ρ σ) s α := by
  induction es generalizing xs with
  | nil =>
    obtain rfl := Option.some.inj h
    intro σ s α E r
    refine ⟨fun hc => absurd (by simp only [evOr_nil, evOr_one, evOr_cons]) hc, ?_⟩
    simp only [tstOr_nil, tstOr_cons]
    exact fun _ _ => wpAny_allTrue_Or_nil ⟨false, σ, α, rfl, .refl, r, rfl, .refl s⟩
  | cons e es ih =>
    obtain ⟨a, b, ha, hb, rfl⟩ := trL_cons h
    · skip
      intro σ s α E r
      obtain ⟨hp, H⟩ := S N e a ha
      have H := H env ρ σ s α hN hn E r
      constructor
      · cases es with
        | nil =>
          obtain rfl := Option.some.inj hb
          simp only [evOr_nil, evOr_one, evOr_cons]
          exact H.1
        | cons e2 es2 =>
          have hbc : ∃ b1 b2, b = .cons b1 b2 := by
            obtain ⟨b1, b2, _, _, rfl⟩ := trL_cons hb
            exact ⟨_, _, rfl⟩
          obtain ⟨b1, b2, rfl⟩ := hbc
          simp only [evOr_nil, evOr_one, evOr_cons]
          refine Runs.bind H.1 fun v σ₁ α₁ y s₁ e1 x1 r1 v1 m1 => Runs.standAt ?_
          refine Runs.bind (Runs.holding (truth_sound r1 v1)) fun t σ₂ α₂ y2 s₂ e2 x2 r2 v2 m2 => ?_
          have : y2 = t := v2
          subst this
          cases y2 with
          | true => simp only [if_true]; exact Runs.pure r2 (v1.ext x2)
          | false => simp only [Bool.false_eq_true, if_false]; exact (ih hb ((E.ext x1 .nil).ext x2 .nil) r2).1
      · simp only [tstOr_nil, tstOr_cons]
        refine Runs.bind H.2 fun t σ₁ α₁ y s₁ e1 x1 r1 v1 m1 => ?_
        have : y = t := v1
        subst this
        cases y with
        | true => simp only [if_true]; exact Runs.pure r1 rfl
        | false => simp only [Bool.false_eq_true, if_false]; exact (ih hb (E.ext x1 .nil) r1).2
end
end Mine

set_option maxRecDepth 100000
namespace Mine
open PySem PySem.W PyProof.Rows

/-! the class of an exception, asked by name -/
section
variable {prog : Program} {w : World} {A : Around} {E : Value → Shared → Prop} {h : Heap} {g : Array GenState} {d : Drawn} {t : Nat} {os : OsState} {a c : Addr} {o : Obj} {Fg : Frag}

theorem xclass_get {R : Result → Shared → Prop} (X : Fg.In h) (hx : h.get? a = some o) (hc : o.cls = .ref c) (ho : subIn Fg (.ref c) (.type "object") = some true) (hq : R (.ok (.ret (.ref c))) ⟨h, g, d, t, os⟩) :
    codeAny (model prog w) A (.call (.builtin "getset_descriptor.__get__") ⟨[.builtin "object.__class__", .ref a, .ref c], []⟩) R ⟨h, g, d, t, os⟩ := by
  have hT5 : (⟨h, g, d, t, os⟩ : Shared).TypeIs (.builtin "object.__class__") "getset_descriptor" := F.typeOf_object_class
  have ho' : subIn Fg (.ref c) (.type (".".intercalate ("object.__class__".cutAt '.').dropLast)) = some true := by rw [F.owner_object_class]; exact ho
  have L := looks_subIn (M := model prog w) X ho'
  refine codeAny_call_builtin F.slot_gs_get.plain F.entry_gs_get (F.slot_gs_get.check _ _ _ _ _ _ _ _ hT5 (F.args_gs_get _ _ _) ?_)
  repeat (any_goals (first | assumption | (with_reducible refine wpAny_loadPart_at hx ?_; rw [hc]) | with_reducible refine L.at ?_ | wp_step))
  refine ⟨Code.quiet_builtin _ (by decide +kernel), codeAny_builtin F.entry_object_class ?_⟩
  repeat (any_goals (first | assumption | (with_reducible refine wpAny_loadPart_at hx ?_; rw [hc]) | wp_step))

theorem xclass_entry {tk : Tok} {Q : Fin → Shared → Prop} (X : Fg.In h) (hx : h.get? a = some o) (hc : o.cls = .ref c) (ho : subIn Fg (.ref c) (.type "object") = some true) (hl : findIn Fg (.ref c) "__class__" = some (some (.builtin "object.__class__")))
    (hq : Q (.done (.ret (.ref c))) ⟨h, g, d, t, os⟩) : wpAny (model prog w) A (Builtin.«object.__getattribute__» ⟨[.ref a, .str "__class__" tk], []⟩) Q E ⟨h, g, d, t, os⟩ := by
  have hT5 : (⟨h, g, d, t, os⟩ : Shared).TypeIs (.builtin "object.__class__") "getset_descriptor" := F.typeOf_object_class
  have f5 := F.typeOf_object_class
  have f6 := F.slot_gs_get.lookup
  have f7 := F.slot_gs_set.lookup
  have L := looks_findIn (M := model prog w) X hl
  repeat (any_goals (first | assumption | (with_reducible refine wpAny_loadPart_at hx ?_; rw [hc]) | with_reducible refine L.at ?_ | wp_step))
  refine xclass_get X hx hc ho ?_
  repeat (any_goals (first | assumption | wp_step))

theorem xcheck_ga {M : Model} {nameV : Value} {Q : Unit → Shared → Prop} (X : Fg.In h) (hx : h.get? a = some o) (hc : o.cls = .ref c) (hb : subIn Fg (.ref c) (.type "BaseException") = some true) (hq : Q () ⟨h, g, d, t, os⟩) :
    wpAny M A (checkBuiltinCall "BaseException.__getattribute__" ⟨[.ref a, nameV], []⟩) Q E ⟨h, g, d, t, os⟩ := by
  have hk : builtinKind "BaseException.__getattribute__" = some .slot := by decide +kernel
  have hsplit : splitId "BaseException.__getattribute__" = some ("BaseException", "__getattribute__") := by decide +kernel
  have L := looks_subIn (M := M) X hb
  have ha := F.args_bexc_ga (.ref a) nameV
  simp only [checkBuiltinCall, hk, hsplit]
  refine wpAny_bind ?_
  · unfold isInstance
    repeat (first | (with_reducible refine wpAny_loadPart_at hx ?_; rw [hc]) | with_reducible refine L.at ?_ | wp_step)
    exact hq

theorem xclass_by {tk : Tok} {Q : Value → Shared → Prop} (X : Fg.In h) (hx : h.get? a = some o) (hc : o.cls = .ref c) (hb : subIn Fg (.ref c) (.type "BaseException") = some true) (ho : subIn Fg (.ref c) (.type "object") = some true)
    (hl : findIn Fg (.ref c) "__class__" = some (some (.builtin "object.__class__"))) (hga : findIn Fg (.ref c) "__getattribute__" = some (some (.builtin "BaseException.__getattribute__"))) (hgt : findIn Fg (.ref c) "__getattr__" = some none)
    (hq : Q (.ref c) ⟨h, g, d, t, os⟩) : wpAny (model prog w) A (getAttrBy (.ref a) (.str "__class__" tk) false) Q E ⟨h, g, d, t, os⟩ := by
  have f3 := F.attr_ValueError.ga.bind (.ref a)
  have hx2 : (Value.builtin "BaseException.__getattribute__" == Value.builtin "object.__getattribute__") = false := by decide +kernel
  have hx1 : (onTheHeap (Value.ref c) && Value.builtin "BaseException.__getattribute__" == Value.builtin "object.__getattribute__") = false := by rw [hx2]; rfl
  have L1 := looks_findIn (M := model prog w) X hga
  have L2 := looks_findIn (M := model prog w) X hgt
  repeat (any_goals (first | assumption | (with_reducible refine wpAny_loadPart_at hx ?_; rw [hc]) | with_reducible refine L1.at ?_ | with_reducible refine L2.at ?_ | wp_step))
  refine codeAny_call_builtin F.attr_ValueError.ga.plain F.entry_bexc_ga (xcheck_ga X hx hc hb (xclass_entry X hx hc ho hl ?_))
  repeat (any_goals (first | assumption | wp_step))

theorem xclass_attr {Q : Option Value → Shared → Prop} (X : Fg.In h) (hx : h.get? a = some o) (hc : o.cls = .ref c) (hb : subIn Fg (.ref c) (.type "BaseException") = some true) (ho : subIn Fg (.ref c) (.type "object") = some true)
    (hl : findIn Fg (.ref c) "__class__" = some (some (.builtin "object.__class__"))) (hga : findIn Fg (.ref c) "__getattribute__" = some (some (.builtin "BaseException.__getattribute__"))) (hgt : findIn Fg (.ref c) "__getattr__" = some none)
    (hq : Q (some (.ref c)) ⟨h, g, d, t + 1, os⟩) : wpAny (model prog w) A (getAttr? (.ref a) "__class__") Q E ⟨h, g, d, t, os⟩ := by
  unfold getAttr? getAttrBy?
  repeat (any_goals (first | assumption | with_reducible apply xclass_by X hx hc hb ho hl hga hgt | wp_step))
end

theorem excFr_is {Fg : Frag} {T : Tab} {c : Nat} (e : excFr Fg T c = true) : findIn Fg (.ref c) "__getattribute__" = some (some (.builtin "BaseException.__getattribute__")) ∧ findIn Fg (.ref c) "__getattr__" = some none ∧ findIn Fg (.ref c) "__class__" = some (some (.builtin "object.__class__")) ∧
    subIn Fg (.ref c) (.type "BaseException") = some true ∧ subIn Fg (.ref c) (.type "object") = some true ∧ (clsIn Fg c).isSome = true ∧ (∀ q ∈ T.excs, kitOne Fg (.ref c) (.ref q.2.1) = some ((supOf T q.2.1).contains c)) ∧ kitOne Fg (.ref c) (.type "ValueError") = some true := by
  unfold excFr at e
  simp only [Bool.and_eq_true, beq_iff_eq, List.all_eq_true] at e
  obtain ⟨⟨⟨⟨⟨⟨⟨h1, h2⟩, h3⟩, h4⟩, h5⟩, h6⟩, h7⟩, h8⟩ := e
  exact ⟨h1, h2, h3, h4, h5, h6, fun q hq => by have := h7 q hq; exact this, h8⟩

theorem kitx_exc {Fg : Frag} {T : Tab} {a c : Addr} (e : excFr Fg T c = true) : KitX Fg (.ref a) (.ref c) (fun h => ∃ o, h.get? a = some o ∧ o.cls = .ref c) where
  ty := fun M h _ p => by
    obtain ⟨o, h1, h2⟩ := p
    exact h2 ▸ (Looks.ld h1).andThen .now
  it := fun _ _ X _ => by
    have hc := (excFr_is e).2.2.2.2.2.1
    unfold clsIn at hc
    split at hc
    · rename_i c' d' cd' sl' ho
      intro A' Q' E' s' k q
      unfold isType loadHead
      exact wpAny_bind (wpAny_loadPart (k _ _ (X _ _ ho)) (wpAny_pure q))
    · contradiction
  ne := fun h tp dd its n sl X htp => by
    have hc := (excFr_is e).2.2.2.2.2.1
    refine Bool.eq_false_iff.mpr fun q => ?_
    have e : c = tp := Value.ref.inj (beq_iff_eq.mp q)
    subst e
    unfold clsIn at hc
    split at hc
    · rename_i c' d' cd' sl' ho
      have z := (X _ _ ho).symm.trans htp
      cases z
    · contradiction
  ca := fun {_ _ _ _ _ s} X p k => by
    obtain ⟨o, h1, h2⟩ := p
    obtain ⟨q1, q2, q3, q4, q5, _⟩ := excFr_is e
    obtain ⟨h, g, d, t, os⟩ := s
    exact xclass_attr X h1 h2 q4 q5 q3 q1 q2 k

section
variable {K : Kt} {A : Around} {T : Tab} {C : Cfg} {s : Shared} {α : AL} {σ : Sto}

theorem isexcv_sound {a : PV} {x cv : Value} {sup : List Nat} (ct : Ctx K A T C) (hcv : (∃ q ∈ T.excs, cv = .ref q.2.1 ∧ sup = supOf T q.2.1) ∨ (cv = .type "ValueError" ∧ sup = T.excs.map (·.2.1)))
    (r : R K.hb s.heap σ α) (va : VR s.heap α a x) : Runs K RelB A (call (.builtin "isinstance") [x, cv]) (isexcv a sup (T.excs.map (·.2.1)) σ) s α := by
  intro hc tk
  cases a with
  | exc c =>
    have e0 : isexcv (.exc c) sup (T.excs.map (·.2.1)) σ = if (T.excs.map (·.2.1)).contains c then .ok (sup.contains c) σ else .stuck := rfl
    rw [e0] at hc ⊢
    split at hc
    · rename_i hd
      rw [if_pos hd]
      cases va with
      | exc e hcl _ _ =>
        obtain ⟨p, hp, hpc⟩ := List.mem_map.mp (List.contains_iff_mem.mp hd)
        obtain ⟨Fg, X, H⟩ := ct.exc
        have he := (H p hp).2
        rw [hpc] at he
        obtain ⟨_, _, _, _, _, _, q7, q8⟩ := excFr_is he
        have hk : kitOne Fg (.ref c) cv = some (sup.contains c) := by
          rcases hcv with ⟨q, hq, rfl, rfl⟩ | ⟨rfl, rfl⟩
          · exact q7 q hq
          · rw [hd]; exact q8
        exact kia_one (kitx_exc he) (X.keeps r.base) ⟨_, e, hcl⟩ hk (by simp) fun tk => ⟨_, σ, α, rfl, .refl, r, rfl, ⟨rfl, rfl⟩⟩
    · exact absurd rfl hc
  | _ => exact absurd rfl hc
end
end Mine

namespace Mine
open PySem PyProof.Rows

section
variable {K : Kt} {A : Around} {β γ β' γ' : Type} {Rel : Heap → AL → β → γ → Prop} {Rel' : Heap → AL → β' → γ' → Prop} {s : Shared} {α : AL} {σ : Sto}

theorem Post.lift {c : Out β} {s₁ : Shared} {α₁ : AL} {y : γ} {s' : Shared} (x : Ext [] α s.heap α₁ s₁.heap) (m : Sm s s₁) (p : Post K Rel c s₁ α₁ y s') : Post K Rel c s α y s' := by
  obtain ⟨b, σ', α', e, x', r, v, m'⟩ := p
  exact ⟨b, σ', α', e, x.trans x', r, v, m.trans m'⟩
theorem PostX.bind {c : Out β} {f : β → Sto → Out β'} {y : Value} {s' : Shared} (p : PostX K A c s α y s') : PostX K A (c.bind f) s α y s' := by
  obtain ⟨i, σ', e, fx⟩ := p
  exact ⟨i, σ', by rw [e]; rfl, fx⟩

theorem Runs.use {t : Sem γ} {c : Out β} {f : β → Sto → Out β'} {W : γ → Shared → Prop} (H : Runs K Rel A t c s α) (hc : c.bind f ≠ .stuck) (tk : K.Tk s)
    (N : ∀ b σ' α' y s', c = .ok b σ' → f b σ' ≠ .stuck → Ext [] α s.heap α' s'.heap → R K.hb s'.heap σ' α' → Rel s'.heap α' b y → Sm s s' → K.Tk s' → W y s') : wpAny (model K.prog K.w) A t W (PostX K A (c.bind f) s α) s := by
  have h1 : c ≠ .stuck := by rintro rfl; exact hc rfl
  refine wpAny_mono (toks_up (H h1 tk)) (fun y s' hp => ?_) fun e s' hx => hx.1.bind
  obtain ⟨⟨b, σ', α', rfl, x, r, v, m⟩, tl⟩ := hp
  exact N b σ' α' y s' rfl hc x r v m (Kt.Tk.up tk tl)
end

section
variable {K : Kt} {A : Around} {T : Tab} {C : Cfg} {f : List (Str × NameKind) → Expr → Option X} {N : List (Str × NameKind)} {env : Env} {ρ : Loc} {σ : Sto} {s : Shared} {α : AL}

theorem isG_idx {g : Str} (h : isG N g = true) : ∃ i : Nat, N[i]? = some (g, NameKind.globalImplicit) := by
  unfold isG at h
  obtain ⟨i, _, hi⟩ := idx_of_lookup (by simpa using h)
  exact ⟨i, hi⟩

theorem callFn_sound {g : Str} {args : List Expr} {p pos : Pos} {i : Nat} {xs : X} (c : Ctx K A T C) (S : SE K A C f) (hi : T.fns[i]? = some g) (hg : isG N g = true) (hne : args ≠ []) (h : trL (f N) args = some xs)
    (hN : env.scope.names = N) (hn : EnvNew K.hb env) (E : EnvRel env ρ s.heap α) (r : R K.hb s.heap σ α) :
    Runs K VR A (eval (.Call (.Name g p) args [] pos) env) ((evs C xs ρ σ).bind fun vs σ => C.call i vs σ) s α := by
  intro hc tk
  obtain ⟨a, o, fd, hm, ho, hd, hcall⟩ := c.fn i g hi
  obtain ⟨j, hj⟩ := isG_idx hg
  refine wpAny_Call_Name_kw (name_glob c.hK r E.ok (by rw [hN]; exact hj) hm ?_)
  cases args with
  | nil => exact absurd rfl hne
  | cons e es =>
    have H := evs_sound (pos := pos) S h hN hn E r
    obtain ⟨a', b', ha', hb', _⟩ := trL_cons h
    rw [plain_star (S N e a' ha').1] at H ⊢
    refine Calls.callWith_function (o := o) (fd := fd) (Calls.evalArgs_plain (Runs.use H hc tk fun vs σ' α' us s' e1 hc' x' r' v' m' tk' => ?_))
    refine ⟨⟨r'.base _ _ ho, hd⟩, ?_⟩
    rw [e1]
    refine wpAny_mono (hcall vs us s' σ' α' r' v' hc' tk') (fun y s'' hp => hp.lift x' m') fun e s'' hx => hx.lift x' m'

theorem biVal_b1 {fz : Bool} {g : Str} {b : B1} (h : b1Name fz g = some b) : biVal g = some (b1Val b) :=
  (show ∀ p ∈ b1Tab fz, biVal p.1 = some (b1Val p.2) from (by repeat (first | refine List.forall_mem_cons.mpr ⟨rfl, ?_⟩ | exact fun _ h => nomatch h))) _ (look_mem h)
theorem biVal_ty {g : Str} {t : Ty} (h : tyName g = some t) : biVal g = tyVal t :=
  (show ∀ p ∈ tyTab, biVal p.1 = tyVal p.2 from (by repeat (first | refine List.forall_mem_cons.mpr ⟨rfl, ?_⟩ | exact fun _ h => nomatch h))) _ (look_mem h)
noncomputable def isSpec (b : B1) : Bool :=
  match b1Val b with
  | .none => true
  | _ => false
theorem b1Name_ne {fz : Bool} {g : Str} {b : B1} (h : b1Name fz g = some b) : b1Val b ≠ .none := by
  have h := (show ∀ p ∈ b1Tab fz, isSpec p.2 = false from (by repeat (first | refine List.forall_mem_cons.mpr ⟨rfl, ?_⟩ | exact fun _ h => nomatch h))) _ (look_mem h)
  intro e
  unfold isSpec at h
  rw [e] at h
  contradiction
theorem b1g_ne {hd : Bool} {b : B1} {a : PV} {σ : Sto} (h : b1g hd b a σ ≠ .stuck) : (heavy b = true → hd = false) ∧ b1g hd b a σ = b1v b a σ := by
  unfold b1g at h ⊢
  cases hd with
  | false => exact ⟨fun _ => rfl, rfl⟩
  | true =>
    cases hb : heavy b with
    | false => exact ⟨fun q => (by contradiction), rfl⟩
    | true => rw [hb] at h; exact absurd rfl h
theorem b1_sound {g : Str} {a : Expr} {p pos : Pos} {fz : Bool} {b : B1} {x : X} (c : Ctx K A T C) (S : SE K A C f) (hb : b1Name fz g = some b) (hg : isG N g = true) (hbin : g ∈ T.bins) (h : f N a = some x)
    (hN : env.scope.names = N) (hn : EnvNew K.hb env) (E : EnvRel env ρ s.heap α) (r : R K.hb s.heap σ α) :
    Runs K VR A (eval (.Call (.Name g p) [a] [] pos) env) ((ev C x ρ σ).bind fun v σ => b1g C.hd b v σ) s α := by
  intro hc tk
  obtain ⟨hm, v, hv, hmb⟩ := c.bin g hbin
  obtain ⟨j, hj⟩ := isG_idx hg
  rw [biVal_b1 hb] at hv; obtain rfl := Option.some.inj hv
  obtain ⟨hp, H⟩ := S N a x h
  have H := (H env ρ σ s α hN hn E r).1
  refine wpAny_Call_Name_kw (name_bin c.hK r E.ok (by rw [hN]; exact hj) hm hmb ?_)
  rw [plain_star hp]
  have fin : wpAny (model K.prog K.w) A (eval a env) (fun y s' => wpAny (model K.prog K.w) A (call (b1Val b) [y]) (Post K VR ((ev C x ρ σ).bind fun v σ => b1g C.hd b v σ) s α) (PostX K A ((ev C x ρ σ).bind fun v σ => b1g C.hd b v σ) s α) s') (PostX K A ((ev C x ρ σ).bind fun v σ => b1g C.hd b v σ) s α) s := by
    refine Runs.use H hc tk fun v σ' α' y s' e1 hc' x' r' v' m' tk' => ?_
    rw [e1]
    obtain ⟨z1, z2⟩ := b1g_ne hc'
    show wpAny _ _ _ (Post K VR (b1g C.hd b v σ') s α) (PostX K A (b1g C.hd b v σ') s α) _
    rw [z2] at hc' ⊢
    exact wpAny_mono (b1v_sound (b1Name_ne hb) c.hA (fun q => c.hd (z1 q)) r' v' hc' tk') (fun y s'' hp => hp.lift x' m') fun e s'' hx => hx.lift x' m'
  cases b with
  | lenset => exact absurd rfl (b1Name_ne hb)
  | dict => exact absurd rfl (b1Name_ne hb)
  | len => exact PySem.callWith_builtin1 fin
  | all => exact PySem.callWith_builtin1 fin
  | list _ => exact PySem.callWith_type1 fin
  | tuple => exact PySem.callWith_type1 fin
  | int => exact PySem.callWith_type1 fin
  | str => exact PySem.callWith_type1 fin

theorem isinstE_sound {t : Str} {ty : Ty} {a : Expr} {p p2 pos : Pos} {x : X} (c : Ctx K A T C) (S : SE K A C f) (hb : tyName t = some ty) (hg : isG N "isinstance" = true) (hbin : ("isinstance" : Str) ∈ T.bins)
    (hgt : isG N t = true) (hbt : t ∈ T.bins) (h : f N a = some x)
    (hN : env.scope.names = N) (hn : EnvNew K.hb env) (E : EnvRel env ρ s.heap α) (r : R K.hb s.heap σ α) :
    Runs K VR A (eval (.Call (.Name "isinstance" p) [a, .Name t p2] [] pos) env) ((ev C x ρ σ).bind fun v σ => (isinstv v ty σ).bind fun b σ => .ok (.bool b) σ) s α := by
  intro hc tk
  obtain ⟨hm, v, hv, hmb⟩ := c.bin _ hbin
  obtain ⟨j, hj⟩ := isG_idx hg
  obtain ⟨hm2, v2, hv2, hmb2⟩ := c.bin _ hbt
  obtain ⟨j2, hj2⟩ := isG_idx hgt
  rw [biVal_ty hb] at hv2
  have hv' : v = .builtin "isinstance" := by
    have : biVal "isinstance" = some (.builtin "isinstance") := rfl
    rw [this] at hv; obtain rfl := Option.some.inj hv; rfl
  subst hv'
  obtain ⟨hp, H⟩ := S N a x h
  have H := (H env ρ σ s α hN hn E r).1
  refine wpAny_Call_Name_kw (name_bin c.hK r E.ok (by rw [hN]; exact hj) hm hmb ?_)
  rw [plain_star hp]
  refine Calls.callWith_builtin rfl (Calls.evalArgs_plain (Calls.spliced_cons ?_))
  refine Runs.use H hc tk fun v σ' α' y s' e1 hc' x' r' v' m' tk' => ?_
  rw [e1]
  refine Calls.spliced_cons (name_bin c.hK r' E.ok (by rw [hN]; exact hj2) hm2 hmb2 (Calls.spliced_nil ?_))
  show wpAny (model K.prog K.w) A (call (.builtin "isinstance") [y, v2]) _ _ _
  have h1 : isinstv v ty σ' ≠ .stuck := by intro q; rw [q] at hc'; exact hc' rfl
  refine wpAny_mono (isinst_sound hv2 r' v' h1 tk') (fun y s'' hp => ?_) fun e s'' hx => (hx.lift x' m').bind
  obtain ⟨b, σ'', α'', e2, x2, r2, v2, m2⟩ := hp
  exact ⟨.bool b, σ'', α'', by simp [Out.bind, e2], x'.trans x2, r2, v2.vr, m'.trans m2⟩

theorem excOf_is {x : Str} {c : Nat} (h : excOf T N x = some c) : isG N x = true ∧ ∃ q ∈ T.excs, q.1 = x ∧ q.2.1 = c := by
  unfold excOf at h
  refine onlyIf_e h fun hg h => ⟨hg, ?_⟩
  exact map_e (M := fun c => ∃ q ∈ T.excs, q.1 = x ∧ q.2.1 = c) h fun q hq => ⟨(x, q), look_mem hq, rfl, rfl⟩
theorem isexcE_sound {t : Str} {sup : List Nat} {a : Expr} {p p2 pos : Pos} {x : X} (c : Ctx K A T C) (S : SE K A C f) (hsup : excSup T N t = some sup) (hg : isG N "isinstance" = true) (hbin : ("isinstance" : Str) ∈ T.bins)
    (h : f N a = some x) (hN : env.scope.names = N) (hn : EnvNew K.hb env) (E : EnvRel env ρ s.heap α) (r : R K.hb s.heap σ α) :
    Runs K VR A (eval (.Call (.Name "isinstance" p) [a, .Name t p2] [] pos) env) ((ev C x ρ σ).bind fun v σ => (isexcv v sup (T.excs.map (·.2.1)) σ).bind fun b σ => .ok (.bool b) σ) s α := by
  intro hc tk
  obtain ⟨hm, v, hv, hmb⟩ := c.bin _ hbin
  obtain ⟨j, hj⟩ := isG_idx hg
  have hv' : v = .builtin "isinstance" := by
    have : biVal "isinstance" = some (.builtin "isinstance") := rfl
    rw [this] at hv; obtain rfl := Option.some.inj hv; rfl
  subst hv'
  have nm : ∃ cv, ((∃ q ∈ T.excs, cv = .ref q.2.1 ∧ sup = supOf T q.2.1) ∨ (cv = .type "ValueError" ∧ sup = T.excs.map (·.2.1))) ∧
      ∀ {s' : Shared} {σ' : Sto} {α' : AL} {Q X : Value → Shared → Prop}, R K.hb s'.heap σ' α' → Q cv s' → wpAny (model K.prog K.w) A (eval (.Name t p2) env) Q X s' := by
    unfold excSup at hsup
    refine optE_e hsup (fun c' hc' hsup => ?_) fun _ hsup => onlyIf_e hsup fun hb hsup => ?_
    · obtain rfl := Option.some.inj hsup
      obtain ⟨hg', q, hq, rfl, rfl⟩ := excOf_is hc'
      obtain ⟨j2, hj2⟩ := isG_idx hg'
      obtain ⟨Fg, X, H⟩ := c.exc
      exact ⟨_, .inl ⟨q, hq, rfl, rfl⟩, fun r' k => name_glob c.hK r' E.ok (by rw [hN]; exact hj2) (H q hq).1.mg k⟩
    · · obtain rfl := Option.some.inj hsup
        simp only [isB, Bool.and_eq_true, beq_iff_eq] at hb
        obtain ⟨rfl, hg', hb'⟩ := hb
        obtain ⟨j2, hj2⟩ := isG_idx hg'
        obtain ⟨hm2, v2, hv2, hmb2⟩ := c.bin _ (by simpa using hb')
        have : v2 = .type "ValueError" := by
          have : biVal "ValueError" = some (.type "ValueError") := rfl
          rw [this] at hv2; obtain rfl := Option.some.inj hv2; rfl
        subst this
        exact ⟨_, .inr ⟨rfl, rfl⟩, fun r' k => name_bin c.hK r' E.ok (by rw [hN]; exact hj2) hm2 hmb2 k⟩
  obtain ⟨cv, hcv, nm⟩ := nm
  obtain ⟨hp, H⟩ := S N a x h
  have H := (H env ρ σ s α hN hn E r).1
  refine wpAny_Call_Name_kw (name_bin c.hK r E.ok (by rw [hN]; exact hj) hm hmb ?_)
  rw [plain_star hp]
  refine Calls.callWith_builtin rfl (Calls.evalArgs_plain (Calls.spliced_cons ?_))
  refine Runs.use H hc tk fun v σ' α' y s' e1 hc' x' r' v' m' tk' => ?_
  rw [e1]
  refine Calls.spliced_cons (nm r' (Calls.spliced_nil ?_))
  show wpAny (model K.prog K.w) A (call (.builtin "isinstance") [y, cv]) _ _ _
  have h1 : isexcv v sup (T.excs.map (·.2.1)) σ' ≠ .stuck := by intro q; rw [q] at hc'; exact hc' rfl
  refine wpAny_mono (isexcv_sound c hcv r' v' h1 tk') (fun y s'' hp => ?_) fun e s'' hx => (hx.lift x' m').bind
  obtain ⟨b, σ'', α'', e2, x2, r2, v2, m2⟩ := hp
  exact ⟨.bool b, σ'', α'', by simp [Out.bind, e2], x'.trans x2, r2, v2.vr, m'.trans m2⟩

theorem binE_sound {o : Op} {l r' : Expr} {op : Operator} {pos : Pos} {a b : X} (c : Ctx K A T C) (S : SE K A C f) (ho : trOp op = some o) (h1 : f N l = some a) (h2 : f N r' = some b)
    (hN : env.scope.names = N) (hn : EnvNew K.hb env) (E : EnvRel env ρ s.heap α) (r : R K.hb s.heap σ α) :
    Runs K VR A (eval (.BinOp l op r' pos) env) (ev C (.bin o a b) ρ σ) s α := by
  have hop : op = opOf o := by cases op <;> cases ho <;> rfl
  subst hop
  simp only [ev_k, ev_v, ev_and, ev_or, ev_not, ev_neg, ev_bin, ev_cmp, ev_cmp2, ev_lst, ev_tup, ev_fdget, ev_comp, ev_call, ev_b1, ev_min2, ev_isinst, ev_me, ev_sub, ev_slice]
  rw [arm_eval_BinOp]
  refine Runs.bind ((S N l a h1).2 env ρ σ s α hN hn E r).1 fun va σ₁ α₁ y s₁ e1 x1 r1 v1 m1 => ?_
  refine Runs.bind (Runs.holding ((S N r' b h2).2 env ρ σ₁ s₁ α₁ hN hn (E.ext x1 .nil) r1).1) fun vb σ₂ α₂ y2 s₂ e2 x2 r2 v2 m2 => ?_
  exact Runs.standAt (Runs.operate (binop_sound c.hA r2 (v1.ext x2) v2))

theorem cmpE_sound {o : Cm} {l r' : Expr} {op : CmpOp} {pos : Pos} {a b : X} (c : Ctx K A T C) (S : SE K A C f) (ho : trCm op = some o) (h1 : f N l = some a) (h2 : f N r' = some b)
    (hN : env.scope.names = N) (hn : EnvNew K.hb env) (E : EnvRel env ρ s.heap α) (r : R K.hb s.heap σ α) :
    Runs K VR A (eval (.Compare l [op] [r'] pos) env) (ev C (.cmp a o b) ρ σ) s α ∧ Runs K RelEq A (isTrue (.Compare l [op] [r'] pos) env (eval (.Compare l [op] [r'] pos) env)) (tst C (.cmp a o b) ρ σ) s α := by
  have hop : op = cmOf o := by cases op <;> cases ho <;> rfl
  subst hop
  obtain ⟨hp2, H2⟩ := S N r' b h2
  have hmk : markedBehindIn (cmOf o) r' (eval r' env) = eval r' env := by unfold markedBehindIn; rw [plain_marks hp2]
  constructor
  · simp only [ev_k, ev_v, ev_and, ev_or, ev_not, ev_neg, ev_bin, ev_cmp, ev_cmp2, ev_lst, ev_tup, ev_fdget, ev_comp, ev_call, ev_b1, ev_min2, ev_isinst, ev_me, ev_sub, ev_slice]
    rw [arm_eval_Compare]
    refine Runs.bind ((S N l a h1).2 env ρ σ s α hN hn E r).1 fun va σ₁ α₁ y s₁ e1 x1 r1 v1 m1 => ?_
    show Runs K VR A (do let rv ← holding [y] (markedBehindIn (cmOf o) r' (eval r' env)); standAt pos; operate [y, rv] (compareOp (cmOf o) y rv)) _ _ _
    rw [hmk]
    refine Runs.bind (Runs.holding (H2 env ρ σ₁ s₁ α₁ hN hn (E.ext x1 .nil) r1).1) fun vb σ₂ α₂ y2 s₂ e2 x2 r2 v2 m2 => Runs.standAt (Runs.operate ?_)
    intro hc tk
    have h3 : cmpop o va vb σ₂ ≠ .stuck := by intro q; rw [q] at hc; exact hc rfl
    refine wpAny_mono (cmpop_sound c.hK c.hA r2 (v1.ext x2) v2 h3 tk) (fun y s'' hp => ?_) fun e s'' hx => hx.bind
    obtain ⟨bb, σ'', α'', e3, x3, r3, v3, m3⟩ := hp
    exact ⟨.bool bb, σ'', α'', by simp [Out.bind, e3], x3, r3, v3.vr, m3⟩
  · simp only [tst_and, tst_or, tst_not, tst_cmp, tst_cmp2, tst_call, tst_b1, tst_isinst, tst_v, tst_k]
    rw [arm_isTrue_Compare]
    refine Runs.bind ((S N l a h1).2 env ρ σ s α hN hn E r).1 fun va σ₁ α₁ y s₁ e1 x1 r1 v1 m1 => ?_
    show Runs K RelEq A (do let rv ← holding [y] (markedBehindIn (cmOf o) r' (eval r' env)); standAt pos; let c ← operate [y, rv] (compareOp (cmOf o) y rv); holding [c] (truthy c)) _ _ _
    rw [hmk]
    refine Runs.bind (Runs.holding (H2 env ρ σ₁ s₁ α₁ hN hn (E.ext x1 .nil) r1).1) fun vb σ₂ α₂ y2 s₂ e2 x2 r2 v2 m2 => Runs.standAt ?_
    intro hc tk
    refine wpAny_bind (wpAny_operating (wpAny_mono (cmpop_sound c.hK c.hA r2 (v1.ext x2) v2 hc tk) (fun y s'' hp => ?_) fun e s'' hx => hx))
    obtain ⟨bb, σ'', α'', e3, x3, r3, v3, m3⟩ := hp
    have : y = .bool bb := v3
    subst this
    exact wpAny_holding (wpAny_truthy_bool ⟨bb, σ'', α'', e3, x3, r3, rfl, m3⟩)

theorem Runs.release {vs ks : List Value} {β γ : Type} {Rel : Heap → AL → β → γ → Prop} {t : Sem γ} {c : Out β}
    (H : Runs K Rel A t c s α) : Runs K Rel A (do PySem.release vs ks; t) c s α :=
  fun h tk => wpAny_bind (wpAny_release' (H h tk))
end
end Mine

namespace Mine
open PySem PyProof.Rows

section
variable {K : Kt} {A : Around} {T : Tab} {C : Cfg} {f : List (Str × NameKind) → Expr → Option X} {N : List (Str × NameKind)} {env : Env} {ρ : Loc} {σ : Sto} {s : Shared} {α : AL}

theorem cmp2E_sound {o o2 : Cm} {l r' r2' : Expr} {op op2 : CmpOp} {pos : Pos} {a b b2 : X} (c : Ctx K A T C) (S : SE K A C f) (ho : trCm op = some o) (ho2 : trCm op2 = some o2) (h1 : f N l = some a) (h2 : f N r' = some b) (h3 : f N r2' = some b2)
    (hN : env.scope.names = N) (hn : EnvNew K.hb env) (E : EnvRel env ρ s.heap α) (r : R K.hb s.heap σ α) :
    Runs K VR A (eval (.Compare l [op, op2] [r', r2'] pos) env) (ev C (.cmp2 a o b o2 b2) ρ σ) s α ∧ Runs K RelEq A (isTrue (.Compare l [op, op2] [r', r2'] pos) env (eval (.Compare l [op, op2] [r', r2'] pos) env)) (tst C (.cmp2 a o b o2 b2) ρ σ) s α := by
  have hop : op = cmOf o := by cases op <;> cases ho <;> rfl
  subst hop
  have hop2 : op2 = cmOf o2 := by cases op2 <;> cases ho2 <;> rfl
  subst hop2
  obtain ⟨hp2, H2⟩ := S N r' b h2
  obtain ⟨hp3, H3⟩ := S N r2' b2 h3
  have hmk : markedBehindIn (cmOf o2) r2' (eval r2' env) = eval r2' env := by unfold markedBehindIn; rw [plain_marks hp3]
  constructor
  · simp only [ev_k, ev_v, ev_and, ev_or, ev_not, ev_neg, ev_bin, ev_cmp, ev_cmp2, ev_lst, ev_tup, ev_fdget, ev_comp, ev_call, ev_b1, ev_min2, ev_isinst, ev_me, ev_sub, ev_slice]
    rw [arm_eval_Compare]
    refine Runs.bind ((S N l a h1).2 env ρ σ s α hN hn E r).1 fun va σ₁ α₁ y s₁ e1 x1 r1 v1 m1 => ?_
    show Runs K VR A (do let rv ← holding [y] (eval r' env); standAt pos; let c ← holding [y, rv] (compareOp (cmOf o) y rv); release [y, rv] [c]; if ← holding [c, rv] (truthy c) then (do let rv' ← holding [rv] (markedBehindIn (cmOf o2) r2' (eval r2' env)); standAt pos; operate [rv, rv'] (compareOp (cmOf o2) rv rv')) else pure c) _ _ _
    rw [hmk]
    refine Runs.bind (Runs.holding (H2 env ρ σ₁ s₁ α₁ hN hn (E.ext x1 .nil) r1).1) fun vb σ₂ α₂ y2 s₂ e2 x2 r2 v2 m2 => Runs.standAt ?_
    refine Runs.bind (Runs.holding (cmpop_sound c.hK c.hA r2 (v1.ext x2) v2)) fun bb σ₃ α₃ y3 s₃ e3 x3 r3 v3 m3 => Runs.release ?_
    have : y3 = .bool bb := v3
    subst this
    intro hc tk
    refine wpAny_bind (wpAny_holding (wpAny_truthy_bool ?_))
    cases bb with
    | false => exact wpAny_pure ⟨_, _, _, rfl, .refl, r3, .bool _, .refl _⟩
    | true =>
      refine (Runs.bind (Runs.holding (H3 env ρ σ₃ s₃ α₃ hN hn (((E.ext x1 .nil).ext x2 .nil).ext x3 .nil) r3).1) fun vc σ₄ α₄ y4 s₄ e4 x4 r4 v4 m4 => Runs.standAt (Runs.operate ?_)) hc tk
      intro hc tk
      have h3 : cmpop o2 vb vc σ₄ ≠ .stuck := by intro q; rw [q] at hc; exact hc rfl
      refine wpAny_mono (cmpop_sound c.hK c.hA r4 ((v2.ext x3).ext x4) v4 h3 tk) (fun y s'' hp => ?_) fun e s'' hx => hx.bind
      obtain ⟨bb, σ'', α'', e3, x3, r3, v3, m3⟩ := hp
      exact ⟨.bool bb, σ'', α'', by simp [Out.bind, e3], x3, r3, v3.vr, m3⟩
  · simp only [tst_and, tst_or, tst_not, tst_cmp, tst_cmp2, tst_call, tst_b1, tst_isinst, tst_v, tst_k]
    rw [arm_isTrue_Compare]
    refine Runs.bind ((S N l a h1).2 env ρ σ s α hN hn E r).1 fun va σ₁ α₁ y s₁ e1 x1 r1 v1 m1 => ?_
    show Runs K RelEq A (do let rv ← holding [y] (eval r' env); standAt pos; let c ← holding [y, rv] (compareOp (cmOf o) y rv); release [y, rv] [c]; if ← holding [c, rv] (truthy c) then (do let rv' ← holding [rv] (markedBehindIn (cmOf o2) r2' (eval r2' env)); standAt pos; let c ← operate [rv, rv'] (compareOp (cmOf o2) rv rv'); holding [c] (truthy c)) else pure false) _ _ _
    rw [hmk]
    refine Runs.bind (Runs.holding (H2 env ρ σ₁ s₁ α₁ hN hn (E.ext x1 .nil) r1).1) fun vb σ₂ α₂ y2 s₂ e2 x2 r2 v2 m2 => Runs.standAt ?_
    refine Runs.bind (Runs.holding (cmpop_sound c.hK c.hA r2 (v1.ext x2) v2)) fun bb σ₃ α₃ y3 s₃ e3 x3 r3 v3 m3 => Runs.release ?_
    have : y3 = .bool bb := v3
    subst this
    intro hc tk
    refine wpAny_bind (wpAny_holding (wpAny_truthy_bool ?_))
    cases bb with
    | false => exact wpAny_pure ⟨_, _, _, rfl, .refl, r3, rfl, .refl _⟩
    | true =>
      refine (Runs.bind (Runs.holding (H3 env ρ σ₃ s₃ α₃ hN hn (((E.ext x1 .nil).ext x2 .nil).ext x3 .nil) r3).1) fun vc σ₄ α₄ y4 s₄ e4 x4 r4 v4 m4 => Runs.standAt ?_) hc tk
      intro hc tk
      refine wpAny_bind (wpAny_operating (wpAny_mono (cmpop_sound c.hK c.hA r4 ((v2.ext x3).ext x4) v4 hc tk) (fun y s'' hp => ?_) fun e s'' hx => hx))
      obtain ⟨bb, σ'', α'', e3, x3, r3, v3, m3⟩ := hp
      have : y = .bool bb := v3
      subst this
      exact wpAny_holding (wpAny_truthy_bool ⟨bb, σ'', α'', e3, x3, r3, rfl, m3⟩)

theorem notE_sound {e : Expr} {pos : Pos} {x : X} (S : SE K A C f) (h1 : f N e = some x)
    (hN : env.scope.names = N) (hn : EnvNew K.hb env) (E : EnvRel env ρ s.heap α) (r : R K.hb s.heap σ α) :
    Runs K VR A (eval (.UnaryOp .Not e pos) env) (ev C (.not x) ρ σ) s α ∧ Runs K RelEq A (isTrue (.UnaryOp .Not e pos) env (eval (.UnaryOp .Not e pos) env)) (tst C (.not x) ρ σ) s α := by
  have H := (S N e x h1).2 env ρ σ s α hN hn E r
  constructor
  · simp only [ev_k, ev_v, ev_and, ev_or, ev_not, ev_neg, ev_bin, ev_cmp, ev_cmp2, ev_lst, ev_tup, ev_fdget, ev_comp, ev_call, ev_b1, ev_min2, ev_isinst, ev_me, ev_sub, ev_slice]
    rw [arm_eval_UnaryOp]
    refine Runs.bind H.1 fun v σ₁ α₁ y s₁ e1 x1 r1 v1 m1 => Runs.standAt (Runs.holding ?_)
    intro hc tk
    have h3 : truthv v σ₁ ≠ .stuck := by intro q; rw [q] at hc; exact hc rfl
    refine not_value (wpAny_mono (truth_sound r1 v1 h3 tk) (fun b s'' hp => ?_) fun e s'' hx => hx.bind)
    obtain ⟨bb, σ'', α'', e3, x3, r3, v3, m3⟩ := hp
    have : b = bb := v3
    subst this
    exact ⟨.bool (!b), σ'', α'', by simp [Out.bind, e3], x3, r3, .bool _, m3⟩
  · simp only [tst_and, tst_or, tst_not, tst_cmp, tst_cmp2, tst_call, tst_b1, tst_isinst, tst_v, tst_k]
    rw [arm_isTrue_UnaryOp]
    refine Runs.bind H.2 fun b σ₁ α₁ y s₁ e1 x1 r1 v1 m1 => ?_
    have : y = b := v1
    subst this
    exact Runs.pure r1 rfl

theorem negE_sound {e : Expr} {pos : Pos} {x : X} (S : SE K A C f) (h1 : f N e = some x)
    (hN : env.scope.names = N) (hn : EnvNew K.hb env) (E : EnvRel env ρ s.heap α) (r : R K.hb s.heap σ α) :
    Runs K VR A (eval (.UnaryOp .USub e pos) env) (ev C (.neg x) ρ σ) s α := by
  simp only [ev_k, ev_v, ev_and, ev_or, ev_not, ev_neg, ev_bin, ev_cmp, ev_cmp2, ev_lst, ev_tup, ev_fdget, ev_comp, ev_call, ev_b1, ev_min2, ev_isinst, ev_me, ev_sub, ev_slice]
  rw [arm_eval_UnaryOp]
  exact Runs.bind ((S N e x h1).2 env ρ σ s α hN hn E r).1 fun v σ₁ α₁ y s₁ e1 x1 r1 v1 m1 => Runs.standAt (Runs.holding (neg_sound r1 v1))

theorem listE_sound {es : List Expr} {pos : Pos} {xs : X} {fz : Bool} (S : SE K A C f) (h : trL (f N) es = some xs)
    (hN : env.scope.names = N) (hn : EnvNew K.hb env) (E : EnvRel env ρ s.heap α) (r : R K.hb s.heap σ α) :
    Runs K VR A (eval (.List es pos) env) (ev C (.lst fz xs) ρ σ) s α := by
  simp only [ev_k, ev_v, ev_and, ev_or, ev_not, ev_neg, ev_bin, ev_cmp, ev_cmp2, ev_lst, ev_tup, ev_fdget, ev_comp, ev_call, ev_b1, ev_min2, ev_isinst, ev_me, ev_sub, ev_slice]
  rw [arm_eval_List]
  exact Runs.standAt (Runs.bind (evs_sound S h hN hn E r) fun vs σ₁ α₁ us s₁ e1 x1 r1 v1 m1 => newList_sound r1 v1)
theorem tupE_sound {es : List Expr} {k : Nat} {pos : Pos} {xs : X} (S : SE K A C f) (h : trL (f N) es = some xs)
    (hN : env.scope.names = N) (hn : EnvNew K.hb env) (E : EnvRel env ρ s.heap α) (r : R K.hb s.heap σ α) :
    Runs K VR A (eval (.Tuple es k pos) env) (ev C (.tup xs) ρ σ) s α := by
  simp only [ev_k, ev_v, ev_and, ev_or, ev_not, ev_neg, ev_bin, ev_cmp, ev_cmp2, ev_lst, ev_tup, ev_fdget, ev_comp, ev_call, ev_b1, ev_min2, ev_isinst, ev_me, ev_sub, ev_slice]
  rw [arm_eval_Tuple]
  exact Runs.standAt (Runs.bind (evs_sound S h hN hn E r) fun vs σ₁ α₁ us s₁ e1 x1 r1 v1 m1 => newTuple_sound r1 v1)

theorem subE_sound {o i : Expr} {pos : Pos} {x y : X} (c : Ctx K A T C) (S : SE K A C f) (hns : ∀ l u st p, i ≠ .Slice l u st p) (h1 : f N o = some x) (h2 : f N i = some y)
    (hN : env.scope.names = N) (hn : EnvNew K.hb env) (E : EnvRel env ρ s.heap α) (r : R K.hb s.heap σ α) :
    Runs K VR A (eval (.Subscript o i pos) env) (ev C (.sub x y) ρ σ) s α := by
  simp only [ev_k, ev_v, ev_and, ev_or, ev_not, ev_neg, ev_bin, ev_cmp, ev_cmp2, ev_lst, ev_tup, ev_fdget, ev_comp, ev_call, ev_b1, ev_min2, ev_isinst, ev_me, ev_sub, ev_slice]
  rw [arm_eval_Subscript]
  refine Runs.bind ((S N o x h1).2 env ρ σ s α hN hn E r).1 fun va σ₁ α₁ y1 s₁ e1 x1 r1 v1 m1 => ?_
  refine Runs.bind (Runs.holding ((S N i y h2).2 env ρ σ₁ s₁ α₁ hN hn (E.ext x1 .nil) r1).1) fun vb σ₂ α₂ y2 s₂ e2 x2 r2 v2 m2 => Runs.standAt ?_
  exact subv_sound c.hA (fun l u p => hns l u none p) r2 (v1.ext x2) v2

theorem base_plain {o : Expr} {m : Str} {whole : Sem Value} (h : notCall0 o = true) : attributeBase o m env whole = whole := by
  cases o with
  | Call f a k p =>
    cases a with
    | nil => contradiction
    | cons x r => cases f <;> rfl
  | _ => rfl

theorem append_raw {r : Nat} {a : Addr} {v : PV} {u : Value} {xs : List PV} (R₀ : R K.hb s.heap σ α) (ea : α.ix[r]? = some a) (hs : σ[r]? = some (.lst xs)) (hl : xs.length < lim) (vu : VR s.heap α v u) {X : Value → Shared → Prop} :
    wpAny (model K.prog K.w) A (call (.builtin "list.append") [.ref a, u]) (Post K VR (.ok .none (σ.set r (.lst (xs ++ [v])))) s α) X s := by
  obtain ⟨items, n, e1, w⟩ := R₀.obj r _ a hs ea
  refine wpAny_list_append_plain ⟨n, e1⟩ (fun h' hl' sb => ?_) (by simp; rw [← w.1]; exact lim_line (Nat.le_of_lt hl))
  obtain ⟨n', e'⟩ := hl'
  obtain ⟨r', x'⟩ := R₀.set (m := .lst (xs ++ [v])) ea (fun b o hb e => (sb.2 b hb).trans e) e' fun x' => ⟨items ++ [u], n', by rw [e']; simp, (w.snoc vu).ext x'⟩
  exact ⟨.none, _, α, rfl, x', r', .none, ⟨rfl, rfl⟩⟩

end
end Mine

namespace Mine
open PySem PyProof.Rows

/-! methods of lists and texts, with one argument -/
noncomputable def meT : Me → String
  | .get => "dict"
  | _ => "list"
noncomputable def meId : Me → String
  | .append => "list.append" | .extend => "list.extend" | .pop => "list.pop"
  | .get => "dict.get"
noncomputable def meN : Me → Str
  | .append => "append" | .extend => "extend" | .pop => "pop"
  | .get => "get"
theorem meName_is {x : Str} {m : Me} (h : meName x = some m) : x = meN m :=
  (show ∀ p ∈ meTab, p.1 = meN p.2 from (by repeat (first | refine List.forall_mem_cons.mpr ⟨rfl, ?_⟩ | exact fun _ h => nomatch h))) _ (look_mem h)

theorem strOk_take {c : Nat} {x : Str} (h : PyData.strOk x = true) {a : Str} (ha : ∀ d ∈ a.cps.toList, d ∈ x.cps.toList) : PyData.strOk a = true := by
  unfold PyData.strOk at h ⊢
  simp only [Array.all_eq_true'] at h ⊢
  intro d hd
  exact h d (by simpa using ha d (by simpa using hd))
section
variable {K : Kt} {A : Around} {s : Shared} {α : AL} {σ : Sto}

theorem VRs.eraseIdx {h : Heap} : ∀ {xs : List PV} {vs : List Value} (k : Nat), VRs h α xs vs → VRs h α (xs.eraseIdx k) (vs.eraseIdx k)
  | [], vs, k, v => by
    have : vs = [] := List.eq_nil_of_length_eq_zero v.1.symm
    subst this; simpa using v
  | x :: xs, vs, 0, v => by
    obtain ⟨u, us, rfl, v1, v2⟩ := v.inv_cons
    exact v2
  | x :: xs, vs, k + 1, v => by
    obtain ⟨u, us, rfl, v1, v2⟩ := v.inv_cons
    exact .cons v1 (v2.eraseIdx k)

theorem upd_at {h : Heap} {a : Addr} {items : Array Value} {n : Nat} {g : Array Value → Array Value} (e : h.get? a = some { cls := .type "list", data := .seq items n }) :
    ∃ n', (h.update a (Obj.mapSeq g)).get? a = some { cls := .type "list", data := .seq (g items) n' } := by
  exact ⟨_, Heap.get?_update_self (Obj.mapSeq g) e rfl⟩
theorem upd_ne {h : Heap} {a b : Addr} {g : Obj → Obj} (hb : b ≠ a) : (h.update a g).get? b = h.get? b := Heap.get?_update_ne h b a g hb

theorem pop_raw {r : Nat} {a : Addr} {i : Int} {t : Tok} {v : PV} {xs : List PV} (R₀ : R K.hb s.heap σ α) (ea : α.ix[r]? = some a) (hs : σ[r]? = some (.lst xs)) (h0 : 0 ≤ i) (hl : xs.length ≤ lim) (hv : xs[i.toNat]? = some v) {X : Value → Shared → Prop} :
    wpAny (model K.prog K.w) A (call (.builtin "list.pop") [.ref a, .int i t]) (Post K VR (.ok v (σ.set r (.lst (xs.eraseIdx i.toNat)))) s α) X s := by
  obtain ⟨items, n, e1, w⟩ := R₀.obj r _ a hs ea
  obtain ⟨u, hu, vu⟩ := w.get hv
  have hi := (List.getElem?_eq_some_iff.mp hv).1
  have hl63 := lim63 hl
  have hlen := w.1
  refine call_meets F.slot_list_pop ⟨_, e1, rfl⟩ F.entry_list_pop (F.args_list_pop_2 _ _) (MeetsSeq.list_pop_at a items.toArray n i t i.toNat u ?_ ?_ (by simpa using hu) (by rw [List.size_toArray, ← w.1]; exact lim_line hl)) ⟨e1, ?_⟩
  · unfold Builtin.List.listFitsIndex; simp; omega
  · rw [← seqIdx_eq]; unfold seqIdx; rw [if_pos h0, if_pos (by simp; omega)]
  · obtain ⟨n', e'⟩ := upd_at (g := fun xs => xs.eraseIdxIfInBounds i.toNat) e1
    have e2 : (items.toArray.eraseIdxIfInBounds i.toNat) = (items.eraseIdx i.toNat).toArray := by
      simp
    rw [e2] at e'
    obtain ⟨r', x'⟩ := R₀.set (m := .lst (xs.eraseIdx i.toNat)) ea (fun b o hb e => (upd_ne hb).trans e) e' fun x' => ⟨_, n', e', (w.eraseIdx _).ext x'⟩
    exact ⟨v, _, α, rfl, x', r', vu.ext x', ⟨rfl, rfl⟩⟩

theorem extend_raw {r : Nat} {a b : Addr} {xs ys : List PV} {vs : List Value} {m : Nat} {T : String} (hT : T = "tuple" ∨ T = "list") (R₀ : R K.hb s.heap σ α) (ea : α.ix[r]? = some a) (hs : σ[r]? = some (.lst xs)) (hl : xs.length + ys.length ≤ lim)
    (e2 : s.heap.get? b = some { cls := .type T, data := .seq vs.toArray m }) (w2 : VRs s.heap α ys vs) {X : Value → Shared → Prop} :
    wpAny (model K.prog K.w) A (call (.builtin "list.extend") [.ref a, .ref b]) (Post K VR (.ok .none (σ.set r (.lst (xs ++ ys)))) s α) X s := by
  obtain ⟨items, n, e1, w⟩ := R₀.obj r _ a hs ea
  have hlen := w.1
  have hlen2 := w2.1
  have hln := lim_line hl
  have hll := lim63 hl
  have door : ¬(!items.toArray.isEmpty && Builtin.List.listTooLong (items.toArray.size + vs.toArray.size)) = true := by
    rw [List.size_toArray, List.size_toArray, ← hlen, ← hlen2]
    have : Builtin.List.listTooLong (xs.length + ys.length) = false := by unfold Builtin.List.listTooLong; simpa using hln
    rw [this]; simp
  have fin : Post K VR (.ok .none (σ.set r (.lst (xs ++ ys)))) s α .none { s with heap := s.heap.update a (Obj.mapSeq fun x => x ++ vs.toArray) } := by
    obtain ⟨n', e'⟩ := upd_at (g := fun x => x ++ vs.toArray) e1
    have e3 : items.toArray ++ vs.toArray = (items ++ vs).toArray := by simp
    simp only [e3] at e'
    obtain ⟨r', x'⟩ := R₀.set (m := .lst (xs ++ ys)) ea (fun b o hb e => (upd_ne hb).trans e) e' fun x' => ⟨_, n', e', (w.append w2).ext x'⟩
    exact ⟨.none, _, α, rfl, x', r', .none, ⟨rfl, rfl⟩⟩
  rcases hT with rfl | rfl
  · exact call_meets F.slot_list_extend ⟨_, e1, rfl⟩ F.entry_list_extend (F.args_list_extend_2 _ _) (AutoSeq1.list_extend_list_tuple_0 a items.toArray n b vs.toArray m door (by rw [List.size_toArray]; omega) (by rw [List.size_toArray, List.size_toArray]; omega)) ⟨e1, e2, fin⟩
  · exact call_meets F.slot_list_extend ⟨_, e1, rfl⟩ F.entry_list_extend (F.args_list_extend_2 _ _) (AutoSeq1.list_extend_list_list_0 a items.toArray n b vs.toArray m door (by rw [List.size_toArray]; omega) (by rw [List.size_toArray, List.size_toArray]; omega)) ⟨e1, e2, fin⟩

theorem mev_sound {m : Me} {o v : PV} {x u : Value} (hK : K.Ok) (hA : AOk A) (r : R K.hb s.heap σ α) (va : VR s.heap α o x) (vv : VR s.heap α v u) : Runs K VR A (call (.builtin (meId m)) [x, u]) (mev m o [v] σ) s α := by
  intro hc tk
  cases m with
  | append =>
    change appendv o v σ ≠ .stuck at hc
    change wpAny _ _ _ (Post K VR (appendv o v σ) s α) (PostX K A (appendv o v σ) s α) s
    unfold appendv at hc ⊢
    split at hc
    · cases va with | @ref _ a ea =>
      split at hc
      · rename_i hs
        split at hc
        · rename_i hl; rw [if_pos hl]; exact append_raw r ea hs hl vv
        · exact absurd rfl hc
      · exact absurd rfl hc
    · exact absurd rfl hc
  | extend =>
    change extendv o v σ ≠ .stuck at hc
    change wpAny _ _ _ (Post K VR (extendv o v σ) s α) (PostX K A (extendv o v σ) s α) s
    unfold extendv at hc ⊢
    split at hc
    · cases va with | @ref _ a ea =>
      split at hc
      · rename_i hs
        split at hc
        · obtain ⟨b, vs, n, rfl, e1, _, w⟩ := vv.tupE
          split at hc
          · rename_i hl; rw [if_pos hl]; exact extend_raw (.inl rfl) r ea hs hl e1 w
          · exact absurd rfl hc
        · obtain ⟨b, vs, n, rfl, e1, _, w⟩ := vv.flE
          split at hc
          · rename_i hl; rw [if_pos hl]; exact extend_raw (.inr rfl) r ea hs hl e1 w
          · exact absurd rfl hc
        · exact absurd rfl hc
      · exact absurd rfl hc
    · exact absurd rfl hc
  | pop =>
    change popv o v σ ≠ .stuck at hc
    change wpAny _ _ _ (Post K VR (popv o v σ) s α) (PostX K A (popv o v σ) s α) s
    unfold popv at hc ⊢
    split at hc
    · cases va with | @ref _ a ea =>
      split at hc
      · rename_i hs
        split at hc
        · cases vv
          split at hc
          · rename_i hl; rw [if_pos hl]
            split at hc
            · rename_i w hw; exact pop_raw r ea hs hl.1 hl.2 hw
            · exact absurd rfl hc
          · exact absurd rfl hc
        · exact absurd rfl hc
      · exact absurd rfl hc
    · exact absurd rfl hc
  | get =>
    change getv o v σ ≠ .stuck at hc
    change wpAny _ _ _ (Post K VR (getv o v σ) s α) (PostX K A (getv o v σ) s α) s
    unfold getv at hc ⊢
    split at hc
    · cases va with | @ref _ a ea =>
      split at hc
      · rename_i hs
        split at hc
        · cases vv; exact get_ds hK r hs ea
        · exact absurd rfl hc
      · rename_i hs
        split at hc
        · rename_i k hk; exact get_dp hK hA r hs ea hk vv
        · exact absurd rfl hc
      · exact absurd rfl hc
    · exact absurd rfl hc

theorem me_facts (m : Me) : PlainAttrs (meT m) ∧ Slot (meT m) (meN m) (meId m) ∧ typeOf (.builtin (meId m)) = pure (.type "method_descriptor") := by
  cases m
  · exact ⟨F.plainAttrs_list, F.slot_list_append, F.type_list_append⟩
  · exact ⟨F.plainAttrs_list, F.slot_list_extend, F.type_list_extend⟩
  · exact ⟨F.plainAttrs_list, F.slot_list_pop, F.type_list_pop⟩
  · exact ⟨F.plainAttrs_dict, F.slot_dict_get, F.type_dict_get⟩
/-- the object is of the method's kind -/
theorem meOk_is {m : Me} {o : PV} {x : Value} (r : R K.hb s.heap σ α) (va : VR s.heap α o x) (h : meOk m o σ = true) : s.TypeIs x (meT m) ∧ ∀ a, x = .ref a → ∃ ob, s.heap.get? a = some ob ∧ ob.dict = none := by
  have lst : ∀ xs, asLst σ o = some xs → s.TypeIs x "list" ∧ ∀ a, x = .ref a → ∃ ob, s.heap.get? a = some ob ∧ ob.dict = none := fun xs e => by
    obtain ⟨l, vs, n, rfl, e1, _⟩ := asLst_is r va e
    exact ⟨⟨_, e1, rfl⟩, fun a ha => by cases ha; exact ⟨_, e1, rfl⟩⟩
  have mutb : isMut o σ = true → ∃ xs, asLst σ o = some xs := fun h => by
    unfold isMut at h
    split at h
    · split at h
      · rename_i xs hs; exact ⟨xs, by simp [asLst, hs]⟩
      · contradiction
    · contradiction
  have txt : isTxt o = true → s.TypeIs x "str" ∧ ∀ a, x = .ref a → ∃ ob, s.heap.get? a = some ob ∧ ob.dict = none := fun h => by
    cases o with
    | str z => cases va; exact ⟨typeIs_str _ _ _, fun a ha => by cases ha⟩
    | _ => contradiction
  cases m with
  | append => obtain ⟨xs, e⟩ := mutb h; exact lst xs e
  | extend => obtain ⟨xs, e⟩ := mutb h; exact lst xs e
  | pop => obtain ⟨xs, e⟩ := mutb h; exact lst xs e
  | get =>
    change isDic o σ = true at h
    unfold isDic at h
    split at h
    · cases va with | @ref _ a ea =>
      split at h
      · rename_i hs
        obtain ⟨kvs, h1, _⟩ := ds_at r hs ea
        exact ⟨h1.typeIs, h1.mapOf.noDict⟩
      · rename_i hs
        obtain ⟨xs, h1, _⟩ := dp_at r hs ea
        exact ⟨h1.typeIs, dictOfH_noDict h1⟩
      · contradiction
    · contradiction
end

section
variable {K : Kt} {A : Around} {T : Tab} {C : Cfg} {f : List (Str × NameKind) → Expr → Option X} {N : List (Str × NameKind)} {env : Env} {ρ : Loc} {σ : Sto} {s : Shared} {α : AL}

theorem meE_sound {m : Me} {mn : Str} {o a : Expr} {apos pos : Pos} {x y : X} (c : Ctx K A T C) (S : SE K A C f) (hm : meName mn = some m) (hline : (apos.endLine == pos.line) = true) (hn0 : notCall0 o = true) (h1 : f N o = some x) (h2 : f N a = some y)
    (hN : env.scope.names = N) (hn : EnvNew K.hb env) (E : EnvRel env ρ s.heap α) (r : R K.hb s.heap σ α) :
    Runs K VR A (eval (.Call (.Attribute o mn apos) [a] [] pos) env) (ev C (.me m x (.cons y .nil)) ρ σ) s α := by
  rw [meName_is hm, ev_me]
  intro hc tk
  obtain ⟨hp, H2⟩ := S N a y h2
  refine Call_method1 (base_plain hn0) (plain_star hp) hline ?_
  refine Runs.use ((S N o x h1).2 env ρ σ s α hN hn E r).1 hc tk fun va σ₁ α₁ y1 s₁ e1 hc1 x1 r1 v1 m1 tk1 => ?_
  rw [e1]
  split at hc1
  · rename_i hok
    obtain ⟨q1, q2, q3⟩ := me_facts m
    obtain ⟨q4, q5⟩ := meOk_is r1 v1 hok
    refine ⟨meT m, meId m, q1, q2, q3, q4, q5, ?_⟩
    refine Calls.callWith_builtin (by cases m <;> rfl) (Calls.evalArgs_plain (Calls.spliced_cons ?_))
    simp only [Out.bind, hok, if_true, evs_cons, evs_nil] at hc1 ⊢
    have H := (H2 env ρ σ₁ s₁ α₁ hN hn (E.ext x1 .nil) r1).1
    have h3 : ev C y ρ σ₁ ≠ .stuck := by intro q; rw [q] at hc1; exact hc1 rfl
    refine wpAny_mono (toks_up (H h3 tk1)) (fun u s₂ hp => ?_) fun e s₂ hx => ?_
    · obtain ⟨⟨pv, σ₂, α₂, e2, x2, r2, v2, m2⟩, tl2⟩ := hp
      rw [e2] at hc1 ⊢
      refine Calls.spliced_nil ?_
      exact wpAny_mono (mev_sound c.hK c.hA r2 (v1.ext x2) v2 hc1 (Kt.Tk.up tk1 tl2)) (fun y s'' hp => hp.lift (x1.trans x2) (m1.trans m2)) fun _ _ e => e.lift (x1.trans x2) (m1.trans m2)
    · obtain ⟨⟨i, σ₂, e2, nt, fx⟩, _⟩ := hx
      exact ⟨i, σ₂, by rw [e2], nt, fx.lift x1 m1⟩
  · exact absurd rfl hc1
end
end Mine

namespace Mine
open PySem PyProof.Rows

/-! slices, min of two, how many unlike -/
theorem VRs.drop {h : Heap} {α : AL} : ∀ {xs : List PV} {vs : List Value} (k : Nat), VRs h α xs vs → VRs h α (xs.drop k) (vs.drop k)
  | _, _, 0, v => v
  | [], vs, k + 1, v => by
    have : vs = [] := List.eq_nil_of_length_eq_zero v.1.symm
    subst this; exact .nil
  | x :: xs, vs, k + 1, v => by
    obtain ⟨u, us, rfl, v1, v2⟩ := v.inv_cons
    exact v2.drop k
theorem VRs.take {h : Heap} {α : AL} : ∀ {xs : List PV} {vs : List Value} (k : Nat), VRs h α xs vs → VRs h α (xs.take k) (vs.take k)
  | _, _, 0, v => .nil
  | [], vs, k + 1, v => by
    have : vs = [] := List.eq_nil_of_length_eq_zero v.1.symm
    subst this; exact .nil
  | x :: xs, vs, k + 1, v => by
    obtain ⟨u, us, rfl, v1, v2⟩ := v.inv_cons
    exact .cons v1 (v2.take k)

section
variable {K : Kt} {A : Around} {s : Shared} {α : AL} {σ : Sto}

theorem part_is {p : PV} {v : Value} {k : Option Int} (h : optInt p = some k) (r : VR s.heap α p v) : IsPart v k := by
  cases p with
  | none => obtain rfl := Option.some.inj h; cases r; exact .none
  | int i => obtain rfl := Option.some.inj h; cases r; exact .int _ _
  | _ => contradiction

theorem VRs.slice {h : Heap} {xs : List PV} {vs : List Value} (v : VRs h α xs vs) (lo hi : Option Int) : VRs h α (sliceOf xs lo hi) (sliceOf vs lo hi) := by
  unfold sliceOf
  rw [v.1]
  exact (v.drop _).take _
theorem pick_slice {vs : List Value} {lo hi : Option Int} : slicePick vs.toArray lo hi none = (sliceOf vs lo hi).toArray := by
  rw [slicePick_plain]; simp [sliceOf]

/-! a tuple's slice -/
theorem slicePart_is {v : Value} {k : Option Int} {Q : Option Int → Shared → Prop} {E : Value → Shared → Prop} (p : IsPart v k) (h : Q k s) : wpAny (model K.prog K.w) A (Builtin.Slice.slicePartIndex v) Q E s := by
  cases p with
  | none => exact slicePart_none h
  | int i t => exact slicePart_int h
noncomputable def loOf (lo : Option Int) (n : Nat) : Nat := lo.elim 0 (clipAt n)
noncomputable def hiOf (hi : Option Int) (n : Nat) : Nat := hi.elim n (clipAt n)
theorem clip_le {n : Nat} {i : Int} : clipAt n i ≤ n := Int.toNat_le.mpr (Int.max_le.mpr ⟨Int.natCast_nonneg n, Int.min_le_right _ _⟩)
theorem clip_is (n : Nat) (i : Int) : (if i < 0 then max (i + n) 0 else min i n) = ((clipAt n i : Nat) : Int) := by
  rw [clipAt_cast]
  by_cases h : i < 0
  · rw [if_pos h, if_pos h]; omega
  · rw [if_neg h, if_neg h]; omega
theorem adjust_is (lo hi : Option Int) (n : Nat) : Builtin.Slice.sliceAdjust lo hi 1 (n : Int) = (((loOf lo n : Nat) : Int), ((hiOf hi n : Nat) : Int)) := by
  unfold Builtin.Slice.sliceAdjust loOf hiOf
  have h1 : ¬ ((1 : Int) < 0) := by (decide)
  simp only [h1, if_false]
  cases lo <;> cases hi <;> simp only [Option.elim, clip_is] <;> rfl
theorem places_is (a b : Nat) : Builtin.Slice.slicePlaces (a : Int) (b : Int) 1 = b - a := by
  unfold Builtin.Slice.slicePlaces
  have h1 : (1 : Int) > 0 := by (decide)
  simp only [h1, if_true, Int.ediv_one]
  split <;> omega
theorem sliceApplied_is {sl : Addr} {n : Nat} {vl vu : Value} {lo hi : Option Int} {Q : Int × Int × Nat → Shared → Prop} {E : Value → Shared → Prop} (hs : s.heap.IsSliceOf sl vl vu .none) (pl : IsPart vl lo) (pu : IsPart vu hi)
    (h : Q (((loOf lo n : Nat) : Int), 1, hiOf hi n - loOf lo n) s) : wpAny (model K.prog K.w) A (Builtin.Slice.sliceApplied (.ref sl) (pure (n : Int))) Q E s := by
  obtain ⟨os, hos, hcs, hds⟩ := id hs
  unfold Builtin.Slice.sliceApplied Builtin.Slice.sliceFields
  refine wpAny_bind (wpAny_bind (wpAny_field hos hds (x := vl) rfl (wpAny_bind (wpAny_field hos hds (x := vu) rfl (wpAny_bind (wpAny_field hos hds (x := .none) rfl (wpAny_pure ?_)))))))
  refine wpAny_bind (slicePart_none ?_)
  show wpAny _ _ (if ((1 : Int) == 0) = true then _ else _) _ _ s
  rw [if_neg (by decide)]
  refine wpAny_bind (slicePart_is pl (wpAny_bind (slicePart_is pu (wpAny_bind (wpAny_pure ?_)))))
  show wpAny _ _ (match Builtin.Slice.sliceAdjust lo hi 1 (n : Int) with | (lo, hi) => pure (lo, (1 : Int), Builtin.Slice.slicePlaces lo hi 1)) _ _ s
  rw [adjust_is]
  show wpAny _ _ (pure (((loOf lo n : Nat) : Int), (1 : Int), Builtin.Slice.slicePlaces ((loOf lo n : Nat) : Int) ((hiOf hi n : Nat) : Int) 1)) _ _ s
  rw [places_is]
  exact wpAny_pure h
theorem pickT_is (xs : List Value) (a k : Nat) : ((List.range k).filterMap fun (j : Nat) => xs.toArray[((a : Int) + (j : Int) * 1).toNat]?).toArray = ((xs.drop a).take k).toArray := by
  have e : (fun (j : Nat) => xs.toArray[((a : Int) + (j : Int) * 1).toNat]?) = fun j => xs.toArray[a + j]? := by
    funext j
    have : ((a : Int) + (j : Int) * 1).toNat = a + j := by omega
    rw [this]
  rw [e]
  have := pick_run xs.toArray a k
  rw [List.filterMap_map] at this
  have e2 : ((fun x => xs.toArray[x]?) ∘ fun x => a + x) = fun j => xs.toArray[a + j]? := rfl
  rw [e2] at this
  rw [this]
theorem slice_len {β : Type} (xs : List β) (lo hi : Option Int) : (sliceOf xs lo hi).length ≤ xs.length := by
  unfold sliceOf
  exact Nat.le_trans (List.length_take_le' _ _) (by rw [List.length_drop]; exact Nat.sub_le _ _)
theorem tupSlice_raw {t sl : Addr} {vs : List Value} {n : Nat} {vl vu : Value} {lo hi : Option Int} {Q : Value → Shared → Prop} {E : Value → Shared → Prop} (ht : s.heap.get? t = some { cls := .type "tuple", data := .seq vs.toArray n })
    (hs : s.heap.IsSliceOf sl vl vu .none) (pl : IsPart vl lo) (pu : IsPart vu hi) (hsz : vs.length ≤ sizeLine)
    (h1 : sliceOf vs lo hi = vs → Q (.ref t) s) (h2 : Q (.ref s.heap.objs.size) { s with heap := s.heap.push { cls := .type "tuple", data := .seq (sliceOf vs lo hi).toArray } }) :
    wpAny (model K.prog K.w) A (getItem (.ref t) (.ref sl)) Q E s := by
  have ht' := isT ht
  obtain ⟨os, hos, hcs, hds⟩ := id hs
  have hTs : s.TypeIs (.ref sl) "slice" := ⟨os, hos, hcs⟩
  have hok : sizeOk (.seq (sliceOf vs lo hi).toArray) := by
    show (sliceOf vs lo hi).toArray.size ≤ sizeLine
    rw [List.size_toArray]
    exact Nat.le_trans (slice_len vs lo hi) hsz
  unfold getItem
  try with_reducible refine wpAny_holding ?_
  first | refine wpAny_bind (wpAny_pure ?_) | skip
  refine wpAny_bind (wpAny_sequenceKey ht'.typeIs (by decide) ?_)
  refine wpAny_bind (wpAny_callSpecial?_slot (name := Str.ofString "__getitem__") ht'.typeIs slot_tuple_getitem
    (wpAny_call_entry slot_tuple_getitem ht'.typeIs entry_tuple_getitem ?_ (args_tuple_getitem _ _)))
  show wpAny _ _ (Builtin.Tuple.tupleItemsOf (.ref t) >>= _) _ _ s
  refine wpAny_bind (tupleItemsOf_ ht' ?_)
  refine wpAny_bind (wpAny_typeOf hTs ?_)
  rw [if_pos (by decide)]
  refine wpAny_bind (sliceApplied_is (n := vs.toArray.size) hs pl pu ?_)
  rw [List.size_toArray]
  have fin : ∀ (B : Around), wpAny (model K.prog K.w) B (Builtin.Tuple.tupleExact ((List.range (hiOf hi vs.length - loOf lo vs.length)).filterMap fun (k : Nat) => vs.toArray[(((loOf lo vs.length : Nat) : Int) + (k : Int) * 1).toNat]?).toArray) (fun v s' => v = .ref s.heap.objs.size ∧ s' = { s with heap := s.heap.push { cls := .type "tuple", data := .seq (sliceOf vs lo hi).toArray } }) (fun _ _ => False) s := fun B => by
    rw [pickT_is]
    exact wpAny_newObj_type ⟨rfl, rfl⟩ hok
  show wpAny _ _ (if (((loOf lo vs.length : Nat) : Int) == 0 && (1 : Int) == 1 && (hiOf hi vs.length - loOf lo vs.length) == vs.length) = true then _ else _) _ _ s
  by_cases hc : (((loOf lo vs.length : Nat) : Int) == 0 && (1 : Int) == 1 && (hiOf hi vs.length - loOf lo vs.length) == vs.length) = true
  · rw [if_pos hc]
    simp only [Bool.and_eq_true, beq_iff_eq] at hc
    have hw : sliceOf vs lo hi = vs := by
      have z1 : loOf lo vs.length = 0 := by have := hc.1.1; omega
      have z2 : hiOf hi vs.length = vs.length := by have := hc.2; rw [z1] at this; (assumption)
      show (vs.drop (loOf lo vs.length)).take (hiOf hi vs.length - loOf lo vs.length) = vs
      rw [z1, z2]; simp
    unfold Builtin.Tuple.tupleIsExact
    refine wpAny_bind (wpAny_bind (wpAny_typeOf ht'.typeIs (wpAny_pure ?_)))
    rw [if_pos (by decide)]
    first
      | exact wpAny_bind (wpAny_rule (wpAny_pure ⟨_, rfl, wpAny_pure (h1 hw)⟩))
      | exact wpAny_bind (wpAny_bind (wpAny_rule (wpAny_pure (wpAny_pure ⟨_, rfl, wpAny_pure (h1 hw)⟩))))
      | exact wpAny_bind (wpAny_rule (wpAny_bind (wpAny_pure (wpAny_pure ⟨_, rfl, wpAny_pure (h1 hw)⟩))))
  · rw [if_neg hc]
    first
      | exact wpAny_bind (wpAny_mono (fin _) (fun v s' e => by obtain ⟨rfl, rfl⟩ := e; exact wpAny_pure ⟨_, rfl, wpAny_pure h2⟩) fun _ _ e => e.elim)
      | exact wpAny_bind (wpAny_mono (fin _) (fun v s' e => by obtain ⟨rfl, rfl⟩ := e; exact wpAny_bind (wpAny_pure (wpAny_pure ⟨_, rfl, wpAny_pure h2⟩))) fun _ _ e => e.elim)
      | exact wpAny_bind (wpAny_bind (wpAny_mono (fin _) (fun v s' e => by obtain ⟨rfl, rfl⟩ := e; exact wpAny_pure (wpAny_pure ⟨_, rfl, wpAny_pure h2⟩)) fun _ _ e => e.elim))

/-! a text's slice -/
theorem strPick_is (x : Str) (lo hi : Option Int) : Builtin.Str.strSliceIndices lo hi 1 x.length = (List.range (hiOf hi x.length - loOf lo x.length)).map (loOf lo x.length + ·) := by
  rw [← sliceRange_one]
  unfold Builtin.Str.strSliceIndices loOf hiOf
  have h1 : (1 : Int) > 0 := by (decide)
  simp only [h1, if_true]
  cases lo <;> cases hi <;> simp only [Option.elim, clipAt_cast] <;> rfl
theorem sliceS_made {x : Str} {t : Tok} {l u : Option (Int × Tok)} {Q : Value → Shared → Prop} (hx : x.length ≤ lim) (hQ : ∀ t' k, Q (.str (sliceS x (l.map (·.1)) (u.map (·.1))) t') { s with toks := k }) : (sliceMade x t l u none).post Q s := by
  have e1 : slicePicked x l u none = (List.range (hiOf (u.map (·.1)) x.length - loOf (l.map (·.1)) x.length)).map (loOf (l.map (·.1)) x.length + ·) := strPick_is x _ _
  have e2 : (slicePicked x l u none).filterMap (x.cps[·]?) = sliceOf x.cps.toList (l.map (·.1)) (u.map (·.1)) := by
    rw [e1, pick_run]
    show (x.cps.toList.drop (loOf _ x.length)).take _ = (x.cps.toList.drop (loOf _ x.cps.toList.length)).take _
    rw [show x.cps.toList.length = x.length from by simp [Str.length]]
    rfl
  unfold sliceMade
  refine post_val_or_str ?_
  have e3 : (if ((Option.map (fun (q : Int × Tok) => q.1) none).getD 1 == 1 && (slicePicked x l u none).length == x.length) = true then x else ⟨((slicePicked x l u none).filterMap (x.cps[·]?)).toArray⟩) = sliceS x (l.map (·.1)) (u.map (·.1)) := by
    split
    · rename_i hc
      simp only [Bool.and_eq_true, beq_iff_eq] at hc
      have hl := hc.2
      rw [e1, List.length_map, List.length_range] at hl
      have hz : sliceOf x.cps.toList (l.map (·.1)) (u.map (·.1)) = x.cps.toList := by
        have hn : x.cps.toList.length = x.length := by simp [Str.length]
        have hle : hiOf (u.map (·.1)) x.length ≤ x.length := by
          unfold hiOf
          cases u with
          | none => exact Nat.le_refl _
          | some q => exact clip_le
        show (x.cps.toList.drop (loOf _ x.cps.toList.length)).take (hiOf _ x.cps.toList.length - loOf _ x.cps.toList.length) = _
        rw [hn, hl]
        by_cases h0 : x.length = 0
        · have : x.cps.toList = [] := List.eq_nil_of_length_eq_zero (hn.trans h0)
          rw [this]; simp
        · have z : loOf (l.map (·.1)) x.length = 0 := by omega
          rw [z, List.drop_zero, ← hn, List.take_length]
      unfold sliceS
      rw [hz]
    · unfold sliceS; rw [e2]
  rw [e3]
  refine ⟨?_, hQ⟩
  show (sliceOf x.cps.toList _ _).toArray.size ≤ sizeLine
  rw [List.size_toArray]
  exact Nat.le_trans (slice_len _ _ _) (lim_line (by simpa [Str.length] using hx))
theorem strOk_slice {x : Str} {lo hi : Option Int} (h : PyData.strOk x = true) : PyData.strOk (sliceS x lo hi) = true := by
  refine strOk_take (c := 0) h fun d hd => ?_
  have : d ∈ sliceOf x.cps.toList lo hi := by simpa [sliceS] using hd
  unfold sliceOf at this
  exact List.mem_of_mem_drop (List.mem_of_mem_take this)
theorem part_val {v : Value} {k : Option Int} (p : IsPart v k) : ∃ q : Option (Int × Tok), v = partValue q ∧ q.map (·.1) = k := by
  cases p with
  | none => exact ⟨none, rfl, rfl⟩
  | int i t => exact ⟨some (i, t), rfl, rfl⟩

/-- from the slice's parts on -/
theorem slicev_sound {value : Expr} {l u : Option Expr} {p : Pos} {a b c : PV} {x y z : Value} (r : R K.hb s.heap σ α) (va : VR s.heap α a x) (vb : VR s.heap α b y) (vc : VR s.heap α c z) :
    Runs K VR A (subscriptTail value (.Slice l u none p) x (.ref s.heap.objs.size)) (slicev a b c σ) { s with heap := s.heap.push { cls := .type "slice", data := .fields #[y, z, .none] } } α := by
  intro hc tk
  have k : ∀ b o, s.heap.get? b = some o → (s.heap.push { cls := .type "slice", data := .fields #[y, z, .none] }).get? b = some o := fun b o e => Heap.get?_push_of_some _ e
  have r' := r.keeps k
  unfold slicev at hc ⊢
  cases h1 : optInt b with
  | none => rw [h1] at hc; exact absurd rfl hc
  | some lo =>
    cases h2 : optInt c with
    | none => rw [h1, h2] at hc; exact absurd rfl hc
    | some hi =>
      rw [h1, h2] at hc
      dsimp only at hc ⊢
      have pb := part_is h1 vb
      have pc := part_is h2 vc
      have lst : ∀ xs, asLst σ a = some xs → xs.length ≤ lim → ∀ X : Value → Shared → Prop,
          wpAny (model K.prog K.w) A (subscriptTail value (.Slice l u none p) x (.ref s.heap.objs.size)) (Post K VR (.ok (PV.fl (sliceOf xs lo hi)) σ) { s with heap := s.heap.push { cls := .type "slice", data := .fields #[y, z, .none] } } α) X { s with heap := s.heap.push { cls := .type "slice", data := .fields #[y, z, .none] } } := by
        intro xs e hl X
        obtain ⟨ad, vs, n, rfl, e1, v⟩ := asLst_is r va e
        have e1' := k _ _ e1
        have hL : (s.heap.push { cls := .type "slice", data := .fields #[y, z, .none] }).IsList ad vs.toArray := ⟨_, e1', rfl, n, rfl⟩
        refine tail_any (s := { s with heap := s.heap.push { cls := .type "slice", data := .fields #[y, z, .none] } }) hL.typeIs slot_list_getitem.lookup
          (wpAny_getItem_list_slice hL (Heap.IsSliceOf.new ..) pb pc .none (by simp) ?_ (by rw [List.size_toArray, ← v.1]; exact lim_line hl)) rfl
        rw [pick_slice]
        exact Post.fl (s := { s with heap := s.heap.push { cls := .type "slice", data := .fields #[y, z, .none] } }) r' ((v.ext (.keeps (F := []) k)).slice lo hi)
      have gen : ∀ xs?, asLst σ a = xs? → (match xs? with | some xs => if xs.length ≤ lim then Out.ok (PV.fl (sliceOf xs lo hi)) σ else .stuck | none => .stuck) ≠ .stuck →
          wpAny (model K.prog K.w) A (subscriptTail value (.Slice l u none p) x (.ref s.heap.objs.size)) (Post K VR (match xs? with | some xs => if xs.length ≤ lim then Out.ok (PV.fl (sliceOf xs lo hi)) σ else .stuck | none => .stuck) { s with heap := s.heap.push { cls := .type "slice", data := .fields #[y, z, .none] } } α) (PostX K A (match xs? with | some xs => if xs.length ≤ lim then Out.ok (PV.fl (sliceOf xs lo hi)) σ else .stuck | none => .stuck) { s with heap := s.heap.push { cls := .type "slice", data := .fields #[y, z, .none] } } α) { s with heap := s.heap.push { cls := .type "slice", data := .fields #[y, z, .none] } } := by
        intro xs? e hc
        cases xs? with
        | none => exact absurd rfl hc
        | some xs =>
          dsimp only at hc ⊢
          split at hc
          · rename_i hl; rw [if_pos hl]; exact lst xs e hl _
          · exact absurd rfl hc
      cases a with
      | tup xs =>
        obtain ⟨t, vs, n, rfl, e1, hn, v⟩ := va.tupE
        dsimp only at hc ⊢
        split at hc
        · rename_i hl; rw [if_pos hl]
          have e1' := k _ _ e1
          have v' := v.ext (.keeps (F := []) k)
          refine tail_any (value := value) (slice := .Slice l u none p) (s := { s with heap := s.heap.push { cls := .type "slice", data := .fields #[y, z, .none] } }) ⟨_, e1', rfl⟩ slot_tuple_getitem.lookup
            (tupSlice_raw (s := { s with heap := s.heap.push { cls := .type "slice", data := .fields #[y, z, .none] } }) e1' (Heap.IsSliceOf.new ..) pb pc (by rw [← v.1]; exact lim_line hl) (fun hw => ?_) ?_) rfl
          · refine ⟨_, σ, α, rfl, .refl, r', ?_, .refl _⟩
            have hw' : sliceOf xs lo hi = xs := by
              have hlen := congrArg List.length hw
              have := v.1
              unfold sliceOf at hlen ⊢
              rw [List.length_take, List.length_drop] at hlen
              rw [← this] at hlen
              by_cases h0 : xs.length = 0
              · have : xs = [] := List.eq_nil_of_length_eq_zero h0
                subst this; simp
              · have z1 : lo.elim 0 (clipAt xs.length) = 0 := by omega
                rw [z1, List.drop_zero, List.take_of_length_le (by omega)]
            rw [hw']
            exact VR.tupI e1' hn v'
          · exact Post.tup (s := { s with heap := s.heap.push { cls := .type "slice", data := .fields #[y, z, .none] } }) r' (v'.slice lo hi)
        · exact absurd rfl hc
      | str w =>
        cases va with | str _ t hw =>
        dsimp only at hc ⊢
        split at hc
        · rename_i hl; rw [if_pos hl]
          obtain ⟨q1, rfl, z1⟩ := part_val pb
          obtain ⟨q2, rfl, z2⟩ := part_val pc
          refine tail_any (value := value) (slice := .Slice l u none p) (s := { s with heap := s.heap.push { cls := .type "slice", data := .fields #[partValue q1, partValue q2, .none] } }) (typeIs_str _ w _) F.slot_str_getitem.lookup
            (wpAny_getItem_str_slice (l := q1) (u := q2) (st := none) ⟨_, Heap.get?_push_size _ rfl, rfl, rfl⟩ rfl (sliceS_made hl fun t' tk' => ?_)) rfl
          rw [z1, z2]
          exact ⟨_, σ, α, rfl, .refl, r', .str _ _ (strOk_slice hw), ⟨rfl, rfl⟩⟩
        · exact absurd rfl hc
      | none => exact gen _ rfl hc
      | bool _ => exact gen _ rfl hc
      | int _ => exact gen _ rfl hc
      | fl _ => exact gen _ rfl hc
      | ref _ => exact gen _ rfl hc
      | exc _ => exact gen _ rfl hc
      | inst _ _ => exact gen _ rfl hc

theorem min2_sound {a b : PV} {x y : Value} (hA : AOk A) (hh : A.handled = none) (r : R K.hb s.heap σ α) (va : VR s.heap α a x) (vb : VR s.heap α b y) : Runs K VR A (call (.builtin "min") [x, y]) (min2v a b σ) s α := by
  intro hc tk
  cases a with
  | int i =>
    cases b with
    | int j =>
      cases va; cases vb
      refine min_two_ints hh fun h' tk k => ?_
      have : ∀ {q : PV} {w : Value}, q = .int (min i j) → VR h' α q w → Post K VR (min2v (.int i) (.int j) σ) s α w { s with heap := h', toks := tk } := fun {q w} e v => ⟨q, σ, α, by rw [e]; rfl, .keeps k, r.keeps k, v, ⟨rfl, rfl⟩⟩
      split
      · rename_i h; exact this (by congr 1; omega) (.int j _)
      · rename_i h; exact this (by congr 1; omega) (.int i _)
    | _ => exact absurd rfl hc
  | _ => exact absurd rfl hc
end

section
variable {K : Kt} {A : Around} {T : Tab} {C : Cfg} {f : List (Str × NameKind) → Expr → Option X} {N : List (Str × NameKind)} {env : Env} {ρ : Loc} {σ : Sto} {s : Shared} {α : AL}

theorem part_sound {o : Option Expr} {x : X} (S : SE K A C f) (h : trOpt (f N) o = some x) (hN : env.scope.names = N) (hn : EnvNew K.hb env) (E : EnvRel env ρ s.heap α) (r : R K.hb s.heap σ α) :
    Runs K VR A (valueOrNone (evalOpt o env)) (ev C x ρ σ) s α := by
  cases o with
  | none => obtain rfl := Option.some.inj h; exact Runs.pure r .none
  | some e => exact ((S N e x h).2 env ρ σ s α hN hn E r).1

theorem sliceE_sound {o : Expr} {lo hi : Option Expr} {p pos : Pos} {x y z : X} (S : SE K A C f) (h1 : f N o = some x) (h2 : trOpt (f N) lo = some y) (h3 : trOpt (f N) hi = some z)
    (hN : env.scope.names = N) (hn : EnvNew K.hb env) (E : EnvRel env ρ s.heap α) (r : R K.hb s.heap σ α) :
    Runs K VR A (eval (.Subscript o (.Slice lo hi none p) pos) env) (ev C (.slice x y z) ρ σ) s α := by
  rw [ev_slice, arm_eval_Subscript]
  refine Runs.bind ((S N o x h1).2 env ρ σ s α hN hn E r).1 fun va σ₁ α₁ u1 s₁ e1 x1 r1 v1 m1 => ?_
  rw [arm_eval_Slice]
  intro hc tk
  refine wpAny_bind (wpAny_holding (wpAny_bind ?_))
  refine Runs.use (part_sound S h2 hN hn (E.ext x1 .nil) r1) hc tk fun vb σ₂ α₂ u2 s₂ e2 hc2 x2 r2 v2 m2 tk2 => ?_
  refine wpAny_bind (wpAny_holding ?_)
  rw [e2]
  have hc2' : ((ev C z ρ σ₂).bind fun b σ => slicev va vb b σ) ≠ .stuck := hc2
  have H3 := part_sound S h3 hN hn ((E.ext x1 .nil).ext x2 .nil) r2
  have h4 : ev C z ρ σ₂ ≠ .stuck := by intro q; rw [q] at hc2'; exact hc2' rfl
  refine wpAny_mono (toks_up (H3 h4 tk2)) (fun u3 s₃ hp => ?_) fun e s₃ hx => ?_
  · obtain ⟨⟨vc, σ₃, α₃, e3, x3, r3, v3, m3⟩, tl3⟩ := hp
    refine wpAny_bind (wpAny_holding (wpAny_pure ?_))
    refine wpAny_newObj_type ?_ (by size_fits)
    refine wpAny_bind (wpAny_standAt ?_)
    have k : ∀ b o, s₃.heap.get? b = some o → (s₃.heap.push { cls := .type "slice", data := .fields #[u2, u3, .none] }).get? b = some o := fun b o e => Heap.get?_push_of_some _ e
    have q : ((Out.ok vb σ₂).bind fun a σ => (ev C z ρ σ).bind fun b σ => slicev va a b σ) = slicev va vb vc σ₃ := by simp only [Out.bind, e3]
    rw [q]
    rw [e3] at hc2'
    have lf : Ext [] α₁ s₁.heap α₃ (s₃.heap.push { cls := .type "slice", data := .fields #[u2, u3, .none] }) := (x2.trans x3).trans (.keeps k)
    exact wpAny_mono (slicev_sound (value := o) (l := lo) (u := hi) (p := p) r3 ((v1.ext x2).ext x3) (v2.ext x3) v3 hc2' (Kt.Tk.up tk2 tl3))
      (fun w s₄ hp => Post.lift (s₁ := { s₃ with heap := s₃.heap.push { cls := .type "slice", data := .fields #[u2, u3, .none] } }) lf ⟨(m2.trans m3).gens, (m2.trans m3).os⟩ hp)
      fun e s₄ hx => PostX.lift (s₁ := { s₃ with heap := s₃.heap.push { cls := .type "slice", data := .fields #[u2, u3, .none] } }) lf ⟨(m2.trans m3).gens, (m2.trans m3).os⟩ hx
  · obtain ⟨⟨i, σ₃, e3, nt, fx⟩, _⟩ := hx
    exact ⟨i, σ₃, by simp only [Out.bind, e3], nt, fx.lift x2 m2⟩

theorem min2E_sound {a b : Expr} {p pos : Pos} {x y : X} (c : Ctx K A T C) (S : SE K A C f) (hg : isG N "min" = true) (hbin : ("min" : Str) ∈ T.bins) (h1 : f N a = some x) (h2 : f N b = some y)
    (hN : env.scope.names = N) (hn : EnvNew K.hb env) (E : EnvRel env ρ s.heap α) (r : R K.hb s.heap σ α) :
    Runs K VR A (eval (.Call (.Name "min" p) [a, b] [] pos) env) (ev C (.min2 x y) ρ σ) s α := by
  rw [ev_min2]
  cases hhd : C.hd with
  | true => exact fun hc => absurd rfl hc
  | false =>
  simp only [cond_false]
  intro hc tk
  obtain ⟨hm, v, hv, hmb⟩ := c.bin _ hbin
  obtain ⟨j, hj⟩ := isG_idx hg
  have hv' : v = .builtin "min" := by
    have : biVal "min" = some (.builtin "min") := rfl
    rw [this] at hv; obtain rfl := Option.some.inj hv; rfl
  subst hv'
  obtain ⟨hp1, H1⟩ := S N a x h1
  obtain ⟨hp2, H2⟩ := S N b y h2
  refine wpAny_Call_Name_kw (name_bin c.hK r E.ok (by rw [hN]; exact hj) hm hmb ?_)
  rw [plain_star hp1, plain_star hp2]
  refine Calls.callWith_builtin rfl (Calls.evalArgs_plain (Calls.spliced_cons ?_))
  refine Runs.use (H1 env ρ σ s α hN hn E r).1 hc tk fun v1 σ₁ α₁ u1 s₁ e1 hc1 x1 r1 w1 m1 tk1 => ?_
  rw [e1]
  refine Calls.spliced_cons ?_
  have H := (H2 env ρ σ₁ s₁ α₁ hN hn (E.ext x1 .nil) r1).1
  have h3 : ev C y ρ σ₁ ≠ .stuck := by intro q; rw [q] at hc1; exact hc1 rfl
  refine wpAny_mono (toks_up (H h3 tk1)) (fun u2 s₂ hp => Calls.spliced_nil ?_) fun e s₂ hx => ?_
  · obtain ⟨⟨v2, σ₂, α₂, e2, x2, r2, w2, m2⟩, tl2⟩ := hp
    have q : ((Out.ok v1 σ₁).bind fun x σ => (ev C y ρ σ).bind fun y σ => min2v x y σ) = min2v v1 v2 σ₂ := by simp only [Out.bind, e2]
    rw [q]
    rw [e2] at hc1
    exact wpAny_mono (min2_sound c.hA (c.hd hhd) r2 (w1.ext x2) w2 hc1 (Kt.Tk.up tk1 tl2)) (fun w s₃ hp => hp.lift (x1.trans x2) (m1.trans m2)) fun e s₃ hx => hx.lift (x1.trans x2) (m1.trans m2)
  · obtain ⟨⟨i, σ₂, e2, nt, fx⟩, _⟩ := hx
    exact ⟨i, σ₂, by simp only [Out.bind, e2], nt, fx.lift x1 m1⟩

theorem lensetE_sound {a : Expr} {p p2 pos pos2 : Pos} {x : X} (c : Ctx K A T C) (S : SE K A C f) (hg : isG N "len" = true) (hbin : ("len" : Str) ∈ T.bins) (hg2 : isG N "set" = true) (hbin2 : ("set" : Str) ∈ T.bins) (h : f N a = some x)
    (hN : env.scope.names = N) (hn : EnvNew K.hb env) (E : EnvRel env ρ s.heap α) (r : R K.hb s.heap σ α) :
    Runs K VR A (eval (.Call (.Name "len" p) [.Call (.Name "set" p2) [a] [] pos2] [] pos) env) (ev C (.b1 .lenset x) ρ σ) s α := by
  rw [ev_b1]
  intro hc tk
  obtain ⟨hm, v, hv, hmb⟩ := c.bin _ hbin
  obtain ⟨j, hj⟩ := isG_idx hg
  have hv' : v = .builtin "len" := by
    have : biVal "len" = some (.builtin "len") := rfl
    rw [this] at hv; obtain rfl := Option.some.inj hv; rfl
  subst hv'
  obtain ⟨hm2, v2, hv2, hmb2⟩ := c.bin _ hbin2
  obtain ⟨j2, hj2⟩ := isG_idx hg2
  have hv2' : v2 = .type "set" := by
    have : biVal "set" = some (.type "set") := rfl
    rw [this] at hv2; obtain rfl := Option.some.inj hv2; rfl
  subst hv2'
  obtain ⟨hp, H⟩ := S N a x h
  refine wpAny_Call_Name_kw (name_bin c.hK r E.ok (by rw [hN]; exact hj) hm hmb ?_)
  rw [plain_star (e := .Call (.Name "set" p2) [a] [] pos2) rfl]
  refine PySem.callWith_builtin1 ?_
  refine wpAny_Call_Name_kw (name_bin c.hK r E.ok (by rw [hN]; exact hj2) hm2 hmb2 ?_)
  rw [plain_star hp]
  refine PySem.callWith_type1 ?_
  refine Runs.use (H env ρ σ s α hN hn E r).1 hc tk fun v1 σ₁ α₁ u1 s₁ e1 hc1 x1 r1 w1 m1 tk1 => ?_
  rw [e1]
  have q : b1v .lenset v1 σ₁ = match (seqItems σ₁ v1).bind allStrs with
      | some l => if l.length ≤ 1000 then .ok (.int (dedupS l).length) σ₁ else .stuck
      | none => .stuck := by cases v1 <;> rfl
  obtain ⟨z1, z2⟩ := b1g_ne hc1
  have hhd := z1 rfl
  show wpAny _ _ _ (fun v s₁ => wpAny _ _ _ (Post K VR (b1g C.hd .lenset v1 σ₁) s α) (PostX K A (b1g C.hd .lenset v1 σ₁) s α) s₁) _ _
  rw [z2, q] at hc1 ⊢
  split at hc1
  · rename_i l hl
    split at hc1
    · rename_i hn2
      rw [if_pos hn2]
      refine lenset_raw c.hA (c.hd hhd) r1 w1 hl hn2 fun D h' tk k hlen => hlen _ _ fun t tk' => ?_
      exact ⟨_, σ₁, α₁, rfl, x1.trans (.keeps k), r1.keeps k, .int _ _, ⟨m1.gens, m1.os⟩⟩
    · exact absurd rfl hc1
  · exact absurd rfl hc1
end
end Mine

namespace Mine
open PySem PyProof.Rows
section
variable {K : Kt} {A : Around} {T : Tab} {C : Cfg} {f : List (Str × NameKind) → Expr → Option X} {N : List (Str × NameKind)} {env : Env} {ρ : Loc} {σ : Sto} {s : Shared} {α : AL}

theorem plain_all {es : List Expr} {xs : X} {pos : Pos} (S : SE K A C f) (h : trL (f N) es = some xs) : (backTo pos (starEach es env)).all (fun x => !x.1) = true ∧ (backTo pos (starEach es env)).any (·.1) = false := by
  have : ∀ {es : List Expr} {xs : X}, trL (f N) es = some xs → ∀ x ∈ starEach es env, x.1 = false := by
    intro es
    induction es with
    | nil => intro xs h x hx; contradiction
    | cons e es ih =>
      intro xs h x hx
      obtain ⟨a, b, ha, hb, _⟩ := trL_cons h
      rw [plain_star (S N e a ha).1] at hx
      rcases List.mem_cons.mp hx with q | q
      · rw [q]
      · exact ih hb x q
  have key : ∀ x ∈ backTo pos (starEach es env), x.1 = false := by
    intro x hx
    unfold backTo at hx
    first
      | (obtain ⟨y, hy, rfl⟩ := List.mem_map.mp hx; exact this h y hy)
      | (split at hx <;> first | (obtain ⟨y, hy, rfl⟩ := List.mem_map.mp hx; exact this h y hy) | exact this h x hx)
  exact ⟨List.all_eq_true.mpr fun x hx => by rw [key x hx]; rfl, List.any_eq_false.mpr fun x hx => by rw [key x hx]; simp⟩

end
end Mine

namespace Mine
open PySem PyProof.Rows

section
variable {K : Kt} {A : Around} {T : Tab} {C : Cfg} {f : List (Str × NameKind) → Expr → Option X} {N : List (Str × NameKind)} {env : Env} {ρ : Loc} {σ : Sto} {s : Shared} {α : AL}

noncomputable def KeysAt (kk : List Str) (vv : List PV) (us : List (Value × Value)) : Prop :=
  us.length = kk.length ∧ ∀ (i : Nat) k v, kk[i]? = some k → vv[i]? = some v → ∃ t u, us[i]? = some (Value.str k t, u) ∧ ∀ h α, VR h α v u
theorem KeysAt.cons {kk : List Str} {vv : List PV} {us : List (Value × Value)} {k : Str} {v : PV} {t : Tok} {u : Value} (hu : ∀ h α, VR h α v u) (H : KeysAt kk vv us) : KeysAt (k :: kk) (v :: vv) ((.str k t, u) :: us) := by
  refine ⟨congrArg Nat.succ H.1, fun i k' v' e1 e2 => ?_⟩
  cases i with
  | zero => obtain rfl := Option.some.inj e1; obtain rfl := Option.some.inj e2; exact ⟨t, u, rfl, hu⟩
  | succ i => exact H.2 i k' v' e1 e2
/-- a constant -/
theorem litC_run {e : Expr} {v : PV} (h : litC e = some v) {s : Shared} {Q X : Value → Shared → Prop} (hQ : ∀ u tk, (∀ h α, VR h α v u) → Q u { s with toks := tk }) : wpAny (model K.prog K.w) A (eval e env) Q X s := by
  cases e with
  | Constant c ck cp =>
    change trConst c = _ at h
    cases c with
    | none => obtain rfl := Option.some.inj h; exact wpAny_Constant_none (hQ _ s.toks fun h α => .none)
    | bool b => obtain rfl := Option.some.inj h; exact wpAny_Constant_bool (hQ _ s.toks fun h α => .bool b)
    | int i => obtain rfl := Option.some.inj h; exact wpAny_Constant_int (hQ _ _ fun h α => .int i _)
    | str z =>
      change onlyIf _ _ = _ at h
      exact onlyIf_e h fun hz h => by obtain rfl := Option.some.inj h; exact wpAny_Constant_str (hQ _ _ fun h α => .str z _ hz)
    | _ => contradiction
  | _ => contradiction
theorem litS_is {e : Expr} {x : Str} (h : litS e = some x) : ∃ k p, e = .Constant (.str x) k p ∧ PyData.strOk x = true := by
  cases e with
  | Constant c k p =>
    cases c with
    | str z =>
      change onlyIf _ _ = _ at h
      exact onlyIf_e h fun hz h => by obtain rfl := Option.some.inj h; exact ⟨_, _, rfl, hz⟩
    | _ => contradiction
  | _ => contradiction
noncomputable def PairsOk (K : Kt) (A : Around) (env : Env) (pos : Pos) (ks : List (Option Expr)) (vs : List Expr) (kk : List Str) (vv : List PV) : Prop :=
  ∃ pairs : List (Sem Value × Sem Value), (evalEachOpt ks env).zip ((evalEach vs env).map fun v => do let x ← v; standAt pos; pure x) = pairs.map (fun p => (some p.1, p.2)) ∧ pairs.length = kk.length ∧ vv.length = kk.length ∧
      ∀ {s : Shared} {Q : List (Value × Value) → Shared → Prop} {X : Value → Shared → Prop}, (∀ us tk, KeysAt kk vv us → Q us { s with toks := tk }) → wpAny (model K.prog K.w) A (evalPairs pairs) Q X s
/-- the pairs of a dict display of constants -/
theorem pairs_shape {pos : Pos} {ks : List (Option Expr)} : ∀ {vs : List Expr} {kk : List Str} {vv : List PV}, dictKeys ks = some kk → litCs vs = some vv → vs.length = ks.length → PairsOk K A env pos ks vs kk vv := by
  induction ks with
  | nil =>
    intro vs kk vv h1 h2 hl
    obtain rfl := Option.some.inj h1
    obtain rfl := List.eq_nil_of_length_eq_zero hl
    obtain rfl := Option.some.inj h2
    exact ⟨[], rfl, rfl, rfl, fun hQ => evalPairs_nil (hQ [] _ ⟨rfl, fun i k v e => nomatch e⟩)⟩
  | cons k ks ih =>
    intro vs kk vv h1 h2 hl
    cases vs with
    | nil => contradiction
    | cons e es =>
      change o2 _ _ _ = _ at h1 h2
      refine o2_e (M := fun kk => PairsOk K A env pos (k :: ks) (e :: es) kk vv) h1 fun s1 kk' hs hr => ?_
      refine o2_e h2 fun v vv' hc hv => ?_
      refine bind_e hs fun ke hk hs => ?_
      obtain ⟨kp, p, rfl, hok⟩ := litS_is hs
      subst hk
      obtain ⟨pairs, e1, e2, e3, H⟩ := ih hr hv (Nat.succ.inj hl)
      refine ⟨(eval (.Constant (.str s1) kp p) env, do let x ← eval e env; standAt pos; pure x) :: pairs, ?_, congrArg Nat.succ e2, congrArg Nat.succ e3, fun hQ => ?_⟩
      · rw [List.map_cons, ← e1]; rfl
      · exact evalPairs_cons (wpAny_Constant_str (wpAny_bind (litC_run hc fun u tk hu => wpAny_bind (wpAny_standAt (wpAny_pure (H fun us tk' hk => hQ _ tk' (hk.cons hu)))))))

theorem sget_find : ∀ {ks : List Str} {vals : List PV} {us : List (Value × Value)} {kvs : List (Str × Value)} {k : Str}, ks.length = us.length → vals.length = ks.length → kvs = (ks.zip us).map (fun p => (p.1, p.2.2)) →
    (∀ (i : Nat) k v, ks[i]? = some k → vals[i]? = some v → ∃ t u, us[i]? = some (Value.str k t, u) ∧ ∀ h α, VR h α v u) →
    (∀ v, sget k (ks.zip vals) = some v → ∃ u, valueAt kvs k = some u ∧ ∀ h α, VR h α v u) ∧ (sget k (ks.zip vals) = none → valueAt kvs k = none)
  | [], vals, us, kvs, k, h1, h2, h3, h4 => by
    subst h3
    simp [sget, valueAt]
  | a :: ks, vals, us, kvs, k, h1, h2, h3, h4 => by
    cases vals with
    | nil => contradiction
    | cons v vals =>
      cases us with
      | nil => contradiction
      | cons u us =>
        subst h3
        obtain ⟨t, u', q1, q2⟩ := h4 0 a v (by simp) (by simp)
        simp at q1
        subst q1
        have ih := @sget_find ks vals us _ k (by simpa using h1) (by simpa using h2) rfl (fun i k v e1 e2 => by
          have := h4 (i + 1) k v (by simpa using e1) (by simpa using e2); simpa using this)
        by_cases hk : a = k
        · subst hk
          simp only [List.zip_cons_cons, sget, if_true, valueAt, List.map_cons, List.find?_cons, decide_true]
          exact ⟨fun w hw => by obtain rfl := Option.some.inj hw; exact ⟨u', rfl, q2⟩, fun hw => by cases hw⟩
        · simp only [List.zip_cons_cons, sget, if_neg hk, valueAt, List.map_cons, List.find?_cons, hk, decide_false] at ih ⊢
          exact ih

theorem carries_of : ∀ {ks : List Str} {vals : List PV} {us : List (Value × Value)}, ks.length = us.length → vals.length = ks.length →
    (∀ (i : Nat) k v, ks[i]? = some k → vals[i]? = some v → ∃ t u, us[i]? = some (Value.str k t, u) ∧ ∀ h α, VR h α v u) → Carries (strKind K.prog K.w) us ((ks.zip us).map fun p => (p.1, p.2.2))
  | [], vals, us, h1, h2, h4 => by
    cases us with
    | nil => trivial
    | cons u us => contradiction
  | a :: ks, vals, us, h1, h2, h4 => by
    cases vals with
    | nil => contradiction
    | cons v vals =>
      cases us with
      | nil => contradiction
      | cons u us =>
        obtain ⟨t, u', q1, q2⟩ := h4 0 a v (by simp) (by simp)
        simp at q1
        subst q1
        refine ⟨?_, rfl, carries_of (vals := vals) (by simpa using h1) (by simpa using h2) fun i k v e1 e2 => by have := h4 (i + 1) k v (by simpa using e1) (by simpa using e2); simpa using this⟩
        show Value.isStrOf a (.str a t) = true
        simp [Value.isStrOf]
end
end Mine

namespace Mine
open PySem PyProof.Rows

section
variable {K : Kt} {A : Around} {T : Tab} {C : Cfg} {f : List (Str × NameKind) → Expr → Option X} {N : List (Str × NameKind)} {env : Env} {ρ : Loc} {σ : Sto} {s : Shared} {α : AL}

theorem not_modules (hK : K.Ok) (r : R K.hb s.heap σ α) : (s.heap.objs.size == sysModules) = false := by
  obtain ⟨o, es, ep, e, _⟩ := hK.g
  have h1 := Heap.lt_size (r.base _ _ e)
  have h2 : mainGlobals < s.heap.objs.size := h1
  have h3 : sysModules ≤ mainGlobals := by decide
  have : s.heap.objs.size ≠ sysModules := Nat.ne_of_gt (Nat.lt_of_le_of_lt h3 h2)
  simpa using this

theorem star2 {a b : Expr} (h1 : plainE a = true) (h2 : plainE b = true) : starEach [a, b] env = [(false, eval a env), (false, eval b env)] := by
  rw [plain_star h1, plain_star h2]; rfl

theorem fdgetE_sound {ks : List (Option Expr)} {vs : List Expr} {dpos apos pos : Pos} {k d : Expr} {kk : List Str} {vv : List PV} {x y : X} (c : Ctx K A T C) (S : SE K A C f) (hline : (apos.endLine == pos.line) = true)
    (hk : dictKeys ks = some kk) (hv : dictVals ks.length vs = some vv) (hnd : kk.Nodup) (hlen : kk.length ≤ 15) (hne : kk ≠ []) (h1 : f N k = some x) (h2 : f N d = some y)
    (hN : env.scope.names = N) (hn : EnvNew K.hb env) (E : EnvRel env ρ s.heap α) (r : R K.hb s.heap σ α) :
    Runs K VR A (eval (.Call (.Attribute (.Dict ks vs dpos) "get" apos) [k, d] [] pos) env) (ev C (.fdget kk vv x y) ρ σ) s α := by
  simp only [ev_k, ev_v, ev_and, ev_or, ev_not, ev_neg, ev_bin, ev_cmp, ev_cmp2, ev_lst, ev_tup, ev_fdget, ev_comp, ev_call, ev_b1, ev_min2, ev_isinst, ev_me, ev_sub, ev_slice]
  intro hc tp
  obtain ⟨hp1, H1⟩ := S N k x h1
  obtain ⟨hp2, H2⟩ := S N d y h2
  refine Call_method2 rfl (star2 hp1 hp2) hline ?_
  unfold dictVals at hv
  refine onlyIf_e hv fun hvl hv => ?_
  obtain ⟨pairs, sh, pl, vl, H⟩ := pairs_shape (K := K) (A := A) (env := env) (pos := dpos) hk hv (eq_of_beq hvl)
  refine wpAny_Dict_pairs (knd := strKind K.prog K.w) sh (fun q => hne (by cases kk with | nil => rfl | cons => rw [q] at pl; contradiction)) (by omega) (wpAny_pos tp (H fun us tk kat tp1 => ?_))
  obtain ⟨ul, ui⟩ := kat
  have car := carries_of (K := K) ul.symm vl ui
  refine ⟨_, car, Heap.DictOf.new _, fun h' hd' sb => ?_⟩
  have hkeys : ((kk.zip us).map fun p => (p.1, p.2.2)).map (·.1) = kk := by
    rw [List.map_map]
    show (kk.zip us).map Prod.fst = kk
    rw [List.map_fst_zip (by omega)]
  rw [merged_nil_of_nodup _ (by rw [hkeys]; exact hnd)] at hd'
  obtain ⟨oD, es, ep, eD, dD⟩ := id hd'
  have kp : ∀ b o, s.heap.get? b = some o → h'.get? b = some o := fun b o e => (sb.2 b (Nat.ne_of_lt (Heap.lt_size e))).trans (Heap.get?_push_of_some _ e)
  have hDa : s.heap.objs.size ∉ α.all := fun q => by obtain ⟨o, e⟩ := r.liveAll q; rw [none_at] at e; contradiction
  have x0 : Ext [] α s.heap α h' := .keeps kp
  have r0 := r.keeps kp
  refine ⟨"dict", "dict.get", F.plainAttrs_dict, F.slot_dict_get, F.type_dict_get, hd'.typeIs, hd'.mapOf.noDict, ?_⟩
  refine wpAny_dict_get2 (knd := strKind K.prog K.w) (not_modules c.hK r) ?_
  refine wpAny_mono (toks_up ((H1 env ρ σ { s with heap := h', toks := tk + us.length } α hN hn (E.ext x0 .nil) r0).1 (by intro q; rw [q] at hc; exact hc rfl) (Kt.Tk.up tp1 (Nat.le_add_right _ _)))) (fun uk s₁ hp => ?_) fun e s₁ hx => ?_
  · obtain ⟨⟨pk, σ₁, α₁, e1, x1, r1, v1, m1⟩, tl1⟩ := hp
    rw [e1] at hc ⊢
    simp only [Out.bind] at hc ⊢
    refine wpAny_mono ((H2 env ρ σ₁ s₁ α₁ hN hn ((E.ext x0 .nil).ext x1 .nil) r1).1 (by intro q; rw [q] at hc; exact hc rfl) (Kt.Tk.up (Kt.Tk.up tp1 (Nat.le_add_right _ _)) tl1)) (fun ud s₂ hp => ?_) fun e s₂ hx => ?_
    · obtain ⟨pd, σ₂, α₂, e2, x2, r2, v2, m2⟩ := hp
      rw [e2] at hc ⊢
      simp only [Out.bind, fdgetv] at hc ⊢
      cases pk with
      | str kq =>
        cases v1 with
        | str _ tq hq =>
        have hDf : s.heap.objs.size ∉ α.fr := fun q => by
          obtain ⟨_, o, e, _⟩ := r.frs _ (r.fe ▸ q)
          rw [none_at] at e; contradiction
        have eD1 := (x1.rest _ _ (AL.not_ix hDa) (by simp) eD).not hDf
        have eD2 := (x2.rest _ _ (x1.notMem (AL.not_ix hDa) eD) (by simp) eD1).not (x1.fre ▸ hDf)
        have hd2 : s₂.heap.DictOf (strKind K.prog K.w) s.heap.objs.size ((kk.zip us).map fun p => (p.1, p.2.2)) := ⟨_, es, ep, eD2, dD⟩
        obtain ⟨g1, g2⟩ := sget_find (k := kq) ul.symm vl rfl ui
        refine ⟨kq, _, by show Value.isStrOf kq (.str kq tq) = true; simp [Value.isStrOf], hd2.mapOf, ?_⟩
        refine ⟨_, σ₂, α₂, rfl, (x0.trans x1).trans x2, r2, ?_, ⟨(m1.trans m2).gens, (m1.trans m2).os⟩⟩
        cases hq2 : sget kq (kk.zip vv) with
        | none => rw [g2 hq2]; exact v2
        | some w => obtain ⟨u, q1, q2⟩ := g1 w hq2; rw [q1]; exact q2 _ _
      | _ => exact absurd rfl hc
    · obtain ⟨i, σ₂, e2, nt, fx⟩ := hx
      refine ⟨i, σ₂, by rw [e2], nt, FX.lift (x0.trans x1) ⟨m1.gens, m1.os⟩ fx⟩
  · obtain ⟨⟨i, σ₁, e1, nt, fx⟩, _⟩ := hx
    exact ⟨i, σ₁, by rw [e1]; rfl, nt, FX.lift (s₁ := { s with heap := h', toks := tk + us.length }) x0 ⟨rfl, rfl⟩ fx⟩

/-! iterators -/
theorem isIt_ev {x : X} (h : isIt x = false) : evIt C x ρ σ = (ev C x ρ σ).bind itv := by
  cases x <;> first | (contradiction; done) | (rfl)

theorem it_gen {e : Expr} {x : X} (c : Ctx K A T C) (hhd : C.hd = false) (S : SE K A C f) (h : f N e = some x) (hi : isIt x = false) (hN : env.scope.names = N) (hn : EnvNew K.hb env) (E : EnvRel env ρ s.heap α) (r : R K.hb s.heap σ α) :
    RunsIt K A (eval e env) (evIt C x ρ σ) s α := by
  rw [isIt_ev hi]
  intro hc tk
  refine Runs.use ((S N e x h).2 env ρ σ s α hN hn E r).1 hc tk fun v σ₁ α₁ y s₁ e1 hc1 x1 r1 v1 m1 tk1 => ?_
  rw [e1]
  exact wpAny_mono (iter_val c.hA (c.hd hhd) r1 v1 hc1) (fun it s₂ hp => hp.lift x1 m1) fun _ _ e => e

theorem it_range {a : Expr} {p pos : Pos} {x : X} (c : Ctx K A T C) (hhd : C.hd = false) (S : SE K A C f) (h : f N a = some x) (hg : isG N "range" = true) (hbin : ("range" : Str) ∈ T.bins) (hN : env.scope.names = N) (hn : EnvNew K.hb env) (E : EnvRel env ρ s.heap α) (r : R K.hb s.heap σ α) :
    RunsIt K A (eval (.Call (.Name "range" p) [a] [] pos) env) (evIt C (.range1 x) ρ σ) s α := by
  simp only [evIt_range1]
  intro hc tk
  obtain ⟨hm, v, hv, hmb⟩ := c.bin _ hbin
  obtain ⟨j, hj⟩ := isG_idx hg
  have hv' : v = .type "range" := by
    have : biVal "range" = some (.type "range") := rfl
    rw [this] at hv; obtain rfl := Option.some.inj hv; rfl
  subst hv'
  obtain ⟨hp, H⟩ := S N a x h
  refine wpAny_Call_Name_kw (name_bin c.hK r E.ok (by rw [hN]; exact hj) hm hmb ?_)
  rw [plain_star hp]
  refine PySem.callWith_type1 (Runs.use (H env ρ σ s α hN hn E r).1 hc tk fun v σ₁ α₁ y s₁ e1 hc1 x1 r1 v1 m1 tk1 => ?_)
  rw [e1]
  exact wpAny_mono (iter_range1 c.hA (c.hd hhd) r1 v1 hc1) (fun it s₂ hp => wpAny_mono hp (fun y s₃ hp => hp.lift x1 m1) fun _ _ e => e) fun _ _ e => e

theorem isName_is {e : Expr} {q : Str × Pos} (h : isName e = some q) : e = .Name q.1 q.2 := by
  cases e with
  | Name x p => obtain rfl := Option.some.inj h; rfl
  | _ => contradiction
theorem call1_is {e : Expr} {q : Call1} (h : call1 e = some q) : e = .Call (.Name q.g q.p) [q.a] [] q.pos := by
  cases e with
  | Call f as ks pos =>
    change onlyIf _ _ = _ at h
    refine onlyIf_e h fun h0 h => o2_e (M := fun q : Call1 => Expr.Call f as ks pos = .Call (.Name q.g q.p) [q.a] [] q.pos) h fun n a h1 h2 => ?_
    rw [isName_is h1, one_is h2, List.isEmpty_iff.mp h0]
  | _ => contradiction
theorem trIt_sound {e : Expr} {x : X} (c : Ctx K A T C) (hhd : C.hd = false) (S : SE K A C f) (h : trIt T N (f N) e = some x) (hN : env.scope.names = N) (hn : EnvNew K.hb env) (E : EnvRel env ρ s.heap α) (r : R K.hb s.heap σ α) :
    RunsIt K A (eval e env) (evIt C x ρ σ) s α ∧ plainE e = true := by
  unfold trIt at h
  refine optE_e h (fun y hy h => ?_) fun _ h => ?_
  · obtain rfl := Option.some.inj h
    unfold trRange at hy
    refine bind_e hy fun q hq hy1 => onlyIf_e hy1 fun hg hy2 => ?_
    clear hy1 hy
    simp only [Bool.and_eq_true, isB, beq_iff_eq] at hg
    have hq := call1_is hq
    obtain ⟨g, p, a, pos⟩ := q
    obtain ⟨h1, hg, hb⟩ := hg
    dsimp only at h1
    subst h1 hq
    refine map_e (M := fun y => RunsIt K A (eval (.Call (.Name "range" p) [a] [] pos) env) (evIt C y ρ σ) s α ∧ plainE (.Call (.Name "range" p) [a] [] pos) = true) hy2 fun z hz => ⟨it_range c hhd S hz hg (by simpa using hb) hN hn E r, rfl⟩
  · unfold trItV at h
    refine bind_e h fun y hq h => onlyIf_e h fun hi h => ?_
    obtain rfl := Option.some.inj h
    exact ⟨it_gen c hhd S hq (by simpa using hi) hN hn E r, (S N e _ hq).1⟩
end
end Mine

namespace Mine
open PySem PyProof.Rows

section
variable {K : Kt} {A : Around} {T : Tab} {C : Cfg} {f : List (Str × NameKind) → Expr → Option X} {N : List (Str × NameKind)} {env : Env} {ρ : Loc} {σ : Sto} {s : Shared} {α : AL}

/-- `{}` -/
theorem dnewE_sound {pos : Pos} {pk : Bool} (r : R K.hb s.heap σ α) : Runs K VR A (eval (.Dict [] [] pos) env) (ev C (.dnew pk) ρ σ) s α := by
  intro hc tk
  refine wpAny_Dict_empty ?_
  have k : ∀ b o, s.heap.get? b = some o → (s.heap.push { cls := .type "dict", data := .dict #[] }).get? b = some o := fun b o e => Heap.get?_push_of_some _ e
  cases pk with
  | true =>
    obtain ⟨r', x⟩ := r.add (D := s.heap.objs.size) (m := .dp []) k (none_at s) ⟨[], Heap.DictOfH.new _, rfl, (fun x hx => nomatch hx), .nil⟩
    refine ⟨_, _, _, rfl, x, r', .ref ?_, ⟨rfl, rfl⟩⟩
    rw [r.len]; simp [AL.add]
  | false =>
    obtain ⟨r', x⟩ := r.add (D := s.heap.objs.size) (m := .ds []) k (none_at s) ⟨[], Heap.DictOf.new _, rfl, .nil⟩
    refine ⟨_, _, _, rfl, x, r', .ref ?_, ⟨rfl, rfl⟩⟩
    rw [r.len]; simp [AL.add]
theorem trNew_sound {g : Str} {args : List Expr} {p pos : Pos} {x : X} (c : Ctx K A T C) (S : SE K A C f) (hg : isG N g = true) (h : trNew T (f N) g args = some x) : Both K A C N (.Call (.Name g p) args [] pos) x := by
  unfold trNew at h
  refine bind_e h fun q hb h => onlyIf_e h fun hc h => bind_e h fun j hj h => map_e h fun xs hxs => both_gen (fun _ _ => rfl) (fun _ _ => rfl) fun {env ρ σ s α} hN hn E r hc' tk => ?_
  obtain ⟨b, cl⟩ := q
  rw [ev_new] at hc' ⊢
  obtain ⟨h1, h2⟩ := Bool.and_eq_true_iff.mp hc
  obtain rfl := eq_of_beq h1
  have hj' : T.meths[j]? = some ("__init__" : Str) := by
    obtain ⟨h1, h2, _⟩ := List.findIdx?_eq_some_iff_getElem.mp hj
    rw [List.getElem?_eq_getElem h1, eq_of_beq h2]
  obtain ⟨F, B, hcall⟩ := c.brd _ cl hb
  have hcall := hcall j hj'
  obtain ⟨i, hi⟩ := isG_idx hg
  refine wpAny_Call_Name_kw (name_glob c.hK r E.ok (by rw [hN]; exact hi) B.mg ?_)
  cases args with
  | nil => contradiction
  | cons e es =>
    have H := evs_sound (pos := pos) S hxs hN hn E r
    obtain ⟨a', b', ha', hb', _⟩ := trL_cons hxs
    refine PySem.W.callWith_K B.inn B.keep ?_ (plain_star (S N e a' ha').1) (plain_all S hb').2
    refine Runs.use H hc' tk fun vs σ' α' us s' e1 hc1 x' r' v' m' tk' => ⟨fun a o e => r'.base a o (B.inn a o e), ?_⟩
    show wpAny (model K.prog K.w) A (call (.ref cl) us) (Post K VR ((evs C xs ρ σ).bind fun vs σ => newv C cl (T.fns.length + j) vs σ) s α) (PostX K A ((evs C xs ρ σ).bind fun vs σ => newv C cl (T.fns.length + j) vs σ) s α) s'
    rw [e1]
    exact wpAny_mono (hcall vs us s' σ' α' r' v' hc1 tk') (fun y s'' hp => hp.lift x' m') fun e s'' hx => hx.lift x' m'
end
end Mine

namespace Mine
open PySem PyProof.Rows

theorem scOk_of : ∀ {names : List (Str × NameKind)}, scOkB names = true → ScOk names
  | [], _ => ⟨fun i j x k k' h => by simp at h, fun i x k h => by simp at h, fun i x k h => by simp at h⟩
  | (y, k0) :: r, h => by
    simp only [scOkB, Bool.and_eq_true, Bool.not_eq_true', Bool.or_eq_true, beq_iff_eq] at h
    obtain ⟨⟨⟨h1, h2⟩, h3⟩, h4⟩ := h
    have ih := scOk_of h4
    have no : ∀ (i : Nat) (k : NameKind), r[i]? ≠ some (y, k) := fun i k e => by
      have hm := List.mem_of_getElem? e
      rw [List.any_eq_false] at h1
      exact h1 _ hm (by simp)
    refine ⟨fun i j x k k' e1 e2 => ?_, fun i x k e => ?_, fun i x k e => ?_⟩
    · cases i with
      | zero =>
        cases j with
        | zero => rfl
        | succ j =>
          simp at e1 e2
          obtain ⟨rfl, rfl⟩ := e1
          exact absurd e2 (no j k')
      | succ i =>
        cases j with
        | zero =>
          simp at e1 e2
          obtain ⟨rfl, rfl⟩ := e2
          exact absurd e1 (no i k)
        | succ j =>
          simp at e1 e2
          rw [ih.uniq i j x k k' e1 e2]
    · cases i with
      | zero => simp at e; obtain ⟨rfl, rfl⟩ := e; exact h2
      | succ i => simp at e; exact ih.nodbg i x k e
    · cases i with
      | zero =>
        simp at e; obtain ⟨rfl, rfl⟩ := e
        rcases h3 with (h3 | h3) | h3
        · exact .inl h3
        · exact .inr (.inl h3)
        · exact .inr (.inr h3)
      | succ i => simp at e; exact ih.kinds i x k e

section
variable {K : Kt} {A : Around} {T : Tab} {C : Cfg} {f : List (Str × NameKind) → Expr → Option X} {N : List (Str × NameKind)} {env : Env} {ρ : Loc} {σ : Sto} {s : Shared} {α : AL}

theorem compOut_ev {fz : Bool} {t : Nat} {cap : List (Option Nat)} {elt cond it : X} (hhd : C.hd = false) : ev C (.comp fz t cap elt cond it) ρ σ =
    compOut fz (fun v σ => tst C cond ((capLoc cap ρ).set t (some v)) σ) (fun v σ => ev C elt ((capLoc cap ρ).set t (some v)) σ) (evIt C it ρ σ) := by
  rw [ev_comp, hhd]
  unfold compOut goOn
  rw [cond_false]
  congr 1

/-- a comprehension that the translation takes -/
structure CompIs (T : Tab) (N : List (Str × NameKind)) (f : List (Str × NameKind) → Expr → Option X) (elt : Expr) (x : Str) (iter : Expr) (ifs : List Expr) (scope : Scope) (fz : Bool) (t : Nat) (e c i : X) : Prop where
  kind : scope.kind = .function
  sc : scOkB (relab N scope.names) = true
  cells : ∀ p ∈ scope.names, p.2 ≠ .cell
  tgt : (relab N scope.names)[t]? = some (x, NameKind.local)
  it : trIt T N (f N) iter = some i
  elt : f (relab N scope.names) elt = some e
  cond : trIf (f (relab N scope.names)) ifs = some c
theorem trComp_is {elt iter : Expr} {x : Str} {pos : Pos} {ifs : List Expr} {scope : Scope} {y : X} {P : X → Prop} (h : trComp T N f elt x iter ifs scope pos = some y)
    (k : ∀ t e c i, CompIs T N f elt x iter ifs scope (!(T.muts.contains (pos.line, pos.col))) t e c i → P (.comp (!(T.muts.contains (pos.line, pos.col))) t (capOf N (relab N scope.names)) e c i)) : P y := by
  unfold trComp at h
  refine onlyIf_e h fun hk h => bind_e h fun t _ h => onlyIf_e h fun ht h => o3_e h fun i e c h1 h2 h3 => k t e c i ?_
  obtain ⟨hk, hk3⟩ := Bool.and_eq_true_iff.mp hk
  obtain ⟨hk1, hk2⟩ := Bool.and_eq_true_iff.mp hk
  exact ⟨eq_of_beq hk1, hk2, fun p hp => bne_iff_ne.mp (List.all_eq_true.mp hk3 p hp), eq_of_beq ht, h1, h2, h3⟩
theorem CompIs.ok {elt iter : Expr} {x : Str} {ifs : List Expr} {scope : Scope} {fz : Bool} {t : Nat} {e c i : X} (q : CompIs T N f elt x iter ifs scope fz t e c i) (hN : env.scope.names = N) : CompOk env.scope.names scope t x := by
  subst hN; exact ⟨q.kind, scOk_of q.sc, q.cells, q.tgt⟩
theorem comp_names {scope : Scope} {C' : Addr} (hN : env.scope.names = N) (E : EnvRel env ρ s.heap α) : (compCenv scope C' env).scope.names = relab N scope.names := by rw [← hN]; exact relabel_names E.ok.kind
theorem comp_cap {scope : Scope} (hN : env.scope.names = N) : compRho scope env ρ = capLoc (capOf N (relab N scope.names)) ρ := by rw [← hN]
theorem cond_sound {ifs : List Expr} {cond : X} {M : List (Str × NameKind)} {cenv : Env} (S : SE K A C f) (h : trIf (f M) ifs = some cond) (hM : cenv.scope.names = M) (n' : EnvNew K.hb cenv) (E' : EnvRel cenv ρ s.heap α) (r' : R K.hb s.heap σ α) :
    Runs K RelEq A (forIn ifs true fun c r => if r = true then do let ok ← isTrue c cenv (eval c cenv); pure (ForInStep.yield ok) else pure (ForInStep.yield r)) (tst C cond ρ σ) s α := by
  cases ifs with
  | nil =>
    obtain rfl := Option.some.inj h
    exact fun _ _ => wpAny_tests_nil ⟨true, σ, α, rfl, .refl, r', rfl, .refl _⟩
  | cons c1 cs =>
    change onlyIf _ _ = _ at h
    refine onlyIf_e h fun h0 h => ?_
    rw [List.isEmpty_iff.mp h0]
    exact fun hc tk => wpAny_tests_one (((S _ c1 cond h).2 _ _ σ s α hM n' E' r').2 hc tk)
theorem compE_sound {elt iter : Expr} {x : Str} {px pos : Pos} {ifs : List Expr} {scope : Scope} {fz : Bool} {t : Nat} {e cc i : X} (c : Ctx K A T C) (S : SE K A C f) (q : CompIs T N f elt x iter ifs scope fz t e cc i)
    (hN : env.scope.names = N) (hn : EnvNew K.hb env) (E : EnvRel env ρ s.heap α) (r : R K.hb s.heap σ α) :
    Runs K VR A (eval (.ListComp elt [⟨.Name x px, iter, ifs, 0⟩] scope pos) env) (ev C (.comp fz t (capOf N (relab N scope.names)) e cc i) ρ σ) s α := by
  cases hhd : C.hd with
  | true => rw [ev_comp, hhd]; exact fun hc => absurd rfl hc
  | false =>
  rw [compOut_ev hhd]
  obtain ⟨hit', hpl⟩ := trIt_sound c hhd S q.it hN hn E r
  refine listComp_sound (q.ok hN) E hit' (fun C' v s' σ' α' n' E' r' => ?_) (fun C' v s' σ' α' n' E' r' => ?_) c.fr hn r (plain_folded hpl)
  · rw [comp_cap hN] at E'
    exact cond_sound S q.cond (comp_names hN E) n' E' r'
  · rw [comp_cap hN] at E'
    exact ((S _ elt e q.elt).2 _ _ σ' s' α' (comp_names hN E) n' E' r').1

theorem trCmp_sound {l : Expr} {os : List CmpOp} {rs : List Expr} {pos : Pos} {x : X} (c : Ctx K A T C) (S : SE K A C f) (h : trCmp (f N) l os rs = some x) : Both K A C N (.Compare l os rs pos) x := by
  unfold trCmp at h
  cases os with
  | nil => contradiction
  | cons o os =>
    cases rs with
    | nil => contradiction
    | cons r1 rs =>
      cases os with
      | nil =>
        change onlyIf _ _ = _ at h
        refine onlyIf_e h fun h0 h => ?_
        rw [List.isEmpty_iff.mp h0]
        exact o3_e h fun o' a b h1 h2 h3 env ρ σ s α hN hn E r => cmpE_sound c S h1 h2 h3 hN hn E r
      | cons o2 os =>
        cases rs with
        | nil => contradiction
        | cons r2 rs =>
          change onlyIf _ _ = _ at h
          refine onlyIf_e h fun h0 h => bind_e h fun o' h1 h => ?_
          obtain ⟨h0, h0'⟩ := Bool.and_eq_true_iff.mp h0
          rw [List.isEmpty_iff.mp h0, List.isEmpty_iff.mp h0']
          exact o4_e h fun a b o2' b2 h2 h3 h4 h5 env ρ σ s α hN hn E r => cmp2E_sound c S h1 h4 h2 h3 h5 hN hn E r

theorem trOne_sound {g : Str} {a : Expr} {p pos : Pos} {x : X} (c : Ctx K A T C) (S : SE K A C f) (hg : isG N g = true) (hb' : g ∈ T.bins) (h : trOne T N (f N) pos g a = some x) : Both K A C N (.Call (.Name g p) [a] [] pos) x := by
  unfold trOne at h
  refine optE_e h (fun y hls h' => ?_) fun _ h => o2_e h fun b1 x1 hb1 hx1 => both_gen (fun _ _ => rfl) (fun _ _ => rfl) fun hN hn E r => b1_sound c S hb1 hg hb' hx1 hN hn E r
  unfold lenSet at hls
  clear h
  refine bind_e hls fun q hq hls1 => onlyIf_e hls1 fun hcond hls2 => ?_
  clear hls1 hls
  have hq := call1_is hq
  obtain ⟨g2, p2, a2, pos2⟩ := q
  obtain rfl := Option.some.inj hls2
  simp only [Bool.and_eq_true, beq_iff_eq, isB] at hcond
  obtain ⟨⟨h1, h2⟩, hg2, hb2⟩ := hcond
  subst h1 h2 hq
  exact map_e h' fun z hz => both_gen (fun _ _ => rfl) (fun _ _ => rfl) fun hN hn E r => lensetE_sound c S hg hb' hg2 (by simpa using hb2) hz hN hn E r
theorem trTwo_sound {g : Str} {a b : Expr} {p pos : Pos} {x : X} (c : Ctx K A T C) (S : SE K A C f) (hg : isG N g = true) (hb' : g ∈ T.bins) (h : trTwo T N (f N) g a b = some x) : Both K A C N (.Call (.Name g p) [a, b] [] pos) x := by
  unfold trTwo at h
  refine cond_e h (fun hcond h => ?_) fun h => onlyIf_e h fun hcond h => ?_
  · obtain rfl := eq_of_beq hcond
    refine bind_e h fun q hq h => ?_
    rw [isName_is hq]
    refine optE_e h (fun sup hsup h => map_e h fun z hz => both_gen (fun _ _ => rfl) (fun _ _ => rfl) fun hN hn E r => isexcE_sound c S hsup hg hb' hz hN hn E r) fun _ h => onlyIf_e h fun hcond h => ?_
    obtain ⟨hgt, hbt⟩ := Bool.and_eq_true_iff.mp hcond
    exact o2_e h fun x1 ty hx1 hty => both_gen (fun _ _ => rfl) (fun _ _ => rfl) fun hN hn E r => isinstE_sound c S hty hg hb' hgt (by simpa using hbt) hx1 hN hn E r
  · obtain rfl := eq_of_beq hcond
    exact o2_e h fun x1 y1 hx1 hy1 => both_gen (fun _ _ => rfl) (fun _ _ => rfl) fun hN hn E r => min2E_sound c S hg hb' hx1 hy1 hN hn E r
theorem trCall_sound {g : Str} {args : List Expr} {p pos : Pos} {x : X} (c : Ctx K A T C) (S : SE K A C f) (h : trCall T N (f N) pos g args = some x) : Both K A C N (.Call (.Name g p) args [] pos) x := by
  unfold trCall at h
  refine onlyIf_e h fun hg h => optE_e h (fun i hi h => onlyIf_e h fun hne h => map_e h fun xs hq => both_gen (fun _ _ => rfl) (fun _ _ => rfl) fun hN hn E r => ?_) fun _ h => optE_e h (fun y hy h => by obtain rfl := Option.some.inj h; exact trNew_sound c S hg hy) fun _ h => onlyIf_e h fun hb h => ?_
  · have hi' : T.fns[i]? = some g := by
      obtain ⟨h1, h2, _⟩ := List.findIdx?_eq_some_iff_getElem.mp hi
      rw [List.getElem?_eq_getElem h1, eq_of_beq h2]
    exact callFn_sound c S hi' hg (fun q => by subst q; contradiction) hq hN hn E r
  · have hb' : g ∈ T.bins := by simpa using hb
    cases args with
    | nil => contradiction
    | cons a r =>
      cases r with
      | nil => exact trOne_sound c S hg hb' h
      | cons b r =>
        change onlyIf _ _ = _ at h
        refine onlyIf_e h fun h0 h => ?_
        rw [List.isEmpty_iff.mp h0]
        exact trTwo_sound c S hg hb' h

theorem isDict_is {e : Expr} {q : List (Option Expr) × List Expr × Pos} (h : isDict e = some q) : e = .Dict q.1 q.2.1 q.2.2 := by
  cases e with
  | Dict ks vs p => obtain rfl := Option.some.inj h; rfl
  | _ => contradiction
theorem trGet_sound {ks : List (Option Expr)} {vs : List Expr} {m : Str} {args : List Expr} {dpos apos pos : Pos} {x : X} (c : Ctx K A T C) (S : SE K A C f) (hl : (apos.endLine == pos.line) = true) (h : trGet (f N) ks vs m args = some x) : Both K A C N (.Call (.Attribute (.Dict ks vs dpos) m apos) args [] pos) x := by
  unfold trGet at h
  cases args with
  | nil => contradiction
  | cons k r1 =>
    dsimp only at h
    refine bind_e h fun d h0 h => onlyIf_e h fun hm h => bind_e h fun l h1 h => onlyIf_e h fun hc h' => ?_
    obtain rfl := eq_of_beq hm
    obtain rfl := one_is h0
    simp only [Bool.and_eq_true, decide_eq_true_eq, Bool.not_eq_true', List.isEmpty_eq_false_iff] at hc
    obtain ⟨⟨q1, q2⟩, q3⟩ := hc
    exact o3_e h' fun vv kx dx h2 h3 h4 => both_gen (fun _ _ => rfl) (fun _ _ => rfl) fun hN hn E r => fdgetE_sound c S hl h1 h2 q1 q2 q3 h3 h4 hN hn E r
theorem trMeth_sound {o : Expr} {m : Str} {args : List Expr} {apos pos : Pos} {x : X} (c : Ctx K A T C) (S : SE K A C f) (hl : (apos.endLine == pos.line) = true) (h : trMeth T (f N) o m args = some x) : Both K A C N (.Call (.Attribute o m apos) args [] pos) x := by
  unfold trMeth at h
  refine optE_e h (fun q hd h => ?_) fun _ h => onlyIf_e h fun hnc h => ?_
  · rw [isDict_is hd]; exact trGet_sound c S hl h
  · cases args with
    | nil => contradiction
    | cons a r =>
      cases r with
      | nil => exact o3_e h fun mm ox ax h0 h1 h2 => both_gen (fun _ _ => rfl) (fun _ _ => rfl) fun hN hn E r => meE_sound c S h0 hl hnc h1 h2 hN hn E r
      | cons b r =>
        contradiction

theorem asSlice_is {e : Expr} {q : Option Expr × Option Expr × Option Expr × Pos} (h : asSlice e = some q) : e = .Slice q.1 q.2.1 q.2.2.1 q.2.2.2 := by
  cases e with
  | Slice lo hi st p => obtain rfl := Option.some.inj h; rfl
  | _ => contradiction
theorem trSubs_sound {o i : Expr} {pos : Pos} {x : X} (c : Ctx K A T C) (S : SE K A C f) (h : trSubs (f N) o i = some x) : Both K A C N (.Subscript o i pos) x := by
  unfold trSubs at h
  refine optE_e h (fun q hi h => ?_) fun hi h => o2_e h fun a b h1 h2 => both_gen (fun _ _ => rfl) (fun _ _ => rfl) fun hN hn E r => subE_sound c S (fun l u st p q => by subst q; contradiction) h1 h2 hN hn E r
  have hi := asSlice_is hi
  obtain ⟨lo, hi, st, p⟩ := q
  subst hi
  cases st with
  | none => exact o3_e h fun ox lx hx h1 h2 h3 => both_gen (fun _ _ => rfl) (fun _ _ => rfl) fun hN hn E r => sliceE_sound S h1 h2 h3 hN hn E r
  | some st => contradiction

theorem trCompE_is {elt : Expr} {gens : List Comprehension} {scope : Scope} {pos : Pos} {x : X} (h : trCompE T N f elt gens scope pos = some x) : ∃ z p iter ifs, gens = [⟨.Name z p, iter, ifs, 0⟩] ∧ trComp T N f elt z iter ifs scope pos = some x := by
  unfold trCompE at h
  refine bind_e h fun g hg h => onlyIf_e h fun ha h => bind_e h fun q hq h => ?_
  obtain ⟨tg, iter, ifs, asy⟩ := g
  obtain rfl := isName_is hq
  obtain rfl := eq_of_beq ha
  exact ⟨q.1, q.2, iter, ifs, one_is hg, h⟩
theorem trCompE_sound {elt : Expr} {gens : List Comprehension} {scope : Scope} {pos : Pos} {x : X} (c : Ctx K A T C) (S : SE K A C f) (h : trCompE T N f elt gens scope pos = some x) : Both K A C N (.ListComp elt gens scope pos) x := by
  obtain ⟨z, p, iter, ifs, rfl, h⟩ := trCompE_is h
  exact trComp_is h fun t e cc i q => both_gen (fun _ _ => rfl) (fun _ _ => rfl) fun hN hn E r => compE_sound c S q hN hn E r

theorem trStep_sound (c : Ctx K A T C) (S : SE K A C f) : SE K A C (trStep T f) := by
  intro N e x h
  cases e with
  | Constant cc _ _ => exact ⟨rfl, map_e h fun v hq => both_gen (fun _ _ => rfl) (fun _ _ => rfl) fun _ _ _ r => const_sound hq r⟩
  | Name z p => exact ⟨rfl, trName_sound c h⟩
  | BoolOp o es pos =>
    cases o with
    | And => exact ⟨rfl, map_e h fun v hq env ρ σ s α hN hn E r => and_sound S hq hN hn E r⟩
    | Or => exact ⟨rfl, map_e h fun v hq env ρ σ s α hN hn E r => or_sound S hq hN hn E r⟩
  | UnaryOp o a pos =>
    cases o with
    | Not => exact ⟨rfl, map_e h fun v hq env ρ σ s α hN hn E r => notE_sound S hq hN hn E r⟩
    | USub => exact ⟨rfl, map_e h fun v hq => both_gen (fun _ _ => rfl) (fun _ _ => rfl) fun hN hn E r => negE_sound S hq hN hn E r⟩
    | _ => contradiction
  | BinOp l o r' pos => exact ⟨rfl, o3_e h fun _ _ _ ho ha hb => both_gen (fun _ _ => rfl) (fun _ _ => rfl) fun hN hn E r => binE_sound c S ho ha hb hN hn E r⟩
  | Compare l os rs pos => exact ⟨rfl, trCmp_sound c S h⟩
  | List es pos => exact ⟨rfl, map_e h fun v hq => both_gen (fun _ _ => rfl) (fun _ _ => rfl) fun hN hn E r => listE_sound S hq hN hn E r⟩
  | Tuple es k pos => exact ⟨rfl, map_e h fun v hq => both_gen (fun _ _ => rfl) (fun _ _ => rfl) fun hN hn E r => tupE_sound S hq hN hn E r⟩
  | Call fn args kws pos =>
    refine ⟨rfl, ?_⟩
    change onlyIf _ _ = _ at h
    refine onlyIf_e h fun hk h => ?_
    rw [List.isEmpty_iff.mp hk]
    cases fn with
    | Name g p => exact trCall_sound c S h
    | Attribute o m apos =>
      change onlyIf _ _ = _ at h
      exact onlyIf_e h fun hl h => trMeth_sound c S hl h
    | _ => contradiction
  | Subscript o i pos => exact ⟨rfl, trSubs_sound c S h⟩
  | Dict ks vs pos =>
    change onlyIf _ _ = _ at h
    refine ⟨rfl, onlyIf_e h fun hc h => ?_⟩
    obtain ⟨h1, h2⟩ := Bool.and_eq_true_iff.mp hc
    rw [List.isEmpty_iff.mp h1, List.isEmpty_iff.mp h2]
    obtain rfl := Option.some.inj h
    exact both_gen (fun _ _ => rfl) (fun _ _ => rfl) fun _ _ _ r => dnewE_sound r
  | ListComp elt gens scope pos => exact ⟨rfl, trCompE_sound c S h⟩
  | _ => contradiction

theorem trE_sound (c : Ctx K A T C) : ∀ n, SE K A C (trE T n)
  | 0 => fun N e x h => by contradiction
  | n + 1 => trStep_sound c (trE_sound c n)
end
end Mine

namespace Mine
open PySem PyProof.Rows

section
variable {K : Kt} {A : Around} {s : Shared} {α : AL} {σ : Sto}
theorem setItem_plain {l : Addr} {items : List Value} {n : Nat} {k : Int} {t : Tok} {v : Value} {Q : Unit → Shared → Prop} {E : Value → Shared → Prop} (ho : s.heap.get? l = some { cls := .type "list", data := .seq items.toArray n })
    (h0 : 0 ≤ k) (hfit : k < 2 ^ 63) (hn : k < items.length)
    (hQ : ∀ h' n', h'.get? l = some { cls := .type "list", data := .seq (items.set k.toNat v).toArray n' } → Heap.SameBut l s.heap h' → Q () { s with heap := h' }) :
    wpAny (model K.prog K.w) A (setItem (.ref l) (.int k t) v) Q E s := by
  have hl := isL ho
  unfold setItem
  try with_reducible refine wpAny_holding ?_
  first | refine wpAny_bind (wpAny_pure ?_) | skip
  refine wpAny_bind (wpAny_sequenceKey hl.typeIs (by decide) ?_)
  refine wpAny_bind (wpAny_callSpecial?_slot (name := Str.ofString "__setitem__") hl.typeIs slot_list_setitem
    (wpAny_call_entry slot_list_setitem hl.typeIs entry_list_setitem ?_ (args_list_setitem _ _ _)))
  show wpAny _ _ (Builtin.List.listSubscript? (.int k t) >>= _) _ _ s
  refine wpAny_bind (wpAny_listSubscript_int (fitsIndex_of h0 hfit) ?_)
  clear hfit
  obtain ⟨j, rfl⟩ := Int.eq_ofNat_of_zero_le h0
  have hj : j < items.length := by omega
  have hx' : items.toArray[j]? = some items[j] := by simp [hj]
  show wpAny _ _ ((seqItemAt l j >>= fun r => pure (r.map (j, ·))) >>= _) _ _ s
  refine wpAny_bind (wpAny_bind (wpAny_seqItemAt ho rfl (wpAny_pure ?_)))
  rw [hx']
  show wpAny _ _ (setSeqItemAt l j v >>= _) _ _ s
  have hfin : (s.heap.update l (Obj.mapSeq (·.setIfInBounds j v))).get? l = some { cls := .type "list", data := .seq (items.set j v).toArray n } := by
    rw [Heap.get?_update_self _ ho (by rfl)]
    simp [Obj.mapSeq]
  refine wpAny_bind (wpAny_setSeqItemAt ho rfl ?_)
  first
    | exact wpAny_bind (wpAny_pure (wpAny_pure ⟨.none, rfl, wpAny_pure (hQ _ _ hfin (Heap.SameBut.update ..))⟩))
    | exact wpAny_pure ⟨.none, rfl, wpAny_pure (hQ _ _ hfin (Heap.SameBut.update ..))⟩
end

/-- the frame's own objects -/
noncomputable def frm (env : Env) : List Addr := env.locals :: env.cells.map (·.2)
theorem frm_alive {env : Env} {ρ : Loc} {h : Heap} {α : AL} (E : EnvRel env ρ h α) (hd : ∀ p ∈ env.cells, env.cells.lookup p.1 = some p.2) : ∀ b ∈ frm env, ∃ o, h.get? b = some o := by
  intro b hb
  rcases List.mem_cons.mp hb with q | q
  · subst q
    obtain ⟨m, ⟨o, _, _, e, _⟩, _⟩ := E.ns
    exact ⟨o, e⟩
  · obtain ⟨p, hp, rfl⟩ := List.mem_map.mp q
    obtain ⟨_, _, v, o, e, _⟩ := E.ca p.1 p.2 (hd p hp)
    exact ⟨o, e⟩

/-- what a frame's names must be -/
structure FrOk (hb : Bs) (env : Env) : Prop where
  sc : ScOk env.scope.names
  new : EnvNew hb env
  cl : ∀ p ∈ env.cells, env.cells.lookup p.1 = some p.2
  inter : interactive env = false

noncomputable def FlowOk (c : OutS) (h : Heap) (α : AL) (fl : Flow) (ρ : Loc) (σ : Sto) : Prop :=
  match c with
  | .next ρ' σ' => fl = .next ∧ ρ' = ρ ∧ σ' = σ
  | .brk ρ' σ' => fl = .brk ∧ ρ' = ρ ∧ σ' = σ
  | .cont ρ' σ' => fl = .cont ∧ ρ' = ρ ∧ σ' = σ
  | .ret v ρ' σ' => (∃ u, fl = .ret u ∧ VR h α v u) ∧ ρ' = ρ ∧ σ' = σ
  | _ => False

inductive PostS (K : Kt) (env : Env) (c : OutS) (s : Shared) (α : AL) (fl : Flow) (s' : Shared) : Prop where
  | mk (ρ' : Loc) (σ' : Sto) (α' : AL) (x : Ext (frm env) α s.heap α' s'.heap) (r : R K.hb s'.heap σ' α') (er : EnvRel env ρ' s'.heap α') (m : Sm s s') (fo : FlowOk c s'.heap α' fl ρ' σ') : PostS K env c s α fl s'
inductive PostXS (K : Kt) (_A : Around) (env : Env) (c : OutS) (s : Shared) (α : AL) (e : Value) (s' : Shared) : Prop where
  | mk (i : Nat) (ρ : Loc) (σ' : Sto) (s₁ : Shared) (α₁ : AL) (nt : Bool) (h : c = .exc i ρ σ') (x : Ext (frm env) α s.heap α₁ s₁.heap) (er : EnvRel env ρ s₁.heap α₁) (m : Sm s s₁) (fx : FX K s₁ α₁ i σ' nt e s') : PostXS K _A env c s α e s'
noncomputable def RunsS (K : Kt) (env : Env) (A : Around) (t : Sem Flow) (c : OutS) (s : Shared) (α : AL) : Prop :=
  c ≠ .stuck → K.Tk s → wpAny (model K.prog K.w) A t (PostS K env c s α) (PostXS K A env c s α) s

section
variable {K : Kt} {A : Around} {T : Tab} {C : Cfg} {N : List (Str × NameKind)} {env : Env} {ρ : Loc} {σ : Sto} {s : Shared} {α : AL}

theorem PostS.lift {c : OutS} {s₁ : Shared} {α₁ : AL} {fl : Flow} {s' : Shared} (x : Ext (frm env) α s.heap α₁ s₁.heap) (m : Sm s s₁) (p : PostS K env c s₁ α₁ fl s') : PostS K env c s α fl s' := by
  obtain ⟨ρ', σ', α', x', r, E, m', fo⟩ := p
  exact ⟨ρ', σ', α', x.trans x', r, E, m.trans m', fo⟩
theorem PostXS.lift {c : OutS} {s₁ : Shared} {α₁ : AL} {e : Value} {s' : Shared} (x : Ext (frm env) α s.heap α₁ s₁.heap) (m : Sm s s₁) (p : PostXS K A env c s₁ α₁ e s') : PostXS K A env c s α e s' := by
  obtain ⟨i, ρ, σ', s₂, α₂, nt, h, x', E, m', fx⟩ := p
  exact ⟨i, ρ, σ', s₂, α₂, nt, h, x.trans x', E, m.trans m', fx⟩
theorem PostX.toS {β : Type} {c : Out β} {f : β → Sto → OutS} {e : Value} {s' : Shared} (E : EnvRel env ρ s.heap α) (p : PostX K A c s α e s') : PostXS K A env (c.toS ρ f) s α e s' := by
  obtain ⟨i, σ', h, nt, fx⟩ := p
  exact ⟨i, ρ, σ', s, α, nt, by rw [h]; rfl, .refl, E, .refl s, fx⟩

theorem frExt (F : FrOk K.hb env) (E : EnvRel env ρ s.heap α) {α' : AL} {h' : Heap} (x : Ext [] α s.heap α' h') : Ext (frm env) α s.heap α' h' :=
  x.mono (by simp) (frm_alive E F.cl)

/-- an expression, then more -/
theorem Runs.useS {β γ : Type} {Rel : Heap → AL → β → γ → Prop} {t : Sem γ} {c : Out β} {f : β → Sto → OutS} {W : γ → Shared → Prop} (E : EnvRel env ρ s.heap α) (H : Runs K Rel A t c s α) (hc : c.toS ρ f ≠ .stuck) (tk : K.Tk s)
    (N : ∀ b σ' α' y s', c = .ok b σ' → f b σ' ≠ .stuck → Ext [] α s.heap α' s'.heap → R K.hb s'.heap σ' α' → Rel s'.heap α' b y → Sm s s' → K.Tk s' → W y s') : wpAny (model K.prog K.w) A t W (PostXS K A env (c.toS ρ f) s α) s := by
  have h1 : c ≠ .stuck := by rintro rfl; exact hc rfl
  refine wpAny_mono (toks_up (H h1 tk)) (fun y s' hp => ?_) fun e s' hx => hx.1.toS E
  obtain ⟨⟨b, σ', α', rfl, x, r, v, m⟩, tl⟩ := hp
  exact N b σ' α' y s' rfl hc x r v m (Kt.Tk.up tk tl)

/-- storing a name -/
theorem store_any {i : Nat} {x : Str} {k : NameKind} {v : PV} {u : Value} {Q : Unit → Shared → Prop} {X : Value → Shared → Prop} (F : FrOk K.hb env) (r : R K.hb s.heap σ α) (E : EnvRel env ρ s.heap α)
    (hn : env.scope.names[i]? = some (x, k)) (hk : k = .local ∨ k = .cell) (vu : VR s.heap α v u)
    (hQ : ∀ s', R K.hb s'.heap σ α → EnvRel env (ρ.set i (some v)) s'.heap α → Ext (frm env) α s.heap α s'.heap → Sm s s' → Q () s') :
    wpAny (model K.prog K.w) A (storeName env x u) Q X s := by
  rcases hk with rfl | rfl
  · refine store_local F.sc.uniq r E F.new.l hn vu fun s' r' E' x' _ m' => hQ s' r' E' (x'.mono (by simp [frm]) (frm_alive E F.cl)) m'
  · refine store_cell F.sc.uniq r E F.new hn vu fun c s' hc r' E' x' m' => hQ s' r' E' (x'.mono ?_ (frm_alive E F.cl)) m'
    intro b hb
    simp at hb; subst hb
    exact List.mem_cons_of_mem _ (List.mem_map.mpr ⟨_, mem_of_lookup hc, rfl⟩)

theorem swaps_plain {e : Expr} {t : Option Expr} {line : Nat} (h : isComp e = false) : swapsWith e t line env = pure false := by
  cases e <;> first | rfl | contradiction

theorem asg_sound {x : Str} {p pos : Pos} {e : Expr} {i : Nat} {k : NameKind} {y : X} (F : FrOk K.hb env) (hcp : isComp e = false) (hn : env.scope.names[i]? = some (x, k)) (hk : k = .local ∨ k = .cell)
    (H : Runs K VR A (eval e env) (ev C y ρ σ) s α) (E : EnvRel env ρ s.heap α) {n : Nat} :
    RunsS K env A (exec (.Assign [.Name x p] e pos) env) (ex C n (.asg i y) ρ σ) s α := by
  change RunsS K env A _ ((ev C y ρ σ).toS ρ fun v σ => .next (ρ.set i (some v)) σ) s α
  intro hc tk
  refine wpAny_Assign_Name (Runs.useS E H hc tk fun v σ₁ α₁ u s₁ e1 hc1 x1 r1 v1 m1 tk1 => ?_) (swaps_plain hcp)
  refine store_any F r1 (E.ext x1 .nil) hn hk v1 fun s₂ r2 E2 x2 m2 => ?_
  rw [e1]
  exact ⟨_, _, _, (frExt F E x1).trans x2, r2, E2, m1.trans m2, rfl, rfl, rfl⟩

theorem expr_sound {e : Expr} {pos : Pos} {y : X} (F : FrOk K.hb env) (hcp : isComp e = false)
    (H : Runs K VR A (eval e env) (ev C y ρ σ) s α) (E : EnvRel env ρ s.heap α) {n : Nat} :
    RunsS K env A (exec (.Expr e pos) env) (ex C n (.expr y) ρ σ) s α := by
  change RunsS K env A _ ((ev C y ρ σ).toS ρ fun _ σ => .next ρ σ) s α
  intro hc tk
  refine wpAny_Expr_any (Runs.useS E H hc tk fun v σ₁ α₁ u s₁ e1 hc1 x1 r1 v1 m1 tk1 => ?_) F.inter (swaps_plain hcp)
  rw [e1]
  exact ⟨ρ, σ₁, α₁, frExt F E x1, r1, E.ext x1 .nil, m1, rfl, rfl, rfl⟩

theorem ret_sound {e : Expr} {pos : Pos} {y : X} (F : FrOk K.hb env)
    (H : Runs K VR A (eval e env) (ev C y ρ σ) s α) (E : EnvRel env ρ s.heap α) {n : Nat} :
    RunsS K env A (exec (.Return (some e) pos) env) (ex C n (.ret y) ρ σ) s α := by
  change RunsS K env A _ ((ev C y ρ σ).toS ρ fun v σ => .ret v ρ σ) s α
  intro hc tk
  refine wpAny_Return_some (Runs.useS E H hc tk fun v σ₁ α₁ u s₁ e1 hc1 x1 r1 v1 m1 tk1 => ?_)
  rw [e1]
  exact ⟨ρ, σ₁, α₁, frExt F E x1, r1, E.ext x1 .nil, m1, ⟨u, rfl, v1⟩, rfl, rfl⟩

theorem storeSub_dp {q : Nat} {l : Addr} {es : List ((Str × Int) × PV)} {p v : PV} {k : Str × Int} {x u : Value} {Q : Unit → Shared → Prop} {X : Value → Shared → Prop} (hA : AOk A) (r : R K.hb s.heap σ α) (hs : σ[q]? = some (.dp es)) (el : α.ix[q]? = some l)
    (hk : keyP p = some k) (vp : VR s.heap α p x) (vv : VR s.heap α v u) (hl : es.length < lim)
    (hQ : ∀ s', R K.hb s'.heap (σ.set q (.dp (aput k v es))) α → Ext [] α s.heap α s'.heap → Sm s s' → Q () s') : wpAny (model K.prog K.w) A (setItem (.ref l) x u) Q X s := by
  obtain ⟨xs, h1, h2, h3, h4⟩ := dp_at r hs el
  obtain ⟨b, rfl, hb, hbn⟩ := key_at (K := K) hk vp
  have hlen : xs.length ≤ sizeLine := by
    have e := congrArg List.length h2
    simp only [List.length_map, kvsOf] at e
    rw [e]
    exact lim_line (Nat.le_of_lt hl)
  refine wpAny_setItem_heap (hsz := hlen) (room1 hA) hb h1 fun h' hd' sb => ?_
  obtain ⟨o', es', ep', e', _⟩ := id hd'
  have hkv := aput_rel key2_inj (k := k) h2 h4 vv
  obtain ⟨r', x'⟩ := r.set (m := .dp (aput k v es)) el (fun b o hb e => (sb.2 b hb).trans e) e' fun x' => ⟨storedH xs (key2 k) b u, hd', by
      have := hkv.1
      rw [← kvsOf_storedH, kvsOf, List.map_map] at this
      exact this, fun y hy => by
      rcases mem_storedH hy with ⟨z, hz, _, e2⟩ | ⟨_, e2⟩
      · rw [e2]; exact h3 z hz
      · rw [e2]; exact hbn, by
      have := hkv.2
      rw [← kvsOf_storedH, kvsOf, List.map_map] at this
      exact this.ext x'⟩
  exact hQ _ r' x' ⟨rfl, rfl⟩
theorem storeSub_ds {q : Nat} {l : Addr} {es : List (Str × PV)} {v : PV} {k : Str} {t : Tok} {u : Value} {Q : Unit → Shared → Prop} {X : Value → Shared → Prop} (r : R K.hb s.heap σ α) (hs : σ[q]? = some (.ds es)) (el : α.ix[q]? = some l)
    (vv : VR s.heap α v u) (hl : es.length < lim)
    (hQ : ∀ s', R K.hb s'.heap (σ.set q (.ds (aput k v es))) α → Ext [] α s.heap α s'.heap → Sm s s' → Q () s') : wpAny (model K.prog K.w) A (setItem (.ref l) (.str k t) u) Q X s := by
  obtain ⟨kvs, h1, h2, h4⟩ := ds_at r hs el
  have hlen : kvs.length ≤ sizeLine := by
    have e := congrArg List.length h2
    simp only [List.length_map] at e
    rw [e]
    exact lim_line (Nat.le_of_lt hl)
  refine wpAny_setItem_pairs (hsz := hlen) str_is h1 fun h' hd' sb => ?_
  obtain ⟨o', es', ep', e', _⟩ := id hd'
  have hkv := aput_rel (g := id) (fun _ _ h => h) (k := k) h2 h4 vv
  obtain ⟨r', x'⟩ := r.set (m := .ds (aput k v es)) el (fun b o hb e => (sb.2 b hb).trans e) e' fun x' => ⟨stored kvs k u, hd', hkv.1, hkv.2.ext x'⟩
  exact hQ _ r' x' ⟨rfl, rfl⟩
theorem storeSub_dp_eq {q : Nat} {i v : PV} {es : List ((Str × Int) × PV)} (hs : σ[q]? = some (.dp es)) : storeSub (.ref q) i v ρ σ = match keyP i with
    | some k => if es.length < lim then .next ρ (σ.set q (.dp (aput k v es))) else .stuck
    | none => .stuck := by
  unfold storeSub
  dsimp only
  rw [hs]
  all_goals (cases i <;> rfl)
theorem asgSub_sound {o i v : Expr} {p pos : Pos} {x y z : X} (hA : AOk A) (F : FrOk K.hb env) (hcp : isComp v = false) {n : Nat}
    (H1 : ∀ {σ s α}, EnvRel env ρ s.heap α → R K.hb s.heap σ α → Runs K VR A (eval v env) (ev C z ρ σ) s α)
    (H2 : ∀ {σ s α}, EnvRel env ρ s.heap α → R K.hb s.heap σ α → Runs K VR A (eval o env) (ev C x ρ σ) s α)
    (H3 : ∀ {σ s α}, EnvRel env ρ s.heap α → R K.hb s.heap σ α → Runs K VR A (eval i env) (ev C y ρ σ) s α) (E : EnvRel env ρ s.heap α) (r : R K.hb s.heap σ α) :
    RunsS K env A (exec (.Assign [.Subscript o i p] v pos) env) (ex C n (.asgSub x y z) ρ σ) s α := by
  simp only [ex]
  intro hc tk
  refine wpAny_Assign_Subscript (Runs.useS E (H1 E r) hc tk fun vv σ₁ α₁ u s₁ e1 hc1 x1 r1 v1 m1 tk1 => ?_) (swaps_plain hcp)
  rw [e1] at hc ⊢
  have E1 := E.ext x1 .nil
  refine wpAny_mono (Runs.useS (env := env) (s := s₁) (α := α₁) E1 (H2 E1 r1) hc1 tk1 fun vo σ₂ α₂ uo s₂ e2 hc2 x2 r2 v2 m2 tk2 => ?_) (fun _ _ q => q) (fun _ _ q => PostXS.lift (frExt F E x1) m1 q)
  have E2 := E1.ext x2 .nil
  simp only [Out.toS, e2]
  refine wpAny_mono (Runs.useS (env := env) (s := s₂) (α := α₂) E2 (H3 E2 r2) hc2 tk2 fun vi σ₃ α₃ ui s₃ e3 hc3 x3 r3 v3 m3 tk3 => ?_) (fun _ _ q => q) (fun _ _ q => PostXS.lift (frExt F E (x1.trans x2)) (m1.trans m2) q)
  have E3 := E2.ext x3 .nil
  show wpAny (model K.prog K.w) A (setItem uo ui u) _ _ s₃
  have xx := (x1.trans x2).trans x3
  have mm := (m1.trans m2).trans m3
  simp only [Out.toS, e2, e3] at hc ⊢
  cases vo with
  | ref q =>
    cases v2 with
    | @ref _ l el =>
    have el3 := x3.get el
    cases hs : σ₃[q]? with
    | none => simp only [storeSub, hs] at hc3; exact absurd rfl hc3
    | some mo =>
      cases mo with
      | lst xs =>
        obtain ⟨items, nn, q1, w⟩ := r3.obj q _ l hs el3
        cases vi with
        | int k =>
          simp only [storeSub, hs] at hc3 ⊢
          split at hc3
          · rename_i hb
            rw [if_pos hb]
            cases v3 with
            | int _ t =>
            have hlen := w.1
            have hb2 : (items.length : Int) ≤ 1000000 := by have := hb.2.2; unfold lim at this; omega
            refine setItem_plain q1 hb.1 (by omega) (by omega) fun h' n' e' sb => ?_
            obtain ⟨r', x'⟩ := r3.set (m := .lst (xs.set k.toNat vv)) el3 (fun b o hb e => (sb.2 b hb).trans e) e' fun x' => ⟨items.set k.toNat u, n', e', by
              refine ⟨by simp [hlen], fun j pv uv e1 e2 => ?_⟩
              rw [List.getElem?_set] at e1 e2
              split at e1
              · rename_i hj
                rw [if_pos hj] at e2
                split at e1
                · rw [if_pos (by omega)] at e2
                  obtain rfl := Option.some.inj e1; obtain rfl := Option.some.inj e2
                  exact (((v1.ext x2).ext x3).ext x')
                · contradiction
              · rename_i hj
                rw [if_neg hj] at e2
                exact (w.2 j pv uv e1 e2).ext x'⟩
            exact ⟨ρ, _, α₃, frExt F E (xx.trans x'), r', E3.ext x' .nil, mm.trans ⟨rfl, rfl⟩, rfl, rfl, rfl⟩
          · exact absurd rfl hc3
        | _ => simp only [storeSub, hs] at hc3; exact absurd rfl hc3
      | ds es =>
        cases vi with
        | str k =>
          (first | contradiction | (obtain rfl := Option.some.inj v3) | cases v3)
          simp only [storeSub, hs] at hc3 ⊢
          split at hc3
          · rename_i hl
            rw [if_pos hl]
            refine storeSub_ds r3 hs el3 ((v1.ext x2).ext x3) hl fun s' r' x' m' => ?_
            exact ⟨ρ, _, α₃, frExt F E (xx.trans x'), r', E3.ext x' .nil, mm.trans m', rfl, rfl, rfl⟩
          · exact absurd rfl hc3
        | _ => simp only [storeSub, hs] at hc3; exact absurd rfl hc3
      | dp es =>
        rw [storeSub_dp_eq hs] at hc3 ⊢
        cases hk : keyP vi with
        | none => rw [hk] at hc3; exact absurd rfl hc3
        | some k =>
          rw [hk] at hc3
          dsimp only at hc3 ⊢
          split at hc3
          · rename_i hl
            rw [if_pos hl]
            refine storeSub_dp hA r3 hs el3 hk v3 ((v1.ext x2).ext x3) hl fun s' r' x' m' => ?_
            exact ⟨ρ, _, α₃, frExt F E (xx.trans x'), r', E3.ext x' .nil, mm.trans m', rfl, rfl, rfl⟩
          · exact absurd rfl hc3
      | _ => simp only [storeSub, hs] at hc3; exact absurd rfl hc3
  | _ => exact absurd rfl hc3
end
end Mine

namespace Mine
open PySem PyProof.Rows

theorem ite_ne {q : Prop} {_ : Decidable q} {a b : OutS} (h : (if q then a else .stuck) = b) (hb : b ≠ .stuck) : q ∧ a = b := by
  by_cases hq : q
  · rw [if_pos hq] at h; exact ⟨hq, h⟩
  · rw [if_neg hq] at h; exact absurd h.symm hb

section
variable {K : Kt} {A : Around} {T : Tab} {C : Cfg} {N : List (Str × NameKind)} {env : Env} {ρ : Loc} {σ : Sto} {s : Shared} {α : AL}

theorem frm_apart {own : List Addr} {h : Heap} (E : EnvRel env ρ h α) (F : FrOk K.hb env) (ho : ∀ b ∈ own, h.get? b = none) : Apart env own ∧ ∀ b ∈ own, b ∉ frm env := by
  have al := frm_alive E F.cl
  refine ⟨⟨fun q => ?_, fun x c hc q => ?_⟩, fun b hb q => ?_⟩
  · obtain ⟨o, e⟩ := al env.locals List.mem_cons_self
    rw [ho _ q] at e; contradiction
  · obtain ⟨_, _, v, o, e, _⟩ := E.ca x c hc
    rw [ho _ q] at e; contradiction
  · obtain ⟨o, e⟩ := al b q
    rw [ho _ hb] at e; contradiction

/-- the way a loop's target takes an item -/
noncomputable def TgtOk (K : Kt) (A : Around) (env : Env) (target : Expr) (bind : PV → Loc → Option Loc) : Prop :=
  (∀ it v, letOwnedTupleGo target it v = pure ()) ∧ ∀ (s : Shared) (σ : Sto) (α : AL) (ρ ρ' : Loc) (p : PV) (u : Value), bind p ρ = some ρ' → EnvRel env ρ s.heap α → R K.hb s.heap σ α → VR s.heap α p u →
    ∀ (Q : Unit → Shared → Prop) (X : Value → Shared → Prop), (∀ s', R K.hb s'.heap σ α → EnvRel env ρ' s'.heap α → Ext (frm env) α s.heap α s'.heap → Sm s s' → Q () s') → wpAny (model K.prog K.w) A (assign target env u) Q X s

theorem tgt_name {i : Nat} {x : Str} {k : NameKind} {p : Pos} (F : FrOk K.hb env) (hn : env.scope.names[i]? = some (x, k)) (hk : k = .local ∨ k = .cell) : TgtOk K A env (.Name x p) (bind1 i) :=
  ⟨fun _ _ => rfl, fun s σ α ρ ρ' pv u hb E r v Q X hQ => by
    obtain rfl := Option.some.inj hb
    exact wpAny_assign_Name (store_any F r E hn hk v hQ)⟩

/-- where a loop stands -/
inductive ForInv (K : Kt) (env : Env) (s : Shared) (xs : List PV) (Ex : AL → Heap → Prop) (St : Nat → Heap → AL → Prop) (go : List PV → Loc → Sto → OutS) (c : OutS) (k : Nat) (s₁ : Shared) : Prop
  | mk (i : Nat) (σ₁ : Sto) (α₁ : AL) (ρ₁ : Loc) (hk : k = xs.length - i) (hi : i ≤ xs.length) (x : Ex α₁ s₁.heap) (r : R K.hb s₁.heap σ₁ α₁) (st : St i s₁.heap α₁) (E : EnvRel env ρ₁ s₁.heap α₁) (m : Sm s s₁) (hgo : go (xs.drop i) ρ₁ σ₁ = c) (tk : K.Tk s₁) : ForInv K env s xs Ex St go c k s₁
theorem for_sound {target it : Expr} {body : List Stmt} {pos : Pos} {bind : PV → Loc → Option Loc} {ix : X} {b : S} {n : Nat} {c : OutS} (F : FrOk K.hb env) (tg : TgtOk K A env target bind) (hpl : plainE it = true)
    (hit : RunsIt K A (eval it env) (evIt C ix ρ σ) s α) (hb : ∀ {ρ σ s α}, EnvRel env ρ s.heap α → R K.hb s.heap σ α → RunsS K env A (execs body env) (ex C n b ρ σ) s α) (E : EnvRel env ρ s.heap α)
    (hcc : c = (evIt C ix ρ σ).toS ρ fun p σ => forGo p.2 bind (fun ρ σ => ex C n b ρ σ) p.1 ρ σ) :
    RunsS K env A (exec (.For target it body [] pos) env) c s α := by
  subst hcc
  intro hc tk
  have hci : evIt C ix ρ σ ≠ .stuck := by intro q; rw [q] at hc; exact hc rfl
  refine wpAny_For (wpAny_mono (toks_up (hit hci tk)) (fun xv s₁ h₁ => wpAny_mono (toks_up h₁.1) (fun itv s₂ h₂ => ?_) fun _ _ q => q.1.toS E) fun _ _ q => q.1.toS E) (plain_folded hpl)
  have tk₂ : K.Tk s₂ := Kt.Tk.up tk (Nat.le_trans h₁.2 h₂.2)
  obtain ⟨xs, w, σ₂, α₂, own, St, hci2, x₂, r₂, m₂, I, st, ho⟩ := h₂.1
  obtain ⟨ap, apF⟩ := frm_apart E F fun b hb => (ho b hb).1
  rw [hci2] at hc ⊢
  generalize hcq : (Out.ok (xs, w) σ₂).toS ρ (fun p σ => forGo p.2 bind (fun ρ σ => ex C n b ρ σ) p.1 ρ σ) = c at hc ⊢
  have hgo : forGo w bind (fun ρ σ => ex C n b ρ σ) xs ρ σ₂ = c := hcq
  have E₂ := E.ext x₂ .nil
  have al2 : ∀ b ∈ own ++ frm env, ∃ o, s₂.heap.get? b = some o := fun b hb => by
    rcases List.mem_append.mp hb with q | q
    · exact I.live _ _ _ st b q
    · exact frm_alive E₂ F.cl b q
  refine codeAny_forLoop_any (ForInv K env s xs (Ext (own ++ frm env) α₂ s₂.heap) St (forGo w bind fun ρ σ => ex C n b ρ σ) c) (fun k s₁ inv => ?_) _ ⟨0, σ₂, α₂, ρ, rfl, Nat.zero_le _, .refl, r₂, st, E₂, m₂, by simpa using hgo, tk₂⟩
  obtain ⟨i, σ₁, α₁, ρ₁, rfl, hi, x₁, r₁, st₁, E₁, m₁, hgo₁, tk₁⟩ := inv
  have al1 : ∀ b ∈ own ++ frm env, ∃ o, s₁.heap.get? b = some o := fun b hb => by
    rcases List.mem_append.mp hb with q | q
    · exact I.live _ _ _ st₁ b q
    · exact frm_alive E₁ F.cl b q
  by_cases hlt : i < xs.length
  · have hdrop : xs.drop i = xs[i] :: xs.drop (i + 1) := List.drop_eq_getElem_cons hlt
    rw [hdrop] at hgo₁
    obtain ⟨hw, hgo₁⟩ := ite_ne hgo₁ hc
    cases hbi : bind xs[i] ρ₁ with
    | none => rw [hbi] at hgo₁; exact absurd hgo₁.symm hc
    | some ρ1 =>
    rw [hbi] at hgo₁
    change loopOn _ (ex C n b ρ1 σ₁) = c at hgo₁
    have hf1 : ex C n b ρ1 σ₁ ≠ .stuck := by intro q; rw [q] at hgo₁; exact hc hgo₁.symm
    refine wpAny_pos tk₁ (I.item i s₁ σ₁ α₁ xs[i] (by simp [hlt]) st₁ r₁ hw _ _ fun v s₃ vr st₃ xo r₃ m₃ tk₃ => ?_)
    refine wpAny_of_eq (tg.1 itv v) ?_
    have E₃ := E₁.ext xo ap
    refine wpAny_pos tk₃ (tg.2 s₃ σ₁ α₁ ρ₁ ρ1 xs[i] v hbi E₃ r₃ vr _ _ fun s₄ r₄ E₄ x4 m₄ tk₄ => ?_)
    have st₄ := I.frame _ _ _ _ _ _ st₃ x4 apF
    have al3 : ∀ b ∈ own ++ frm env, ∃ o, s₃.heap.get? b = some o := fun b hb => by
      rcases List.mem_append.mp hb with q | q
      · exact I.live _ _ _ st₃ b q
      · exact frm_alive E₃ F.cl b q
    have al4 : ∀ b ∈ own ++ frm env, ∃ o, s₄.heap.get? b = some o := fun b hb => by
      rcases List.mem_append.mp hb with q | q
      · exact I.live _ _ _ st₄ b q
      · exact frm_alive E₄ F.cl b q
    have x₄ : Ext (own ++ frm env) α₂ s₂.heap α₁ s₄.heap := (x₁.trans (xo.mono (fun b hb => List.mem_append_left _ hb) al1)).trans (x4.mono (fun b hb => List.mem_append_right _ hb) al3)
    refine wpAny_mono (toks_up (hb E₄ r₄ hf1 tk₄)) (fun fl s₅ hp => ?_) fun e s₅ hx => ?_
    · obtain ⟨⟨ρ₅, σ₅, α₅, x5, r₅, E₅, m₅, fo⟩, tl₅⟩ := hp
      have tk₅ := Kt.Tk.up tk₄ tl₅
      have st₅ := I.frame _ _ _ _ _ _ st₄ x5 apF
      have x₅ := x₄.trans (x5.mono (fun b hb => List.mem_append_right _ hb) al4)
      have mm := ((m₁.trans m₃).trans m₄).trans m₅
      have out : Ext (frm env) α s.heap α₅ s₅.heap := Ext.drop x₂ (fun b hb => (ho b hb).1) (frm_alive E F.cl) x₅
      cases hq : ex C n b ρ1 σ₁ with
      | next ρ' σ' =>
        rw [hq] at fo hgo₁
        obtain ⟨rfl, rfl, rfl⟩ := fo
        exact ⟨xs.length - (i + 1), by omega, i + 1, _, _, _, rfl, hlt, x₅, r₅, st₅, E₅, mm, hgo₁, tk₅⟩
      | cont ρ' σ' =>
        rw [hq] at fo hgo₁
        obtain ⟨rfl, rfl, rfl⟩ := fo
        exact ⟨xs.length - (i + 1), by omega, i + 1, _, _, _, rfl, hlt, x₅, r₅, st₅, E₅, mm, hgo₁, tk₅⟩
      | brk ρ' σ' =>
        rw [hq] at fo hgo₁
        obtain ⟨rfl, rfl, rfl⟩ := fo
        subst hgo₁
        exact ⟨_, _, _, out, r₅, E₅, mm, rfl, rfl, rfl⟩
      | ret v ρ' σ' =>
        rw [hq] at fo hgo₁
        obtain ⟨⟨u, rfl, vu⟩, rfl, rfl⟩ := fo
        subst hgo₁
        exact ⟨_, _, _, out, r₅, E₅, mm, ⟨u, rfl, vu⟩, rfl, rfl⟩
      | exc i ρ' σ' => rw [hq] at hgo₁; exact absurd hgo₁.symm hc
      | stuck => exact absurd hq hf1
    · obtain ⟨⟨j, ρ', σ', _, _, _, e5, _⟩, _⟩ := hx
      rw [e5] at hgo₁; exact absurd hgo₁.symm hc
  · have hie : i = xs.length := by omega
    subst hie
    rw [List.drop_length] at hgo₁
    obtain ⟨hw, hgo'⟩ := ite_ne hgo₁ hc
    refine I.done s₁ σ₁ α₁ st₁ r₁ hw _ _ fun s₃ xo r₃ m₃ => wpAny_execs_nil ?_
    show PostS K env c s α .next s₃
    rw [← hgo']
    exact ⟨_, _, _, Ext.drop x₂ (fun b hb => (ho b hb).1) (frm_alive E F.cl) (x₁.trans (xo.mono (fun b hb => List.mem_append_left _ hb) al1)), r₃, E₁.ext xo ap, m₁.trans m₃, rfl, rfl, rfl⟩
end
end Mine

namespace Mine
open PySem PyProof.Rows

end Mine

namespace Mine
open PySem PyProof.Rows

theorem EnvRel.wipe {env : Env} {ρ : Loc} {h h' : Heap} {α : AL} {m : Str → Option Value} (E : EnvRel env ρ h α) (n : h'.Ns env.locals m) (sb : ∀ b, b ≠ env.locals → h'.get? b = h.get? b) : EnvRel env (ρ.map fun _ => none) h' α := by
  have no : ∀ (i : Nat) (v : PV), (ρ.map fun _ => (none : Option PV))[i]? ≠ some (some v) := fun i v e => by
    rw [List.getElem?_map] at e
    cases hq : ρ[i]? <;> rw [hq] at e <;> (first | contradiction | (obtain rfl := Option.some.inj e) | cases e)
  refine ⟨E.ok, E.la, ⟨m, n, fun i x v _ e => absurd e (no i v)⟩, fun x c hc => ?_, E.cd, fun i x e1 => ?_, fun i v e => absurd e (no i v)⟩
  · obtain ⟨h1, h2, v, o, e, d⟩ := E.ca x c hc
    exact ⟨h1, h2, v, o, (sb c h2).trans e, d⟩
  · obtain ⟨c, hc, _⟩ := E.cv i x e1
    exact ⟨c, hc, fun v e => absurd e (no i v)⟩

section
variable {K : Kt} {A : Around} {T : Tab} {C : Cfg} {N : List (Str × NameKind)} {env : Env} {ρ : Loc} {σ : Sto} {s : Shared} {α : AL} {n : Nat}

/-- an exception that is made now -/
theorem FX.made {c : Nat} {a : Addr} {h' : Heap} {args : List Value} (r : R K.hb s.heap σ α) (m : Heap.MadeExcOf s.heap h' a (.ref c) args) : FX K s α c σ false (.ref a) { s with heap := h' } := by
  obtain ⟨t, e1, e2, e3⟩ := m.there
  exact ⟨a, s.heap, α, rfl, .refl, r, .keeps m.keeps, ⟨m.new, _, _, .none, e1, rfl, rfl, rfl, .inl rfl rfl⟩, ⟨rfl, rfl⟩⟩

theorem raise_sound {x : Str} {np cp pos : Pos} {z : Str} {k : Nat} {zp : Pos} {c : Nat} (ct : Ctx K A T C) (hx : excOf T N x = some c) (hz : PyData.strOk z = true) (hN : env.scope.names = N) (E : EnvRel env ρ s.heap α) (r : R K.hb s.heap σ α) :
    RunsS K env A (exec (.Raise (some (.Call (.Name x np) [.Constant (.str z) k zp] [] cp)) none pos) env) (ex C n (.raise c) ρ σ) s α := by
  have e0 : ex C n (.raise c) ρ σ = bif C.hd then .stuck else .exc c ρ σ := rfl
  rw [e0]
  cases hhd : C.hd with
  | true => exact fun hc => absurd rfl hc
  | false =>
  intro _ tk
  obtain ⟨hg, q, hq, rfl, rfl⟩ := excOf_is hx
  obtain ⟨j, hj⟩ := isG_idx hg
  obtain ⟨Fg, X, H⟩ := ct.exc
  obtain ⟨⟨hmg, hob, htl⟩, _⟩ := H q hq
  obtain ⟨nm, qn, Nn, bs, hdct, sn, sub, ab, col, dd, k0, k1, k2, k3, k5, hC, mN, hNs, hni⟩ := hob
  refine wpAny_Raise_call_subT (mN := mN) (C := q.2.1) (nm := nm) (q := qn) (N := Nn) (bs := bs) (hdct := hdct) (sn := sn) (sub := sub) (ab := ab) (col := col) (dd := dd) (k0 := k0) (k1 := k1) (k2 := k2) (k3 := k3) (k5 := k5) F.excBase_ValueError (htl.hasType rfl) (ct.hd hhd) rfl hni ?_
  refine name_glob ct.hK r E.ok (by rw [hN]; exact hj) hmg ⟨rfl, ?_⟩
  refine Calls.evalArgs_plain (Calls.spliced_cons (wpAny_mono (const_sound (c := .str z) (v := .str z) (k := k) (p := zp) (env := env) (by simp [trConst, onlyIf, hz]) r (by simp) tk) (fun v s₁ hp => Calls.spliced_nil ?_) fun e s₁ hx => ?_))
  · obtain ⟨b, σ₁, α₁, e1, x1, r1, _, m1⟩ := hp
    (first | contradiction | (obtain rfl := Option.some.inj e1) | cases e1)
    refine ⟨rfl, by show 1 ≤ sizeLine; decide, r1.base _ _ hC, hNs.keeps r1.base, htl.keeps r1.base, fun h' e hm => ?_⟩
    exact ⟨_, _, _, s, α, _, rfl, .refl, E, .refl s, FX.lift x1 m1 (FX.made r1 hm)⟩
  · obtain ⟨i, σ₁, e1, _⟩ := hx
    (first | contradiction | (obtain rfl := Option.some.inj e1) | cases e1)

theorem supOf_is {c d : Nat} (h : (supOf T d).contains c = true) : ∃ p ∈ T.excs, p.2.1 = c ∧ (c = d ∨ d ∈ p.2.2) := by
  obtain ⟨p, hp, rfl⟩ := List.mem_map.mp (List.contains_iff_mem.mp h)
  obtain ⟨h1, h2⟩ := List.mem_filter.mp hp
  refine ⟨p, h1, rfl, ?_⟩
  simp only [Bool.or_eq_true, beq_iff_eq, List.contains_iff_mem] at h2
  exact h2

theorem matches_exc {a : Addr} {o : Obj} {c d : Nat} {Q : Bool → Shared → Prop} {X : Value → Shared → Prop} (ct : Ctx K A T C) (r : R K.hb s.heap σ α) (he : s.heap.get? a = some o) (hcl : o.cls = .ref c) (hd : ∃ q ∈ T.excs, q.2.1 = d)
    (hs : (supOf T d).contains c = true) (hQ : Q true s) {A' : Around} : wpAny (model K.prog K.w) A' (excMatches (.ref a) (.ref d)) Q X s := by
  obtain ⟨Fg, XF, H⟩ := ct.exc
  obtain ⟨p, hp, rfl, hpd⟩ := supOf_is hs
  obtain ⟨q, hq, rfl⟩ := hd
  obtain ⟨⟨_, ⟨nm, qn, Nn, bs, hdct, sn, sub, ab, col, dd, k0, k1, k2, k3, k5, hC, _⟩, t1⟩, _⟩ := H p hp
  obtain ⟨⟨_, ⟨nm', qn', Nn', bs', hdct', sn', sub', ab', col', dd', k0', k1', k2', k3', k5', hD, _⟩, t2⟩, _⟩ := H q hq
  have hC' := r.base _ _ hC
  have hD' := r.base _ _ hD
  have hcB : (Value.ref q.2.1 :: (q.2.2.map Value.ref ++ [.type "ValueError", .type "Exception", .type "BaseException", .type "object"])).contains (.type "BaseException") = true := by
    rw [List.contains_cons, t2.hasType (X := "BaseException") (b := true) (by decide), Bool.or_true]
  have hcC : (Value.ref p.2.1 :: (p.2.2.map Value.ref ++ [.type "ValueError", .type "Exception", .type "BaseException", .type "object"])).contains (.ref q.2.1) = true := by
    rw [List.contains_iff_mem]
    rcases hpd with e | e
    · rw [e]; exact List.mem_cons_self
    · exact List.mem_cons_of_mem _ (List.mem_append_left _ (List.mem_map.mpr ⟨_, e, rfl⟩))
  have f := tc_notTuple
  obtain ⟨h, g, dr, t, os⟩ := s
  unfold excMatches
  repeat (first | (with_reducible refine wpAny_loadPart_at he ?_; rw [hcl]) | with_reducible refine wpAny_loadPart_at hD' ?_ | (with_reducible refine wpAny_isSubtype_exc hD' ?_; rw [hcB]) | (with_reducible refine wpAny_isSubtype_exc hC' ?_; rw [hcC]) | wp_step)
  exact hQ

theorem try_sound {x y : Str} {xp pos hpos : Pos} {b hb : List Stmt} {c i : Nat} {b' h' : S} (ct : Ctx K A T C) (F : FrOk K.hb env) (hx : excOf T N x = some c) (hN : env.scope.names = N) (hi : N[i]? = some (y, .local)) (hne : hb ≠ [])
    (H : RunsS K env A (execs b env) (ex C n b' ρ σ) s α)
    (Hh : C.hd = false → ∀ (e : Value) {ρ σ s α}, EnvRel env ρ s.heap α → R K.hb s.heap σ α → RunsS K env (A.mark (some e)) (execs hb env) (ex C.inH n h' ρ σ) s α) :
    RunsS K env A (exec (.Try b [.ExceptHandler (some (.Name x xp)) (some y) hb hpos] [] [] pos) env) (ex C n (.tryE b' (supOf T c) i h') ρ σ) s α := by
  have e0 : ex C n (.tryE b' (supOf T c) i h') ρ σ = (match ex C n b' ρ σ with
    | .exc c' ρ σ => bif C.hd then .stuck else if (supOf T c).contains c' ∧ i < ρ.length then clearS (ex C.inH n h' (ρ.set i (some (.exc c'))) σ) else .stuck
    | o => o) := rfl
  rw [e0]
  intro hc tk
  have h1 : ex C n b' ρ σ ≠ .stuck := by intro q; rw [q] at hc; exact hc rfl
  refine wpAny_Try_except (wpAny_mono (toks_up (H h1 tk)) (fun fl s₁ hp => ?_) fun e s₁ hxx => ?_)
  · obtain ⟨⟨ρ₁, σ₁, α₁, x1, r1, E1, m1, fo⟩, _⟩ := hp
    cases hb : ex C n b' ρ σ with
    | next ρ' σ' => rw [hb] at fo; obtain ⟨rfl, rfl, rfl⟩ := fo; exact wpAny_execs_nil ⟨_, _, α₁, x1, r1, E1, m1, rfl, rfl, rfl⟩
    | cont ρ' σ' => rw [hb] at fo; have fo' := fo; obtain ⟨rfl, _⟩ := fo'; exact ⟨ρ₁, σ₁, α₁, x1, r1, E1, m1, fo⟩
    | brk ρ' σ' => rw [hb] at fo; have fo' := fo; obtain ⟨rfl, _⟩ := fo'; exact ⟨ρ₁, σ₁, α₁, x1, r1, E1, m1, fo⟩
    | ret v ρ' σ' => rw [hb] at fo; have fo' := fo; obtain ⟨⟨u, rfl, _⟩, _⟩ := fo'; exact ⟨ρ₁, σ₁, α₁, x1, r1, E1, m1, fo⟩
    | exc i ρ' σ' => rw [hb] at fo; exact fo.elim
    | stuck => exact absurd hb h1
  · obtain ⟨⟨c', ρ₁, σ₁, s₀, α₁, nt, e1, x1, E1, m1, fx⟩, tl1⟩ := hxx
    have tk1 := Kt.Tk.up tk tl1
    rw [e1] at hc ⊢
    dsimp only at hc ⊢
    cases hhd : C.hd with
    | true => rw [hhd] at hc; exact absurd rfl hc
    | false =>
    rw [hhd] at hc
    rw [cond_false] at hc ⊢
    split at hc
    · rename_i hcond
      rw [if_pos hcond]
      obtain ⟨hsup, hlen⟩ := hcond
      obtain ⟨a, h₀, α', rfl, x', r', u, ea, m'⟩ := fx
      obtain ⟨hg, q, hq, rfl, rfl⟩ := excOf_is hx
      obtain ⟨j, hj⟩ := isG_idx hg
      obtain ⟨Fg, XF, HX⟩ := ct.exc
      have hmg := (HX q hq).1.mg
      have hin : env.scope.names[i]? = some (y, .local) := by rw [hN]; exact hi
      refine note_exc ct.fr F.new r' u ea fun h₂ u₂ ea₂ => ?_
      refine flight_exc (s := { s₁ with heap := h₂ }) r' u₂ ea₂ fun h₃ u₃ ea₃ => ?_
      have E0 := E1.ext x' .nil
      have x3 := r'.upExt u₃
      have r3 := r'.up u₃
      obtain ⟨_, oe, vs, xv, he, hcl, hd, _, _⟩ := id ea₃
      refine wpAny_handleBy_cons (codeAny_handlers_test (name_glob (s := { s₁ with heap := h₃ }) ct.hK r3 E0.ok (by rw [hN]; exact hj) hmg (matches_exc (s := { s₁ with heap := h₃ }) ct r3 he hcl ⟨q, hq, rfl⟩ hsup ?_))) (by intro z; (first | contradiction | (obtain rfl := Option.some.inj z) | cases z))
      cases hb with
      | nil => exact absurd rfl hne
      | cons b0 bs =>
      refine codeAny_handlers_suite_as ?_
      refine flight_exc (s := { s₁ with heap := h₃ }) r' u₃ ea₃ fun h₄ u₄ ea₄ => ?_
      have x4 := r'.upExt u₄
      have r4 := r'.up u₄
      have E4 := E0.ext x4 .nil
      obtain ⟨_, oe4, vs4, xv4, he4, hcl4, hd4, _, _⟩ := id ea₄
      have ha : a ∉ α'.all := fun z => by
        obtain ⟨o, e⟩ := r'.liveAll z
        rw [ea₄.new] at e; (first | contradiction | (obtain rfl := Option.some.inj e) | cases e)
      refine wpAny_pos (s := { s₁ with heap := h₄ }) tk1 <| store_any (s := { s₁ with heap := h₄ }) F r4 E4 hin (.inl rfl) (.exc he4 hcl4 hd4 ha) fun s₅ r5 E5 x5 m5 tk5 => ?_
      have hne5 : ex C.inH n h' (ρ₁.set i (some (.exc c'))) σ₁ ≠ .stuck := by intro z; rw [z] at hc; exact hc rfl
      refine wpAny_mono (Hh hhd (.ref a) E5 r5 hne5 tk5) (fun fl s₆ hp => ?_) fun e s₆ hxx => ?_
      · obtain ⟨ρ₆, σ₆, α₆, x6, r6, E6, m6, fo⟩ := hp
        obtain ⟨m, ns, _⟩ := id E6.ns
        refine wpAny_nameGoes (E6.ok.ws i y _ hin) ns (by rw [E6.ok.kind]; rfl) fun h₇ mm ns7 sb7 => ?_
        obtain ⟨r7, x7⟩ := r6.but E6.la F.new.l (fun b o hb e => (sb7.2 b hb).trans e) (fun o e => by
          obtain ⟨o', es, ep, e', d, _⟩ := id ns
          rw [e] at e'; (first | contradiction | (obtain rfl := Option.some.inj e') | cases e')
          exact isDct.notSolid ⟨_, _, d⟩) fun _ o e _ => by
          obtain ⟨o', es, ep, e', d, _⟩ := id ns7
          exact ⟨o', e', es, ep, d⟩
        have E7 : EnvRel env (ρ₆.map fun _ => none) h₇ α₆ := E6.wipe ns7 fun b hb => sb7.2 b hb
        have xx : Ext (frm env) α s.heap α₆ h₇ := (((x1.trans (x'.mono (by simp) (frm_alive E1 F.cl))).trans (x4.mono (by simp) (frm_alive E0 F.cl))).trans (x5.trans x6)).trans (x7.mono (by simp [frm]) (frm_alive E6 F.cl))
        have sm : Sm s { s₆ with heap := h₇, toks := s₆.toks + 1 } := ((m1.trans m').trans ⟨(m5.trans m6).gens, (m5.trans m6).os⟩).trans ⟨rfl, rfl⟩
        cases hq6 : ex C.inH n h' (ρ₁.set i (some (.exc c'))) σ₁ with
        | next ρ' σ' =>
          rw [hq6] at fo
          obtain ⟨rfl, rfl, rfl⟩ := fo
          exact ⟨_, _, _, xx, r7, E7, sm, rfl, rfl, rfl⟩
        | ret v ρ' σ' =>
          rw [hq6] at fo
          obtain ⟨⟨uv, rfl, vu⟩, rfl, rfl⟩ := fo
          exact ⟨_, _, _, xx, r7, E7, sm, ⟨uv, rfl, vu.ext x7⟩, rfl, rfl⟩
        | cont ρ' σ' => rw [hq6] at hc; exact absurd rfl hc
        | brk ρ' σ' => rw [hq6] at hc; exact absurd rfl hc
        | exc i ρ' σ' => rw [hq6] at hc; exact absurd rfl hc
        | stuck => exact absurd hq6 hne5
      · obtain ⟨c6, ρ6, σ6, _, _, _, e6, _⟩ := hxx
        rw [e6] at hc; exact absurd rfl hc
    · exact absurd rfl hc
end
end Mine

namespace Mine
open PySem PyProof.Rows

theorem slotOf_is {N : List (Str × NameKind)} {x : Str} {i : Nat} (h : slotOf N x = some i) : ∃ k, N[i]? = some (x, k) ∧ (k = NameKind.local ∨ k = .cell) := by
  unfold slotOf at h
  refine bind_e h fun j hj h1 => bind_e h1 fun q hq h2 => onlyIf_e h2 fun hk h3 => ?_
  clear h h1 h2
  have hx := idx_name hj hq
  obtain ⟨z, k⟩ := q
  dsimp only at hx
  subst hx
  obtain rfl := Option.some.inj h3
  refine ⟨k, hq, ?_⟩
  cases k with
  | «local» => exact .inl rfl
  | cell => exact .inr rfl
  | _ => contradiction

theorem slot_at {N : List (Str × NameKind)} {env : Env} {x : Str} {i : Nat} (hN : env.scope.names = N) (h : slotOf N x = some i) : ∃ k, env.scope.names[i]? = some (x, k) ∧ (k = NameKind.local ∨ k = .cell) := by
  subst hN; exact slotOf_is h
theorem aget_put {κ : Type} [DecidableEq κ] {k k' : κ} {v : PV} : ∀ {es : List (κ × PV)}, aget k' (aput k v es) = if k' = k then some v else aget k' es := by
  intro es
  have cons : ∀ (e : κ × PV) (es : List (κ × PV)), aget k' (e :: es) = if e.1 = k' then some e.2 else aget k' es := fun e es => by
    unfold aget
    rw [List.find?_cons]
    by_cases q : e.1 = k'
    · rw [decide_eq_true q, if_pos q]; rfl
    · rw [decide_eq_false q, if_neg q]
  unfold aput
  by_cases h : (es.any fun e => decide (e.1 = k)) = true
  · rw [if_pos h]
    induction es with
    | nil => contradiction
    | cons e es ih =>
      rw [List.map_cons, cons, cons]
      by_cases q : e.1 = k
      · rw [if_pos q]
        by_cases q2 : k' = k
        · rw [if_pos (q.trans q2.symm), if_pos q2]
        · rw [if_neg (fun z => q2 (z.symm.trans q)), if_neg q2, if_neg (fun z => q2 (z.symm.trans q))]
          by_cases h2 : (es.any fun e => decide (e.1 = k)) = true
          · rw [ih h2, if_neg q2]
          · congr 1
            rw [List.map_congr_left (g := id) fun e he => ?_, List.map_id]
            rw [if_neg]; rfl
            intro z; exact h2 (List.any_eq_true.mpr ⟨e, he, decide_eq_true z⟩)
      · rw [if_neg q]
        rw [List.any_cons, decide_eq_false q, Bool.false_or] at h
        rw [ih h]
        by_cases q2 : k' = k
        · rw [if_pos q2, if_neg (fun z => q (z.trans q2)), if_pos q2]
        · rw [if_neg q2, if_neg q2]
  · rw [if_neg h]
    induction es with
    | nil =>
      show aget k' [(k, v)] = _
      rw [cons]
      by_cases q : k' = k
      · rw [if_pos q.symm, if_pos q]
      · rw [if_neg (fun z => q z.symm), if_neg q]
    | cons e es ih =>
      rw [List.any_cons, Bool.or_eq_true, not_or] at h
      have h1 : e.1 ≠ k := fun z => h.1 (decide_eq_true z)
      rw [List.cons_append, cons, cons, ih h.2]
      by_cases q2 : k' = k
      · rw [if_pos q2, if_neg (fun z => h1 (z.trans q2)), if_pos q2]
      · rw [if_neg q2, if_neg q2]

section
variable {K : Kt} {A : Around} {T : Tab} {C : Cfg} {f : List (Str × NameKind) → Expr → Option X} {N : List (Str × NameKind)} {env : Env} {ρ : Loc} {σ : Sto} {s : Shared} {α : AL}
open PySem.W

theorem R.frag {F : Frag} {h : Heap} (x : F.In K.hb.h) (r : R K.hb h σ α) : F.In h := fun a o e => r.base a o (x a o e)

theorem inst_is {c i : Nat} {x : Value} (v : VR s.heap α (.inst c i) x) : ∃ a D, x = .ref a ∧ s.heap.get? a = some (instObj c D) ∧ a ∉ α.all ∧ α.ix[i]? = some D := by
  cases v with | inst e hn hi => exact ⟨_, _, rfl, e, hn, hi⟩

theorem setAttr_sound {F : Frag} {b n : Str} {c i : Nat} {x u : Value} {v : PV} {fs : List (Str × PV)} {Q : Unit → Shared → Prop} {E : Value → Shared → Prop} (B : BrdCls K F b c) (hn : n ∈ attrNames) (r : R K.hb s.heap σ α) (vx : VR s.heap α (.inst c i) x) (vv : VR s.heap α v u)
    (hs : σ[i]? = some (.ns fs)) (hl : fs.length < 100) (hQ : ∀ s', R K.hb s'.heap (σ.set i (.ns (aput n v fs))) α → Ext [] α s.heap α s'.heap → Sm s s' → Q () s') : wpAny (model K.prog K.w) A (setAttr x n u) Q E s := by
  obtain ⟨a, D, rfl, ea, ha, hi⟩ := inst_is vx
  obtain ⟨m, ns1, o1, o2⟩ := r.obj i _ D hs hi
  obtain ⟨oD, esD, epD, eD, dD, _⟩ := id ns1
  have X : F.In s.heap := r.frag B.inn
  have I : InstAt s.heap a (instObj c D) c (some oD) := ⟨ea, rfl, rfl, eD⟩
  obtain ⟨cd, hc, hd'⟩ := any_some B.hasd
  refine set_plain X I B.seta (osa_open (s := { s with toks := s.toks + 1 }) X I B.plain (B.free n hn) fun bb => ?_)
  refine wpAny_bind (wpAny_pure (wpAny_bind (wpAny_bind (wpAny_loadPart ea (wpAny_bind (Looks.here (s := { s with toks := s.toks + 1 }) (looks_clsIn X hc) ?_))))))
  rw [hd']
  refine wpAny_pure (a := some D) (wpAny_bind (wpAny_pure (wpAny_bind (wpAny_nsSet1 (s := { s with toks := s.toks + 1 }) ns1 fun h' hn' hsb => ?_))))
  have hw : Within m (fs.map (·.1)) := fun y hy => by
    cases hg : aget y fs with
    | none => exact absurd (o2 y hg) hy
    | some w =>
      obtain ⟨e, he, _⟩ := Option.map_eq_some_iff.mp hg
      exact List.mem_map.mpr ⟨e, List.mem_of_find?_eq_some he, by simpa using List.find?_some he⟩
  obtain ⟨oD', esD', epD', hoD, hdD, hcD⟩ := hn'.count (Within.cons n u hw)
  refine wpAny_bind (wpAny_lookBehind hoD (by rw [hdD]; exact pastItsLine_dict (Nat.le_trans hcD (by rw [List.length_cons, List.length_map, sizeLine_eq]; omega))) ?_)
  refine wpAny_pure ?_
  have key : ∀ x' : Ext [] α s.heap α h', OR K.hb h' α (.ns (aput n v fs)) D := fun x' => by
    refine ⟨_, hn', fun n' v' e => ?_, fun n' e => ?_⟩
    · rw [aget_put] at e
      by_cases q : n' = n
      · rw [if_pos q] at e ⊢; obtain rfl := Option.some.inj e; exact ⟨u, rfl, vv.ext x'⟩
      · rw [if_neg q] at e ⊢
        obtain ⟨w, w1, w2⟩ := o1 n' v' e
        exact ⟨w, w1, w2.ext x'⟩
    · rw [aget_put] at e
      by_cases q : n' = n
      · rw [if_pos q] at e; contradiction
      · rw [if_neg q] at e ⊢; exact o2 n' e
  obtain ⟨r', x'⟩ := r.set (m := .ns (aput n v fs)) hi (fun b o hb e => (hsb.2 b hb).trans e) hoD key
  exact hQ _ r' x' ⟨rfl, rfl⟩
theorem asgAttr_sound {o v : Expr} {n b : Str} {p pos : Pos} {x z : X} {c k : Nat} {Fg : Frag} (B : BrdCls K Fg b c) (hn : n ∈ attrNames) (F : FrOk K.hb env) (hcp : isComp v = false)
    (H1 : ∀ {σ s α}, EnvRel env ρ s.heap α → R K.hb s.heap σ α → Runs K VR A (eval v env) (ev C z ρ σ) s α)
    (H2 : ∀ {σ s α}, EnvRel env ρ s.heap α → R K.hb s.heap σ α → Runs K VR A (eval o env) (ev C x ρ σ) s α) (E : EnvRel env ρ s.heap α) (r : R K.hb s.heap σ α) :
    RunsS K env A (exec (.Assign [.Attribute o n p] v pos) env) (ex C k (.asgAttr c x n z) ρ σ) s α := by
  change RunsS K env A _ ((ev C z ρ σ).toS ρ fun v σ => (ev C x ρ σ).toS ρ fun o σ => storeAttr c o n v ρ σ) s α
  intro hc tk
  refine plainObj_wpAny_Assign_Attribute (Runs.useS E (H1 E r) hc tk fun vv σ₁ α₁ u s₁ e1 hc1 x1 r1 v1 m1 tk1 => ?_) (swaps_plain hcp)
  rw [e1] at hc ⊢
  have E1 := E.ext x1 .nil
  refine wpAny_mono (Runs.useS (env := env) (s := s₁) (α := α₁) E1 (H2 E1 r1) hc1 tk1 fun vo σ₂ α₂ uo s₂ e2 hc2 x2 r2 v2 m2 tk2 => ?_) (fun _ _ q => q) (fun _ _ q => PostXS.lift (frExt F E x1) m1 q)
  have E2 := E1.ext x2 .nil
  show wpAny (model K.prog K.w) A (setAttr uo n u) _ _ s₂
  simp only [Out.toS, e2] at hc ⊢
  cases vo with
  | inst c' i =>
    unfold storeAttr at hc2 ⊢
    dsimp only at hc2 ⊢
    by_cases hcc : c' = c
    · subst hcc
      rw [if_pos rfl] at hc2 ⊢
      cases hs : σ₂[i]? with
      | none => rw [hs] at hc2; exact absurd rfl hc2
      | some mo =>
        rw [hs] at hc2
        cases mo with
        | ns fs =>
          dsimp only at hc2 ⊢
          by_cases hl : fs.length < 100
          · rw [if_pos hl]
            exact setAttr_sound B hn r2 v2 (v1.ext x2) hs hl fun s' r' x' m' => ⟨ρ, _, α₂, frExt F E ((x1.trans x2).trans x'), r', E2.ext x' .nil, (m1.trans m2).trans m', rfl, rfl, rfl⟩
          · rw [if_neg hl] at hc2; exact absurd rfl hc2
        | _ => exact absurd rfl hc2
    · rw [if_neg hcc] at hc2; exact absurd rfl hc2
  | _ => exact absurd rfl hc2
end
section
variable {K : Kt} {A : Around} {T : Tab} {C : Cfg} {f : List (Str × NameKind) → Expr → Option X} {N : List (Str × NameKind)} {env : Env} {σ : Sto} {α : AL}
theorem assign_names (F : FrOk K.hb env) (hN : env.scope.names = N) {ts : List Expr} : ∀ {is : List Nat} {xs : List PV} {us : List Value} {ρ ρ' : Loc} {s : Shared} {Q : Unit → Shared → Prop} {X : Value → Shared → Prop}, slotsOf N ts = some is → setAll is xs ρ = some ρ' → VRs s.heap α xs us → EnvRel env ρ s.heap α → R K.hb s.heap σ α →
    (∀ s', R K.hb s'.heap σ α → EnvRel env ρ' s'.heap α → Ext (frm env) α s.heap α s'.heap → Sm s s' → Q () s') → wpAny (model K.prog K.w) A (assignInOrder ((assignEach ts env).map (·.2)) us) Q X s := by
  induction ts with
  | nil =>
    intro is xs us ρ ρ' s Q X h1 h2 v E r hQ
    obtain rfl := Option.some.inj h1
    cases xs with
    | nil => obtain rfl := Option.some.inj h2; exact assignInOrder_nil (hQ s r E .refl (.refl s))
    | cons _ _ => contradiction
  | cons t ts ih =>
    intro is xs us ρ ρ' s Q X h1 h2 v E r hQ
    change o2 _ _ _ = _ at h1
    refine o2_e (M := fun is => setAll is xs ρ = some ρ' → wpAny (model K.prog K.w) A (assignInOrder ((assignEach (t :: ts) env).map (·.2)) us) Q X s) h1 (fun i l hi hl h2 => ?_) h2
    refine bind_e hi fun q hq hi => ?_
    obtain rfl := isName_is hq
    cases xs with
    | nil => contradiction
    | cons p ps =>
      obtain ⟨u, us', rfl, v1, v2⟩ := v.inv_cons
      obtain ⟨k, hk1, hk2⟩ := slot_at hN hi
      refine assignInOrder_cons (wpAny_assign_Name (store_any F r E hk1 hk2 v1 fun s₁ r1 E1 x1 m1 => ?_))
      exact ih hl h2 (v2.ext x1) E1 r1 fun s' r' E' x' m' => hQ s' r' E' (x1.trans x') (m1.trans m')
theorem names_shape {ts : List Expr} : ∀ {is : List Nat}, slotsOf N ts = some is → (assignEach ts env).length = is.length ∧ (assignEach ts env).findIdx? (·.1) = none := by
  induction ts with
  | nil => intro is h; obtain rfl := Option.some.inj h; exact ⟨rfl, rfl⟩
  | cons t ts ih =>
    intro is h
    change o2 _ _ _ = _ at h
    refine o2_e (M := fun is => (assignEach (t :: ts) env).length = List.length is ∧ (assignEach (t :: ts) env).findIdx? (·.1) = none) h fun i l hi hl => ?_
    refine bind_e hi fun q hq hi => ?_
    obtain rfl := isName_is hq
    obtain ⟨h1, h2⟩ := ih hl
    refine ⟨congrArg Nat.succ h1, ?_⟩
    show ((false, assign (.Name q.1 q.2) env) :: assignEach ts env).findIdx? (·.1) = none
    rw [List.findIdx?_cons, h2]; rfl
theorem setAll_len : ∀ {is : List Nat} {xs : List PV} {ρ ρ' : Loc}, setAll is xs ρ = some ρ' → is.length = xs.length
  | [], [], _, _, _ => rfl
  | i :: is, x :: xs, _, _, h => congrArg Nat.succ (setAll_len (is := is) (xs := xs) h)
  | [], _ :: _, _, _, h => nomatch h
  | _ :: _, [], _, _, h => nomatch h
theorem asgT_sound {ts : List Expr} {z : Str} {kk : Nat} {pz pp pos : Pos} {is : List Nat} {x : X} {n : Nat} {ρ : Loc} {s : Shared} (c : Ctx K A T C) (F : FrOk K.hb env) (hN : env.scope.names = N) (h1 : slotsOf N ts = some is)
    (H : Runs K VR A (eval (.Name z pz) env) (ev C x ρ σ) s α) (E : EnvRel env ρ s.heap α) :
    RunsS K env A (exec (.Assign [.Tuple ts kk pp] (.Name z pz) pos) env) (ex C n (.asgT is x) ρ σ) s α := by
  have e0 : ex C n (.asgT is x) ρ σ = bif C.hd then .stuck else (ev C x ρ σ).toS ρ fun v σ => match bindT is v ρ with
    | some ρ => .next ρ σ
    | none => .stuck := rfl
  rw [e0]
  cases hhd : C.hd with
  | true => exact fun hc => absurd rfl hc
  | false =>
  rw [cond_false]
  intro hc tk
  refine Assign_Tuple (Runs.useS E H hc tk fun v σ₁ α₁ u s₁ e1 hc1 x1 r1 v1 m1 tk1 => ?_)
  rw [e1]
  have E1 := E.ext x1 .nil
  cases v with
  | tup xs =>
    obtain ⟨t, us, k, rfl, ht, hnt, vs⟩ := v1.tupE
    have eb : bindT is (.tup xs) ρ = if xs.length ≤ 100 then setAll is xs ρ else none := rfl
    by_cases hl : xs.length ≤ 100
    · rw [if_pos hl] at eb
      cases hq : setAll is xs ρ with
      | none => rw [eb, hq] at hc1; exact absurd rfl hc1
      | some ρ' =>
        obtain ⟨g1, g2⟩ := names_shape (env := env) h1
        refine wpAny_assign_Tuple (c.hd hhd) ⟨_, ht, rfl, k, rfl⟩ (by rw [g1, setAll_len hq, vs.1]; rfl) g2 fun h' hx => ?_
        have kp : ∀ b o, s₁.heap.get? b = some o → h'.get? b = some o := fun b o e => hx b o (Nat.ne_of_lt (Heap.lt_size e)) e
        have x2 : Ext [] α₁ s₁.heap α₁ h' := .keeps kp
        refine assign_names (s := { s₁ with heap := h' }) F hN h1 hq (vs.ext x2) (E1.ext x2 .nil) (r1.keeps kp) fun s' r' E' x' m' => ?_
        show PostS K env (match bindT is (.tup xs) ρ with | some ρ => .next ρ σ₁ | none => .stuck) s α .next s'
        rw [eb, hq]
        exact ⟨ρ', σ₁, α₁, (frExt F E (x1.trans x2)).trans x', r', E', m1.trans ⟨m'.gens, m'.os⟩, rfl, rfl, rfl⟩
    · rw [eb, if_neg hl] at hc1; exact absurd rfl hc1
  | _ => exact absurd rfl hc1
end
end Mine

namespace Mine
open PySem PyProof.Rows

section
variable {K : Kt} {A : Around} {T : Tab} {C : Cfg} {f : List (Str × NameKind) → Expr → Option X} {N : List (Str × NameKind)} {env : Env} {ρ : Loc} {σ : Sto} {s : Shared} {α : AL}

/-- `y = [.. for x in ..]`, where the interpreter stores before it lets the loop's names go -/
theorem asgComp_sound {elt iter : Expr} {x z : Str} {px pz pos spos : Pos} {ifs : List Expr} {scope : Scope} {fz : Bool} {t : Nat} {elt' cond it : X} {i n : Nat} {k : NameKind} (c : Ctx K A T C) (S : SE K A C f) (F : FrOk K.hb env) (h : CompIs T N f elt x iter ifs scope fz t elt' cond it)
    (hn : env.scope.names[i]? = some (z, k)) (hk : k = .local ∨ k = .cell)
    (hN : env.scope.names = N) (E : EnvRel env ρ s.heap α) (r : R K.hb s.heap σ α) (hsw : swapsWith (.ListComp elt [⟨.Name x px, iter, ifs, 0⟩] scope pos) (some (.Name z pz)) spos.line env = pure true) :
    RunsS K env A (exec (.Assign [.Name z pz] (.ListComp elt [⟨.Name x px, iter, ifs, 0⟩] scope pos) spos) env) (ex C n (.asg i (.comp fz t (capOf N (relab N scope.names)) elt' cond it)) ρ σ) s α := by
  have e0 : ex C n (.asg i (.comp fz t (capOf N (relab N scope.names)) elt' cond it)) ρ σ = (ev C (.comp fz t (capOf N (relab N scope.names)) elt' cond it) ρ σ).toS ρ fun v σ => .next (ρ.set i (some v)) σ := rfl
  rw [e0]
  intro hc tk
  cases hhd : C.hd with
  | true => rw [ev_comp, hhd] at hc; exact absurd rfl hc
  | false =>
  rw [compOut_ev hhd] at hc ⊢
  have co := h.ok hN
  obtain ⟨hit', hpl⟩ := trIt_sound c hhd S h.it hN F.new E r
  rw [exec_Assign_Name_used _ _ _ _ hsw]
  refine wpAny_bind (wpAny_standAt (wpAny_bind ?_))
  show wpAny _ A (do let _ ← comprehension (.ListComp elt [⟨.Name x px, iter, ifs, 0⟩] scope pos) scope env _ (newList []) false (eval iter env) (some (assign (.Name z pz) env))) _ _ s
  generalize hcq : compOut fz (fun v σ => tst C cond ((capLoc (capOf N (relab N scope.names)) ρ).set t (some v)) σ) (fun v σ => ev C elt' ((capLoc (capOf N (relab N scope.names)) ρ).set t (some v)) σ) (evIt C it ρ σ) = cc at hc ⊢
  have hcc : cc ≠ .stuck := by intro q; rw [q] at hc; exact hc rfl
  refine wpAny_bind (wpAny_mono (wpAny_comprehension_free (use := some (assign (.Name z pz) env)) (Q := fun _ s' => PostS K env (cc.toS ρ fun v σ => .next (ρ.set i (some v)) σ) s α .next s')
    rfl (plain_folded hpl) (closureFor_eq (comp_clos co E)) co.kind co.names
    (comp_block (fz := fz) (t := t) (ρ := ρ) (tC := fun v σ => tst C cond ((capLoc (capOf N (relab N scope.names)) ρ).set t (some v)) σ) (eC := fun v σ => ev C elt' ((capLoc (capOf N (relab N scope.names)) ρ).set t (some v)) σ) (RR := fun acc C' => compPost (model K.prog K.w) A _ (some (assign (.Name z pz) env)) _ acc C')
      co E hit' (by rw [hcq]; exact hcc) tk (fun C' v s' σ' α' n' E' r' => ?_) (fun C' v s' σ' α' n' E' r' => ?_) c.fr F.new ⟨_, r⟩ (fun e s' hx => ?_) ?_)) (fun _ s' hq => wpAny_pure (wpAny_pure hq)) fun _ _ e => e)
  · rw [comp_cap hN] at E'
    exact cond_sound S h.cond (comp_names hN E) n' E' r'
  · rw [comp_cap hN] at E'
    exact ((S _ elt elt' h.elt).2 _ _ σ' s' α' (comp_names hN E) n' E' r').1
  · obtain ⟨i', σ', e1, nt, fx⟩ := hx
    refine ⟨i', ρ, σ', s, α, nt, ?_, .refl, E, .refl s, fx⟩
    rw [← hcq]
    show (compOut _ _ _ _).toS ρ _ = _
    rw [e1]; rfl
  · rw [hcq]
    rintro acc C' rr s' (⟨rfl, v, σ', α', m, e, x', r', vr, sm, ns, ha, hC, hbC, hCfr⟩ | ⟨e, i', σ', rfl, e1, fx⟩)
    rotate_left
    · obtain ⟨a, h₀, α', m, _, _, _, _, _, _, q, _⟩ := id fx
      exact ⟨m, q, fun h' hs' cenv _ => fx.letGo hs' fun s'' f => ⟨i', ρ, σ', s, α, _, by rw [e1]; rfl, .refl, E, .refl s, f⟩⟩
    subst e
    have E' := E.ext x' .nil
    show wpAny _ A (assign (.Name z pz) env acc) _ _ _
    refine wpAny_assign_Name (store_any F r' E' hn hk vr fun s₂ r₂ E₂ x₂ m₂ => ?_)
    have hCf : C' ∉ frm env := fun q => by
      obtain ⟨o, eo⟩ := frm_alive E F.cl C' q
      rw [hC] at eo; contradiction
    have ns₂ : s₂.heap.Ns C' m := ns_ext x₂ (AL.not_ix ha) hCf ns
    refine ⟨m, ns₂, fun h' hs' => ?_⟩
    obtain ⟨r'', x''⟩ := r₂.but ha hbC (fun b o hb e => (hs'.2 b hb).trans e) (fun o e => by
      obtain ⟨o', es, ep, e', d, _⟩ := id ns₂
      rw [e] at e'; obtain rfl := Option.some.inj e'
      exact isDct.notSolid ⟨_, _, d⟩) fun q => absurd q hCfr
    have ap : Apart env [C'] := ⟨fun q => by simp at q; exact hCf (q ▸ List.mem_cons_self), fun y c' hc' q => by
      simp at q; subst q
      exact hCf (List.mem_cons_of_mem _ (List.mem_map.mpr ⟨_, mem_of_lookup hc', rfl⟩))⟩
    exact ⟨_, _, _, ((frExt F E x').trans x₂).sameBut hC (fun b hb => hs'.2 b hb), r'', E₂.ext x'' ap, (sm.trans m₂).trans ⟨rfl, rfl⟩, rfl, rfl, rfl⟩
end

/-! the translation of statements -/
theorem asComp_is {e : Expr} {q : Expr × List Comprehension × Scope × Pos} (h : asComp e = some q) : e = .ListComp q.1 q.2.1 q.2.2.1 q.2.2.2 := by
  cases e with
  | ListComp => obtain rfl := Option.some.inj h; rfl
  | _ => contradiction
section
variable {K : Kt} {A : Around} {T : Tab} {C : Cfg} {N : List (Str × NameKind)} {env : Env} {n : Nat}

noncomputable def BS (K : Kt) (A : Around) (C : Cfg) (n : Nat) (env : Env) (t : Sem Flow) (b : S) : Prop :=
  ∀ ρ σ s α, EnvRel env ρ s.heap α → R K.hb s.heap σ α → RunsS K env A t (ex C n b ρ σ) s α
noncomputable def SS (K : Kt) (A : Around) (C : Cfg) (n : Nat) (env : Env) (g : Stmt → Option S) : Prop :=
  ∀ st b, g st = some b → BS K A C n env (exec st env) b

theorem trSs_sound {g : Stmt → Option S} (H : SS K A C n env g) {sts : List Stmt} : ∀ {b : S}, trSs g sts = some b → BS K A C n env (execs sts env) b := by
  induction sts with
  | nil =>
    intro b h ρ σ s α E r
    obtain rfl := Option.some.inj h
    exact fun _ _ => wpAny_execs_nil ⟨ρ, σ, α, .refl, r, E, .refl s, rfl, rfl, rfl⟩
  | cons st sts ih =>
    intro b h
    change o2 _ _ _ = _ at h
    refine o2_e h fun a b' ha hb ρ σ s α E r hc tk => ?_
    have e0 : ex C n (.cons a b') ρ σ = (match ex C n a ρ σ with
      | .next ρ σ => ex C n b' ρ σ
      | o => o) := rfl
    rw [e0] at hc ⊢
    refine wpAny_execs_cons ?_
    have h1 : ex C n a ρ σ ≠ .stuck := by intro q; rw [q] at hc; exact hc rfl
    refine wpAny_mono (toks_up (H st a ha _ _ _ _ E r h1 tk)) (fun fl s₁ hp => ?_) fun e s₁ hx => ?_
    · obtain ⟨⟨ρ₁, σ₁, α₁, x1, r1, E1, m1, fo⟩, tl1⟩ := hp
      cases hq : ex C n a ρ σ with
      | next ρ' σ' =>
        rw [hq] at fo hc
        obtain ⟨rfl, rfl, rfl⟩ := fo
        exact wpAny_mono (ih hb _ _ _ _ E1 r1 hc (Kt.Tk.up tk tl1)) (fun _ _ q => q.lift x1 m1) fun _ _ q => q.lift x1 m1
      | cont ρ' σ' => rw [hq] at fo; have fo' := fo; obtain ⟨rfl, _⟩ := fo'; exact ⟨ρ₁, σ₁, α₁, x1, r1, E1, m1, fo⟩
      | brk ρ' σ' => rw [hq] at fo; have fo' := fo; obtain ⟨rfl, _⟩ := fo'; exact ⟨ρ₁, σ₁, α₁, x1, r1, E1, m1, fo⟩
      | ret v ρ' σ' => rw [hq] at fo; have fo' := fo; obtain ⟨⟨u, rfl, _⟩, _⟩ := fo'; exact ⟨ρ₁, σ₁, α₁, x1, r1, E1, m1, fo⟩
      | exc i ρ' σ' => rw [hq] at fo; exact fo.elim
      | stuck => exact absurd hq h1
    · obtain ⟨⟨i, ρ', σ', s₂, α₂, nt, e1, q1, q2, q3, q4⟩, _⟩ := hx
      exact ⟨i, ρ', σ', s₂, α₂, nt, by rw [e1], q1, q2, q3, q4⟩

section
variable {f : List (Str × NameKind) → Expr → Option X} {g : Stmt → Option S}
theorem SE.val (Sf : SE K A C f) (F : FrOk K.hb env) (hN : env.scope.names = N) {e : Expr} {x : X} (h : f N e = some x) {ρ σ s α} (E : EnvRel env ρ s.heap α) (r : R K.hb s.heap σ α) : Runs K VR A (eval e env) (ev C x ρ σ) s α :=
  ((Sf N _ _ h).2 env ρ σ s α hN F.new E r).1
theorem SE.tst (Sf : SE K A C f) (F : FrOk K.hb env) (hN : env.scope.names = N) {e : Expr} {x : X} (h : f N e = some x) {ρ σ s α} (E : EnvRel env ρ s.heap α) (r : R K.hb s.heap σ α) : Runs K RelEq A (isTrue e env (eval e env)) (tst C x ρ σ) s α :=
  ((Sf N _ _ h).2 env ρ σ s α hN F.new E r).2
theorem asgName_sound {z : Str} {pz spos : Pos} {v : Expr} {b : S} (c : Ctx K A T C) (Sf : SE K A C f) (F : FrOk K.hb env) (hN : env.scope.names = N) (h : trAsg T N f (f N) (.Name z pz) v = some b) : BS K A C n env (exec (.Assign [.Name z pz] v spos) env) b := by
  change optE _ _ _ = _ at h
  refine optE_e h (fun q hac h => ?_) fun _ h => onlyIf_e h fun hcp h => o2_e h fun i y hi hy => ?_
  · rw [asComp_is hac]
    refine o2_e h fun i y hi hy => ?_
    obtain ⟨x, px, iter, ifs, hg, hy⟩ := trCompE_is hy
    rw [hg]
    obtain ⟨k, hk1, hk2⟩ := slot_at hN hi
    refine trComp_is (P := fun y => BS K A C n env _ (.asg i y)) hy fun t e cc it qq ρ σ s α E r => ?_
    cases hq : (env.blockKind == .function && env.kindOf z == some .local && pz.line == q.2.2.2.line && !(q.2.2.1.names.any fun (n, k) => n == z && (k == .local || k == .cell))) with
    | true => exact asgComp_sound c Sf F qq hk1 hk2 hN E r (congrArg pure hq)
    | false =>
      intro hc tk
      refine wpAny_Assign_Name (Runs.useS E (compE_sound c Sf qq hN F.new E r) hc tk fun v σ₁ α₁ u s₁ e1 hc1 x1 r1 v1 m1 tk1 => ?_) (congrArg pure hq)
      refine store_any F r1 (E.ext x1 .nil) hk1 hk2 v1 fun s₂ r2 E2 x2 m2 => ?_
      show PostS K env (Out.toS _ _ _) _ _ _ _
      rw [e1]
      exact ⟨_, _, _, (frExt F E x1).trans x2, r2, E2, m1.trans m2, rfl, rfl, rfl⟩
  · obtain ⟨k, hk1, hk2⟩ := slot_at hN hi
    exact fun _ _ _ _ E r => asg_sound F (by simpa using hcp) hk1 hk2 (Sf.val F hN hy E r) E
theorem trIf_sound {t : Expr} {b0 o0 : List Stmt} {pos : Pos} {t' : X} {b' o' : S} (Sf : SE K A C f) (F : FrOk K.hb env) (hN : env.scope.names = N) (h1 : f N t = some t') (h2 : BS K A C n env (execs b0 env) b') (h3 : BS K A C n env (execs o0 env) o') :
    BS K A C n env (exec (.If t b0 o0 pos) env) (.ife t' b' o') := fun ρ σ s α E r hc tk => by
  have e0 : ex C n (.ife t' b' o') ρ σ = (tst C t' ρ σ).toS ρ fun t σ => if t then ex C n b' ρ σ else ex C n o' ρ σ := rfl
  rw [e0] at hc ⊢
  refine wpAny_If (Runs.useS E (Sf.tst F hN h1 E r) hc tk fun t σ₁ α₁ y s₁ e1 hc1 x1 r1 v1 m1 tk1 => ?_)
  have : y = t := v1
  subst this
  rw [e1]
  have E1 := E.ext x1 .nil
  cases y with
  | true => exact wpAny_mono (h2 _ _ _ _ E1 r1 hc1 tk1) (fun _ _ q => q.lift (frExt F E x1) m1) fun _ _ q => q.lift (frExt F E x1) m1
  | false => exact wpAny_mono (h3 _ _ _ _ E1 r1 hc1 tk1) (fun _ _ q => q.lift (frExt F E x1) m1) fun _ _ q => q.lift (frExt F E x1) m1
theorem trFor_sound {x : Str} {px pos : Pos} {it : Expr} {b0 : List Stmt} {i' : Nat} {it' : X} {b' : S} (c : Ctx K A T C) (Sf : SE K A C f) (F : FrOk K.hb env) (hN : env.scope.names = N) (h1 : slotOf N x = some i') (h2 : trIt T N (f N) it = some it') (h3 : BS K A C n env (execs b0 env) b') :
    BS K A C n env (exec (.For (.Name x px) it b0 [] pos) env) (.for1 i' it' b') := fun ρ σ s α E r => by
  obtain ⟨k, hk1, hk2⟩ := slot_at hN h1
  have e0 : ex C n (.for1 i' it' b') ρ σ = bif C.hd then .stuck else (evIt C it' ρ σ).toS ρ fun p σ => forGo p.2 (bind1 i') (fun ρ σ => ex C n b' ρ σ) p.1 ρ σ := rfl
  rw [e0]
  cases hhd : C.hd with
  | true => exact fun hc => absurd rfl hc
  | false =>
  obtain ⟨q1, q2⟩ := trIt_sound c hhd Sf h2 hN F.new E r
  exact for_sound F (tgt_name F hk1 hk2) q2 q1 (h3 _ _ _ _) E rfl
theorem trRaise_sound {e : Option Expr} {pos : Pos} {b : S} (c : Ctx K A T C) (hN : env.scope.names = N) (h : trRaise T N e = some b) : BS K A C n env (exec (.Raise e none pos) env) b := by
  unfold trRaise at h
  refine bind_e h fun q hq h => bind_e h fun z hz h => map_e h fun c' hc => ?_
  refine bind_e hq fun e1 he hq => ?_
  subst he
  rw [call1_is hq]
  obtain ⟨k, p, hz, hok⟩ := litS_is hz
  rw [hz]
  exact fun _ _ _ _ E r => raise_sound c hc hok hN E r
theorem trTry_sound {b0 : List Stmt} {hs : List ExceptHandler} {pos : Pos} {b : S} (c : Ctx K A T C) (F : FrOk K.hb env) (hN : env.scope.names = N) (H : SS K A C n env g) (Hh : C.hd = false → ∀ e : Value, SS K (A.mark (some e)) C.inH n env g) (h : trTry T N g b0 hs = some b) :
    BS K A C n env (exec (.Try b0 hs [] [] pos) env) b := by
  unfold trTry at h
  refine bind_e h fun hd h0 h => ?_
  rw [one_is h0]
  obtain ⟨t, y, hb, hpos⟩ := hd
  change Option.bind _ _ = _ at h
  refine bind_e h fun q hq h => bind_e h fun y' hy h => bind_e h fun c' hc h => bind_e h fun i hi h => onlyIf_e h fun hcond h => o2_e h fun b1 h1 hb1 hh1 => ?_
  refine bind_e hq fun t' ht hq => ?_
  subst ht hy
  rw [isName_is hq]
  simp only [Bool.and_eq_true, beq_iff_eq, Bool.not_eq_true', List.isEmpty_eq_false_iff] at hcond
  exact fun _ _ _ _ E r => try_sound c F hc hN hcond.1 hcond.2 (trSs_sound H hb1 _ _ _ _ E r) fun hhd e {_ _ _ _} E' r' => trSs_sound (Hh hhd e) hh1 _ _ _ _ E' r'
end
theorem trSStep_sound {f : List (Str × NameKind) → Expr → Option X} {g : Stmt → Option S} (c : Ctx K A T C) (Sf : SE K A C f) (F : FrOk K.hb env) (hN : env.scope.names = N) (H : SS K A C n env g) (Hh : C.hd = false → ∀ e : Value, SS K (A.mark (some e)) C.inH n env g) : SS K A C n env (trSStep T N f (f N) g) := by
  intro st b h
  cases st with
  | Assign ts v spos =>
    change Option.bind _ _ = _ at h
    refine bind_e h fun t h0 h => ?_
    rw [one_is h0]
    cases t with
    | Name z pz => exact asgName_sound c Sf F hN h
    | Subscript o i pp =>
      change onlyIf _ _ = _ at h
      exact onlyIf_e h fun hcp h => o3_e h fun o' i' v' h1 h2 h3 _ _ _ _ E r => asgSub_sound c.hA F (by simpa using hcp) (Sf.val F hN h3) (Sf.val F hN h1) (Sf.val F hN h2) E r
    | Attribute o nm pp =>
      change Option.bind _ _ = _ at h
      refine bind_e h fun q hb h => onlyIf_e h fun hc h => o2_e h fun o' v' h1 h3 => ?_
      obtain ⟨b, cl⟩ := q
      obtain ⟨hc1, hc2⟩ := Bool.and_eq_true_iff.mp hc
      obtain ⟨Fg, B, _⟩ := c.brd b cl hb
      exact fun _ _ _ _ E r => asgAttr_sound B (List.contains_iff_mem.mp hc2) F (by simpa using hc1) (Sf.val F hN h3) (Sf.val F hN h1) E r
    | Tuple ts kk pp =>
      change onlyIf _ _ = _ at h
      refine onlyIf_e h fun hc h => o2_e h fun is v' h1 h3 => ?_
      obtain ⟨q, hq⟩ := Option.isSome_iff_exists.mp hc
      rw [isName_is hq] at h3 ⊢
      exact fun _ _ _ _ E r => asgT_sound c F hN h1 (Sf.val F hN h3 E r) E
    | _ => contradiction
  | Expr e pos =>
    change onlyIf _ _ = _ at h
    exact onlyIf_e h fun hcp h => map_e h fun y hq _ _ _ _ E r => expr_sound F (by simpa using hcp) (Sf.val F hN hq E r) E
  | Return v pos =>
    cases v with
    | some e => exact map_e h fun y hq _ _ _ _ E r => ret_sound F (Sf.val F hN hq E r) E
    | none => contradiction
  | If t b0 o0 pos => exact o3_e h fun t' b' o' h1 h2 h3 => trIf_sound Sf F hN h1 (trSs_sound H h2) (trSs_sound H h3)
  | For t it b0 o pos =>
    change onlyIf _ _ = _ at h
    refine onlyIf_e h fun ho h => bind_e h fun q hq h => o3_e h fun i' it' b' h1 h2 h3 => ?_
    rw [List.isEmpty_iff.mp ho, isName_is hq]
    exact trFor_sound c Sf F hN h1 h2 (trSs_sound H h3)
  | Break pos => obtain rfl := Option.some.inj h; exact fun ρ σ s α E r _ _ => wpAny_Break ⟨ρ, σ, α, .refl, r, E, .refl s, rfl, rfl, rfl⟩
  | Raise e1 e2 pos =>
    change onlyIf _ _ = _ at h
    refine onlyIf_e h fun he h => ?_
    rw [Option.isNone_iff_eq_none.mp he]
    exact trRaise_sound c hN h
  | Try bd hs o fi pos =>
    change onlyIf _ _ = _ at h
    refine onlyIf_e h fun hcond h => ?_
    obtain ⟨h1, h2⟩ := Bool.and_eq_true_iff.mp hcond
    rw [List.isEmpty_iff.mp h1, List.isEmpty_iff.mp h2]
    exact trTry_sound c F hN H Hh h
  | _ => contradiction

theorem trS_sound {f : List (Str × NameKind) → Expr → Option X} (F : FrOk K.hb env) (hN : env.scope.names = N) : ∀ m {A : Around} {C : Cfg}, Ctx K A T C → SE K A C f → (C.hd = false → ∀ e : Value, Ctx K (A.mark (some e)) T C.inH ∧ SE K (A.mark (some e)) C.inH f) → SS K A C n env (trS T N f m)
  | 0, _, _, _, _, _ => fun st b h => by contradiction
  | m + 1, A, C, c, Sf, H => trSStep_sound c Sf F hN (trS_sound F hN m c Sf H) fun hhd e => trS_sound F hN m (H hhd e).1 (H hhd e).2 fun z => by contradiction
end
end Mine

namespace Mine
open PySem PyProof.Rows

structure AOkD (d : Nat) (A : Around) : Prop where
  depth : A.depth + 2 * d + 200 < recursionLimit
  units : A.units + 20 * d + 200 < cLine
theorem AOkD.ok {d : Nat} {A : Around} (h : AOkD d A) : AOk A := ⟨by have := h.depth; omega, by have := h.units; omega⟩
theorem AOkD.deeper {d : Nat} {A : Around} {env : Env} (h : AOkD (d + 1) A) : AOkD d (A.deeper env) := by
  refine ⟨?_, ?_⟩
  · have := h.depth
    show A.depth + 1 + 2 * d + 200 < recursionLimit
    omega
  · have := h.units
    show A.units + 3 + 20 * d + 200 < cLine
    omega

theorem AOkD.mark {d : Nat} {A : Around} {e : Option Value} (h : AOkD d A) : AOkD d (A.mark e) := ⟨h.depth, h.units⟩

theorem VR.refr {h : Heap} {α : AL} {p : PV} {v : Value} {fr : List Addr} (r : VR h α p v) : VR h ⟨α.ix, α.hid, fr⟩ p v := VR.re (α := α) (α' := ⟨α.ix, α.hid, fr⟩) (fun _ _ e => e) (fun _ h => h) r
/-- with these frames -/
noncomputable def Kt.wf (K : Kt) (fr : List Addr) : Kt := { K with hb := ⟨K.hb.h, fr, K.hb.prog, K.hb.w⟩ }
theorem FrA.push {K : Kt} {A : Around} {fr : List Addr} {env : Env} {L : Addr} (h : FrA (K.wf fr) A) (hf : env.frame = some L) (hk : env.scope.kind = .function) : FrA (K.wf (L :: fr)) (A.deeper env) := by
  obtain ⟨l, h1, h2, h3⟩ := h.ex
  refine ⟨env :: l, ?_, ?_, fun e he => ?_⟩
  · show A.frames.map (env :: ·) = _
    rw [h1]; rfl
  · show (env :: l).map (·.frame) = (L :: fr).map some
    rw [List.map_cons, List.map_cons, hf, h2]; rfl
  · rcases List.mem_cons.mp he with q | q
    · rw [q, hk]; decide
    · exact h3 e q
theorem FrA.mark {K : Kt} {A : Around} {e : Option Value} (h : FrA K A) : FrA K (A.mark e) := ⟨h.ex⟩

theorem OR.wf {K : Kt} {fr fr' : List Addr} {h : Heap} {α : AL} {m : MO} {a : Addr} (o : OR (K.wf fr).hb h α m a) : OR (K.wf fr').hb h α m a := by
  cases m <;> exact o
theorem R.pushFr {K : Kt} {fr : List Addr} {h : Heap} {σ : Sto} {α : AL} {L : Addr} {o : Obj} (r : R (K.wf fr).hb h σ α) (hL : K.hb.get? L = none) (e : h.get? L = some o) (d : isDct o) (hLi : L ∉ α.ix) : R (K.wf (L :: fr)).hb h σ ⟨α.ix, α.hid, L :: fr⟩ :=
  ⟨r.base, r.fresh, r.nodup, r.len, r.hidden, fun j m a e1 e2 => ((r.obj j m a e1 e2).wf (fr' := L :: fr)).re (α := α) (α' := ⟨α.ix, α.hid, L :: fr⟩) (fun _ _ e => e) (fun _ h => h), r.hfr, rfl, fun a ha => by
    rcases List.mem_cons.mp ha with q | q
    · subst q; exact ⟨hL, o, e, d⟩
    · exact r.frs a q, fun a ha => by
    rcases List.mem_cons.mp ha with q | q
    · subst q; exact hLi
    · exact r.frNot a q⟩
theorem R.popFr {K : Kt} {fr : List Addr} {h : Heap} {σ : Sto} {α : AL} {L : Addr} (r : R (K.wf (L :: fr)).hb h σ α) : R (K.wf fr).hb h σ ⟨α.ix, α.hid, fr⟩ :=
  ⟨r.base, r.fresh, r.nodup, r.len, r.hidden, fun j m a e1 e2 => ((r.obj j m a e1 e2).wf (fr' := fr)).re (α := α) (α' := ⟨α.ix, α.hid, fr⟩) (fun _ _ e => e) (fun _ h => h), r.hfr, rfl, fun a ha => r.frs a (List.mem_cons_of_mem _ ha), fun a ha => r.frNot a (List.mem_cons_of_mem _ ha)⟩
theorem Ext.ofCall {own : List Addr} {α α₂ : AL} {h h₁ h₂ : Heap} {L : Addr} {fr : List Addr} (hfr : α.fr = fr) (k : ∀ b o, h.get? b = some o → h₁.get? b = some o) (hown : ∀ b ∈ own, h.get? b = none) (hL : h.get? L = none)
    (y : Ext own ⟨α.ix, α.hid, L :: fr⟩ h₁ α₂ h₂) : Ext [] α h ⟨α₂.ix, α₂.hid, fr⟩ h₂ := by
  have no : ∀ b o, h.get? b = some o → b ∉ own := fun b o e q => by rw [hown b q] at e; contradiction
  obtain ⟨β, q1, q2⟩ := y.pre
  refine ⟨y.hid, ⟨β, q1, fun x hx => ⟨?_, by simp⟩⟩, fun b o hb e hs => y.seqs b o hb (k b o e) hs, fun b o hb _ e => ?_, fun b o _ e => y.alive b o (no b o e) (k b o e), hfr.symm⟩
  · cases e : h.get? x with
    | none => rfl
    | some o => have := k x o e; rw [(q2 x hx).1] at this; contradiction
  · rcases y.rest b o hb (no b o e) (k b o e) with q | ⟨f, d, sl, q⟩
    · exact .inl q
    · refine .inr ⟨?_, d, sl, q⟩
      rcases List.mem_cons.mp f with z | z
      · rw [z, hL] at e; contradiction
      · rw [hfr]; exact z

/-- an exception leaves a call -/
theorem FX.leave {K : Kt} {fr : List Addr} {s s₀ s₁ s₂ : Shared} {α α₀ : AL} {i : Nat} {σ : Sto} {nt : Bool} {e : Value} {env : Env} {A : Around} {L : Addr} {ρ : Loc} {Q : Unit → Shared → Prop} {E : Value → Shared → Prop} (hA : FrA (K.wf (L :: fr)) A) (hF : FrOk (K.wf (L :: fr)).hb env)
    (hfr : α.fr = fr) (k : ∀ b o, s.heap.get? b = some o → s₁.heap.get? b = some o) (hown : ∀ b ∈ frm env, s.heap.get? b = none) (hl : env.locals = L) (r₀ : ∃ σ, R (K.wf fr).hb s.heap σ α) (m : Sm s s₀)
    (y : Ext (frm env) ⟨α.ix, α.hid, L :: fr⟩ s₁.heap α₀ s₀.heap) (En : EnvRel env ρ s₀.heap α₀) (f : FX (K.wf (L :: fr)) s₀ α₀ i σ nt e s₂)
    (hQ : ∀ s', FX (K.wf fr) s α i σ true e s' → Q () s') : wpAny (model K.prog K.w) A (leaving env e) Q E s₂ := by
  obtain ⟨a, h₀, α', rfl, x', r', u, ea, m'⟩ := f
  subst hl
  have hL : s.heap.get? env.locals = none := hown _ List.mem_cons_self
  have hLf : env.locals ∉ fr := fun q => by
    obtain ⟨σ', r0⟩ := r₀
    obtain ⟨_, o, e, _⟩ := r0.frs _ q
    rw [hL] at e; contradiction
  have hla := (En.ext x' .nil).la
  have keep : ∀ b, b ≠ env.locals → (PySem.W.hideAll h₀ [env.locals]).get? b = h₀.get? b := fun b hb => hide_ne hb
  have none0 : ∀ b, h₀.get? b = none → (PySem.W.hideAll h₀ [env.locals]).get? b = none := fun b hb => by
    cases q : (PySem.W.hideAll h₀ [env.locals]).get? b with
    | none => rfl
    | some o => rw [PySem.W.of_hideAll _ q] at hb; contradiction
  have r1 := r'.popFr
  obtain ⟨r2, _⟩ := r1.but (h' := PySem.W.hideAll h₀ [env.locals]) (I := env.locals) hla hF.new.l (fun b o hb e => (keep b hb).trans e) (fun o e => by
    obtain ⟨_, o', e', d⟩ := r'.frs env.locals List.mem_cons_self
    rw [e] at e'; obtain rfl := Option.some.inj e'; exact d.notSolid) fun q => absurd q hLf
  have x1 : Ext [] α s.heap ⟨α'.ix, α'.hid, fr⟩ h₀ := Ext.ofCall hfr k hown hL (y.trans (x'.mono (by simp) (frm_alive En hF.cl)))
  have x2 := x1.sameBut hL keep
  refine leave_exc (K := K.wf (env.locals :: fr)) hA hF.new r' u ea fun h'' u'' ea'' => hQ _ ⟨a, _, _, rfl, x2, r2, fun b o hb => ?_, ?_, ⟨(m.trans m').gens, (m.trans m').os⟩⟩
  · have hbL : b ≠ env.locals := fun q => by rw [q, PySem.W.hideAll_none _ (by simp)] at hb; contradiction
    rcases u'' b o (PySem.W.of_hideAll _ hb) with q | ⟨f, sl, q⟩
    · exact .inl q
    · rcases List.mem_cons.mp f with z | z
      · exact absurd z hbL
      · exact .inr ⟨z, sl, q⟩
  · obtain ⟨new, oe, vs, xv, he, hc, hd, h1, ht⟩ := ea''
    refine ⟨none0 a new, oe, vs, xv, he, hc, hd, h1, ?_⟩
    rcases ht with ⟨q, q'⟩ | ⟨T, oT, ts, q, hT0, z1, z2, z3, z4, z5⟩
    · exact .inl q q'
    · exact .inr T oT ts q (none0 T hT0) z1 z2 z3 z4 z5

/-! cells of a call -/
theorem cellsFrom_has : ∀ {names : List (Str × NameKind)} {n : Nat} {acc : List (Str × Addr)} {x : Str}, (x, NameKind.cell) ∈ names → ∃ c, (x, c) ∈ cellsFrom n names acc
  | (y, k) :: r, n, acc, x, h => by
    have keep : ∀ {r : List (Str × NameKind)} {n : Nat} {acc : List (Str × Addr)} {p : Str × Addr}, p ∈ acc → p ∈ cellsFrom n r acc := by
      intro r
      induction r with
      | nil => intro n acc p hp; exact hp
      | cons q r ih =>
        intro n acc p hp
        obtain ⟨y, k⟩ := q
        unfold cellsFrom
        split
        · exact ih (List.mem_cons_of_mem _ hp)
        · exact ih hp
    unfold cellsFrom
    rcases List.mem_cons.mp h with e | h
    · cases e
      rw [if_pos (by rfl)]
      exact ⟨n, keep List.mem_cons_self⟩
    · split
      · exact cellsFrom_has h
      · exact cellsFrom_has h
theorem cellsFrom_names : ∀ {names : List (Str × NameKind)} {n : Nat} {acc : List (Str × Addr)}, Uniq names → (acc.map (·.1)).Nodup → (∀ p ∈ acc, ∀ k, (p.1, k) ∉ names) → ((cellsFrom n names acc).map (·.1)).Nodup
  | [], _, _, _, h, _ => h
  | (y, k) :: r, n, acc, hU, h, hd => by
    have hU' : Uniq r := fun i j x k k' h1 h2 => by have := hU (i + 1) (j + 1) x k k' (by simpa using h1) (by simpa using h2); omega
    have hy : ∀ k', (y, k') ∉ r := fun k' hm => by
      obtain ⟨i, hi⟩ := List.mem_iff_getElem?.mp hm
      have := hU 0 (i + 1) y k k' (by simp) (by simpa using hi)
      omega
    unfold cellsFrom
    split
    · refine cellsFrom_names hU' ?_ fun p hp k' hm => ?_
      · simp only [List.map_cons, List.nodup_cons]
        refine ⟨fun q => ?_, h⟩
        obtain ⟨p, hp, rfl⟩ := List.mem_map.mp q
        exact hd p hp k List.mem_cons_self
      · rcases List.mem_cons.mp hp with e | hp
        · subst e; exact hy k' hm
        · exact hd p hp k' (List.mem_cons_of_mem _ hm)
    · exact cellsFrom_names hU' h fun p hp k' hm => hd p hp k' (List.mem_cons_of_mem _ hm)
theorem lookup_nodup : ∀ {l : List (Str × Addr)}, (l.map (·.1)).Nodup → ∀ p ∈ l, l.lookup p.1 = some p.2
  | [], _, p, hp => by simp at hp
  | (k, v) :: r, h, p, hp => by
    simp only [List.map_cons, List.nodup_cons] at h
    rw [List.lookup_cons]
    rcases List.mem_cons.mp hp with e | hp
    · subst e; simp
    · have : (p.1 == k) = false := by
        cases hb : p.1 == k with
        | false => rfl
        | true =>
          have : p.1 = k := by simpa using hb
          exact absurd (List.mem_map.mpr ⟨p, hp, this⟩) h.1
      rw [this]
      exact lookup_nodup h.2 p hp

theorem bindL_other {kd : Str → Option NameKind} : ∀ {ps : List Str} {vals : List Value} {m : Str → Option Value} {y : Str}, y ∉ ps → bindL kd (ps.zip vals) m y = m y
  | [], vals, m, y, h => by simp [bindL]
  | p :: ps, [], m, y, h => by simp [bindL]
  | p :: ps, v :: vals, m, y, h => by
    simp only [List.mem_cons, not_or] at h
    simp only [List.zip_cons_cons, bindL]
    rw [bindL_other h.2]
    split
    · simp [h.1]
    · rfl
theorem bindC_other {kd : Str → Option NameKind} : ∀ {ps : List Str} {vals : List Value} {m : Str → Option Value} {y : Str}, y ∉ ps → bindC kd (ps.zip vals) m y = m y
  | [], vals, m, y, h => by simp [bindC]
  | p :: ps, [], m, y, h => by simp [bindC]
  | p :: ps, v :: vals, m, y, h => by
    simp only [List.mem_cons, not_or] at h
    simp only [List.zip_cons_cons, bindC]
    rw [bindC_other h.2]
    split
    · rfl
    · simp [h.1]
theorem bindL_get {kd : Str → Option NameKind} : ∀ {ps : List Str} {vals : List Value} {m : Str → Option Value} {i : Nat} {y : Str} {v : Value}, ps.Nodup → ps[i]? = some y → vals[i]? = some v → kd y = some .local → bindL kd (ps.zip vals) m y = some v
  | [], vals, m, i, y, v, _, h, _, _ => by simp at h
  | p :: ps, [], m, i, y, v, _, _, h, _ => by simp at h
  | p :: ps, w :: vals, m, i, y, v, hn, h1, h2, hk => by
    rw [List.nodup_cons] at hn
    simp only [List.zip_cons_cons, bindL]
    cases i with
    | zero =>
      simp at h1 h2
      subst h1 h2
      rw [bindL_other hn.1, if_pos hk]; simp
    | succ i => exact bindL_get hn.2 (by simpa using h1) (by simpa using h2) hk
theorem bindC_get {kd : Str → Option NameKind} : ∀ {ps : List Str} {vals : List Value} {m : Str → Option Value} {i : Nat} {y : Str} {v : Value}, ps.Nodup → ps[i]? = some y → vals[i]? = some v → kd y = some .cell → bindC kd (ps.zip vals) m y = some v
  | [], vals, m, i, y, v, _, h, _, _ => by simp at h
  | p :: ps, [], m, i, y, v, _, _, h, _ => by simp at h
  | p :: ps, w :: vals, m, i, y, v, hn, h1, h2, hk => by
    rw [List.nodup_cons] at hn
    simp only [List.zip_cons_cons, bindC]
    cases i with
    | zero =>
      simp at h1 h2
      subst h1 h2
      rw [bindC_other hn.1, if_neg (by rw [hk]; decide)]; simp
    | succ i => exact bindC_get hn.2 (by simpa using h1) (by simpa using h2) hk

/-- a function of the text -/
structure FnFacts (K : Kt) (T : Tab) (fn : Fn) (a : Addr) (o : Obj) (fd : FuncData) (body : List Stmt) (ps : List Str) (n1 n2 : Nat) : Prop where
  ho : K.hb.get? a = some o
  hd : o.data = .func fd
  code : K.hb.h.CodeRec fd.code fd.qualname
  hbody : fd.body = .stmts body
  glob : fd.globals = mainGlobals
  bins : fd.builtins = builtinsNs
  clo : fd.closure = []
  kind : fd.scope.kind = .function
  co : fd.scope.isCoroutine = false
  gen : fd.scope.isGenerator = false
  sc : scOkB fd.scope.names = true
  tr : trSs (trS T fd.scope.names (trE T n1) n2) body = some fn.body
  params : fn.params = ps.length
  slots : fn.slots = fd.scope.names.length
  pk : ∀ (i : Nat) (p : Str), ps[i]? = some p → ∃ k, fd.scope.names[i]? = some (p, k) ∧ (k = NameKind.local ∨ k = .cell)
  bind : ∀ vals : List Value, vals.length = ps.length → bindArgs fd ⟨vals, []⟩ = pure (ps.zip vals)

theorem FnFacts.nodup {K T fn a o fd body ps n1 n2} (f : FnFacts K T fn a o fd body ps n1 n2) : ps.Nodup := by
  rw [List.Nodup, List.pairwise_iff_getElem]
  intro i j hi hj hij e
  obtain ⟨k, h1, _⟩ := f.pk i ps[i] (by simp [hi])
  obtain ⟨k', h2, _⟩ := f.pk j ps[j] (by simp [hj])
  rw [e] at h1
  have := (scOk_of f.sc).uniq i j _ _ _ h1 h2
  omega

section
variable {K : Kt} {A : Around} {T : Tab} {C : Cfg} {s : Shared} {α : AL} {σ : Sto}

theorem call_env {fr : List Addr} {fn : Fn} {a : Addr} {o : Obj} {fd : FuncData} {body : List Stmt} {ps : List Str} {n1 n2 : Nat} (f : FnFacts K T fn a o fd body ps n1 n2) {vs : List PV} {us : List Value} {s₁ : Shared}
    (hl : vs.length = ps.length) (r : R (K.wf fr).hb s.heap σ α) (v : VRs s.heap α vs us)
    (I : InCallC s (callEnvC fd s.heap.objs.size a).locals (bindL (callEnvC fd s.heap.objs.size a).kindOf (ps.zip us) fun _ => none) (callEnvC fd s.heap.objs.size a).cells (bindC (callEnvC fd s.heap.objs.size a).kindOf (ps.zip us) fun _ => none) s₁) :
    EnvRel (callEnvC fd s.heap.objs.size a) (vs.map some ++ List.replicate (fn.slots - fn.params) none) s₁.heap ⟨α.ix, α.hid, s.heap.objs.size :: fr⟩ ∧ FrOk (K.wf (s.heap.objs.size :: fr)).hb (callEnvC fd s.heap.objs.size a) ∧ R (K.wf (s.heap.objs.size :: fr)).hb s₁.heap σ ⟨α.ix, α.hid, s.heap.objs.size :: fr⟩ ∧ Sm s s₁ ∧ (∀ b o, s.heap.get? b = some o → s₁.heap.get? b = some o) ∧ ∀ b ∈ frm (callEnvC fd s.heap.objs.size a), s.heap.get? b = none := by
  have sc := scOk_of f.sc
  have keep := I.toInCall.keep
  have hnm : (callEnvC fd s.heap.objs.size a).scope = fd.scope := rfl
  have hcells : (callEnvC fd s.heap.objs.size a).cells = cellsFrom (s.heap.objs.size + 1) fd.scope.names [] := rfl
  have hloc : (callEnvC fd s.heap.objs.size a).locals = s.heap.objs.size := rfl
  have fresh : ∀ b, s.heap.objs.size ≤ b → s.heap.get? b = none := fun b hb => by
    cases e : s.heap.get? b with
    | none => rfl
    | some o' => exact absurd (Heap.lt_size e) (Nat.not_lt.mpr hb)
  have notAll : ∀ b, s.heap.get? b = none → b ∉ α.all := fun b hb q => by obtain ⟨o, e⟩ := r.liveAll q; rw [hb] at e; contradiction
  have base : ∀ b, s.heap.get? b = none → K.hb.get? b = none := fun b hb => by
    cases e : K.hb.get? b with
    | none => rfl
    | some o => rw [r.base b o e] at hb; contradiction
  have cfresh : ∀ n c, (n, c) ∈ (callEnvC fd s.heap.objs.size a).cells → s.heap.get? c = none := fun n c h => fresh c (Nat.le_of_lt (I.above n c h))
  have kd : ∀ (i : Nat) (y : Str) (k : NameKind), fd.scope.names[i]? = some (y, k) → (callEnvC fd s.heap.objs.size a).kindOf y = some k := fun i y k h => lookup_of_uniq sc.uniq h
  have hnd := cellsFrom_names (n := s.heap.objs.size + 1) (acc := []) sc.uniq (by simp) (by simp)
  have cl : ∀ p ∈ (callEnvC fd s.heap.objs.size a).cells, (callEnvC fd s.heap.objs.size a).cells.lookup p.1 = some p.2 := lookup_nodup hnd
  have xk : Ext [] α s.heap α s₁.heap := .keeps keep
  have hrho : ∀ (i : Nat) (w : PV), (vs.map some ++ List.replicate (fn.slots - fn.params) (none : Option PV))[i]? = some (some w) → vs[i]? = some w := fun i w e => by
    by_cases hi : i < vs.length
    · rw [List.getElem?_append_left (by simpa using hi)] at e
      simpa using e
    · rw [List.getElem?_append_right (by simpa using hi)] at e
      rw [List.getElem?_replicate] at e
      split at e <;> cases e
  have arg : ∀ (i : Nat) (w : PV), vs[i]? = some w → ∃ p k u, ps[i]? = some p ∧ fd.scope.names[i]? = some (p, k) ∧ (k = .local ∨ k = .cell) ∧ us[i]? = some u ∧ VR s.heap α w u := fun i w e => by
    have hi : i < vs.length := (List.getElem?_eq_some_iff.mp e).1
    have hp : i < ps.length := by omega
    obtain ⟨k, h1, h2⟩ := f.pk i ps[i] (by simp [hp])
    have hu : i < us.length := by rw [← v.1]; exact hi
    exact ⟨ps[i], k, us[i], by simp [hp], h1, h2, by simp [hu], v.2 i w us[i] e (by simp [hu])⟩
  refine ⟨⟨⟨f.kind, f.glob, f.bins, kd, sc.nodbg⟩, notAll _ (fresh _ (Nat.le_refl _)), ⟨_, I.toInCall.ns, fun i y w e1 e2 => ?_⟩, fun y c hc => ?_, fun y z c h1 h2 => ?_, fun i y e1 => ?_, fun i w e => ?_⟩,
    ⟨sc, ⟨base _ (fresh _ (Nat.le_refl _)), fun y c hc => base _ (cfresh y c (mem_of_lookup hc)), ⟨_, _, rfl, rfl⟩⟩, cl, ?_⟩, ?_, ?_, keep, fun b hb => ?_⟩
  · obtain ⟨p, k, u, q1, q2, q3, q4, q5⟩ := arg i w (hrho i w e2)
    rw [hnm] at e1
    rw [q2] at e1
    cases e1
    exact ⟨u, bindL_get f.nodup q1 q4 (kd i _ _ q2), (q5.ext xk).refr⟩
  · have hm := mem_of_lookup hc
    exact ⟨notAll _ (cfresh y c hm), Nat.ne_of_gt (I.above y c hm), _, I.cell y c hc⟩
  · exact name_of_addr I.apart (mem_of_lookup h1) (mem_of_lookup h2)
  · rw [hnm] at e1
    obtain ⟨c, hc⟩ := cellsFrom_has (n := s.heap.objs.size + 1) (acc := []) (List.mem_of_getElem? e1)
    have hc' := cl (y, c) hc
    refine ⟨c, hc', fun w e2 => ?_⟩
    obtain ⟨p, k, u, q1, q2, q3, q4, q5⟩ := arg i w (hrho i w e2)
    rw [q2] at e1
    cases e1
    refine ⟨u, ?_, (q5.ext xk).refr⟩
    have := I.cell _ c hc'
    rw [bindC_get f.nodup q1 q4 (kd i _ _ q2)] at this
    exact this
  · obtain ⟨p, k, u, q1, q2, q3, q4, q5⟩ := arg i w (hrho i w e)
    exact ⟨p, k, q2, q3⟩
  · show (fd.scope.kind == .module && _) = false
    rw [f.kind]; rfl
  · obtain ⟨o', es, ep, e', d, _⟩ := I.toInCall.ns
    exact (r.keeps keep).pushFr (base _ (fresh _ (Nat.le_refl _))) e' ⟨es, ep, d⟩ (AL.not_ix (notAll _ (fresh _ (Nat.le_refl _))))
  · obtain ⟨h', tk, rfl⟩ := I.toInCall.same
    exact ⟨rfl, rfl⟩
  · rcases List.mem_cons.mp hb with q | q
    · rw [q]; exact fresh _ (Nat.le_refl _)
    · obtain ⟨p, hp, rfl⟩ := List.mem_map.mp q
      exact cfresh p.1 p.2 hp

/-- the law's own name for its script is no cell -/
noncomputable def LawLocal (K : Kt) : Prop := ∃ a o fd n r, K.mg "law" = some (.ref a) ∧ K.hb.get? a = some o ∧ o.data = .func fd ∧ fd.scope.names = (n, NameKind.local) :: r
structure PrgOk (K : Kt) (T : Tab) (P : Prg) : Prop where
  hK : K.Ok
  rp : T.repl = true → K.pos = true
  l0 : T.repl = true → LawLocal K
  cst : ∀ x v, T.cst.lookup x = some v → ∃ u, K.mg x = some u ∧ ∀ fr h σ α, R (K.wf fr).hb h σ α → VR h α v u
  bin : ∀ x, x ∈ T.bins → K.mg x = none ∧ ∃ v, biVal x = some v ∧ K.mb x = some v
  exc : ∃ F : PySem.W.Frag, F.In K.hb.h ∧ ∀ p ∈ T.excs, ExcCls K p.1 p.2.1 p.2.2 ∧ excFr F T p.2.1 = true
  fns : ∀ (f : Nat) (x : Str), T.fns[f]? = some x → ∃ fn a o fd body ps n1 n2, P.fns[f]? = some fn ∧ K.mg x = some (.ref a) ∧ FnFacts K T fn a o fd body ps n1 n2
  brd : ∀ b c, T.brd = some (b, c) → ∃ F : PySem.W.Frag, BrdCls K F b c ∧ ∀ (j : Nat) (n : Str), T.meths[j]? = some n → ∃ fn a o fd body ps n1 n2, P.fns[T.fns.length + j]? = some fn ∧ PySem.W.findIn F (.ref c) n = some (some (.ref a)) ∧ PySem.W.typeIn F (.ref a) = some (.type "function") ∧ FnFacts K T fn a o fd body ps n1 n2

theorem ExcCls.wf {x : Str} {c : Nat} {up fr : List Nat} (e : ExcCls K x c up) : ExcCls (K.wf fr) x c up := ⟨e.mg, e.ob, e.tail⟩

theorem text_strict {M : Model} {Γ : PySem.Ctx} {γ : Type} {x : Str} {f : Value → Sem γ} {Q : γ → Pos → Shared → Prop} {E : Value → Pos → Shared → Prop} {p : Pos} {s : Shared} (h : Sem.wp M Γ (mkText x >>= f) Q E p s) : Sem.wp M Γ (mkText x >>= f) (fun a p s => Q a p s ∧ 1 ≤ s.toks) E p s := by
  have h2 : Sem.wp M Γ (f (.str x s.toks)) Q E p { s with toks := s.toks + 1 } := h
  have h3 : Sem.wp M Γ (f (.str x s.toks)) (fun a p s => Q a p s ∧ 1 ≤ s.toks) E p { s with toks := s.toks + 1 } :=
    Sem.wp_mono M Γ _ (fun _ _ _ h => h) (fun _ _ _ h => h.1) _ _ (wp_toks (n := 1) (f (.str x s.toks)) (Nat.le_add_left 1 s.toks) h2)
  exact h3
theorem store_strict {M : Model} {Γ : PySem.Ctx} {env : Env} {x : Str} {v : Value} {Q : Unit → Pos → Shared → Prop} {E : Value → Pos → Shared → Prop} {p : Pos} {s : Shared} (hk : env.scope.kind = .function) (hl : env.kindOf x = some .local)
   (h : Sem.wp M Γ (storeName env x v) Q E p s) : Sem.wp M Γ (storeName env x v) (fun a p s => Q a p s ∧ 1 ≤ s.toks) (fun e p s => E e p s) p s := by
  have e : storeName env x v = nsSet env.locals x v := by
    unfold storeName
    rw [hl, hk]; rfl
  rw [e] at h ⊢
  unfold nsSet at h ⊢
  rw [Sem.wp_bind'] at h ⊢
  refine Sem.wp_mono M Γ _ (fun a p s h => ?_) (fun _ _ _ h => h) _ _ h
  exact text_strict h
theorem newEnv_pos {scope : Scope} {g : Addr} {clo : List (Str × Addr)} {x : Str} {v : Value} {rest : List (Str × Value)} {qual : Str} {func : Option Addr} {code : Value} {b : Addr} {Q : Env → Shared → Prop} {E : Value → Shared → Prop} (hk : scope.kind = .function) (hl : scope.names.lookup x = some .local)
    (h : wpAny (model K.prog K.w) A (newFunctionEnv scope g clo ((x, v) :: rest) qual func code none b) (fun e s' => 0 < s'.toks → Q e s') E s) : wpAny (model K.prog K.w) A (newFunctionEnv scope g clo ((x, v) :: rest) qual func code none b) Q E s := by
  intro Γ p hΓ
  have h' := h Γ p hΓ
  unfold newFunctionEnv at h' ⊢
  rw [Sem.wp_bind'] at h' ⊢
  refine Sem.wp_mono _ _ _ (fun a p s h => ?_) (fun _ _ _ h => h) _ _ h'
  rw [Sem.wp_bind'] at h ⊢
  refine Sem.wp_mono _ _ _ (fun a p s h => ?_) (fun _ _ _ h => h) _ _ h
  dsimp only at h ⊢
  rw [List.forIn_cons] at h ⊢
  rw [Sem.wp_bind', Sem.wp_bind'] at h ⊢
  rw [Sem.wp_bind'] at h ⊢
  refine Sem.wp_mono _ _ _ (fun a p s h => ?_) (fun _ _ _ h => h) _ _ (store_strict hk hl h)
  obtain ⟨h, ht⟩ := h
  refine Sem.wp_mono _ _ _ (fun a p s h => ?_) (fun _ _ _ h => h.1) _ _ (wp_toks (n := 1) _ ht h)
  obtain ⟨h, ht⟩ := h
  exact Sem.wp_mono _ _ _ (fun a p s h => h.1 h.2) (fun _ _ _ h => h.1) _ _ (wp_toks (n := 1) _ ht h)
theorem call_cells_pos {R : Result → Shared → Prop} {a : Addr} {o : Obj} {fd : FuncData} {body : List Stmt} {vals : List Value} {binds : List (Str × Value)} (tk : K.Tk s ∨ ∃ x v rest, binds = (x, v) :: rest ∧ fd.scope.names.lookup x = some .local)
    (hroom : A.depth < recursionLimit) (ho : s.heap.get? a = some o) (hdata : o.data = .func fd) (hlim : s.heap.NoLimit) (hcd : s.heap.CodeRec fd.code fd.qualname)
    (hbody : fd.body = .stmts body) (hbind : bindArgs fd ⟨vals, []⟩ = pure binds) (hclo : fd.closure = [])
    (hkind : ∀ x ∈ binds, fd.scope.names.lookup x.1 = some .local ∨ (fd.scope.names.lookup x.1 = some .cell ∧ ((cellsFrom (s.heap.objs.size + 1) fd.scope.names []).lookup x.1).isSome = true))
    (h : ∀ s₁, InCallC s (callEnvC fd s.heap.objs.size a).locals (bindL (callEnvC fd s.heap.objs.size a).kindOf binds fun _ => none) (callEnvC fd s.heap.objs.size a).cells (bindC (callEnvC fd s.heap.objs.size a).kindOf binds fun _ => none) s₁ → K.Tk s₁ →
      wpAny (model K.prog K.w) (A.deeper (callEnvC fd s.heap.objs.size a)) (execs body (callEnvC fd s.heap.objs.size a)) (fun f s' => R (.ok (.ret (match f with | .ret v => v | _ => .none))) s')
        (fun e s' => wpAny (model K.prog K.w) (A.deeper (callEnvC fd s.heap.objs.size a)) (leaving (callEnvC fd s.heap.objs.size a) e) (fun _ s'' => R (.error e) s'') (fun e' s'' => R (.error e') s'') s') s₁)
    (hco : fd.scope.isCoroutine = false) (hgen : fd.scope.isGenerator = false) (hk : fd.scope.kind = .function) : codeAny (model K.prog K.w) A (.call (.ref a) ⟨vals, []⟩) R s := by
  refine codeAny_call_function hroom ho hdata hco hgen hbody hcd ?_
  rw [hbind, hclo]
  refine wpAny_pure ?_
  rcases tk with tk | ⟨y, v, rest, rfl, hl⟩
  · refine wpAny_pos tk (wpAny_newFunctionEnv_cells hk hkind fun env he s' x tk' => ?_)
    subst he
    exact ⟨hlim.keeps x.toInCall.keep, codeAny_func (h s' x tk')⟩
  · refine newEnv_pos hk hl (wpAny_newFunctionEnv_cells hk hkind fun env he s' x tk' => ?_)
    subst he
    exact ⟨hlim.keeps x.toInCall.keep, codeAny_func (h s' x fun _ => tk')⟩
theorem call_code {P : Prg} (p : PrgOk K T P) {N d : Nat} {hd : Bool} {fr : List Addr} (hroom : A.depth < recursionLimit) (hA : ∀ env, AOkD d (A.deeper env)) (hh : hd = false → A.handled = none) (hF : FrA (K.wf fr) A)
    (callH_ctx : ∀ (hd : Bool) (A : Around) (fr : List Addr), AOkD d A → (hd = false → A.handled = none) → FrA (K.wf fr) A → Ctx (K.wf fr) A T (cfg P N hd d))
    {f : Nat} {fn : Fn} {a : Addr} {o : Obj} {fd : FuncData} {body : List Stmt} {ps : List Str} {n1 n2 : Nat} (hf : P.fns[f]? = some fn) (F : FnFacts K T fn a o fd body ps n1 n2)
    {vs : List PV} {us : List Value} {s : Shared} {σ : Sto} {α : AL} (r : R (K.wf fr).hb s.heap σ α) (v : VRs s.heap α vs us) (hc : callH P N hd (d + 1) f vs σ ≠ .stuck)
    (tk : K.Tk s ∨ ∃ x q, ps = x :: q ∧ us ≠ [] ∧ fd.scope.names.lookup x = some .local) {Rr : Result → Shared → Prop} (hok : ∀ v s', Post (K.wf fr) VR (callH P N hd (d + 1) f vs σ) s α v s' → Rr (.ok (.ret v)) s') (herr : ∀ e s', PostX (K.wf fr) A (callH P N hd (d + 1) f vs σ) s α e s' → Rr (.error e) s') :
    codeAny (model K.prog K.w) A (.call (.ref a) ⟨us, []⟩) Rr s := by
  simp only [callH, hf] at hc hok herr
  split at hc
  · rename_i hl
    rw [if_pos hl] at hok herr
    rw [F.params] at hl
    have sc := scOk_of F.sc
    refine call_cells_pos (tk.imp id fun ⟨x, q, e1, e2, e3⟩ => by
      cases us with
      | nil => exact absurd rfl e2
      | cons u us => exact ⟨x, u, q.zip us, by rw [e1]; rfl, e3⟩) hroom (r.base _ _ F.ho) F.hd (p.hK.nolimit.keeps r.base) (F.code.keeps r.base) F.hbody (F.bind us (by rw [← v.1]; exact hl)) F.clo (fun q hq => ?_) (fun s₁ I tk₁ => ?_) F.co F.gen F.kind
    · obtain ⟨i, hi⟩ := List.mem_iff_getElem?.mp hq
      obtain ⟨h1, h2⟩ := List.getElem?_zip_eq_some.mp hi
      obtain ⟨k, h3, h4⟩ := F.pk i q.1 h1
      rcases h4 with rfl | rfl
      · exact .inl (lookup_of_uniq sc.uniq h3)
      · refine .inr ⟨lookup_of_uniq sc.uniq h3, ?_⟩
        obtain ⟨c, hc'⟩ := cellsFrom_has (n := s.heap.objs.size + 1) (acc := []) (List.mem_of_getElem? h3)
        obtain ⟨c', hc''⟩ := lookup_of_mem hc'
        rw [hc'']; rfl
    · obtain ⟨E, Fr, r1, m1, kp, own⟩ := call_env F hl r v I
      have hA' : AOkD d (A.deeper (callEnvC fd s.heap.objs.size a)) := hA _
      have hF' : FrA (K.wf (s.heap.objs.size :: fr)) (A.deeper (callEnvC fd s.heap.objs.size a)) := hF.push rfl F.kind
      have ctx := callH_ctx hd _ _ hA' hh hF'
      have ctxH : ∀ e : Value, Ctx (K.wf (s.heap.objs.size :: fr)) ((A.deeper (callEnvC fd s.heap.objs.size a)).mark (some e)) T (cfg P N hd d).inH := fun e => callH_ctx true _ _ hA'.mark (by simp) hF'.mark
      have body_ok := trSs_sound (n := N) (trS_sound Fr rfl n2 ctx (trE_sound ctx n1) fun _ e => ⟨ctxH e, trE_sound (ctxH e) n1⟩) F.tr _ _ _ _ E r1
      have e0 : (⟨callH P N hd d, hd, callH P N true d⟩ : Cfg) = cfg P N hd d := rfl
      rw [e0] at hc hok herr
      generalize hcq : ex (cfg P N hd d) N fn.body (vs.map some ++ List.replicate (fn.slots - fn.params) none) σ = cc at hc body_ok hok herr
      have hcc : cc ≠ .stuck := by rintro rfl; exact hc rfl
      have hfr : α.fr = fr := r.fe
      have hLn : s.heap.get? s.heap.objs.size = none := own _ List.mem_cons_self
      refine wpAny_mono (body_ok hcc tk₁) (fun fl s₂ hp => ?_) fun e s₂ hx => ?_
      · obtain ⟨ρ₂, σ₂, α₂, x2, r2, E2, m2, fo⟩ := hp
        have xx : Ext [] α s.heap ⟨α₂.ix, α₂.hid, fr⟩ s₂.heap := Ext.ofCall hfr kp own hLn x2
        cases cc with
        | next ρ' σ' =>
          obtain ⟨rfl, rfl, rfl⟩ := fo
          exact hok _ _ ⟨.none, _, _, rfl, xx, r2.popFr, .none, m1.trans m2⟩
        | ret w ρ' σ' =>
          obtain ⟨⟨u, rfl, vu⟩, rfl, rfl⟩ := fo
          exact hok _ _ ⟨w, _, _, rfl, xx, r2.popFr, vu.refr, m1.trans m2⟩
        | brk ρ' σ' => exact absurd rfl hc
        | cont ρ' σ' => exact absurd rfl hc
        | exc i ρ' σ' => exact fo.elim
        | stuck => exact absurd rfl hcc
      · obtain ⟨i, ρ', σ', s₀, α₀, nt, e1, y, En, m0, fx⟩ := hx
        subst e1
        exact FX.leave hF' Fr hfr kp own rfl ⟨_, r⟩ (m1.trans m0) y En fx fun s' f => herr _ _ ⟨i, σ', rfl, _, f⟩
  · exact absurd rfl hc
theorem call_step {P : Prg} (p : PrgOk K T P) {N d : Nat} {hd : Bool} {fr : List Addr} (hA : AOkD (d + 1) A) (hh : hd = false → A.handled = none) (hF : FrA (K.wf fr) A)
    (callH_ctx : ∀ (hd : Bool) (A : Around) (fr : List Addr), AOkD d A → (hd = false → A.handled = none) → FrA (K.wf fr) A → Ctx (K.wf fr) A T (cfg P N hd d))
    {f : Nat} {fn : Fn} {a : Addr} {o : Obj} {fd : FuncData} {body : List Stmt} {ps : List Str} {n1 n2 : Nat} (hf : P.fns[f]? = some fn) (F : FnFacts K T fn a o fd body ps n1 n2)
    {vs : List PV} {us : List Value} {s : Shared} {σ : Sto} {α : AL} (r : R (K.wf fr).hb s.heap σ α) (v : VRs s.heap α vs us) (hc : callH P N hd (d + 1) f vs σ ≠ .stuck)
    (tk : K.Tk s ∨ ∃ x q, ps = x :: q ∧ us ≠ [] ∧ fd.scope.names.lookup x = some .local) :
    wpAny (model K.prog K.w) A (call (.ref a) us) (Post (K.wf fr) VR (callH P N hd (d + 1) f vs σ) s α) (PostX (K.wf fr) A (callH P N hd (d + 1) f vs σ) s α) s :=
  wpAny_call (call_code p (by have := hA.depth; omega) (fun _ => hA.deeper) hh hF callH_ctx hf F r v hc tk (fun _ _ h => h) fun _ _ h => h)
open PySem.W in
theorem tc_under {c : Addr} {us : List Value} {d : Nat} (h : AOkD (d + 1) A) : (A.under (.builtin "type.__call__" ⟨.ref c :: us, []⟩)).depth < recursionLimit ∧ ∀ env, AOkD d ((A.under (.builtin "type.__call__" ⟨.ref c :: us, []⟩)).deeper env) := by
  have w : (Code.builtin "type.__call__" ⟨.ref c :: us, []⟩).weight ≤ 1 := Nat.le_of_ble_eq_true (by kernel_rfl)
  have u : (Code.builtin "type.__call__" ⟨.ref c :: us, []⟩).cUnits ≤ 4 := Nat.le_of_ble_eq_true rfl
  have h1 := h.depth
  have h2 := h.units
  refine ⟨?_, fun env => ⟨?_, ?_⟩⟩
  · show A.depth + (Code.builtin "type.__call__" ⟨.ref c :: us, []⟩).weight < recursionLimit; omega
  · show A.depth + (Code.builtin "type.__call__" ⟨.ref c :: us, []⟩).weight + 1 + 2 * d + 200 < recursionLimit; omega
  · show A.units + (Code.builtin "type.__call__" ⟨.ref c :: us, []⟩).cUnits + 3 + 20 * d + 200 < cLine; omega
theorem BrdCls.wf {F : PySem.W.Frag} {b : Str} {c : Addr} {fr : List Addr} (B : BrdCls K F b c) : BrdCls (K.wf fr) F b c := ⟨B.mg, B.inn, B.keep, B.makes, B.plain, B.hasd, B.seta, B.free⟩
open PySem.W in
/-- an object of the class is made -/
theorem new_step {P : Prg} (p : PrgOk K T P) {N d : Nat} {hd : Bool} {fr : List Addr} (hA : AOkD (d + 1) A) (hh : hd = false → A.handled = none) (hF : FrA (K.wf fr) A)
    (callH_ctx : ∀ (hd : Bool) (A : Around) (fr : List Addr), AOkD d A → (hd = false → A.handled = none) → FrA (K.wf fr) A → Ctx (K.wf fr) A T (cfg P N hd d))
    {f : Nat} {fn : Fn} {a : Addr} {o : Obj} {fd : FuncData} {body : List Stmt} {ps : List Str} {n1 n2 : Nat} (hf : P.fns[f]? = some fn) (F : FnFacts K T fn a o fd body ps n1 n2)
    {Fg : Frag} {b : Str} {c : Addr} (B : BrdCls K Fg b c) (hi : findIn Fg (.ref c) "__init__" = some (some (.ref a))) (hty : typeIn Fg (.ref a) = some (.type "function"))
    {vs : List PV} {us : List Value} {s : Shared} {σ : Sto} {α : AL} (r : R (K.wf fr).hb s.heap σ α) (v : VRs s.heap α vs us) :
    Runs (K.wf fr) VR A (call (.ref c) us) (newv (cfg P N hd (d + 1)) c f vs σ) s α := by
  intro hc tk
  have X : Fg.In s.heap := fun x o e => r.base x o (B.inn x o e)
  obtain ⟨h, g, dr, t, os⟩ := s
  refine wpAny_call (make_core (makes_of X B.makes) (looks_findIn X hi) (fun self => bind_fn X self hty) (.inl rfl) ?_)
  have k : ∀ b o, h.get? b = some o → ((h.push emptyDict).push (instObj c h.objs.size)).get? b = some o := fun b o e => Heap.get?_push_of_some _ (Heap.get?_push_of_some _ e)
  have hn : ∀ b, h.objs.size ≤ b → h.get? b = none := fun b hb => by
    cases e : h.get? b with
    | none => rfl
    | some o => exact absurd (Heap.lt_size e) (Nat.not_lt.mpr hb)
  have hD : ((h.push emptyDict).push (instObj c h.objs.size)).get? h.objs.size = some emptyDict := Heap.get?_push_of_some _ (Heap.get?_push_size _ rfl)
  have hx : ((h.push emptyDict).push (instObj c h.objs.size)).get? (h.objs.size + 1) = some (instObj c h.objs.size) := by
    have := Heap.get?_push_size (h.push emptyDict) (o := instObj c h.objs.size) rfl
    rwa [Heap.size_push] at this
  have nsD : ((h.push emptyDict).push (instObj c h.objs.size)).Ns1 h.objs.size fun _ => none :=
    Heap.Ns1.of_empty ⟨_, #[], _, hD, rfl, fun e he => absurd he (by simp), fun _ => rfl⟩
  obtain ⟨r', x'⟩ := r.add (D := h.objs.size) (m := .ns []) k (hn _ (Nat.le_refl _)) ⟨_, nsD, fun n v e => (nomatch e), fun _ _ => rfl⟩
  have hix : (α.add h.objs.size).ix[σ.length]? = some h.objs.size := by rw [r.len]; simp [AL.add]
  have hxn : h.objs.size + 1 ∉ (α.add h.objs.size).all := fun q => by
    obtain ⟨o, e⟩ := r'.liveAll q
    rcases List.mem_append.mp q with q | q
    · rcases List.mem_append.mp q with q | q
      · obtain ⟨o, e⟩ := r.liveAll (List.mem_append_left _ q)
        rw [hn _ (Nat.le_succ _)] at e; contradiction
      · exact absurd (List.mem_singleton.mp q) (Nat.succ_ne_self _)
    · obtain ⟨o, e⟩ := r.liveAll (List.mem_append_right _ q)
      rw [hn _ (Nat.le_succ _)] at e; contradiction
  have vx : VR ((h.push emptyDict).push (instObj c h.objs.size)) (α.add h.objs.size) (.inst c σ.length) (.ref (h.objs.size + 1)) := .inst hx hxn hix
  obtain ⟨g1, g2⟩ := tc_under (c := c) (us := us) hA
  unfold newv at hc ⊢
  have hcc : callH P N hd (d + 1) f (.inst c σ.length :: vs) (σ ++ [.ns []]) ≠ .stuck := fun q => hc (by
    show (callH P N hd (d + 1) f (.inst c σ.length :: vs) (σ ++ [.ns []])).bind _ = _
    rw [q]; rfl)
  refine call_code p (s := ⟨(h.push emptyDict).push (instObj c h.objs.size), g, dr, t, os⟩) g1 g2 hh ⟨hF.ex⟩ callH_ctx hf F (vs := .inst c σ.length :: vs) r' (.cons vx (v.ext x')) hcc (.inl tk) (fun w s' hp => ?_) fun e s' hp => ?_
  · obtain ⟨bb, σ', α', e, x2, r2, v2, m2⟩ := hp
    change (callH P N hd (d + 1) f (.inst c σ.length :: vs) (σ ++ [.ns []])).bind _ ≠ _ at hc
    rw [e] at hc
    cases bb with
    | none =>
      cases v2
      refine ⟨rfl, ?_⟩
      show Post (K.wf fr) VR ((callH P N hd (d + 1) f (.inst c σ.length :: vs) (σ ++ [.ns []])).bind _) _ _ _ _
      rw [e]
      exact ⟨_, σ', α', rfl, x'.trans x2, r2, vx.ext x2, ⟨m2.gens, m2.os⟩⟩
    | _ => exact absurd rfl hc
  · have hp2 : PostX (K.wf fr) (A.under (.builtin "type.__call__" ⟨.ref c :: us, []⟩)) (callH P N hd (d + 1) f (.inst c σ.length :: vs) (σ ++ [.ns []])) ⟨h, g, dr, t, os⟩ α e s' := hp.lift (s₁ := ⟨(h.push emptyDict).push (instObj c h.objs.size), g, dr, t, os⟩) x' ⟨rfl, rfl⟩
    obtain ⟨i, σ', e1, fx⟩ := hp2
    show PostX (K.wf fr) A ((callH P N hd (d + 1) f (.inst c σ.length :: vs) (σ ++ [.ns []])).bind _) _ _ _ _
    rw [e1]
    exact ⟨i, σ', rfl, fx⟩
theorem callH_ctx {P : Prg} (p : PrgOk K T P) {N : Nat} : ∀ (d : Nat) (hd : Bool) (A : Around) (fr : List Addr), AOkD d A → (hd = false → A.handled = none) → FrA (K.wf fr) A → Ctx (K.wf fr) A T (cfg P N hd d)
  | 0, hd, A, fr, hA, hh, hF => ⟨⟨p.hK.g, p.hK.b, p.hK.nolimit, p.hK.mods⟩, hA.ok, hh, p.rp, hF, let ⟨Fg, X, H⟩ := p.exc; ⟨Fg, X, fun q hq => ⟨(H q hq).1.wf, (H q hq).2⟩⟩, fun x v h => let ⟨u, h1, h2⟩ := p.cst x v h; ⟨u, h1, fun h σ α r => h2 fr h σ α r⟩, fun f x hx => by
      obtain ⟨fn, a, o, fd, body, ps, n1, n2, hf, hmg, F⟩ := p.fns f x hx
      refine ⟨a, o, fd, hmg, F.ho, F.hd, fun vs us s σ α r v hc => absurd rfl hc⟩, p.bin
      , fun b c hb => let ⟨Fg, B, _⟩ := p.brd b c hb; ⟨Fg, B.wf, fun j hj vs us s σ α r v hc => absurd rfl hc⟩
      ⟩
  | d + 1, hd, A, fr, hA, hh, hF => ⟨⟨p.hK.g, p.hK.b, p.hK.nolimit, p.hK.mods⟩, hA.ok, hh, p.rp, hF, let ⟨Fg, X, H⟩ := p.exc; ⟨Fg, X, fun q hq => ⟨(H q hq).1.wf, (H q hq).2⟩⟩, fun x v h => let ⟨u, h1, h2⟩ := p.cst x v h; ⟨u, h1, fun h σ α r => h2 fr h σ α r⟩, fun f x hx => by
      obtain ⟨fn, a, o, fd, body, ps, n1, n2, hf, hmg, F⟩ := p.fns f x hx
      refine ⟨a, o, fd, hmg, F.ho, F.hd, fun vs us s σ α r v => ?_⟩
      exact fun hc tk => call_step p hA hh hF (fun hd A fr => callH_ctx p d hd A fr) hf F r v hc (.inl tk), p.bin
      , fun b c hb => by
        obtain ⟨Fg, B, H⟩ := p.brd b c hb
        refine ⟨Fg, B.wf, fun j hj vs us s σ α r v => ?_⟩
        obtain ⟨fn, a, o, fd, body, ps, n1, n2, hf, q1, q2, F⟩ := H j _ hj
        exact new_step p hA hh hF (fun hd A fr => callH_ctx p d hd A fr) hf F B q1 q2 r v
      ⟩
end
end Mine

namespace Mine
open PySem PySem.W PyProof.Rows

theorem lookup_zip : ∀ {ps : List Str} {vals : List Value} {i : Nat} {p : Str} {v : Value}, ps.Nodup → ps[i]? = some p → vals[i]? = some v → (ps.zip vals).lookup p = some v
  | [], _, _, _, _, _, h, _ => by simp at h
  | _ :: _, [], _, _, _, _, _, h => by simp at h
  | q :: ps, w :: vals, i, p, v, hn, h1, h2 => by
    rw [List.nodup_cons] at hn
    rw [List.zip_cons_cons, List.lookup_cons]
    cases i with
    | zero => simp at h1 h2; subst h1 h2; simp
    | succ i =>
      have h1' : ps[i]? = some p := by simpa using h1
      have : (p == q) = false := by
        cases hb : p == q with
        | false => rfl
        | true => have : p = q := by simpa using hb
                  subst this; exact absurd (List.mem_of_getElem? h1') hn.1
      rw [this]
      exact lookup_zip hn.2 h1' (by simpa using h2)

theorem filterMap_zip {ps : List Str} {vals : List Value} (hn : ps.Nodup) (hl : vals.length = ps.length) : (ps.filterMap fun n => ((ps.zip vals).lookup n).map (n, ·)) = ps.zip vals := by
  have key : ∀ (qs : List Str) (ws : List Value), qs.length = ws.length → (∀ (i : Nat) q w, qs[i]? = some q → ws[i]? = some w → (ps.zip vals).lookup q = some w) → (qs.filterMap fun n => ((ps.zip vals).lookup n).map (n, ·)) = qs.zip ws := by
    intro qs
    induction qs with
    | nil => intro ws _ _; simp
    | cons q qs ih =>
      intro ws hl h
      cases ws with
      | nil => contradiction
      | cons w ws =>
        have h0 := h 0 q w (by simp) (by simp)
        simp only [List.filterMap_cons, h0, Option.map_some, List.zip_cons_cons]
        rw [ih ws (by simpa using hl) fun i q w h1 h2 => h (i + 1) q w (by simpa using h1) (by simpa using h2)]
  exact key ps vals hl.symm fun i q w h1 h2 => lookup_zip hn h1 h2

theorem bind_gen {fd : FuncData} {ps : List Str} (hp : fd.params.posonlyargs = []) (ha : fd.params.args.map (·.arg) = ps) (hk : fd.params.kwonlyargs = []) (hv : fd.params.vararg = none) (hw : fd.params.kwarg = none) (hdf : fd.defaults = .none)
    (hn : ps.Nodup) {vals : List Value} (hl : vals.length = ps.length) : bindArgs fd ⟨vals, []⟩ = pure (ps.zip vals) := by
  obtain ⟨nm, q, ⟨po, ar, va, ko, kd, kw, df⟩, body, sc, g, cl, dfs, kwd, doc, pm, an, code, ct, bl⟩ := fd
  dsimp only at hp ha hk hv hw hdf
  subst hp hk hv hw hdf
  refine (if_neg ?_).trans ((if_neg ?_).trans ?_)
  · show ¬ (decide (vals.length > (ar.map (·.arg)).length) && true) = true
    rw [ha, hl, decide_eq_false (Nat.lt_irrefl _)]; exact nofun
  · show ¬ (!(((ar.map (·.arg)).take ((ar.map (·.arg)).length - (List.drop (0 - (ar.map (·.arg)).length) ([] : List Value)).length)).filter fun n => (((ar.map (·.arg)).zip vals).lookup n).isNone).isEmpty) = true
    rw [ha, List.drop_nil, List.length_nil, Nat.sub_zero, List.take_length, List.filter_eq_nil_iff.mpr]
    · exact nofun
    intro a ha'
    obtain ⟨i, hi, rfl⟩ := List.mem_iff_getElem.mp ha'
    rw [lookup_zip hn (i := i) (v := vals[i]) (List.getElem?_eq_getElem hi) (List.getElem?_eq_getElem _)]
    exact nofun
  · have hz : ∀ (l : List Str), l.zip ([] : List Value) = [] := fun l => List.zip_nil_right
    dsimp only
    rw [show (none.getD #[] : Array Value).toList = [] from rfl, List.drop_nil, hz]
    show (pure : _ → Sem _) ((List.map (fun x : Arg => x.arg) ar ++ []).filterMap fun n => (((List.map (fun x : Arg => x.arg) ar).zip vals).lookup n).map (n, ·)) = _
    rw [ha, List.append_nil, filterMap_zip hn hl]

/-! reading the functions out of the heap that the top leaves -/
noncomputable def fnOf (K : Frag) (q : Option (Option Value)) : Option (Addr × Obj × FuncData) :=
  match q with
  | some (some (.ref a)) => match K.lookup a with
    | some ⟨c, d, .func fd, sl⟩ => some (a, ⟨c, d, .func fd, sl⟩, fd)
    | _ => none
  | _ => none
noncomputable def parOk : List Str → List (Str × NameKind) → Bool
  | [], _ => true
  | p :: ps, (n, k) :: r => p == n && (k == .local || k == .cell) && parOk ps r
  | _, _ => false
noncomputable def isNone : Value → Bool
  | .none => true
  | _ => false
noncomputable def fdOk (K : Frag) (fd : FuncData) : Bool :=
  codeIn K fd.code fd.qualname && fd.globals == mainGlobals && fd.builtins == builtinsNs && fd.closure.isEmpty && fd.scope.kind == .function && !fd.scope.isCoroutine && !fd.scope.isGenerator && scOkB fd.scope.names &&
    fd.params.posonlyargs.isEmpty && fd.params.kwonlyargs.isEmpty && fd.params.vararg.isNone && fd.params.kwarg.isNone && isNone fd.defaults && parOk (fd.params.args.map (·.arg)) fd.scope.names
noncomputable def mkFn (T : Tab) (n1 n2 : Nat) (K : Frag) (q : Option (Option Value)) : Option Fn :=
  match fnOf K q with
  | some (_, _, fd) => match fd.body with
    | .stmts body => if fdOk K fd then (trSs (trS T fd.scope.names (trE T n1) n2) body).map fun b => ⟨fd.params.args.length, fd.scope.names.length, b⟩ else none
    | _ => none
  | none => none

theorem fnOf_is {K : Frag} {q : Option (Option Value)} {a : Addr} {o : Obj} {fd : FuncData} (h : fnOf K q = some (a, o, fd)) : q = some (some (.ref a)) ∧ K.lookup a = some o ∧ o.data = .func fd := by
  unfold fnOf at h
  split at h
  · split at h
    · rename_i c d fd' sl h2
      cases h
      exact ⟨rfl, h2, rfl⟩
    · contradiction
  · contradiction
theorem parOk_is : ∀ {ps : List Str} {names : List (Str × NameKind)}, parOk ps names = true → ∀ (i : Nat) (p : Str), ps[i]? = some p → ∃ k, names[i]? = some (p, k) ∧ (k = NameKind.local ∨ k = .cell)
  | [], _, _, i, p, h => by simp at h
  | q :: ps, [], h, i, p, h2 => by contradiction
  | q :: ps, (n, k) :: r, h, i, p, h2 => by
    simp only [parOk, Bool.and_eq_true, Bool.or_eq_true, beq_iff_eq] at h
    cases i with
    | zero => simp at h2; subst h2; exact ⟨k, by simp [h.1.1], h.1.2⟩
    | succ i =>
      obtain ⟨k', q1, q2⟩ := parOk_is h.2 i p (by simpa using h2)
      exact ⟨k', by simpa using q1, q2⟩

theorem mkFn_facts {K : Kt} {K' : Frag} {T : Tab} {n1 n2 : Nat} {q : Option (Option Value)} {fn : Fn} (X : K'.In K.hb.h) (h : mkFn T n1 n2 K' q = some fn) : ∃ a o fd body ps, q = some (some (.ref a)) ∧ FnFacts K T fn a o fd body ps n1 n2 := by
  unfold mkFn at h
  split at h
  · rename_i a o fd hq
    obtain ⟨h1, h2, h3⟩ := fnOf_is hq
    split at h
    · rename_i body hb
      split at h
      · rename_i hok
        cases ht : trSs (trS T fd.scope.names (trE T n1) n2) body with
        | none => rw [ht] at h; contradiction
        | some b =>
          rw [ht] at h; obtain rfl := Option.some.inj h
          simp only [fdOk, Bool.and_eq_true, beq_iff_eq, Bool.not_eq_true', List.isEmpty_iff, Option.isNone_iff_eq_none] at hok
          obtain ⟨⟨⟨⟨⟨⟨⟨⟨⟨⟨⟨⟨⟨q1, q2⟩, q3⟩, q4⟩, q5⟩, q6⟩, q7⟩, q8⟩, q9⟩, q10⟩, q11⟩, q12⟩, q13⟩, q14⟩ := hok
          have hdf : fd.defaults = .none := by
            cases hd : fd.defaults <;> rw [hd] at q13 <;> first | rfl | contradiction
          have F : FnFacts K T ⟨fd.params.args.length, fd.scope.names.length, b⟩ a o fd body (fd.params.args.map (·.arg)) n1 n2 := by
            refine ⟨X _ _ h2, h3, codeRec_of X q1, hb, q2, q3, q4, q5, q6, q7, q8, ht, by simp, rfl, parOk_is q14, fun vals hl => ?_⟩
            refine bind_gen q9 rfl q10 q11 q12 hdf ?_ hl
            have sc := scOk_of q8
            rw [List.Nodup, List.pairwise_iff_getElem]
            intro i j hi hj hij e
            obtain ⟨k, h1, _⟩ := parOk_is q14 i (fd.params.args.map (·.arg))[i] (List.getElem?_eq_getElem hi)
            obtain ⟨k', h2, _⟩ := parOk_is q14 j (fd.params.args.map (·.arg))[j] (List.getElem?_eq_getElem hj)
            rw [e] at h1
            have := sc.uniq i j _ _ _ h1 h2
            omega
          exact ⟨_, _, _, _, _, h1, F⟩
      · contradiction
    · contradiction
  · contradiction

noncomputable def mkFns (T : Tab) (n1 n2 : Nat) (K : Frag) : List (Option (Option Value)) → Option (List Fn)
  | [] => some []
  | x :: r => match mkFn T n1 n2 K x, mkFns T n1 n2 K r with
    | some f, some fs => some (f :: fs)
    | _, _ => none
theorem mkFns_at {T : Tab} {n1 n2 : Nat} {K : Frag} : ∀ {xs : List (Option (Option Value))} {fs : List Fn}, mkFns T n1 n2 K xs = some fs → ∀ (i : Nat) (x : Option (Option Value)), xs[i]? = some x → ∃ fn, fs[i]? = some fn ∧ mkFn T n1 n2 K x = some fn
  | [], _, _, i, x, h => by simp at h
  | y :: r, fs, h, i, x, h2 => by
    simp only [mkFns] at h
    split at h
    · rename_i f fs' h3 h4
      obtain rfl := Option.some.inj h
      cases i with
      | zero => simp at h2; subst h2; exact ⟨f, by simp, h3⟩
      | succ i =>
        obtain ⟨fn, q1, q2⟩ := mkFns_at h4 i x (by simpa using h2)
        exact ⟨fn, by simpa using q1, q2⟩
    · contradiction

noncomputable def strsOk : List Value → List PV → Bool
  | [], [] => true
  | .str s _ :: vs, .str s' :: xs => s == s' && PyData.strOk s' && strsOk vs xs
  | _, _ => false
noncomputable def tupOk (o : Obj) (xs : List PV) : Bool :=
  match o with
  | ⟨.type c, none, .seq items _, sl⟩ => c == "tuple" && sl.isEmpty && strsOk items.toList xs
  | _ => false
theorem strsOk_is {h : Heap} {α : AL} : ∀ {vs : List Value} {xs : List PV}, strsOk vs xs = true → VRs h α xs vs
  | [], [], _ => .nil
  | v :: vs, x :: xs, e => by
    unfold strsOk at e
    split at e
    · rename_i h1 h2; contradiction
    · rename_i s t vs' s' xs' h1 h2
      cases h1; cases h2
      simp only [Bool.and_eq_true, beq_iff_eq] at e
      obtain ⟨⟨rfl, e1⟩, e2⟩ := e
      exact .cons (.str _ _ e1) (strsOk_is e2)
    · contradiction
  | [], _ :: _, e => by contradiction
  | v :: _, [], e => by cases v <;> contradiction
theorem tupOk_is {hb : Bs} {h : Heap} {σ : Sto} {α : AL} {a : Addr} {o : Obj} {xs : List PV} (e : tupOk o xs = true) (ho : hb.get? a = some o) (r : R hb h σ α) : VR h α (.tup xs) (.ref a) := by
  unfold tupOk at e
  split at e
  · rename_i c items n sl
    simp only [Bool.and_eq_true, beq_iff_eq, Array.isEmpty_iff] at e
    obtain ⟨⟨rfl, rfl⟩, e2⟩ := e
    refine VR.tupI (items := items.toList) (n := n) (by simpa using r.base _ _ ho) (fun q => ?_) (strsOk_is e2)
    rcases List.mem_append.mp q with q | q
    · rw [r.fresh a q] at ho; contradiction
    · rw [r.hfr a q] at ho; contradiction
  · contradiction
noncomputable def cstOk (K : Frag) : List (Str × PV) → Bool
  | [] => true
  | (x, .int i) :: r => (match nsIn K mainGlobals x with | some (some (.int j _)) => i == j | _ => false) && cstOk K r
  | (x, .str s) :: r => (match nsIn K mainGlobals x with | some (some (.str s' _)) => s == s' && PyData.strOk s | _ => false) && cstOk K r
  | (x, .tup xs) :: r => (match nsIn K mainGlobals x with | some (some (.ref a)) => (match K.lookup a with | some o => tupOk o xs | none => false) | _ => false) && cstOk K r
  | _ => false
theorem cstOk_is {K : Frag} {hb : Bs} (X : K.In hb.h) : ∀ {l : List (Str × PV)}, cstOk K l = true → ∀ x v, l.lookup x = some v → ∃ u, nsIn K mainGlobals x = some (some u) ∧ ∀ fr h σ α, R ⟨hb.h, fr, hb.prog, hb.w⟩ h σ α → VR h α v u
  | [], _, x, v, h => by simp at h
  | (y, .int i) :: r, hk, x, v, h => by
    simp only [cstOk, Bool.and_eq_true] at hk
    rw [List.lookup_cons] at h
    cases hb : x == y with
    | true =>
      rw [hb] at h; obtain rfl := Option.some.inj h
      have : x = y := by simpa using hb
      subst this
      have h1 := hk.1
      split at h1
      · rename_i j t hj
        have : i = j := by simpa using h1
        subst this
        exact ⟨_, hj, fun _ _ _ _ _ => .int _ _⟩
      · contradiction
    | false => rw [hb] at h; exact cstOk_is X hk.2 x v h
  | (y, .str s) :: r, hk, x, v, h => by
    simp only [cstOk, Bool.and_eq_true] at hk
    rw [List.lookup_cons] at h
    cases hb : x == y with
    | true =>
      rw [hb] at h; obtain rfl := Option.some.inj h
      have : x = y := by simpa using hb
      subst this
      have h1 := hk.1
      split at h1
      · rename_i j t hj
        simp only [Bool.and_eq_true, beq_iff_eq] at h1
        obtain ⟨rfl, h2⟩ := h1
        exact ⟨_, hj, fun _ _ _ _ _ => .str _ _ h2⟩
      · contradiction
    | false => rw [hb] at h; exact cstOk_is X hk.2 x v h
  | (y, .none) :: r, hk, x, v, h => by contradiction
  | (y, .bool _) :: r, hk, x, v, h => by contradiction
  | (y, .tup xs) :: r, hk, x, v, h => by
    simp only [cstOk, Bool.and_eq_true] at hk
    rw [List.lookup_cons] at h
    cases hb : x == y with
    | true =>
      rw [hb] at h; obtain rfl := Option.some.inj h
      have : x = y := by simpa using hb
      subst this
      have h1 := hk.1
      split at h1
      · rename_i a hj
        split at h1
        · rename_i o ho
          exact ⟨_, hj, fun fr _ _ _ r => tupOk_is (hb := ⟨_, fr, _, _⟩) h1 (X _ _ ho) r⟩
        · contradiction
      · contradiction
    | false => rw [hb] at h; exact cstOk_is X hk.2 x v h
  | (y, .fl _) :: r, hk, x, v, h => by contradiction
  | (y, .ref _) :: r, hk, x, v, h => by contradiction
  | (y, .exc _) :: r, hk, x, v, h => by contradiction
  | (y, .inst _ _) :: r, hk, x, v, h => by contradiction

noncomputable def noneAt (K : Frag) (x : Str) : Bool :=
  match nsIn K mainGlobals x with
  | some none => true
  | _ => false
noncomputable def binsOk (K : Frag) (l : List Str) : Bool := (K.lookup sysModules).isSome && l.all fun x => noneAt K x && (biVal x).isSome && !(x == ("__name__" : Str))

theorem boot_bi {x : Str} {v : Value} (h : biVal x = some v) : bootBuiltins x = some v :=
  (show ∀ p ∈ biTab, bootBuiltins p.1 = some p.2 from (by repeat (first | refine List.forall_mem_cons.mpr ⟨(by dsimp only; boot_by_name), ?_⟩ | exact fun _ h => nomatch h))) _ (look_mem h)

/-! exception classes -/
noncomputable def chainOf (T : Tab) (up : List Nat) : List Str := up.map fun d => ((T.excs.find? fun q => q.2.1 == d).map (·.1)).getD ""
noncomputable def excAt (h : Heap) (F : Frag) (T : Tab) (p : Str × Nat × List Nat) : Bool :=
  h.ownExcOk p.1 (chainOf T p.2.2) [.type "ValueError", .type "Exception", .type "BaseException", .type "object"] "ValueError.__new__" && nsIn F mainGlobals p.1 == some (some (.ref p.2.1)) && h.nsMap mainGlobals p.1 == some (.ref p.2.1) &&
    (chainOf T p.2.2).map (fun n => (h.nsMap mainGlobals n).getD .none) == p.2.2.map Value.ref && (chainOf T p.2.2).all fun n => T.excs.any fun q => q.1 == n
noncomputable def loc0 (F : Frag) : Bool :=
  match fnOf F (nsIn F mainGlobals "law") with
  | some (_, _, fd) => match fd.scope.names with
    | (_, .local) :: _ => true
    | _ => false
  | none => false
noncomputable def excsOk (h : Heap) (F : Frag) (T : Tab) : Bool := (!T.repl || loc0 F) && T.excs.all fun p => excAt h F T p && excFr F T p.2.1
theorem loc0_is {K : Kt} {F : Frag} (X : F.In K.hb.h) (hg : K.hb.h.Ns mainGlobals K.mg) (h : loc0 F = true) : LawLocal K := by
  unfold loc0 at h
  split at h
  · rename_i a o fd hq
    obtain ⟨h1, h2, h3⟩ := fnOf_is hq
    split at h
    · rename_i n r hn
      exact ⟨a, o, fd, n, r, mg_of X hg h1, X _ _ h2, h3, hn⟩
    · contradiction
  · contradiction
theorem excs_is {K : Kt} {F : Frag} {T : Tab} {h₀ : Heap} (k : ∀ b o, h₀.get? b = some o → K.hb.h.get? b = some o) (X : F.In K.hb.h) (hg : K.hb.h.Ns mainGlobals K.mg) (e : excsOk h₀ F T = true) :
    ∃ F : Frag, F.In K.hb.h ∧ ∀ p ∈ T.excs, ExcCls K p.1 p.2.1 p.2.2 ∧ excFr F T p.2.1 = true := by
  unfold excsOk at e
  have H := List.all_eq_true.mp (Bool.and_eq_true_iff.mp e).2
  refine ⟨F, X, fun p hp => ?_⟩
  have h1 := H p hp
  simp only [Bool.and_eq_true] at h1
  obtain ⟨h1, h2⟩ := h1
  unfold excAt at h1
  simp only [Bool.and_eq_true, beq_iff_eq] at h1
  obtain ⟨⟨⟨⟨q1, q2⟩, q3⟩, q4⟩, q5⟩ := h1
  obtain ⟨C, N, nm, q, bs, hdct, sn, sub, ab, col, dd, k0, k1, k2, k3, k5, z1, z2, z3, z4⟩ := Heap.ownExc_of_ok q1
  rw [q3] at z1; cases z1
  rw [q4] at z2
  refine ⟨⟨mg_of X hg q2, ⟨nm, q, N, bs, hdct, sn, sub, ab, col, dd, k0, k1, k2, k3, k5, k _ _ z2, _, z3.keeps k, z4⟩, ?_⟩, h2⟩
  have := OwnTail.of_chain (h := h₀) (bmB := [.type "ValueError", .type "Exception", .type "BaseException", .type "object"]) (chainOf T p.2.2) fun n hn => by
    have hq := List.all_eq_true.mp q5 n hn
    obtain ⟨r, hr, hrn⟩ := List.any_eq_true.mp hq
    have hrn : r.1 = n := by simpa using hrn
    have h3 := H r hr
    simp only [Bool.and_eq_true] at h3
    have h3 := h3.1
    unfold excAt at h3
    simp only [Bool.and_eq_true] at h3
    rw [hrn] at h3
    exact ⟨_, _, _, h3.1.1.1.1⟩
  rw [q4] at this
  exact this.keeps k

/-- the text's class, read -/
noncomputable def brdOk (K : Frag) (T : Tab) : Bool :=
  match T.brd with
  | none => true
  | some (b, c) => nsIn K mainGlobals b == some (some (.ref c)) && keepIn K (.ref c) && makesIn K c && plainOver K c && (clsIn K c).any (·.hasDict) && findIn K (.ref c) "__setattr__" == some (some (.builtin "object.__setattr__")) &&
      attrNames.all (fun n => takerIn K c n == some none) && T.meths.all fun n => (findIn K (.ref c) n).join.bind (typeIn K) == some (.type "function")
noncomputable def fnVals (T : Tab) (K : Frag) : List (Option (Option Value)) := T.fns.map (nsIn K mainGlobals ·) ++ T.meths.map (fun n => T.brd.bind fun q => findIn K (.ref q.2) n)
noncomputable def topOk (h : Heap) (F : Frag) (T : Tab) : Bool := excsOk h F T && brdOk F T
theorem topOk_exc {h : Heap} {F : Frag} {T : Tab} (e : topOk h F T = true) : excsOk h F T = true := (Bool.and_eq_true_iff.mp e).1
theorem vals_fn {T : Tab} {F : Frag} {f : Nat} {x : Str} (h : T.fns[f]? = some x) : (fnVals T F)[f]? = some (nsIn F mainGlobals x) := by
  unfold fnVals
  rw [List.getElem?_append_left (by rw [List.length_map]; exact (List.getElem?_eq_some_iff.mp h).1), List.getElem?_map, h]; rfl
theorem vals_me {T : Tab} {F : Frag} {j : Nat} {n : Str} (h : T.meths[j]? = some n) : (fnVals T F)[T.fns.length + j]? = some (T.brd.bind fun q => findIn F (.ref q.2) n) := by
  unfold fnVals
  rw [List.getElem?_append_right (by rw [List.length_map]; exact Nat.le_add_right _ _), List.length_map, Nat.add_sub_cancel_left, List.getElem?_map, h]; rfl
theorem brd_is {K : Kt} {F : Frag} {T : Tab} {b : Str} {c : Nat} (X : F.In K.hb.h) (hg : K.hb.h.Ns mainGlobals K.mg) (e : brdOk F T = true) (hb : T.brd = some (b, c)) : BrdCls K F b c ∧ ∀ n ∈ T.meths, (findIn F (.ref c) n).join.bind (typeIn F) = some (.type "function") := by
  unfold brdOk at e
  rw [hb] at e
  simp only [Bool.and_eq_true, beq_iff_eq] at e
  obtain ⟨⟨⟨⟨⟨⟨⟨e1, e2⟩, e3⟩, e4⟩, e5⟩, e6⟩, e7⟩, e8⟩ := e
  exact ⟨⟨mg_of X hg e1, X, e2, e3, e4, e5, e6, fun n hn => eq_of_beq (List.all_eq_true.mp e7 n hn)⟩, fun n hn => eq_of_beq (List.all_eq_true.mp e8 n hn)⟩
theorem prgOk {K : Kt} {K' : Frag} {T : Tab} {n1 n2 : Nat} {P : Prg} {p : Program} {loose : List Str} (Tp : TopRead p loose K.mg K.mb K.hb.h) (X : K'.In K.hb.h) {h₀ : Heap} (k₀ : ∀ b o, h₀.get? b = some o → K.hb.h.get? b = some o) (hz : topOk h₀ K' T = true) (h1 : cstOk K' T.cst = true) (h2 : binsOk K' T.bins = true) (h3 : mkFns T n1 n2 K' (fnVals T K') = some P.fns) (hrp : T.repl = true → K.pos = true) : PrgOk K T P := by
  unfold binsOk at h2
  obtain ⟨h2m, h2⟩ := Bool.and_eq_true_iff.mp h2
  obtain ⟨om, hom⟩ := Option.isSome_iff_exists.mp h2m
  have h0 := topOk_exc hz
  have hK : K.Ok := ⟨Tp.g, Tp.b, Tp.nolimit, om, X _ _ hom⟩
  have hl0 : T.repl = true → LawLocal K := fun q => by
    unfold excsOk at h0
    have := (Bool.and_eq_true_iff.mp h0).1
    rw [q] at this
    exact loc0_is X Tp.g this
  refine ⟨hK, hrp, hl0, fun x v hx => ?_, fun x hx => ?_, excs_is k₀ X Tp.g h0, fun f x hx => ?_
    , fun b c hb => ?_
    ⟩
  · obtain ⟨u, q1, q2⟩ := cstOk_is X h1 x v hx
    exact ⟨u, mg_of X Tp.g q1, q2⟩
  · have := List.all_eq_true.mp h2 x hx
    simp only [Bool.and_eq_true, Bool.not_eq_true', beq_eq_false_iff_ne] at this
    obtain ⟨⟨q1, q2⟩, q3⟩ := this
    obtain ⟨v, hv⟩ := Option.isSome_iff_exists.mp q2
    refine ⟨?_, v, hv, (Tp.builtins x q3).trans (boot_bi hv)⟩
    unfold noneAt at q1
    split at q1
    · rename_i hq; exact mg_none_of X Tp.g hq
    · contradiction
  · obtain ⟨fn, q1, q2⟩ := mkFns_at h3 f _ (vals_fn hx)
    obtain ⟨a, o, fd, body, ps, hq, F⟩ := mkFn_facts X q2
    exact ⟨fn, a, o, fd, body, ps, n1, n2, q1, mg_of X Tp.g hq, F⟩
  · obtain ⟨B, hty⟩ := brd_is X Tp.g (Bool.and_eq_true_iff.mp hz).2 hb
    refine ⟨K', B, fun j n hj => ?_⟩
    obtain ⟨fn, q1, q2⟩ := mkFns_at h3 _ _ (vals_me hj)
    obtain ⟨a, o, fd, body, ps, hq, F⟩ := mkFn_facts X q2
    have hq : findIn K' (.ref c) n = some (some (.ref a)) := by rw [hb] at hq; exact hq
    have := hty n (List.mem_of_getElem? hj)
    rw [hq] at this
    exact ⟨fn, a, o, fd, body, ps, n1, n2, q1, hq, this, F⟩
end Mine

namespace Mine
open PySem PySem.W PyProof.Rows

theorem well_ints {P : Params} {h : Heap} : ∀ {l : List Int} {vs : List Value}, WellAll P h vs (ofPys (l.map .int)) → VRs h ⟨[], [], []⟩ (l.map .int) vs
  | [], vs, W => by
    simp only [List.map_nil, ofPys] at W
    cases W
    exact .nil
  | i :: l, vs, W => by
    simp only [List.map_cons, ofPys, ofPy] at W
    cases W with
    | cons a b =>
      cases a
      exact .cons (.int i _) (well_ints b)
theorem script_vr {P : Params} {h : Heap} {a : Addr} {l : List Int} (W : Well P h (.ref a) (ofPy (.list (l.map .int)))) : VR h ⟨[], [], []⟩ (.fl (l.map .int)) (.ref a) := by
  simp only [ofPy] at W
  cases W with
  | list e w => exact VR.flI e (by simp [AL.all]) (well_ints w)

theorem callerOk {d : Nat} (h : d ≤ 100) : AOkD d callerA := by
  have h1 : callerA.depth + 2 * 100 + 200 < recursionLimit := by decide
  have h2 : callerA.units + 20 * 100 + 200 < cLine := by decide
  exact ⟨by omega, by omega⟩

theorem law_end {prog : Program} {w : World} {s₁ : Shared} {mg mb : Str → Option Value} {T : Tab} {P : Prg} {f N d : Nat} {name : Str} {fa a : Addr} {l : List Int} {σ : Sto} {pos : Bool} (p : PrgOk ⟨⟨s₁.heap, [], prog, w⟩, mg, mb, pos⟩ T P) (hx : T.fns[f]? = some name)
    (hmg : mg name = some (.ref fa)) (hd : d ≤ 100) (tk : pos = false) (W : Well w.params s₁.heap (.ref a) (ofPy (.list (l.map .int)))) (hrun : callN P N d f [.fl (l.map .int)] [] = .ok (.bool true) σ)
    {Q : Value → Shared → Prop} {E : Value → Shared → Prop} (hQ : ∀ s', (∀ b o, s₁.heap.get? b = some o → s'.heap.get? b = some o) → s'.os = s₁.os → s'.gens = s₁.gens → Q (.bool true) s') :
    wpAny (model prog w) callerA (call (.ref fa) [.ref a]) Q E s₁ := by
  have ctx := callH_ctx p (N := N) d false callerA [] (callerOk hd) (fun _ => rfl) ⟨[], rfl, rfl, fun e he => by simp at he⟩
  obtain ⟨a', o, fd, h1, h2, h3, H⟩ := ctx.fn f name hx
  have e : a' = fa := by
    have h1' : mg name = some (.ref a') := h1
    rw [hmg] at h1'; cases h1'; rfl
  subst e
  have r₀ : R ⟨s₁.heap, [], prog, w⟩ s₁.heap [] ⟨[], [], []⟩ := ⟨fun _ _ e => e, fun _ h => by simp at h, List.nodup_nil, rfl, fun _ h => by simp at h, fun i m a e => by simp at e, fun _ h => by simp at h, rfl, fun _ h => by simp at h, fun _ h => by simp at h⟩
  have H := H [.fl (l.map .int)] [.ref a] s₁ [] ⟨[], [], []⟩ r₀ (.cons (script_vr W) .nil)
  have hrun' : (cfg P N false d).call f [.fl (l.map .int)] [] = .ok (.bool true) σ := hrun
  rw [hrun'] at H
  refine wpAny_mono (H (by simp) fun q => by rw [tk] at q; contradiction) (fun v s' hp => ?_) fun e s' hx => ?_
  · obtain ⟨b, σ', α', e, x, r, vr, m⟩ := hp
    cases e
    cases vr
    exact hQ s' (fun b o e => r.base b o e) m.os m.gens
  · obtain ⟨i, σ', e, fx⟩ := hx
    contradiction

end Mine

namespace Mine
open PySem PySem.W PyProof.Rows

/-! the heap that the top leaves, read at once -/
noncomputable def fragAll (h : Heap) : Frag := (List.range h.objs.size).filterMap fun a => (h.get? a).map fun o => (a, o)
theorem lookup_of {f : Nat → Option Obj} {a : Addr} {o : Obj} : ∀ {l : List Nat}, (l.filterMap fun a => (f a).map fun o => (a, o)).lookup a = some o → f a = some o
  | [], h => by simp at h
  | b :: l, h => by
    rw [List.filterMap_cons] at h
    cases hb : f b with
    | none => rw [hb] at h; exact lookup_of h
    | some p =>
      rw [hb] at h
      simp only [Option.map_some, List.lookup_cons] at h
      cases hq : (a == b) with
      | true =>
        rw [hq] at h
        have : a = b := by simpa using hq
        subst this
        rw [hb]; exact h
      | false => rw [hq] at h; exact lookup_of h
theorem fragAll_in (h : Heap) : (fragAll h).In h := fun a o e => lookup_of (f := h.get?) e

structure Says (T : Tab) (n1 n2 : Nat) (fns : List Fn) (h : Heap) : Prop where
  ex : ∃ (K : Frag) (h₀ : Heap), K.In h ∧ (∀ b o, h₀.get? b = some o → h.get? b = some o) ∧ topOk h₀ K T = true ∧ cstOk K T.cst = true ∧ binsOk K T.bins = true ∧ mkFns T n1 n2 K (fnVals T K) = some fns
noncomputable def topHook (T : Tab) (n1 n2 : Nat) (fns : List Fn) : Hook where
  α := Bool × Bool × Bool × Option (List Fn)
  obs := fun s => (topOk s.heap (fragAll s.heap) T, cstOk (fragAll s.heap) T.cst, binsOk (fragAll s.heap) T.bins, mkFns T n1 n2 (fragAll s.heap) (fnVals T (fragAll s.heap)))
  val := fun _ => (true, true, true, some fns)
  says := fun _ h => Says T n1 n2 fns h
  of := fun _ s e => ⟨⟨fragAll s.heap, s.heap, fragAll_in _, fun _ _ e => e, congrArg (·.1) e, congrArg (·.2.1) e, congrArg (·.2.2.1) e, congrArg (·.2.2.2) e⟩⟩
  keeps := fun _ h h' q k => by
    obtain ⟨K, h₀, a, a', b⟩ := q.ex
    exact ⟨⟨K, h₀, fun x o e => k x o (a x o e), fun x o e => k x o (a' x o e), b⟩⟩
/-- the text without the lines that set `__name__` -/
noncomputable def viewOf (p : Program) : Program := { p with main := { p.main with body := p.main.body.filter fun s => match s with | .Assign [.Name n _] _ _ => !(n == "__name__") | _ => true } }
end Mine

namespace Mine
open PySem PySem.W PySem.Calls PyProof.Rows

/-! the top, run over a tree of objects, by the library's quick twins -/
theorem stepT_tw : stepT = PySem.W.Fast.tw10156331382660048174 := PySem.W.Fast.te10156331382660048174
theorem denote_tw : denote = PySem.W.Fast.tw11892475500146522536 := PySem.W.Fast.te11892475500146522536
theorem table_tw : treeTable = PySem.W.Fast.tw14364793385576792824 := PySem.W.Fast.te14364793385576792824
theorem stepOk_tw : stepOk = PySem.W.Fast.tw6613529449190102663 := PySem.W.Fast.te6613529449190102663
noncomputable def topRunT (p : Program) (w : World) (n₀ : Nat) (ann : Option Value) : Nat → SharedT → Thread → Option SharedT
  | 0, _, _ => none
  | n + 1, s, t => match through t with
    | true => some s
    | false => match PySem.W.Fast.tw6613529449190102663 n₀ ann t with
      | false => none
      | true => match PySem.W.Fast.tw10156331382660048174 (PySem.W.Fast.tw11892475500146522536 PySem.W.Fast.tw14364793385576792824) p w s t with
        | some (s', t') => topRunT p w n₀ ann n s' t'
        | none => none
theorem topRun_of {p : Program} {w : World} {n₀ : Nat} {ann : Option Value} : ∀ {n : Nat} {s s' : SharedT} {t : Thread}, topRunT p w n₀ ann n s t = some s' → topRun treeTable p w n₀ ann n s.abs t = some s'.abs
  | 0, _, _, _, h => by cases h
  | n + 1, s, s', t, h => by
    unfold topRunT at h
    unfold topRun
    rw [← stepOk_tw, ← stepT_tw, ← denote_tw, ← table_tw] at h
    cases he : through t with
    | true => rw [he] at h; cases h; rfl
    | false =>
      rw [he] at h
      cases hk : stepOk n₀ ann t with
      | false => rw [hk] at h; cases h
      | true =>
        rw [hk] at h
        cases hs : stepT (denote treeTable) p w s t with
        | none => rw [hs] at h; cases h
        | some r => obtain ⟨s₂, t₂⟩ := r; rw [hs] at h; rw [stepT_spec hs]; exact topRun_of h

noncomputable def treeOf : List Obj → Nat → BT → Option BT
  | [], _, t => some t
  | o :: l, n, t => match ((t.ins n o).get n).isSome with
    | true => treeOf l (n + 1) (t.ins n o)
    | false => none
theorem treeOf_abs {life : Life} : ∀ {l : List Obj} {n : Nat} {t t' : BT}, treeOf l n t = some t' → absHeap t' (n + l.length) life = l.foldl Heap.push (absHeap t n life)
  | [], n, t, t', h => by cases h; rfl
  | o :: l, n, t, t', h => by
    unfold treeOf at h
    cases hs : ((t.ins n o).get n).isSome with
    | false => rw [hs] at h; cases h
    | true =>
      rw [hs] at h
      rw [List.length_cons, show n + (l.length + 1) = n + 1 + l.length by omega, treeOf_abs h, absHeap_ins hs]; rfl
theorem foldl_push {life : Life} : ∀ (l : List Obj) (a : Array Obj), l.foldl Heap.push ⟨a, life⟩ = ⟨a ++ l.toArray, life⟩
  | [], a => by simp
  | o :: l, a => by
    show l.foldl Heap.push ⟨a.push o, life⟩ = _
    rw [foldl_push l (a.push o)]
    simp
theorem treeOf_heap {l : List Obj} {life : Life} {t : BT} (h : treeOf l 0 .nil = some t) : absHeap t l.length life = ⟨l.toArray, life⟩ := by
  have := treeOf_abs (life := life) h
  rw [Nat.zero_add] at this
  rw [this]
  show l.foldl Heap.push ⟨#[], life⟩ = _
  rw [foldl_push]; simp

noncomputable def endT (p : Program) (h₀ : Heap) (s₁ : Shared) : Option Shared :=
  match staticsOk (importedModules p.main.body) h₀ s₁.heap && namesBound p s₁.heap && gensDone s₁ && laidKept h₀ s₁.heap with
  | true => some s₁
  | false => none
noncomputable def leftT (p : Program) (w : World) (os : OsState) (N : Nat) : Option Shared :=
  (treeOf (boot_heap w.params).objs.toList 0 .nil).bind fun T =>
    match (boot_heap w.params).isNs mainGlobals with
    | true => (topRunT p w (boot_heap w.params).objs.toList.length ((boot_heap w.params).nsMap mainGlobals "__annotations__") N ⟨T, (boot_heap w.params).objs.toList.length, (boot_heap w.params).life, #[], boot_drawn, boot_toks, os⟩ (topStub p)).bind fun s => endT p (boot_heap w.params) s.abs
    | false => none
theorem leftT_top {p : Program} {w : World} {os : OsState} {N : Nat} {s₁ : Shared} (h : leftT p w os N = some s₁) : topFrom treeTable p w N ⟨boot_heap w.params, #[], boot_drawn, boot_toks, os⟩ = some s₁ := by
  unfold leftT at h
  obtain ⟨T, hT, h⟩ := Option.bind_eq_some_iff.mp h
  have hh : absHeap T (boot_heap w.params).objs.toList.length (boot_heap w.params).life = boot_heap w.params := by
    rw [treeOf_heap hT]
  cases hn : (boot_heap w.params).isNs mainGlobals with
  | false => rw [hn] at h; cases h
  | true =>
    rw [hn] at h
    obtain ⟨s, hs, h⟩ := Option.bind_eq_some_iff.mp h
    have hr := topRun_of hs
    have ha : (SharedT.abs ⟨T, (boot_heap w.params).objs.toList.length, (boot_heap w.params).life, #[], boot_drawn, boot_toks, os⟩) = ⟨boot_heap w.params, #[], boot_drawn, boot_toks, os⟩ := by
      show (⟨absHeap T _ _, #[], boot_drawn, boot_toks, os⟩ : Shared) = _
      rw [hh]
    rw [ha, Array.length_toList] at hr
    unfold topFrom
    have hb : ((boot_heap w.params).isNs mainGlobals && (#[] : Array GenState).size == 0) = true := by rw [hn]; rfl
    show (match ((boot_heap w.params).isNs mainGlobals && (#[] : Array GenState).size == 0) with | true => _ | false => _) = _
    rw [hb]
    dsimp only
    rw [hr]
    exact h

theorem seen_tw : openSeen = PySem.W.Fast.tw4187177175401517315 := PySem.W.Fast.te4187177175401517315
theorem left_of {p q : Program} {loose : List Str} {Xt : Shared → Bool} {α : Type} {Yf : Shared → α} {Ya : World → α} {N : Nat} (e : opening p = plainProg p.main.scope.names) (hN : Nat.ble 600 N = true) (f : ∀ s, fenceModules? p s = some s)
    (h : ∀ w os, (leftT p w os N).map (fun s => (PySem.W.Fast.tw4187177175401517315 q loose (importedModules p.main.body) Xt true s, Yf s)) = some (openGood q loose, Ya w)) : LeftO p q loose Xt Yf Ya N := fun w => by
  rw [← seen_tw] at h
  obtain ⟨s, hs, hv⟩ := Option.map_eq_some_iff.mp (boot_open e hN f w)
  obtain ⟨hp, g, d, t, os⟩ := s
  simp only [Prod.mk.injEq] at hv
  obtain ⟨rfl, rfl, rfl, rfl⟩ := hv
  unfold openEnds
  rw [hs]
  obtain ⟨s₁, h1, h2⟩ := Option.map_eq_some_iff.mp (h w os)
  show (topFrom treeTable p w N _).map _ = _
  have := leftT_top h1
  rw [show (⟨boot_heap w.params, { toList := [] }, boot_drawn, boot_toks, os⟩ : Shared) = ⟨boot_heap w.params, #[], boot_drawn, boot_toks, os⟩ from rfl, this]
  exact congrArg some h2
end Mine

namespace Mine
open PySem
noncomputable def TT : Tab where
  fns := ["is_value", "is_name", "are_names", "are_unlike", "is_rule", "is_step", "is_plan", "givers_of", "outside", "is_between", "_law_cell_at", "_law_next", "_law_names", "_law_value", "_law_rule", "_law_plan", "_law_word", "_law_outside", "_law_bad_name", "_law_step", "_law_spoilt", "_law_made", "law"]
  cst := [("MOST_VALUE", .int 999999), ("LETTERS", .str "abcdefghijklmnopqrstuvwxyz"), ("FIGURES", .str "0123456789"), ("LONGEST", .int 8), ("MOST_STEPS", .int 20), ("MOST_NEEDS", .int 4), ("MOST_GIVES", .int 3), ("PLAIN_WORDS", .tup [.str "sum", .str "times", .str "least", .str "most"]), ("MOST_TURNS", .int 200)]
  bins := ["len", "list", "tuple", "min", "all", "int", "str", "bool", "ValueError", "isinstance", "range", "set"]
  muts := [(47, 12), (59, 12), (105, 21), (169, 17), (191, 21), (192, 16), (220, 21), (223, 17)]
  excs := [("FireError", 89, []), ("NoPlan", 102, [89]), ("NoTurn", 114, [89]), ("NoPlace", 126, [89]), ("NoValue", 138, [89]), ("TokenThere", 150, [89]), ("NoStep", 162, [89]), ("Fired", 174, [89]), ("NotReady", 186, [89]), ("IsReady", 198, [89]), ("NoText", 210, [89])]
  brd := some ("Board", 320)
  meths := ["__init__"]
  repl := false
  dstr := [(52, 12)]
noncomputable abbrev i_is_value : Nat := 0
noncomputable abbrev i_is_name : Nat := 1
noncomputable abbrev i_are_names : Nat := 2
noncomputable abbrev i_are_unlike : Nat := 3
noncomputable abbrev i_is_rule : Nat := 4
noncomputable abbrev i_is_step : Nat := 5
noncomputable abbrev i_is_plan : Nat := 6
noncomputable abbrev i_givers_of : Nat := 7
noncomputable abbrev i_outside : Nat := 8
noncomputable abbrev i_is_between : Nat := 9
noncomputable abbrev i_law_cell_at : Nat := 10
noncomputable abbrev i_law_next : Nat := 11
noncomputable abbrev i_law_names : Nat := 12
noncomputable abbrev i_law_value : Nat := 13
noncomputable abbrev i_law_rule : Nat := 14
noncomputable abbrev i_law_plan : Nat := 15
noncomputable abbrev i_law_word : Nat := 16
noncomputable abbrev i_law_outside : Nat := 17
noncomputable abbrev i_law_bad_name : Nat := 18
noncomputable abbrev i_law_step : Nat := 19
noncomputable abbrev i_law_spoilt : Nat := 20
noncomputable abbrev i_law_made : Nat := 21
noncomputable abbrev i_law : Nat := 22
noncomputable abbrev i_Board___init__ : Nat := 23
noncomputable def f_is_value_s0 : S := (.ret (.and (.cons (.isinst (.v 0) .int) (.cons (.not (.isinst (.v 0) .bool)) (.cons (.cmp2 (.k (.int 0)) .le (.v 0) .le (.k (.int 999999))) .nil)))))
/-- thing isinstance int bool MOST_VALUE -/
noncomputable def f_is_value : Fn := ⟨1, 5, (.cons f_is_value_s0 .nil)⟩
noncomputable def f_is_name_s0t0 : S := (.ret (.k (.bool false)))
noncomputable def f_is_name_s0 : S := (.ife (.or (.cons (.not (.isinst (.v 0) .str)) (.cons (.not (.cmp2 (.k (.int 1)) .le (.b1 .len (.v 0)) .le (.k (.int 8)))) (.cons (.cmp (.sub (.v 0) (.k (.int 0))) .notin (.k (.str "abcdefghijklmnopqrstuvwxyz"))) .nil)))) (.cons f_is_name_s0t0 .nil) .nil)
noncomputable def f_is_name_c0 : X := (.comp true 1 [none, none, none, none] (.or (.cons (.cmp (.v 1) .isin (.k (.str "abcdefghijklmnopqrstuvwxyz"))) (.cons (.cmp (.v 1) .isin (.k (.str "0123456789"))) .nil))) (.k (.bool true)) (.v 0))
noncomputable def f_is_name_s1 : S := (.ret (.b1 .all f_is_name_c0))
/-- thing isinstance str len LONGEST LETTERS all -/
noncomputable def f_is_name : Fn := ⟨1, 7, (.cons f_is_name_s0 (.cons f_is_name_s1 .nil))⟩
noncomputable def f_are_names_c0 : X := (.comp true 1 [none, none, none] (.call i_is_name (.cons (.v 1) .nil)) (.k (.bool true)) (.v 0))
noncomputable def f_are_names_s0 : S := (.ret (.and (.cons (.isinst (.v 0) .tuple) (.cons (.cmp2 (.k (.int 1)) .le (.b1 .len (.v 0)) .le (.v 1)) (.cons (.b1 .all f_are_names_c0) .nil)))))
/-- thing most isinstance tuple len all -/
noncomputable def f_are_names : Fn := ⟨2, 6, (.cons f_are_names_s0 .nil)⟩
noncomputable def f_are_unlike_s0 : S := (.ret (.cmp (.b1 .lenset (.v 0)) .eq (.b1 .len (.v 0))))
/-- names len set -/
noncomputable def f_are_unlike : Fn := ⟨1, 3, (.cons f_are_unlike_s0 .nil)⟩
noncomputable def f_is_rule_s0t0 : S := (.ret (.k (.bool false)))
noncomputable def f_is_rule_s0 : S := (.ife (.or (.cons (.not (.isinst (.v 0) .tuple)) (.cons (.cmp (.b1 .len (.v 0)) .eq (.k (.int 0))) (.cons (.not (.isinst (.sub (.v 0) (.k (.int 0))) .str)) .nil)))) (.cons f_is_rule_s0t0 .nil) .nil)
noncomputable def f_is_rule_s1t0 : S := (.ret (.and (.cons (.cmp (.b1 .len (.v 0)) .eq (.k (.int 2))) (.cons (.call i_is_value (.cons (.sub (.v 0) (.k (.int 1))) .nil)) .nil))))
noncomputable def f_is_rule_s1 : S := (.ife (.cmp (.sub (.v 0) (.k (.int 0))) .eq (.k (.str "fixed"))) (.cons f_is_rule_s1t0 .nil) .nil)
noncomputable def f_is_rule_s2t0 : S := (.ret (.k (.bool false)))
noncomputable def f_is_rule_s2 : S := (.ife (.cmp (.b1 .len (.v 0)) .ne (.k (.int 1))) (.cons f_is_rule_s2t0 .nil) .nil)
noncomputable def f_is_rule_s3t0 : S := (.ret (.cmp (.v 1) .eq (.k (.int 1))))
noncomputable def f_is_rule_s3 : S := (.ife (.cmp (.sub (.v 0) (.k (.int 0))) .eq (.k (.str "later"))) (.cons f_is_rule_s3t0 .nil) .nil)
noncomputable def f_is_rule_s4t0 : S := (.ret (.and (.cons (.cmp (.v 1) .eq (.k (.int 2))) (.cons (.cmp (.v 2) .eq (.k (.int 2))) .nil))))
noncomputable def f_is_rule_s4 : S := (.ife (.cmp (.sub (.v 0) (.k (.int 0))) .eq (.k (.str "way"))) (.cons f_is_rule_s4t0 .nil) .nil)
noncomputable def f_is_rule_s5t0 : S := (.ret (.cmp (.v 1) .eq (.k (.int 3))))
noncomputable def f_is_rule_s5 : S := (.ife (.cmp (.sub (.v 0) (.k (.int 0))) .eq (.k (.str "choose"))) (.cons f_is_rule_s5t0 .nil) .nil)
noncomputable def f_is_rule_s6 : S := (.ret (.cmp (.sub (.v 0) (.k (.int 0))) .isin (.k (.tup [(.str "sum"), (.str "times"), (.str "least"), (.str "most")]))))
/-- rule needs gives isinstance tuple len str is_value PLAIN_WORDS -/
noncomputable def f_is_rule : Fn := ⟨3, 9, (.cons f_is_rule_s0 (.cons f_is_rule_s1 (.cons f_is_rule_s2 (.cons f_is_rule_s3 (.cons f_is_rule_s4 (.cons f_is_rule_s5 (.cons f_is_rule_s6 .nil)))))))⟩
noncomputable def f_is_step_s0t0 : S := (.ret (.k (.bool false)))
noncomputable def f_is_step_s0 : S := (.ife (.or (.cons (.not (.isinst (.v 0) .tuple)) (.cons (.cmp (.b1 .len (.v 0)) .ne (.k (.int 4))) (.cons (.not (.call i_is_name (.cons (.sub (.v 0) (.k (.int 0))) .nil))) .nil)))) (.cons f_is_step_s0t0 .nil) .nil)
noncomputable def f_is_step_s1t0 : S := (.ret (.k (.bool false)))
noncomputable def f_is_step_s1 : S := (.ife (.or (.cons (.not (.call i_are_names (.cons (.sub (.v 0) (.k (.int 2))) (.cons (.k (.int 4)) .nil)))) (.cons (.not (.call i_are_names (.cons (.sub (.v 0) (.k (.int 3))) (.cons (.k (.int 3)) .nil)))) (.cons (.not (.call i_are_unlike (.cons (.sub (.v 0) (.k (.int 3))) .nil))) .nil)))) (.cons f_is_step_s1t0 .nil) .nil)
noncomputable def f_is_step_s2 : S := (.ret (.call i_is_rule (.cons (.sub (.v 0) (.k (.int 1))) (.cons (.b1 .len (.sub (.v 0) (.k (.int 2)))) (.cons (.b1 .len (.sub (.v 0) (.k (.int 3)))) .nil)))))
/-- step isinstance tuple len is_name are_names MOST_NEEDS MOST_GIVES are_unlike is_rule -/
noncomputable def f_is_step : Fn := ⟨1, 10, (.cons f_is_step_s0 (.cons f_is_step_s1 (.cons f_is_step_s2 .nil)))⟩
noncomputable def f_is_plan_c0 : X := (.comp true 1 [none, none, none] (.call i_is_step (.cons (.v 1) .nil)) (.k (.bool true)) (.v 0))
noncomputable def f_is_plan_s0t0 : S := (.ret (.k (.bool false)))
noncomputable def f_is_plan_s0 : S := (.ife (.or (.cons (.not (.isinst (.v 0) .tuple)) (.cons (.not (.cmp2 (.k (.int 1)) .le (.b1 .len (.v 0)) .le (.k (.int 20)))) (.cons (.not (.b1 .all f_is_plan_c0)) .nil)))) (.cons f_is_plan_s0t0 .nil) .nil)
noncomputable def f_is_plan_s1 : S := (.asg 2 (.lst false .nil))
noncomputable def f_is_plan_s2b0 : S := (.expr (.me .extend (.v 2) (.cons (.sub (.v 1) (.k (.int 3))) .nil)))
noncomputable def f_is_plan_s2b : S := (.cons f_is_plan_s2b0 .nil)
noncomputable def f_is_plan_s2 : S := (.for1 1 (.v 0) f_is_plan_s2b)
noncomputable def f_is_plan_c1 : X := (.comp true 1 [none, none] (.sub (.v 1) (.k (.int 0))) (.k (.bool true)) (.v 0))
noncomputable def f_is_plan_s3 : S := (.ret (.and (.cons (.call i_are_unlike (.cons f_is_plan_c1 .nil)) (.cons (.call i_are_unlike (.cons (.v 2) .nil)) .nil))))
/-- plan step given isinstance tuple len MOST_STEPS all are_unlike -/
noncomputable def f_is_plan : Fn := ⟨1, 9, (.cons f_is_plan_s0 (.cons f_is_plan_s1 (.cons f_is_plan_s2 (.cons f_is_plan_s3 .nil))))⟩
noncomputable def f_givers_of_s0 : S := (.asg 1 (.dnew false))
noncomputable def f_givers_of_s1b0b0 : S := (.asgSub (.v 1) (.v 3) (.v 2))
noncomputable def f_givers_of_s1b0b : S := (.cons f_givers_of_s1b0b0 .nil)
noncomputable def f_givers_of_s1b0 : S := (.for1 3 (.sub (.v 2) (.k (.int 3))) f_givers_of_s1b0b)
noncomputable def f_givers_of_s1b : S := (.cons f_givers_of_s1b0 .nil)
noncomputable def f_givers_of_s1 : S := (.for1 2 (.v 0) f_givers_of_s1b)
noncomputable def f_givers_of_s2 : S := (.ret (.v 1))
/-- plan found step place -/
noncomputable def f_givers_of : Fn := ⟨1, 4, (.cons f_givers_of_s0 (.cons f_givers_of_s1 (.cons f_givers_of_s2 .nil)))⟩
noncomputable def f_outside_s0 : S := (.asg 1 (.call i_givers_of (.cons (.v 0) .nil)))
noncomputable def f_outside_s1 : S := (.asg 2 (.lst false .nil))
noncomputable def f_outside_s2b0b0t0 : S := (.expr (.me .append (.v 2) (.cons (.v 4) .nil)))
noncomputable def f_outside_s2b0b0 : S := (.ife (.and (.cons (.cmp (.v 4) .notin (.v 1)) (.cons (.cmp (.v 4) .notin (.v 2)) .nil))) (.cons f_outside_s2b0b0t0 .nil) .nil)
noncomputable def f_outside_s2b0b : S := (.cons f_outside_s2b0b0 .nil)
noncomputable def f_outside_s2b0 : S := (.for1 4 (.sub (.v 3) (.k (.int 2))) f_outside_s2b0b)
noncomputable def f_outside_s2b : S := (.cons f_outside_s2b0 .nil)
noncomputable def f_outside_s2 : S := (.for1 3 (.v 0) f_outside_s2b)
noncomputable def f_outside_s3 : S := (.ret (.v 2))
/-- plan given found step place givers_of -/
noncomputable def f_outside : Fn := ⟨1, 6, (.cons f_outside_s0 (.cons f_outside_s1 (.cons f_outside_s2 (.cons f_outside_s3 .nil))))⟩
noncomputable def f_is_between_s0 : S := (.ret (.and (.cons (.isinst (.v 0) .int) (.cons (.not (.isinst (.v 0) .bool)) (.cons (.cmp2 (.v 1) .le (.v 0) .le (.v 2)) .nil)))))
/-- thing least most isinstance int bool -/
noncomputable def f_is_between : Fn := ⟨3, 6, (.cons f_is_between_s0 .nil)⟩
noncomputable def f_law_cell_at_s0t0 : S := (.ret (.sub (.v 0) (.v 1)))
noncomputable def f_law_cell_at_s0 : S := (.ife (.cmp (.v 1) .lt (.b1 .len (.v 0))) (.cons f_law_cell_at_s0t0 .nil) .nil)
noncomputable def f_law_cell_at_s1 : S := (.ret (.k (.int 0)))
/-- _law_script _law_k len -/
noncomputable def f_law_cell_at : Fn := ⟨2, 3, (.cons f_law_cell_at_s0 (.cons f_law_cell_at_s1 .nil))⟩
noncomputable def f_law_next_s0 : S := (.asg 1 (.bin .mod (.bin .add (.bin .mul (.v 0) (.k (.int 48271))) (.k (.int 11))) (.k (.int 2147483647))))
noncomputable def f_law_next_s1 : S := (.ret (.bin .mod (.bin .mul (.v 1) (.v 1)) (.k (.int 2147483629))))
/-- _law_pick _law_more -/
noncomputable def f_law_next : Fn := ⟨1, 2, (.cons f_law_next_s0 (.cons f_law_next_s1 .nil))⟩
noncomputable def f_law_names_s0t0 : S := (.asg 1 (.lst true (.cons (.k (.str "sum")) (.cons (.k (.str "later")) (.cons (.k (.str "way")) (.cons (.k (.str "fixed")) (.cons (.k (.str "a9")) (.cons (.k (.str "b")) (.cons (.k (.str "times")) (.cons (.k (.str "choose")) (.cons (.k (.str "least")) (.cons (.k (.str "most")) (.cons (.k (.str "z0")) (.cons (.k (.str "put")) .nil))))))))))))))
noncomputable def f_law_names_c0 : X := (.comp true 1 [none, none, some 0, some 1] (.bin .add (.sub (.v 3) (.bin .mod (.bin .add (.bin .fdiv (.v 2) (.k (.int 9))) (.v 1)) (.k (.int 12)))) (.sub (.lst true (.cons (.k (.str "")) (.cons (.k (.str "x")) .nil))) (.bin .fdiv (.v 1) (.k (.int 12))))) (.k (.bool true)) (.range1 (.k (.int 24))))
noncomputable def f_law_names_s0t1 : S := (.ret f_law_names_c0)
noncomputable def f_law_names_s0 : S := (.ife (.cmp (.bin .mod (.v 0) (.k (.int 9))) .eq (.k (.int 8))) (.cons f_law_names_s0t0 (.cons f_law_names_s0t1 .nil)) .nil)
noncomputable def f_law_names_s1 : S := (.asg 3 (.bin .add (.k (.int 1)) (.bin .mod (.v 0) (.k (.int 8)))))
noncomputable def f_law_names_s2 : S := (.asg 4 (.bin .mod (.bin .fdiv (.v 0) (.k (.int 8))) (.v 3)))
noncomputable def f_law_names_s3 : S := (.asg 1 (.k (.str "abcdefghijklmnopqrstuvwxyz0123456789")))
noncomputable def f_law_names_s4 : S := (.asg 5 (.lst false .nil))
noncomputable def f_law_names_s5b0 : S := (.asg 6 (.sub (.v 1) (.bin .mod (.bin .add (.bin .fdiv (.v 0) (.k (.int 64))) (.v 2)) (.sub (.lst true (.cons (.k (.int 26)) (.cons (.k (.int 36)) .nil))) (.b1 .int (.cmp (.v 4) .gt (.k (.int 0))))))))
noncomputable def f_law_names_s5b1 : S := (.expr (.me .append (.v 5) (.cons (.bin .add (.bin .add (.bin .mul (.k (.str "m")) (.v 4)) (.v 6)) (.bin .mul (.k (.str "m")) (.bin .sub (.bin .sub (.v 3) (.k (.int 1))) (.v 4)))) .nil)))
noncomputable def f_law_names_s5b : S := (.cons f_law_names_s5b0 (.cons f_law_names_s5b1 .nil))
noncomputable def f_law_names_s5 : S := (.for1 2 (.range1 (.k (.int 24))) f_law_names_s5b)
noncomputable def f_law_names_s6 : S := (.ret (.v 5))
/-- _law_cell _law_some _law_k _law_size _law_place _law_found _law_sign range int -/
noncomputable def f_law_names : Fn := ⟨1, 9, (.cons f_law_names_s0 (.cons f_law_names_s1 (.cons f_law_names_s2 (.cons f_law_names_s3 (.cons f_law_names_s4 (.cons f_law_names_s5 (.cons f_law_names_s6 .nil)))))))⟩
noncomputable def f_law_value_s0t0 : S := (.ret (.sub (.lst true (.cons (.k (.int 0)) (.cons (.k (.int 0)) (.cons (.k (.int 1)) (.cons (.k (.int 999999)) .nil))))) (.bin .mod (.bin .fdiv (.v 0) (.k (.int 4))) (.k (.int 4)))))
noncomputable def f_law_value_s0 : S := (.ife (.cmp (.bin .mod (.v 0) (.k (.int 4))) .eq (.k (.int 0))) (.cons f_law_value_s0t0 .nil) .nil)
noncomputable def f_law_value_s1t0 : S := (.ret (.bin .mod (.bin .fdiv (.v 0) (.k (.int 4))) (.bin .pow (.k (.int 10)) (.k (.int 6)))))
noncomputable def f_law_value_s1 : S := (.ife (.cmp (.bin .mod (.v 0) (.k (.int 4))) .eq (.k (.int 1))) (.cons f_law_value_s1t0 .nil) .nil)
noncomputable def f_law_value_s2 : S := (.ret (.bin .mod (.bin .fdiv (.v 0) (.k (.int 4))) (.k (.int 5))))
/-- _law_pick -/
noncomputable def f_law_value : Fn := ⟨1, 1, (.cons f_law_value_s0 (.cons f_law_value_s1 (.cons f_law_value_s2 .nil)))⟩
noncomputable def f_law_rule_s0 : S := (.asg 2 (.sub (.lst true (.cons (.k (.str "sum")) (.cons (.k (.str "times")) (.cons (.k (.str "least")) (.cons (.k (.str "most")) (.cons (.k (.str "fixed")) (.cons (.k (.str "later")) (.cons (.k (.str "later")) (.cons (.k (.str "way")) (.cons (.k (.str "choose")) (.cons (.k (.str "way")) (.cons (.k (.str "choose")) (.cons (.k (.str "sum")) .nil))))))))))))) (.v 1)))
noncomputable def f_law_rule_s1t0 : S := (.ret (.tup (.cons (.k (.str "fixed")) (.cons (.call i_law_value (.cons (.v 0) .nil)) .nil))))
noncomputable def f_law_rule_s1 : S := (.ife (.cmp (.v 2) .eq (.k (.str "fixed"))) (.cons f_law_rule_s1t0 .nil) .nil)
noncomputable def f_law_rule_s2 : S := (.ret (.tup (.cons (.v 2) .nil)))
/-- _law_pick _law_way _law_word_here _law_value -/
noncomputable def f_law_rule : Fn := ⟨2, 4, (.cons f_law_rule_s0 (.cons f_law_rule_s1 (.cons f_law_rule_s2 .nil)))⟩
noncomputable def f_law_plan_s0 : S := (.asg 2 (.call i_law_names (.cons (.call i_law_cell_at (.cons (.v 0) (.cons (.v 1) .nil))) .nil)))
noncomputable def f_law_plan_s1 : S := (.asg 3 (.sub (.lst true (.cons (.k (.int 1)) (.cons (.k (.int 2)) (.cons (.k (.int 3)) (.cons (.k (.int 4)) (.cons (.k (.int 6)) (.cons (.k (.int 8)) .nil))))))) (.bin .mod (.call i_law_cell_at (.cons (.v 0) (.cons (.bin .add (.v 1) (.k (.int 1))) .nil))) (.k (.int 6)))))
noncomputable def f_law_plan_s2t0 : S := (.asg 3 (.bin .add (.k (.int 9)) (.bin .mod (.bin .fdiv (.call i_law_cell_at (.cons (.v 0) (.cons (.bin .add (.v 1) (.k (.int 1))) .nil))) (.k (.int 60))) (.k (.int 12)))))
noncomputable def f_law_plan_s2 : S := (.ife (.cmp (.bin .mod (.bin .fdiv (.call i_law_cell_at (.cons (.v 0) (.cons (.bin .add (.v 1) (.k (.int 1))) .nil))) (.k (.int 6))) (.k (.int 10))) .eq (.k (.int 1))) (.cons f_law_plan_s2t0 .nil) .nil)
noncomputable def f_law_plan_s3 : S := (.asg 4 (.sub (.lst true (.cons (.k (.int 2)) (.cons (.k (.int 4)) (.cons (.k (.int 6)) (.cons (.k (.int 9)) .nil))))) (.bin .mod (.call i_law_cell_at (.cons (.v 0) (.cons (.bin .add (.v 1) (.k (.int 2))) .nil))) (.k (.int 4)))))
noncomputable def f_law_plan_s4 : S := (.asg 5 (.lst false .nil))
noncomputable def f_law_plan_c0 : X := (.comp false 1 [none, none, some 2] (.sub (.v 2) (.v 1)) (.k (.bool true)) (.range1 (.min2 (.k (.int 24)) (.bin .add (.v 4) (.v 3)))))
noncomputable def f_law_plan_s5 : S := (.asg 7 f_law_plan_c0)
noncomputable def f_law_plan_s6 : S := (.asg 8 (.b1 (.list true) (.v 7)))
noncomputable def f_law_plan_s7b0 : S := (.asg 9 (.call i_law_next (.cons (.bin .add (.call i_law_cell_at (.cons (.v 0) (.cons (.bin .add (.bin .add (.v 1) (.k (.int 3))) (.bin .mod (.v 6) (.k (.int 8)))) .nil))) (.bin .mul (.k (.int 977)) (.v 6))) .nil)))
noncomputable def f_law_plan_s7b1 : S := (.asg 10 (.call i_law_rule (.cons (.call i_law_next (.cons (.v 9) .nil)) (.cons (.bin .mod (.bin .fdiv (.v 9) (.k (.int 5))) (.k (.int 12))) .nil))))
noncomputable def f_law_plan_s7b2 : S := (.asg 11 (.call i_law_next (.cons (.bin .add (.v 9) (.k (.int 1))) .nil)))
noncomputable def f_law_plan_s7b3 : S := (.asg 12 (.sub (.lst true (.cons (.bin .add (.k (.int 1)) (.bin .mod (.v 11) (.k (.int 4)))) (.cons (.k (.int 1)) .nil))) (.b1 .int (.cmp (.sub (.v 10) (.k (.int 0))) .eq (.k (.str "later"))))))
noncomputable def f_law_plan_s7b4 : S := (.asg 12 (.fdget ["way", "choose"] [(.int 2), (.int 3)] (.sub (.v 10) (.k (.int 0))) (.v 12)))
noncomputable def f_law_plan_s7b5 : S := (.asg 13 (.fdget ["way"] [(.int 2)] (.sub (.v 10) (.k (.int 0))) (.sub (.lst true (.cons (.k (.int 1)) (.cons (.k (.int 1)) (.cons (.k (.int 1)) (.cons (.k (.int 2)) (.cons (.k (.int 3)) .nil)))))) (.bin .mod (.bin .fdiv (.v 11) (.k (.int 4))) (.k (.int 5))))))
noncomputable def f_law_plan_s7b6 : S := (.asg 13 (.min2 (.v 13) (.b1 .len (.v 7))))
noncomputable def f_law_plan_s7b7 : S := (.ife (.or (.cons (.cmp (.v 13) .eq (.k (.int 0))) (.cons (.and (.cons (.cmp (.sub (.v 10) (.k (.int 0))) .eq (.k (.str "way"))) (.cons (.cmp (.v 13) .lt (.k (.int 2))) .nil))) .nil))) (.cons .brk .nil) .nil)
noncomputable def f_law_plan_c1 : X := (.comp true 1 [none, none, none, none, some 11, some 8] (.sub (.v 5) (.bin .mod (.call i_law_next (.cons (.bin .add (.v 4) (.bin .mul (.k (.int 7)) (.v 1))) .nil)) (.b1 .len (.v 5)))) (.k (.bool true)) (.range1 (.v 12)))
noncomputable def f_law_plan_s7b8 : S := (.asg 14 f_law_plan_c1)
noncomputable def f_law_plan_c2 : X := (.comp true 1 [none, none, none, none, some 7, some 11] (.me .pop (.v 4) (.cons (.bin .mod (.call i_law_next (.cons (.bin .add (.bin .add (.v 5) (.bin .mul (.k (.int 31)) (.v 1))) (.k (.int 5))) .nil)) (.b1 .len (.v 4))) .nil)) (.k (.bool true)) (.range1 (.v 13)))
noncomputable def f_law_plan_s7b9 : S := (.asg 15 f_law_plan_c2)
noncomputable def f_law_plan_s7b10 : S := (.expr (.me .append (.v 5) (.cons (.tup (.cons (.sub (.v 2) (.bin .sub (.k (.int 23)) (.v 6))) (.cons (.v 10) (.cons (.b1 .tuple (.v 14)) (.cons (.b1 .tuple (.v 15)) .nil))))) .nil)))
noncomputable def f_law_plan_s7b : S := (.cons f_law_plan_s7b0 (.cons f_law_plan_s7b1 (.cons f_law_plan_s7b2 (.cons f_law_plan_s7b3 (.cons f_law_plan_s7b4 (.cons f_law_plan_s7b5 (.cons f_law_plan_s7b6 (.cons f_law_plan_s7b7 (.cons f_law_plan_s7b8 (.cons f_law_plan_s7b9 (.cons f_law_plan_s7b10 .nil)))))))))))
noncomputable def f_law_plan_s7 : S := (.for1 6 (.range1 (.v 3)) f_law_plan_s7b)
noncomputable def f_law_plan_s8t0 : S := (.expr (.me .append (.v 5) (.cons (.tup (.cons (.sub (.v 2) (.k (.int 0))) (.cons (.tup (.cons (.k (.str "sum")) .nil)) (.cons (.tup (.cons (.sub (.v 2) (.k (.int 0))) .nil)) (.cons (.tup (.cons (.sub (.v 2) (.k (.int 1))) .nil)) .nil))))) .nil)))
noncomputable def f_law_plan_s8 : S := (.ife (.cmp (.v 5) .eq (.lst true .nil)) (.cons f_law_plan_s8t0 .nil) .nil)
noncomputable def f_law_plan_s9 : S := (.ret (.b1 .tuple (.v 5)))
/-- _law_script _law_at _law_names_here _law_many _law_room _law_plan_here _law_k _law_free _law_spots _law_pick _law_rule_here _law_more _law_needs _law_gives _law_wanted _law_made_here _law_names _law_cell_at range min list _law_next _law_rule int len tuple -/
noncomputable def f_law_plan : Fn := ⟨2, 26, (.cons f_law_plan_s0 (.cons f_law_plan_s1 (.cons f_law_plan_s2 (.cons f_law_plan_s3 (.cons f_law_plan_s4 (.cons f_law_plan_s5 (.cons f_law_plan_s6 (.cons f_law_plan_s7 (.cons f_law_plan_s8 (.cons f_law_plan_s9 .nil))))))))))⟩
noncomputable def f_law_word_s0 : S := (.asg 1 (.bin .add (.bin .mul (.lst true (.cons (.k (.str "NoPlan")) .nil)) (.b1 .int (.isexc (.v 0) [102] [89, 102, 114, 126, 138, 150, 162, 174, 186, 198, 210]))) (.bin .mul (.lst true (.cons (.k (.str "NoTurn")) .nil)) (.b1 .int (.isexc (.v 0) [114] [89, 102, 114, 126, 138, 150, 162, 174, 186, 198, 210])))))
noncomputable def f_law_word_s1 : S := (.asg 1 (.bin .add (.bin .add (.v 1) (.bin .mul (.lst true (.cons (.k (.str "NoPlace")) .nil)) (.b1 .int (.isexc (.v 0) [126] [89, 102, 114, 126, 138, 150, 162, 174, 186, 198, 210])))) (.bin .mul (.lst true (.cons (.k (.str "NoValue")) .nil)) (.b1 .int (.isexc (.v 0) [138] [89, 102, 114, 126, 138, 150, 162, 174, 186, 198, 210])))))
noncomputable def f_law_word_s2 : S := (.asg 1 (.bin .add (.bin .add (.v 1) (.bin .mul (.lst true (.cons (.k (.str "TokenThere")) .nil)) (.b1 .int (.isexc (.v 0) [150] [89, 102, 114, 126, 138, 150, 162, 174, 186, 198, 210])))) (.bin .mul (.lst true (.cons (.k (.str "NoStep")) .nil)) (.b1 .int (.isexc (.v 0) [162] [89, 102, 114, 126, 138, 150, 162, 174, 186, 198, 210])))))
noncomputable def f_law_word_s3 : S := (.asg 1 (.bin .add (.bin .add (.v 1) (.bin .mul (.lst true (.cons (.k (.str "Fired")) .nil)) (.b1 .int (.isexc (.v 0) [174] [89, 102, 114, 126, 138, 150, 162, 174, 186, 198, 210])))) (.bin .mul (.lst true (.cons (.k (.str "NotReady")) .nil)) (.b1 .int (.isexc (.v 0) [186] [89, 102, 114, 126, 138, 150, 162, 174, 186, 198, 210])))))
noncomputable def f_law_word_s4 : S := (.asg 1 (.bin .add (.bin .add (.v 1) (.bin .mul (.lst true (.cons (.k (.str "IsReady")) .nil)) (.b1 .int (.isexc (.v 0) [198] [89, 102, 114, 126, 138, 150, 162, 174, 186, 198, 210])))) (.bin .mul (.lst true (.cons (.k (.str "NoText")) .nil)) (.b1 .int (.isexc (.v 0) [210] [89, 102, 114, 126, 138, 150, 162, 174, 186, 198, 210])))))
noncomputable def f_law_word_s5t0 : S := (.ret (.k (.str "other")))
noncomputable def f_law_word_s5 : S := (.ife (.or (.cons (.cmp (.b1 .len (.v 1)) .ne (.k (.int 1))) (.cons (.not (.isexc (.v 0) [89, 102, 114, 126, 138, 150, 162, 174, 186, 198, 210] [89, 102, 114, 126, 138, 150, 162, 174, 186, 198, 210])) .nil))) (.cons f_law_word_s5t0 .nil) .nil)
noncomputable def f_law_word_s6 : S := (.ret (.sub (.v 1) (.k (.int 0))))
/-- _law_e _law_words int isinstance NoPlan NoTurn NoPlace NoValue TokenThere NoStep Fired NotReady IsReady NoText len ValueError -/
noncomputable def f_law_word : Fn := ⟨1, 16, (.cons f_law_word_s0 (.cons f_law_word_s1 (.cons f_law_word_s2 (.cons f_law_word_s3 (.cons f_law_word_s4 (.cons f_law_word_s5 (.cons f_law_word_s6 .nil)))))))⟩
noncomputable def f_law_outside_s0 : S := (.asg 1 (.lst false .nil))
noncomputable def f_law_outside_s1b0 : S := (.expr (.me .extend (.v 1) (.cons (.sub (.v 2) (.k (.int 3))) .nil)))
noncomputable def f_law_outside_s1b : S := (.cons f_law_outside_s1b0 .nil)
noncomputable def f_law_outside_s1 : S := (.for1 2 (.v 0) f_law_outside_s1b)
noncomputable def f_law_outside_s2 : S := (.asg 3 (.lst false .nil))
noncomputable def f_law_outside_s3b0b0t0 : S := (.expr (.me .append (.v 3) (.cons (.v 4) .nil)))
noncomputable def f_law_outside_s3b0b0 : S := (.ife (.and (.cons (.cmp (.v 4) .notin (.v 1)) (.cons (.cmp (.v 4) .notin (.v 3)) .nil))) (.cons f_law_outside_s3b0b0t0 .nil) .nil)
noncomputable def f_law_outside_s3b0b : S := (.cons f_law_outside_s3b0b0 .nil)
noncomputable def f_law_outside_s3b0 : S := (.for1 4 (.sub (.v 2) (.k (.int 2))) f_law_outside_s3b0b)
noncomputable def f_law_outside_s3b : S := (.cons f_law_outside_s3b0 .nil)
noncomputable def f_law_outside_s3 : S := (.for1 2 (.v 0) f_law_outside_s3b)
noncomputable def f_law_outside_s4 : S := (.ret (.v 3))
/-- _law_plan_here _law_all_given _law_step_here _law_found _law_place -/
noncomputable def f_law_outside : Fn := ⟨1, 5, (.cons f_law_outside_s0 (.cons f_law_outside_s1 (.cons f_law_outside_s2 (.cons f_law_outside_s3 (.cons f_law_outside_s4 .nil)))))⟩
noncomputable def f_law_bad_name_s0 : S := (.asg 1 (.lst true (.cons (.k (.str "")) (.cons (.k (.str "A")) (.cons (.k (.str "a b")) (.cons (.k (.str "9a")) (.cons (.k (.str "abcdefghi")) (.cons (.k (.str "a_")) (.cons (.k (.str "->")) (.cons (.k (.str "a-")) (.cons (.k (.str "aB")) (.cons (.k (.str "a.")) (.cons (.k (.str "b!")) (.cons (.k (.str "a\u0009")) .nil))))))))))))))
noncomputable def f_law_bad_name_s1 : S := (.ret (.sub (.v 1) (.bin .mod (.v 0) (.k (.int 12)))))
/-- _law_cell _law_some -/
noncomputable def f_law_bad_name : Fn := ⟨1, 2, (.cons f_law_bad_name_s0 (.cons f_law_bad_name_s1 .nil))⟩
noncomputable def f_law_step_s0 : S := (.asgT [3, 4, 5, 6] (.v 0))
noncomputable def f_law_step_s1 : S := (.asg 7 (.call i_law_bad_name (.cons (.v 2) .nil)))
noncomputable def f_law_step_s2 : S := (.asg 8 (.bin .mod (.bin .fdiv (.v 2) (.k (.int 12))) (.b1 .len (.v 5))))
noncomputable def f_law_step_s3t0 : S := (.ret (.tup (.cons (.v 7) (.cons (.v 4) (.cons (.v 5) (.cons (.v 6) .nil))))))
noncomputable def f_law_step_s3 : S := (.ife (.cmp (.v 1) .eq (.k (.int 0))) (.cons f_law_step_s3t0 .nil) .nil)
noncomputable def f_law_step_s4t0 : S := (.ret (.tup (.cons (.v 3) (.cons (.v 4) (.cons (.bin .add (.bin .add (.slice (.v 5) (.k .none) (.v 8)) (.tup (.cons (.v 7) .nil))) (.slice (.v 5) (.bin .add (.v 8) (.k (.int 1))) (.k .none))) (.cons (.v 6) .nil))))))
noncomputable def f_law_step_s4 : S := (.ife (.cmp (.v 1) .eq (.k (.int 1))) (.cons f_law_step_s4t0 .nil) .nil)
noncomputable def f_law_step_s5t0 : S := (.ret (.tup (.cons (.v 3) (.cons (.v 4) (.cons (.v 5) (.cons (.bin .add (.slice (.v 6) (.k .none) (.neg (.k (.int 1)))) (.tup (.cons (.v 7) .nil))) .nil))))))
noncomputable def f_law_step_s5 : S := (.ife (.cmp (.v 1) .eq (.k (.int 2))) (.cons f_law_step_s5t0 .nil) .nil)
noncomputable def f_law_step_s6t0 : S := (.ret (.tup (.cons (.v 3) (.cons (.tup (.cons (.k (.str "sum")) .nil)) (.cons (.tup .nil) (.cons (.v 6) .nil))))))
noncomputable def f_law_step_s6 : S := (.ife (.cmp (.v 1) .eq (.k (.int 3))) (.cons f_law_step_s6t0 .nil) .nil)
noncomputable def f_law_step_s7t0 : S := (.ret (.tup (.cons (.v 3) (.cons (.tup (.cons (.k (.str "sum")) .nil)) (.cons (.bin .mul (.tup (.cons (.k (.str "a")) .nil)) (.k (.int 5))) (.cons (.v 6) .nil))))))
noncomputable def f_law_step_s7 : S := (.ife (.cmp (.v 1) .eq (.k (.int 4))) (.cons f_law_step_s7t0 .nil) .nil)
noncomputable def f_law_step_s8t0 : S := (.ret (.tup (.cons (.v 3) (.cons (.v 4) (.cons (.v 5) (.cons (.tup .nil) .nil))))))
noncomputable def f_law_step_s8 : S := (.ife (.cmp (.v 1) .eq (.k (.int 5))) (.cons f_law_step_s8t0 .nil) .nil)
noncomputable def f_law_step_s9t0 : S := (.ret (.tup (.cons (.v 3) (.cons (.tup (.cons (.k (.str "sum")) .nil)) (.cons (.v 5) (.cons (.tup (.cons (.k (.str "ya")) (.cons (.k (.str "yb")) (.cons (.k (.str "yc")) (.cons (.k (.str "yd")) .nil))))) .nil))))))
noncomputable def f_law_step_s9 : S := (.ife (.cmp (.v 1) .eq (.k (.int 6))) (.cons f_law_step_s9t0 .nil) .nil)
noncomputable def f_law_step_s10t0 : S := (.asg 9 (.lst true (.cons (.tup (.cons (.k (.str "sums")) .nil)) (.cons (.tup (.cons (.k (.str "Sum")) .nil)) (.cons (.tup .nil) (.cons (.tup (.cons (.k (.str "")) .nil)) (.cons (.tup (.cons (.k (.str "give")) .nil)) (.cons (.tup (.cons (.k (.str "fixed")) .nil)) .nil))))))))
noncomputable def f_law_step_s10t1 : S := (.ret (.tup (.cons (.v 3) (.cons (.sub (.v 9) (.bin .mod (.v 2) (.k (.int 6)))) (.cons (.v 5) (.cons (.v 6) .nil))))))
noncomputable def f_law_step_s10 : S := (.ife (.cmp (.v 1) .eq (.k (.int 7))) (.cons f_law_step_s10t0 (.cons f_law_step_s10t1 .nil)) .nil)
noncomputable def f_law_step_s11t0 : S := (.asg 9 (.lst true (.cons (.tup (.cons (.k (.str "fixed")) (.cons (.neg (.k (.int 1))) .nil))) (.cons (.tup (.cons (.k (.str "fixed")) (.cons (.bin .pow (.k (.int 10)) (.k (.int 6))) .nil))) (.cons (.tup (.cons (.k (.str "fixed")) (.cons (.k (.str "7")) .nil))) (.cons (.tup (.cons (.k (.str "fixed")) (.cons (.k (.bool true)) .nil))) (.cons (.tup (.cons (.k (.str "fixed")) (.cons (.k (.int 1)) (.cons (.k (.int 1)) .nil)))) .nil)))))))
noncomputable def f_law_step_s11t1 : S := (.ret (.tup (.cons (.v 3) (.cons (.sub (.v 9) (.bin .mod (.v 2) (.k (.int 5)))) (.cons (.v 5) (.cons (.v 6) .nil))))))
noncomputable def f_law_step_s11 : S := (.ife (.cmp (.v 1) .eq (.k (.int 8))) (.cons f_law_step_s11t0 (.cons f_law_step_s11t1 .nil)) .nil)
noncomputable def f_law_step_s12t0 : S := (.ret (.tup (.cons (.v 3) (.cons (.sub (.lst true (.cons (.tup (.cons (.k (.str "sum")) (.cons (.k (.int 1)) .nil))) (.cons (.tup (.cons (.k (.str "later")) (.cons (.k (.int 1)) .nil))) (.cons (.tup (.cons (.k (.str "way")) (.cons (.k (.int 0)) .nil))) (.cons (.tup (.cons (.k (.str "most")) (.cons (.k (.str "x")) .nil))) .nil))))) (.bin .mod (.v 2) (.k (.int 4)))) (.cons (.v 5) (.cons (.v 6) .nil))))))
noncomputable def f_law_step_s12 : S := (.ife (.cmp (.v 1) .eq (.k (.int 9))) (.cons f_law_step_s12t0 .nil) .nil)
noncomputable def f_law_step_s13t0 : S := (.ret (.tup (.cons (.v 3) (.cons (.tup (.cons (.k (.str "later")) .nil)) (.cons (.tup (.cons (.k (.str "a")) (.cons (.k (.str "b")) .nil))) (.cons (.v 6) .nil))))))
noncomputable def f_law_step_s13 : S := (.ife (.cmp (.v 1) .eq (.k (.int 10))) (.cons f_law_step_s13t0 .nil) .nil)
noncomputable def f_law_step_s14t0 : S := (.asg 9 (.lst true (.cons (.tup (.cons (.k (.str "a")) .nil)) (.cons (.tup (.cons (.k (.str "a")) (.cons (.k (.str "b")) (.cons (.k (.str "a")) .nil)))) (.cons (.tup (.cons (.k (.str "a")) (.cons (.k (.str "b")) .nil))) .nil)))))
noncomputable def f_law_step_s14t1 : S := (.ret (.tup (.cons (.v 3) (.cons (.tup (.cons (.k (.str "way")) .nil)) (.cons (.sub (.v 9) (.bin .mod (.v 2) (.k (.int 3)))) (.cons (.slice (.tup (.cons (.k (.str "ya")) (.cons (.k (.str "yb")) .nil))) (.k .none) (.sub (.lst true (.cons (.k (.int 2)) (.cons (.k (.int 2)) (.cons (.k (.int 1)) .nil)))) (.bin .mod (.v 2) (.k (.int 3))))) .nil))))))
noncomputable def f_law_step_s14 : S := (.ife (.cmp (.v 1) .eq (.k (.int 11))) (.cons f_law_step_s14t0 (.cons f_law_step_s14t1 .nil)) .nil)
noncomputable def f_law_step_s15t0 : S := (.ret (.tup (.cons (.v 3) (.cons (.tup (.cons (.k (.str "choose")) .nil)) (.cons (.sub (.lst true (.cons (.tup (.cons (.k (.str "a")) .nil)) (.cons (.tup (.cons (.k (.str "a")) (.cons (.k (.str "b")) .nil))) (.cons (.tup (.cons (.k (.str "a")) (.cons (.k (.str "b")) (.cons (.k (.str "a")) (.cons (.k (.str "b")) .nil))))) .nil)))) (.bin .mod (.v 2) (.k (.int 3)))) (.cons (.v 6) .nil))))))
noncomputable def f_law_step_s15 : S := (.ife (.cmp (.v 1) .eq (.k (.int 12))) (.cons f_law_step_s15t0 .nil) .nil)
noncomputable def f_law_step_s16 : S := (.ret (.tup (.cons (.v 3) (.cons (.v 4) (.cons (.v 5) (.cons (.bin .add (.v 6) (.slice (.v 6) (.k .none) (.k (.int 1)))) .nil))))))
/-- _law_step_here _law_way _law_cell _law_name _law_rule_here _law_needs _law_gives _law_bad _law_at _law_some _law_bad_name len -/
noncomputable def f_law_step : Fn := ⟨3, 12, (.cons f_law_step_s0 (.cons f_law_step_s1 (.cons f_law_step_s2 (.cons f_law_step_s3 (.cons f_law_step_s4 (.cons f_law_step_s5 (.cons f_law_step_s6 (.cons f_law_step_s7 (.cons f_law_step_s8 (.cons f_law_step_s9 (.cons f_law_step_s10 (.cons f_law_step_s11 (.cons f_law_step_s12 (.cons f_law_step_s13 (.cons f_law_step_s14 (.cons f_law_step_s15 (.cons f_law_step_s16 .nil)))))))))))))))))⟩
noncomputable def f_law_spoilt_s0 : S := (.asg 3 (.bin .mod (.v 2) (.b1 .len (.v 0))))
noncomputable def f_law_spoilt_s1t0 : S := (.ret (.bin .add (.bin .add (.slice (.v 0) (.k .none) (.v 3)) (.tup (.cons (.call i_law_step (.cons (.sub (.v 0) (.v 3)) (.cons (.v 1) (.cons (.bin .fdiv (.v 2) (.k (.int 20))) .nil)))) .nil))) (.slice (.v 0) (.bin .add (.v 3) (.k (.int 1))) (.k .none))))
noncomputable def f_law_spoilt_s1 : S := (.ife (.cmp (.v 1) .lt (.k (.int 14))) (.cons f_law_spoilt_s1t0 .nil) .nil)
noncomputable def f_law_spoilt_s2t0 : S := (.ret (.bin .add (.v 0) (.tup (.cons (.tup (.cons (.sub (.sub (.v 0) (.v 3)) (.k (.int 0))) (.cons (.tup (.cons (.k (.str "sum")) .nil)) (.cons (.tup (.cons (.k (.str "a")) .nil)) (.cons (.tup (.cons (.k (.str "zzzzzzz1")) .nil)) .nil))))) .nil))))
noncomputable def f_law_spoilt_s2 : S := (.ife (.cmp (.v 1) .eq (.k (.int 14))) (.cons f_law_spoilt_s2t0 .nil) .nil)
noncomputable def f_law_spoilt_s3t0 : S := (.asg 4 (.sub (.sub (.sub (.v 0) (.v 3)) (.k (.int 3))) (.bin .mod (.bin .fdiv (.v 2) (.k (.int 20))) (.b1 .len (.sub (.sub (.v 0) (.v 3)) (.k (.int 3)))))))
noncomputable def f_law_spoilt_s3t1 : S := (.ret (.bin .add (.v 0) (.tup (.cons (.tup (.cons (.k (.str "zzzzzzz2")) (.cons (.tup (.cons (.k (.str "sum")) .nil)) (.cons (.tup (.cons (.k (.str "a")) .nil)) (.cons (.tup (.cons (.v 4) .nil)) .nil))))) .nil))))
noncomputable def f_law_spoilt_s3 : S := (.ife (.cmp (.v 1) .eq (.k (.int 15))) (.cons f_law_spoilt_s3t0 (.cons f_law_spoilt_s3t1 .nil)) .nil)
noncomputable def f_law_spoilt_s4t0 : S := (.ret (.tup .nil))
noncomputable def f_law_spoilt_s4 : S := (.ife (.cmp (.v 1) .eq (.k (.int 16))) (.cons f_law_spoilt_s4t0 .nil) .nil)
noncomputable def f_law_spoilt_s5 : S := (.asg 5 (.bin .sub (.k (.int 21)) (.b1 .len (.v 0))))
noncomputable def f_law_spoilt_c0 : X := (.comp true 1 [none, none, none] (.tup (.cons (.bin .add (.k (.str "zzzzzz")) (.b1 .str (.v 1))) (.cons (.tup (.cons (.k (.str "sum")) .nil)) (.cons (.tup (.cons (.k (.str "a")) .nil)) (.cons (.tup (.cons (.bin .add (.k (.str "yyyyyy")) (.b1 .str (.v 1))) .nil)) .nil))))) (.k (.bool true)) (.range1 (.v 5)))
noncomputable def f_law_spoilt_s6 : S := (.asg 6 f_law_spoilt_c0)
noncomputable def f_law_spoilt_s7 : S := (.ret (.bin .add (.v 0) (.b1 .tuple (.v 6))))
/-- _law_plan_here _law_way _law_cell _law_k _law_spot _law_many _law_more len _law_step range tuple -/
noncomputable def f_law_spoilt : Fn := ⟨3, 11, (.cons f_law_spoilt_s0 (.cons f_law_spoilt_s1 (.cons f_law_spoilt_s2 (.cons f_law_spoilt_s3 (.cons f_law_spoilt_s4 (.cons f_law_spoilt_s5 (.cons f_law_spoilt_s6 (.cons f_law_spoilt_s7 .nil))))))))⟩
noncomputable def f_law_made_s0y0 : S := (.expr (.new 320 i_Board___init__ (.cons (.v 0) (.cons (.v 1) .nil))))
noncomputable def f_law_made_s0h0 : S := (.ret (.call i_law_word (.cons (.v 2) .nil)))
noncomputable def f_law_made_s0 : S := (.tryE (.cons f_law_made_s0y0 .nil) [89, 102, 114, 126, 138, 150, 162, 174, 186, 198, 210] 2 (.cons f_law_made_s0h0 .nil))
noncomputable def f_law_made_s1 : S := (.ret (.k (.str "")))
/-- _law_plan_here _law_turns _law_e Board FireError _law_word -/
noncomputable def f_law_made : Fn := ⟨2, 6, (.cons f_law_made_s0 (.cons f_law_made_s1 .nil))⟩
noncomputable def f_law_s0 : S := (.asg 1 (.call i_law_plan (.cons (.v 0) (.cons (.k (.int 0)) .nil))))
noncomputable def f_law_s1 : S := (.asg 2 (.bin .mod (.call i_law_cell_at (.cons (.v 0) (.cons (.k (.int 12)) .nil))) (.k (.int 30))))
noncomputable def f_law_s2 : S := (.asg 3 (.cmp (.v 2) .gt (.k (.int 17))))
noncomputable def f_law_s3t0 : S := (.asg 1 (.call i_law_spoilt (.cons (.v 1) (.cons (.v 2) (.cons (.call i_law_cell_at (.cons (.v 0) (.cons (.k (.int 13)) .nil))) .nil)))))
noncomputable def f_law_s3e0t0 : S := (.asg 4 (.bin .sub (.k (.int 20)) (.b1 .len (.v 1))))
noncomputable def f_law_c0 : X := (.comp true 1 [none, none, none] (.tup (.cons (.bin .add (.k (.str "zzzzzz")) (.b1 .str (.v 1))) (.cons (.tup (.cons (.k (.str "most")) .nil)) (.cons (.bin .mul (.tup (.cons (.k (.str "a")) .nil)) (.k (.int 4))) (.cons (.tup (.cons (.bin .add (.k (.str "yyyyyy")) (.b1 .str (.v 1))) .nil)) .nil))))) (.k (.bool true)) (.range1 (.v 4)))
noncomputable def f_law_s3e0t1 : S := (.asg 5 f_law_c0)
noncomputable def f_law_s3e0t2 : S := (.asg 1 (.bin .add (.v 1) (.b1 .tuple (.v 5))))
noncomputable def f_law_s3e0 : S := (.ife (.cmp (.v 2) .eq (.k (.int 18))) (.cons f_law_s3e0t0 (.cons f_law_s3e0t1 (.cons f_law_s3e0t2 .nil))) .nil)
noncomputable def f_law_s3 : S := (.ife (.not (.v 3)) (.cons f_law_s3t0 .nil) (.cons f_law_s3e0 .nil))
noncomputable def f_law_s4 : S := (.asg 6 (.sub (.lst true (.cons (.k (.int 1)) (.cons (.k (.int 200)) (.cons (.k (.int 0)) (.cons (.k (.int 201)) (.cons (.neg (.k (.int 1))) (.cons (.k (.bool true)) (.cons (.k .none) (.cons (.k (.str "3")) (.cons (.k (.int 7)) (.cons (.k (.int 150)) .nil))))))))))) (.bin .mod (.call i_law_cell_at (.cons (.v 0) (.cons (.k (.int 14)) .nil))) (.k (.int 10)))))
noncomputable def f_law_s5 : S := (.asg 7 (.k (.str "")))
noncomputable def f_law_s6t0 : S := (.asg 7 (.k (.str "NoPlan")))
noncomputable def f_law_s6e0t0 : S := (.asg 7 (.k (.str "NoTurn")))
noncomputable def f_law_s6e0 : S := (.ife (.or (.cons (.isinst (.v 6) .bool) (.cons (.not (.isinst (.v 6) .int)) (.cons (.not (.cmp2 (.k (.int 1)) .le (.v 6) .le (.k (.int 200)))) .nil)))) (.cons f_law_s6e0t0 .nil) .nil)
noncomputable def f_law_s6 : S := (.ife (.not (.v 3)) (.cons f_law_s6t0 .nil) (.cons f_law_s6e0 .nil))
noncomputable def f_law_s7b0 : S := (.asg 9 (.call i_is_plan (.cons (.v 1) .nil)))
noncomputable def f_law_s7b1t0 : S := (.ret (.k (.bool false)))
noncomputable def f_law_s7b1 : S := (.ife (.or (.cons (.not (.isinst (.v 9) .bool)) (.cons (.cmp (.v 9) .ne (.v 3)) (.cons (.cmp (.call i_law_made (.cons (.v 1) (.cons (.v 6) .nil))) .ne (.v 7)) .nil)))) (.cons f_law_s7b1t0 .nil) .nil)
noncomputable def f_law_s7b2t0 : S := (.ret (.k (.bool false)))
noncomputable def f_law_s7b2 : S := (.ife (.cmp (.call i_is_plan (.cons (.tup (.cons (.tup (.cons (.k (.str "a")) (.cons (.tup (.cons (.k (.str "sum")) .nil)) (.cons (.tup (.cons (.k (.str "a")) .nil)) (.cons (.tup (.cons (.k (.str "a")) .nil)) .nil))))) .nil)) .nil)) .isNot (.k (.bool true))) (.cons f_law_s7b2t0 .nil) .nil)
noncomputable def f_law_s7b3t0 : S := (.ret (.k (.bool false)))
noncomputable def f_law_s7b3 : S := (.ife (.cmp (.call i_is_plan (.cons (.tup (.cons (.tup (.cons (.k (.str "a")) (.cons (.tup (.cons (.k (.str "sum")) .nil)) (.cons (.tup (.cons (.k (.str "a")) .nil)) (.cons (.tup .nil) .nil))))) .nil)) .nil)) .isNot (.k (.bool false))) (.cons f_law_s7b3t0 .nil) .nil)
noncomputable def f_law_s7b : S := (.cons f_law_s7b0 (.cons f_law_s7b1 (.cons f_law_s7b2 (.cons f_law_s7b3 .nil))))
noncomputable def f_law_s7 : S := (.for1 8 (.range1 (.k (.int 2))) f_law_s7b)
noncomputable def f_law_s8t0 : S := (.ret (.k (.bool true)))
noncomputable def f_law_s8 : S := (.ife (.not (.v 3)) (.cons f_law_s8t0 .nil) .nil)
noncomputable def f_law_s9 : S := (.asg 10 (.call i_law_outside (.cons (.v 1) .nil)))
noncomputable def f_law_s10 : S := (.asg 9 (.call i_outside (.cons (.v 1) .nil)))
noncomputable def f_law_s11t0 : S := (.ret (.k (.bool false)))
noncomputable def f_law_s11 : S := (.ife (.or (.cons (.not (.isinst (.v 9) .list)) (.cons (.cmp (.v 9) .ne (.v 10)) .nil))) (.cons f_law_s11t0 .nil) .nil)
noncomputable def f_law_s12 : S := (.expr (.me .append (.v 9) (.cons (.k (.str "x")) .nil)))
noncomputable def f_law_s13 : S := (.ret (.cmp (.call i_outside (.cons (.v 1) .nil)) .eq (.v 10)))
/-- _law_script _law_plan_here _law_way _law_good _law_many _law_more _law_turns _law_due _law_turn _law_told _law_alone _law_plan _law_cell_at _law_spoilt len range tuple isinstance bool int is_plan _law_made _law_outside outside list -/
noncomputable def f_law : Fn := ⟨1, 25, (.cons f_law_s0 (.cons f_law_s1 (.cons f_law_s2 (.cons f_law_s3 (.cons f_law_s4 (.cons f_law_s5 (.cons f_law_s6 (.cons f_law_s7 (.cons f_law_s8 (.cons f_law_s9 (.cons f_law_s10 (.cons f_law_s11 (.cons f_law_s12 (.cons f_law_s13 .nil))))))))))))))⟩
noncomputable def f_Board___init___s0t0 : S := (.raise 102)
noncomputable def f_Board___init___s0 : S := (.ife (.not (.call i_is_plan (.cons (.v 1) .nil))) (.cons f_Board___init___s0t0 .nil) .nil)
noncomputable def f_Board___init___s1t0 : S := (.raise 114)
noncomputable def f_Board___init___s1 : S := (.ife (.not (.call i_is_between (.cons (.v 2) (.cons (.k (.int 1)) (.cons (.k (.int 200)) .nil))))) (.cons f_Board___init___s1t0 .nil) .nil)
noncomputable def f_Board___init___s2 : S := (.asgAttr 320 (.v 0) "plan" (.v 1))
noncomputable def f_Board___init___s3 : S := (.asgAttr 320 (.v 0) "turns" (.v 2))
noncomputable def f_Board___init___s4 : S := (.asgAttr 320 (.v 0) "givers" (.call i_givers_of (.cons (.v 1) .nil)))
noncomputable def f_Board___init___s5 : S := (.asgAttr 320 (.v 0) "outer" (.call i_outside (.cons (.v 1) .nil)))
noncomputable def f_Board___init___s6 : S := (.asgAttr 320 (.v 0) "here" (.dnew true))
noncomputable def f_Board___init___s7 : S := (.asgAttr 320 (.v 0) "gone" (.dnew true))
noncomputable def f_Board___init___s8 : S := (.asgAttr 320 (.v 0) "order" (.lst false .nil))
/-- self plan turns is_plan NoPlan is_between MOST_TURNS NoTurn givers_of outside -/
noncomputable def f_Board___init__ : Fn := ⟨3, 10, (.cons f_Board___init___s0 (.cons f_Board___init___s1 (.cons f_Board___init___s2 (.cons f_Board___init___s3 (.cons f_Board___init___s4 (.cons f_Board___init___s5 (.cons f_Board___init___s6 (.cons f_Board___init___s7 (.cons f_Board___init___s8 .nil)))))))))⟩
noncomputable def PP : Prg := ⟨[f_is_value, f_is_name, f_are_names, f_are_unlike, f_is_rule, f_is_step, f_is_plan, f_givers_of, f_outside, f_is_between, f_law_cell_at, f_law_next, f_law_names, f_law_value, f_law_rule, f_law_plan, f_law_word, f_law_outside, f_law_bad_name, f_law_step, f_law_spoilt, f_law_made, f_law, f_Board___init__]⟩
/-- fuel for the top -/
noncomputable def topN : Nat := 4000
end Mine

namespace Mine
open PySem

/-! plain facts of the interpreter -/
noncomputable def finS : OutS → Out PV
  | .next _ σ => .ok .none σ
  | .ret v _ σ => .ok v σ
  | .exc i _ σ => .exc i σ
  | _ => .stuck
section
variable {α β : Type} {σ : Sto} {ρ : Loc} {C : Cfg} {n : Nat}
theorem bind_ok {a : α} {f : α → Sto → Out β} : (Out.ok a σ).bind f = f a σ := rfl
theorem ifF {a b : α} : (if false = true then a else b) = b := rfl
theorem eq_str {a b : Str} : cmpop .eq (.str a) (.str b) σ = .ok (a == b) σ := rfl
theorem ne_str {a b : Str} : cmpop .ne (.str a) (.str b) σ = .ok (!(a == b)) σ := rfl
theorem eq_int {a b : Int} : cmpop .eq (.int a) (.int b) σ = .ok (a == b) σ := rfl
theorem lt_int {a b : Int} : cmpop .lt (.int a) (.int b) σ = .ok (decide (a < b)) σ := rfl
theorem le_int {a b : Int} : cmpop .le (.int a) (.int b) σ = .ok (decide (a ≤ b)) σ := rfl
theorem gt_int {a b : Int} : cmpop .gt (.int a) (.int b) σ = .ok (decide (a > b)) σ := rfl
theorem add_int {a b : Int} : binop .add (.int a) (.int b) σ = .ok (.int (a + b)) σ := rfl
theorem sub_int {a b : Int} : binop .sub (.int a) (.int b) σ = .ok (.int (a - b)) σ := rfl
theorem mul_int {a b : Int} (h : a.natAbs < 2 ^ 60 ∨ b.natAbs < 2 ^ 60) : binop .mul (.int a) (.int b) σ = .ok (.int (a * b)) σ := by
  show (if mulOk a b = true then Out.ok (PV.int (a * b)) σ else .stuck) = _
  exact if_pos (decide_eq_true h)
theorem mod_int {a b : Int} (h : 0 < b) : binop .mod (.int a) (.int b) σ = .ok (.int (a % b)) σ := by
  have e : a.fmod b = a % b := Int.fmod_eq_emod_of_nonneg _ (Int.le_of_lt h)
  show (if b = 0 then Out.stuck else .ok (PV.int (a.fmod b)) σ) = _
  rw [if_neg (Int.ne_of_gt h), e]
theorem fdiv_int {a b : Int} (h : 0 < b) (h2 : b < 1073741824) : binop .fdiv (.int a) (.int b) σ = .ok (.int (a / b)) σ := by
  have e : a.fdiv b = a / b := Int.fdiv_eq_ediv_of_nonneg _ (Int.le_of_lt h)
  have : b ≠ 0 ∧ b.natAbs < 1073741824 := ⟨Int.ne_of_gt h, by omega⟩
  show (if b ≠ 0 ∧ b.natAbs < 1073741824 then Out.ok (PV.int (a.fdiv b)) σ else .stuck) = _
  rw [if_pos this, e]
theorem add_str {a b : Str} (h : a.length + b.length ≤ lim) : binop .add (.str a) (.str b) σ = .ok (.str (a ++ b)) σ := by
  show (if a.length + b.length ≤ lim then Out.ok (PV.str (a ++ b)) σ else .stuck) = _
  exact if_pos h
theorem onSeq_some {f : List PV → Out PV} {a : PV} {xs : List PV} (h : seqItems σ a = some xs) : onSeq f a σ = f xs := by unfold onSeq; rw [h]
theorem onAll_some {γ : Type} {g : List PV → Option γ} {f : γ → Out PV} {a : PV} {l : γ} (h : (asLst σ a).bind g = some l) : onAll g f a σ = f l := by unfold onAll; rw [h]
theorem len_str {s : Str} (h : s.length ≤ lim) : b1v .len (.str s) σ = .ok (.int s.length) σ := by
  show (if s.length ≤ lim then Out.ok (PV.int s.length) σ else .stuck) = _
  exact if_pos h
theorem len_tup {xs : List PV} (h : xs.length ≤ lim) : b1v .len (.tup xs) σ = .ok (.int xs.length) σ := by
  show (if xs.length ≤ lim then Out.ok (PV.int xs.length) σ else .stuck) = _
  exact if_pos h
theorem len_fl {xs : List PV} (h : xs.length ≤ lim) : b1v .len (.fl xs) σ = .ok (.int xs.length) σ := by
  show (if xs.length ≤ lim then Out.ok (PV.int xs.length) σ else .stuck) = _
  exact if_pos h
theorem tuple_fl {xs : List PV} (h : xs.length ≤ lim) : b1v .tuple (.fl xs) σ = .ok (.tup xs) σ := by
  show (if xs.length ≤ lim then Out.ok (PV.tup xs) σ else .stuck) = _
  exact if_pos h
theorem int_bool {b : Bool} : b1v .int (.bool b) σ = .ok (.int (if b then 1 else 0)) σ := rfl
theorem mk_fl {xs : List PV} (h : xs.length ≤ lim) : mkLst true xs σ = .ok (.fl xs) σ := if_pos h
theorem mk_ref {xs : List PV} (h : xs.length ≤ lim) : mkLst false xs σ = .ok (.ref σ.length) (σ ++ [.lst xs]) := if_pos h
theorem idx_int {i : Int} {m : Nat} (h0 : 0 ≤ i) (h : i.toNat < m) : seqIdx i m = some i.toNat := by
  unfold seqIdx
  rw [if_pos h0, if_pos h]
theorem sub_fl {xs : List PV} {i : Int} {x : PV} (hl : xs.length ≤ lim) (h0 : 0 ≤ i) (h : xs[i.toNat]? = some x) : subv (.fl xs) (.int i) σ = .ok x σ := by
  have hi := (List.getElem?_eq_some_iff.mp h).1
  show (if xs.length ≤ lim then Out.ofOpt ((seqIdx i xs.length).bind (xs[·]?)) σ else .stuck) = _
  rw [if_pos hl, idx_int h0 hi]
  show Out.ofOpt xs[i.toNat]? σ = _
  rw [h]; rfl
theorem sub_tup {xs : List PV} {i : Int} {x : PV} (hl : xs.length ≤ lim) (h0 : 0 ≤ i) (h : xs[i.toNat]? = some x) : subv (.tup xs) (.int i) σ = .ok x σ := by
  have hi := (List.getElem?_eq_some_iff.mp h).1
  show (if xs.length ≤ lim then Out.ofOpt ((seqIdx i xs.length).bind (xs[·]?)) σ else .stuck) = _
  rw [if_pos hl, idx_int h0 hi]
  show Out.ofOpt xs[i.toNat]? σ = _
  rw [h]; rfl
theorem sub_ref {xs : List PV} {r : Nat} {i : Int} {x : PV} (hr : σ[r]? = some (.lst xs)) (hl : xs.length ≤ lim) (h0 : 0 ≤ i) (h : xs[i.toNat]? = some x) : subv (.ref r) (.int i) σ = .ok x σ := by
  have hi := (List.getElem?_eq_some_iff.mp h).1
  have e : asLst σ (.ref r) = some xs := by unfold asLst; dsimp only; rw [hr]
  show (match asLst σ (.ref r) with
    | some xs => itemAt xs i σ
    | none => .stuck) = _
  rw [e]
  show (if xs.length ≤ lim then Out.ofOpt ((seqIdx i xs.length).bind (xs[·]?)) σ else .stuck) = _
  rw [if_pos hl, idx_int h0 hi]
  show Out.ofOpt xs[i.toNat]? σ = _
  rw [h]; rfl
theorem sub_str {s : Str} {i : Int} {c : Nat} (hl : s.cps.size ≤ lim) (h0 : 0 ≤ i) (h : s.cps.toList[i.toNat]? = some c) : subv (.str s) (.int i) σ = .ok (.str ⟨#[c]⟩) σ := by
  have hi := (List.getElem?_eq_some_iff.mp h).1
  have h' : s.cps[i.toNat]? = some c := by rw [← Array.getElem?_toList]; exact h
  show (if s.cps.size ≤ lim then (match (seqIdx i s.cps.size).bind (s.cps[·]?) with
      | some c => Out.ok (PV.str ⟨#[c]⟩) σ
      | none => .stuck)
    else .stuck) = _
  rw [if_pos hl, idx_int h0 (by simpa using hi)]
  show (match s.cps[i.toNat]? with
      | some c => Out.ok (PV.str ⟨#[c]⟩) σ
      | none => .stuck) = _
  rw [h']
theorem all0 {P : Nat → Prop} : ∀ k, k < 0 → P k := fun _ h => absurd h (Nat.not_lt_zero _)
theorem allS {P : Nat → Prop} {n : Nat} (h : ∀ k, k < n → P k) (q : P n) : ∀ k, k < n + 1 → P k := fun k hk => (Nat.lt_succ_iff_lt_or_eq.mp hk).elim (h k) fun e => e ▸ q
theorem int_lt {P : Int → Prop} {n : Nat} (h : ∀ k : Nat, k < n → P k) {w : Int} (h0 : 0 ≤ w) (h1 : w < n) : P w := by
  obtain ⟨k, rfl⟩ := Int.eq_ofNat_of_zero_le h0
  exact h k (Int.ofNat_lt.mp h1)
theorem toNat_lt' {w : Int} {n : Nat} (h0 : 0 ≤ w) (h1 : w < n) : w.toNat < n := int_lt (P := fun w => w.toNat < n) (fun _ h => h) h0 h1
theorem add_mod' {a : Int} {k N : Nat} (hN : N ≠ 0) : ((a + k) % N).toNat = ((a % N).toNat + k) % N := by
  have hz : (N : Int) ≠ 0 := Int.ofNat_ne_zero.mpr hN
  rw [← Int.emod_add_emod]
  obtain ⟨m, hm⟩ := Int.eq_ofNat_of_zero_le (Int.emod_nonneg a hz)
  rw [hm, Int.toNat_natCast, ← Int.natCast_add, ← Int.natCast_emod, Int.toNat_natCast]
theorem lim_val : lim = 1000000 := rfl

theorem compGo_map {f : PV → Sto → Out (Option PV)} {g : PV → PV} : ∀ (xs : List PV), (∀ x ∈ xs, f x σ = .ok (some (g x)) σ) → compGo none f xs σ = .ok (xs.map g) σ
  | [], _ => if_pos trivial
  | x :: xs, h => by
    refine (if_pos trivial).trans ?_
    rw [h x List.mem_cons_self]
    show (compGo none f xs σ).bind _ = _
    rw [compGo_map xs fun y hy => h y (List.mem_cons_of_mem _ hy)]
    rfl
/-- a comprehension without a test, over what stays -/
theorem comp_map {t : Nat} {cap : List (Option Nat)} {elt it : X} {xs : List PV} (g : PV → PV) (hit : evIt C it ρ σ = .ok (xs, none) σ) (hl : xs.length ≤ lim)
    (h : ∀ x ∈ xs, ev C elt ((capLoc cap ρ).set t (some x)) σ = .ok (g x) σ) (hh : C.hd = false := by first | rfl | assumption) : ev C (.comp true t cap elt (.k (.bool true)) it) ρ σ = .ok (.fl (xs.map g)) σ := by
  rw [ev_comp, hh, hit]
  show compFin _ (compGo none (fun x σ => ((Out.ok true σ).bind fun b σ => if b = true then (ev C elt ((capLoc cap ρ).set t (some x)) σ).bind fun v σ => .ok (some v) σ else .ok none σ)) xs σ) _ = _
  rw [compGo_map (g := g) xs fun x hx => by
    show (ev C elt ((capLoc cap ρ).set t (some x)) σ).bind _ = _
    rw [h x hx]; rfl]
  exact mk_fl (by simpa using hl)

/-! evaluation, step by step -/
section
variable {a b c r : X} {σ₁ σ₂ σ₃ : Sto} {x y z : PV}
theorem e_bin {o : Op} {v : Out PV} (ha : ev C a ρ σ = .ok x σ₁) (hb : ev C b ρ σ₁ = .ok y σ₂) (h : binop o x y σ₂ = v) : ev C (.bin o a b) ρ σ = v := by
  rw [ev_bin, ha, bind_ok, hb, bind_ok, h]
theorem e_sub {v : Out PV} (ha : ev C a ρ σ = .ok x σ₁) (hb : ev C b ρ σ₁ = .ok y σ₂) (h : subv x y σ₂ = v) : ev C (.sub a b) ρ σ = v := by
  rw [ev_sub, ha, bind_ok, hb, bind_ok, h]
theorem e_slice {v : Out PV} (ha : ev C a ρ σ = .ok x σ₁) (hb : ev C b ρ σ₁ = .ok y σ₂) (hc : ev C c ρ σ₂ = .ok z σ₃) (h : slicev x y z σ₃ = v) : ev C (.slice a b c) ρ σ = v := by
  rw [ev_slice, ha, bind_ok, hb, bind_ok, hc, bind_ok, h]
theorem b1g_f {k : B1} : b1g false k x σ = b1v k x σ := rfl
theorem e_b1 {k : B1} {v : Out PV} (ha : ev C a ρ σ = .ok x σ₁) (h : b1v k x σ₁ = v) (hh : C.hd = false := by first | rfl | assumption) : ev C (.b1 k a) ρ σ = v := by
  rw [ev_b1, ha, bind_ok, hh, b1g_f, h]
theorem e_min2 {v : Out PV} (ha : ev C a ρ σ = .ok x σ₁) (hb : ev C b ρ σ₁ = .ok y σ₂) (h : min2v x y σ₂ = v) (hh : C.hd = false := by first | rfl | assumption) : ev C (.min2 a b) ρ σ = v := by
  rw [ev_min2, hh]
  show (ev C a ρ σ).bind _ = _
  rw [ha, bind_ok, hb, bind_ok, h]
theorem e_call1 {f : Nat} {v : Out PV} (ha : ev C a ρ σ = .ok x σ₁) (h : C.call f [x] σ₁ = v) : ev C (.call f (.cons a .nil)) ρ σ = v := by
  rw [ev_call, evs_cons, ha, bind_ok, evs_nil]; exact h
theorem e_call2 {f : Nat} {v : Out PV} (ha : ev C a ρ σ = .ok x σ₁) (hb : ev C b ρ σ₁ = .ok y σ₂) (h : C.call f [x, y] σ₂ = v) : ev C (.call f (.cons a (.cons b .nil))) ρ σ = v := by
  rw [ev_call, evs_cons, ha, bind_ok, evs_cons, hb, bind_ok, evs_nil]; exact h
theorem e_call3 {f : Nat} {v : Out PV} (ha : ev C a ρ σ = .ok x σ₁) (hb : ev C b ρ σ₁ = .ok y σ₂) (hc : ev C c ρ σ₂ = .ok z σ₃) (h : C.call f [x, y, z] σ₃ = v) : ev C (.call f (.cons a (.cons b (.cons c .nil)))) ρ σ = v := by
  rw [ev_call, evs_cons, ha, bind_ok, evs_cons, hb, bind_ok, evs_cons, hc, bind_ok, evs_nil]; exact h
theorem e_me {m : Me} {v : Out PV} (ha : ev C a ρ σ = .ok x σ₁) (hm : meOk m x σ₁ = true) (hb : ev C b ρ σ₁ = .ok y σ₂) (h : mev m x [y] σ₂ = v) : ev C (.me m a (.cons b .nil)) ρ σ = v := by
  rw [ev_me, ha, bind_ok, if_pos hm, evs_cons, hb, bind_ok, evs_nil]; exact h
theorem e_isinst {t : Ty} {q : Bool} (ha : ev C a ρ σ = .ok x σ₁) (h : isinstv x t σ₁ = .ok q σ₁) : ev C (.isinst a t) ρ σ = .ok (.bool q) σ₁ := by
  rw [ev_isinst, ha, bind_ok, h]; rfl
theorem e_cmp {o : Cm} {q : Bool} (ha : ev C a ρ σ = .ok x σ₁) (hb : ev C b ρ σ₁ = .ok y σ₂) (h : cmpop o x y σ₂ = .ok q σ₃) : ev C (.cmp a o b) ρ σ = .ok (.bool q) σ₃ := by
  rw [ev_cmp, ha, bind_ok, hb, bind_ok, h]; rfl
theorem e_and {xs : X} {v : Out PV} (h : evAnd C xs ρ σ = v) : ev C (.and xs) ρ σ = v := h
theorem e_and_1 {v : Out PV} (h : ev C a ρ σ = v) : evAnd C (.cons a .nil) ρ σ = v := h
theorem t_and {xs : X} {v : Out Bool} (h : tstAnd C xs ρ σ = v) : tst C (.and xs) ρ σ = v := h
theorem t_or {xs : X} {v : Out Bool} (h : tstOr C xs ρ σ = v) : tst C (.or xs) ρ σ = v := h
theorem e_and_t {v : Out PV} (ha : ev C a ρ σ = .ok (.bool true) σ₁) (hb : evAnd C (.cons b r) ρ σ₁ = v) : evAnd C (.cons a (.cons b r)) ρ σ = v := by
  rw [evAnd_cons, ha]; exact hb
theorem t_cmp {o : Cm} {v : Out Bool} (ha : ev C a ρ σ = .ok x σ₁) (hb : ev C b ρ σ₁ = .ok y σ₂) (h : cmpop o x y σ₂ = v) : tst C (.cmp a o b) ρ σ = v := by
  rw [tst_cmp, ha, bind_ok, hb, bind_ok, h]
theorem t_not {q : Bool} (ha : tst C a ρ σ = .ok q σ₁) : tst C (.not a) ρ σ = .ok (!q) σ₁ := by
  rw [tst_not, ha]; rfl
theorem t_call {f : Nat} {args : X} {q : Bool} (h : ev C (.call f args) ρ σ = .ok (.bool q) σ₁) : tst C (.call f args) ρ σ = .ok q σ₁ := by
  rw [tst_call, h]; rfl
theorem t_b1 {k : B1} {q : Bool} (h : ev C (.b1 k a) ρ σ = .ok (.bool q) σ₁) : tst C (.b1 k a) ρ σ = .ok q σ₁ := by
  rw [tst_b1, h]; rfl
theorem t_isinst {t : Ty} {q : Bool} (h : ev C (.isinst a t) ρ σ = .ok (.bool q) σ₁) : tst C (.isinst a t) ρ σ = .ok q σ₁ := by
  rw [tst_isinst, h]; rfl
theorem t_or_f {v : Out Bool} (ha : tst C a ρ σ = .ok false σ₁) (h : tstOr C r ρ σ₁ = v) : tstOr C (.cons a r) ρ σ = v := by
  rw [tstOr_cons, ha]; exact h
theorem t_or_t (ha : tst C a ρ σ = .ok true σ₁) : tstOr C (.cons a r) ρ σ = .ok true σ₁ := by
  rw [tstOr_cons, ha]; rfl
theorem t_or_c {q p : Bool} (ha : tst C a ρ σ = .ok q σ₁) (h : q = false → tstOr C r ρ σ₁ = .ok p σ₁) : tstOr C (.cons a r) ρ σ = .ok (q || p) σ₁ := by
  rw [tstOr_cons, ha, bind_ok]
  cases q
  · exact h rfl
  · rfl
theorem t_or_1 {q : Bool} (ha : tst C a ρ σ = .ok q σ₁) : tstOr C (.cons a .nil) ρ σ = .ok q σ₁ := by
  rw [tstOr_cons, ha, bind_ok]
  cases q <;> rfl
theorem t_and_c {q p : Bool} (ha : tst C a ρ σ = .ok q σ₁) (h : q = true → tstAnd C r ρ σ₁ = .ok p σ₁) : tstAnd C (.cons a r) ρ σ = .ok (q && p) σ₁ := by
  rw [tstAnd_cons, ha, bind_ok]
  cases q
  · rfl
  · exact h rfl
theorem t_and_1 {q : Bool} (ha : tst C a ρ σ = .ok q σ₁) : tstAnd C (.cons a .nil) ρ σ = .ok q σ₁ := by
  rw [tstAnd_cons, ha, bind_ok]
  cases q <;> rfl
theorem e_and_c {q p : Bool} (ha : ev C a ρ σ = .ok (.bool q) σ₁) (h : q = true → evAnd C (.cons b r) ρ σ₁ = .ok (.bool p) σ₁) : evAnd C (.cons a (.cons b r)) ρ σ = .ok (.bool (q && p)) σ₁ := by
  rw [evAnd_cons, ha]
  cases q
  · rfl
  · exact h rfl
theorem e_between_c {i j k : Int} (ha : ev C a ρ σ = .ok (.int i) σ) (hb : ev C b ρ σ = .ok (.int j) σ) (hc : ev C c ρ σ = .ok (.int k) σ) : ev C (.cmp2 a .le b .le c) ρ σ = .ok (.bool (decide (i ≤ j) && decide (j ≤ k))) σ := by
  rw [ev_cmp2, ha, bind_ok, hb, bind_ok, le_int, bind_ok]
  cases decide (i ≤ j)
  · rfl
  · rw [if_pos rfl, hc, bind_ok, le_int]; rfl
theorem t_between_c {i j k : Int} (ha : ev C a ρ σ = .ok (.int i) σ) (hb : ev C b ρ σ = .ok (.int j) σ) (hc : ev C c ρ σ = .ok (.int k) σ) : tst C (.cmp2 a .le b .le c) ρ σ = .ok (decide (i ≤ j) && decide (j ≤ k)) σ := by
  rw [tst_cmp2, ha, bind_ok, hb, bind_ok, le_int, bind_ok]
  cases decide (i ≤ j)
  · rfl
  · rw [if_pos rfl, hc, bind_ok, le_int]; rfl
theorem s_cons {vs : List PV} (ha : ev C a ρ σ = .ok x σ₁) (h : evs C r ρ σ₁ = .ok vs σ₂) : evs C (.cons a r) ρ σ = .ok (x :: vs) σ₂ := by
  rw [evs_cons, ha, bind_ok, h]; rfl
theorem e_tup {xs : X} {vs : List PV} (h : evs C xs ρ σ = .ok vs σ₁) (hl : vs.length ≤ lim) : ev C (.tup xs) ρ σ = .ok (.tup vs) σ₁ := by
  rw [ev_tup, h, bind_ok, if_pos hl]
theorem e_fl {xs : X} {vs : List PV} (h : evs C xs ρ σ = .ok vs σ₁) (hl : vs.length ≤ lim) : ev C (.lst true xs) ρ σ = .ok (.fl vs) σ₁ := by
  rw [ev_lst, h, bind_ok, mk_fl hl]
theorem e_fdget {ks : List Str} {vals : List PV} {k : Str} (ha : ev C a ρ σ = .ok (.str k) σ₁) (hb : ev C b ρ σ₁ = .ok y σ₂) : ev C (.fdget ks vals a b) ρ σ = .ok ((sget k (ks.zip vals)).getD y) σ₂ := by
  rw [ev_fdget, ha, bind_ok, hb, bind_ok]; rfl
end

theorem ex_next {a r : S} {ρ' : Loc} {σ' : Sto} (h : ex C n a ρ σ = .next ρ' σ') : ex C n (.cons a r) ρ σ = ex C n r ρ' σ' := by
  show (match ex C n a ρ σ with | .next ρ σ => ex C n r ρ σ | o => o) = _
  rw [h]
theorem ex_ret {a r : S} {v : PV} {ρ' : Loc} {σ' : Sto} (h : ex C n a ρ σ = .ret v ρ' σ') : ex C n (.cons a r) ρ σ = .ret v ρ' σ' := by
  show (match ex C n a ρ σ with | .next ρ σ => ex C n r ρ σ | o => o) = _
  rw [h]
theorem ex_brk {a r : S} {ρ' : Loc} {σ' : Sto} (h : ex C n a ρ σ = .brk ρ' σ') : ex C n (.cons a r) ρ σ = .brk ρ' σ' := by
  show (match ex C n a ρ σ with | .next ρ σ => ex C n r ρ σ | o => o) = _
  rw [h]
theorem ex_asg {i : Nat} {x : X} {v : PV} {σ' : Sto} (h : ev C x ρ σ = .ok v σ') : ex C n (.asg i x) ρ σ = .next (ρ.set i (some v)) σ' := by
  show (ev C x ρ σ).toS ρ _ = _
  rw [h]; rfl
theorem ex_ret_ {x : X} {v : PV} {σ' : Sto} (h : ev C x ρ σ = .ok v σ') : ex C n (.ret x) ρ σ = .ret v ρ σ' := by
  show (ev C x ρ σ).toS ρ _ = _
  rw [h]; rfl
theorem ex_exprV {x : X} {v : PV} {σ' : Sto} (h : ev C x ρ σ = .ok v σ') : ex C n (.expr x) ρ σ = .next ρ σ' := by
  show (ev C x ρ σ).toS ρ _ = _
  rw [h]; rfl
theorem ex_expr {x : X} {σ' : Sto} (h : ev C x ρ σ = .ok .none σ') : ex C n (.expr x) ρ σ = .next ρ σ' := by
  show (ev C x ρ σ).toS ρ _ = _
  rw [h]; rfl
theorem ex_ifT {c : X} {a b : S} {σ' : Sto} (h : tst C c ρ σ = .ok true σ') : ex C n (.ife c a b) ρ σ = ex C n a ρ σ' := by
  show (tst C c ρ σ).toS ρ _ = _
  rw [h]; rfl
theorem ex_ifF {c : X} {a b : S} {σ' : Sto} (h : tst C c ρ σ = .ok false σ') : ex C n (.ife c a b) ρ σ = ex C n b ρ σ' := by
  show (tst C c ρ σ).toS ρ _ = _
  rw [h]; rfl
theorem ex_nil : ex C n .nil ρ σ = .next ρ σ := rfl
theorem ex_tryE {b h : S} {sup : List Nat} {i : Nat} {o : OutS} (e : ex C n b ρ σ = o) (ho : ∀ c ρ σ, o ≠ .exc c ρ σ) : ex C n (.tryE b sup i h) ρ σ = o := by
  show (match ex C n b ρ σ with
    | .exc c ρ σ => bif C.hd then OutS.stuck else if sup.contains c ∧ i < ρ.length then clearS (ex C.inH n h (ρ.set i (some (.exc c))) σ) else .stuck
    | o => o) = _
  rw [e]
  cases o <;> first | rfl | exact absurd rfl (ho _ _ _)
theorem ex_tryX {b h : S} {sup : List Nat} {i c : Nat} {ρ' : Loc} {σ' : Sto} (e : ex C n b ρ σ = .exc c ρ' σ') (hc : sup.contains c = true) (hi : i < ρ'.length) (hh : C.hd = false := by first | rfl | assumption) :
    ex C n (.tryE b sup i h) ρ σ = clearS (ex C.inH n h (ρ'.set i (some (.exc c))) σ') := by
  show (match ex C n b ρ σ with
    | .exc c ρ σ => bif C.hd then OutS.stuck else if sup.contains c ∧ i < ρ.length then clearS (ex C.inH n h (ρ.set i (some (.exc c))) σ) else .stuck
    | o => o) = _
  rw [e, hh]
  exact if_pos ⟨hc, hi⟩
theorem ex_exc {a r : S} {c : Nat} {ρ' : Loc} {σ' : Sto} (h : ex C n a ρ σ = .exc c ρ' σ') : ex C n (.cons a r) ρ σ = .exc c ρ' σ' := by
  show (match ex C n a ρ σ with | .next ρ σ => ex C n r ρ σ | o => o) = _
  rw [h]
theorem ex_raise {c : Nat} (hh : C.hd = false := by first | rfl | assumption) : ex C n (.raise c) ρ σ = .exc c ρ σ := by
  show (bif C.hd then OutS.stuck else .exc c ρ σ) = _
  rw [hh]; rfl
section
variable {bnd : PV → Loc → Option Loc} {f : Loc → Sto → OutS} {x : PV} {xs : List PV} {ρ₁ ρ₂ : Loc} {σ₂ : Sto}
theorem for_nil : forGo none bnd f [] ρ σ = .next ρ σ := if_pos trivial
theorem for_next (hb : bnd x ρ = some ρ₁) (h : f ρ₁ σ = .next ρ₂ σ₂) : forGo none bnd f (x :: xs) ρ σ = forGo none bnd f xs ρ₂ σ₂ := by
  refine (if_pos trivial).trans ?_
  rw [hb]; show loopOn _ (f ρ₁ σ) = _; rw [h]; rfl
theorem for_brk (hb : bnd x ρ = some ρ₁) (h : f ρ₁ σ = .brk ρ₂ σ₂) : forGo none bnd f (x :: xs) ρ σ = .next ρ₂ σ₂ := by
  refine (if_pos trivial).trans ?_
  rw [hb]; show loopOn _ (f ρ₁ σ) = _; rw [h]; rfl
theorem ex_for {i : Nat} {it : X} {body : S} {ys : List PV} {σ₁ : Sto} {o : OutS} (hit : evIt C it ρ σ = .ok (ys, none) σ₁) (h : forGo none (bind1 i) (fun ρ σ => ex C n body ρ σ) ys ρ σ₁ = o) (hh : C.hd = false := by first | rfl | assumption) : ex C n (.for1 i it body) ρ σ = o := by
  show (bif C.hd then OutS.stuck else (evIt C it ρ σ).toS ρ _) = _
  rw [hh, hit]; exact h
end
theorem callN_eq {P : Prg} {d f : Nat} {vs : List PV} {fn : Fn} (hf : P.fns[f]? = some fn) (hl : vs.length = fn.params) :
    callN P n (d + 1) f vs σ = finS (ex (cfg P n false d) n fn.body (vs.map some ++ List.replicate (fn.slots - fn.params) none) σ) := by
  show (match P.fns[f]? with
    | some fn => if vs.length = fn.params then
        match ex (cfg P n false d) n fn.body (vs.map some ++ List.replicate (fn.slots - fn.params) none) σ with
        | .next _ σ => Out.ok PV.none σ
        | .ret v _ σ => .ok v σ
        | .exc i _ σ => .exc i σ
        | _ => .stuck
      else .stuck
    | none => .stuck) = _
  rw [hf]
  dsimp only
  rw [if_pos hl]
  cases ex (cfg P n false d) n fn.body (vs.map some ++ List.replicate (fn.slots - fn.params) none) σ <;> rfl
end
end Mine

namespace Mine
open PySem

/-! splitting what was joined -/
end Mine

namespace Mine
open PySem

noncomputable def CC (d : Nat) : Cfg := cfg PP topN false d
theorem callC {d f : Nat} {vs : List PV} {σ : Sto} {fn : Fn} (hf : PP.fns[f]? = some fn) (hl : vs.length = fn.params) :
    callN PP topN (d + 1) f vs σ = finS (ex (CC d) topN fn.body (vs.map some ++ List.replicate (fn.slots - fn.params) none) σ) := callN_eq hf hl

noncomputable def lettersL : List Nat := ("abcdefghijklmnopqrstuvwxyz" : Str).cps.toList
noncomputable def figuresL : List Nat := ("0123456789" : Str).cps.toList
structure NameOk (s : Str) : Prop where
  pos : 1 ≤ s.length
  len : s.length ≤ 8
  fst : ∀ c, s.cps.toList[0]? = some c → c ∈ lettersL
  all : ∀ c ∈ s.cps.toList, c ∈ lettersL ∨ c ∈ figuresL
noncomputable def signB (c : Nat) : Bool := lettersL.contains c || figuresL.contains c
noncomputable def nameB (s : Str) : Bool := decide (1 ≤ s.length) && decide (s.length ≤ 8) && (s.cps.toList.take 1).all (fun c => lettersL.contains c) && s.cps.toList.all signB
theorem nameB_ok {s : Str} (h : nameB s = true) : NameOk s := by
  simp only [nameB, signB, Bool.and_eq_true, decide_eq_true_eq, List.all_eq_true, Bool.or_eq_true, List.contains_iff_mem] at h
  refine ⟨h.1.1.1, h.1.1.2, fun c hc => ?_, h.2⟩
  refine h.1.2 c ?_
  cases hq : s.cps.toList with
  | nil => rw [hq] at hc; cases hc
  | cons x r => rw [hq] at hc; simp at hc; subst hc; simp
theorem nameB_of {s : Str} (h : NameOk s) : nameB s = true := by
  simp only [nameB, signB, Bool.and_eq_true, decide_eq_true_eq, List.all_eq_true, Bool.or_eq_true, List.contains_iff_mem]
  refine ⟨⟨⟨h.pos, h.len⟩, fun c hc => h.fst c ?_⟩, h.all⟩
  cases hq : s.cps.toList with
  | nil => rw [hq] at hc; simp at hc
  | cons x r => rw [hq] at hc; simp at hc; simp [hc]

section
variable {d : Nat} {σ : Sto}

theorem h0 {i : Int} : callN PP topN (d + 1) i_is_value [.int i] σ = .ok (.bool (decide (0 ≤ i) && decide (i ≤ 999999))) σ := by
  rw [callC (fn := f_is_value) rfl rfl]
  have : ex (CC d) topN f_is_value.body [some (.int i), none, none, none, none] σ = .ret (.bool (decide (0 ≤ i) && decide (i ≤ 999999))) [some (.int i), none, none, none, none] σ :=
    ex_ret (ex_ret_ (e_and (e_and_t (σ₁ := σ) rfl (e_and_t (σ₁ := σ) rfl (e_and_1 (e_between_c rfl rfl rfl))))))
  show finS (ex (CC d) topN f_is_value.body [some (.int i), none, none, none, none] σ) = _
  rw [this]; rfl

theorem in_str {c : Nat} {y : Str} : cmpop .isin (.str ⟨#[c]⟩) (.str y) σ = .ok (y.cps.toList.contains c) σ := rfl
theorem notin_str {c : Nat} {y : Str} : cmpop .notin (.str ⟨#[c]⟩) (.str y) σ = .ok (!(y.cps.toList.contains c)) σ := rfl

theorem all_eq {α : Type} {xs : List α} {g : α → Bool} : b1v .all (.fl (xs.map fun x => .bool (g x))) σ = .ok (.bool (xs.all g)) σ := by
  have e : ∀ xs : List α, allBools (xs.map fun x => .bool (g x)) = some (xs.map g) := by
    intro xs
    induction xs with
    | nil => rfl
    | cons x xs ih =>
      show (allBools (xs.map fun x => .bool (g x))).map (g x :: ·) = _
      rw [ih]; rfl
  refine (onAll_some (σ := σ) (a := .fl _) (l := xs.map g) (g := allBools) (e xs)).trans ?_
  rw [List.all_map]; rfl
/-- a comprehension of truth values under `all` -/
theorem all_comp {C : Cfg} {ρ : Loc} {α : Type} {t : Nat} {cap : List (Option Nat)} {elt it : X} {xs : List α} {w : α → PV} {g : α → Bool} (hit : evIt C it ρ σ = .ok (xs.map w, none) σ) (hl : xs.length ≤ lim)
    (h : ∀ x ∈ xs, ev C elt ((capLoc cap ρ).set t (some (w x))) σ = .ok (.bool (g x)) σ) (hh : C.hd = false := by first | rfl | assumption) : ev C (.b1 .all (.comp true t cap elt (.k (.bool true)) it)) ρ σ = .ok (.bool (xs.all g)) σ := by
  refine e_b1 (x := .fl (xs.map fun x => .bool (g x))) (σ₁ := σ) ?_ all_eq hh
  rw [ev_comp, hh, hit]
  show compFin _ (compGo none (fun x σ => ((Out.ok true σ).bind fun b σ => if b = true then (ev C elt ((capLoc cap ρ).set t (some x)) σ).bind fun v σ => .ok (some v) σ else .ok none σ)) (xs.map w) σ) _ = _
  have e : ∀ ys : List α, (∀ x ∈ ys, ev C elt ((capLoc cap ρ).set t (some (w x))) σ = .ok (.bool (g x)) σ) → compGo none (fun x σ => ((Out.ok true σ).bind fun b σ => if b = true then (ev C elt ((capLoc cap ρ).set t (some x)) σ).bind fun v σ => .ok (some v) σ else .ok none σ)) (ys.map w) σ = .ok (ys.map fun x => .bool (g x)) σ := by
    intro ys
    induction ys with
    | nil => intro _; exact if_pos trivial
    | cons y ys ih =>
      intro hy
      refine (if_pos trivial).trans ?_
      dsimp only
      rw [bind_ok, if_pos rfl, hy y List.mem_cons_self, bind_ok, bind_ok]
      rw [ih fun x hx => hy x (List.mem_cons_of_mem _ hx)]
      rfl
  rw [e xs h]
  exact mk_fl (by simpa using hl)

theorem h1 {s : Str} (hlen : s.length ≤ lim) : callN PP topN (d + 1) i_is_name [.str s] σ = .ok (.bool (nameB s)) σ := by
  rw [callC (fn := f_is_name) rfl rfl]
  show finS (ex (CC d) topN (.cons f_is_name_s0 (.cons f_is_name_s1 .nil)) [some (.str s), none, none, none, none, none, none] σ) = _
  have hsz : s.length = s.cps.toList.length := by simp [Str.length]
  have e0 : tst (CC d) (.or (.cons (.not (.isinst (.v 0) .str)) (.cons (.not (.cmp2 (.k (.int 1)) .le (.b1 .len (.v 0)) .le (.k (.int 8)))) (.cons (.cmp (.sub (.v 0) (.k (.int 0))) .notin (.k (.str "abcdefghijklmnopqrstuvwxyz"))) .nil)))) [some (.str s), none, none, none, none, none, none] σ =
      .ok (!(decide (1 ≤ s.length) && decide (s.length ≤ 8)) || !(s.cps.toList.take 1).all (fun c => lettersL.contains c)) σ := by
    refine t_or (t_or_f (σ₁ := σ) rfl (t_or_c ((t_not (t_between_c rfl (e_b1 rfl (len_str hlen)) rfl)).trans ?_) fun hq => t_or_1 ?_))
    · rw [show decide ((1 : Int) ≤ (s.length : Int)) = decide (1 ≤ s.length) from decide_eq_decide.mpr (by omega), show decide ((s.length : Int) ≤ 8) = decide (s.length ≤ 8) from decide_eq_decide.mpr (by omega)]
    · simp only [Bool.not_eq_false', Bool.and_eq_true, decide_eq_true_eq] at hq
      cases hx : s.cps.toList with
      | nil => rw [hsz, hx] at hq; simp at hq
      | cons c r =>
        refine (t_cmp (e_sub rfl rfl (sub_str (c := c) (i := 0) hlen (by omega) (by rw [hx]; rfl))) rfl notin_str).trans ?_
        show Out.ok (!lettersL.contains c) σ = _
        simp
  have e1 : ex (CC d) topN f_is_name_s1 [some (.str s), none, none, none, none, none, none] σ = .ret (.bool (s.cps.toList.all signB)) [some (.str s), none, none, none, none, none, none] σ := by
    refine ex_ret_ (all_comp (xs := s.cps.toList) (w := fun c => .str ⟨#[c]⟩) (g := signB) rfl (by rw [← hsz]; exact hlen) fun c hc => ?_)
    rw [ev_or, evOr_cons]
    show (if lettersL.contains c = true then Out.ok (PV.bool (lettersL.contains c)) σ else _) = _
    unfold signB
    cases q : lettersL.contains c with
    | true => rfl
    | false => rfl
  cases hq : (!(decide (1 ≤ s.length) && decide (s.length ≤ 8)) || !(s.cps.toList.take 1).all (fun c => lettersL.contains c)) with
  | true =>
    rw [hq] at e0
    rw [ex_ret (a := f_is_name_s0) ((ex_ifT e0).trans (ex_ret (ex_ret_ rfl)))]
    have : nameB s = false := by
      unfold nameB
      revert hq
      cases (decide (1 ≤ s.length) && decide (s.length ≤ 8)) <;> cases ((s.cps.toList.take 1).all fun c => lettersL.contains c) <;> simp
    rw [this]; rfl
  | false =>
    rw [hq] at e0
    rw [ex_next (a := f_is_name_s0) ((ex_ifF e0).trans ex_nil), ex_ret e1]
    have : nameB s = s.cps.toList.all signB := by
      unfold nameB
      revert hq
      cases (decide (1 ≤ s.length) && decide (s.length ≤ 8)) <;> cases ((s.cps.toList.take 1).all fun c => lettersL.contains c) <;> simp
    rw [this]; rfl
end
end Mine

namespace Mine
open PySem

noncomputable def namesB (l : List Str) (m : Nat) : Bool := (decide (1 ≤ l.length) && decide (l.length ≤ m)) && l.all nameB
section
variable {d : Nat} {σ : Sto}
theorem dec_le {a b : Nat} : decide ((a : Int) ≤ (b : Int)) = decide (a ≤ b) := decide_eq_decide.mpr (by omega)

theorem h2 {l : List Str} {m : Nat} (h : ∀ n ∈ l, n.length ≤ lim) (hl : l.length ≤ lim) : callN PP topN (d + 2) i_are_names [.tup (l.map .str), .int m] σ = .ok (.bool (namesB l m)) σ := by
  have hlim : (l.map PV.str).length ≤ lim := by rw [List.length_map]; exact hl
  rw [callC (fn := f_are_names) rfl rfl]
  have : ex (CC (d + 1)) topN f_are_names.body [some (.tup (l.map .str)), some (.int m), none, none, none, none] σ = .ret (.bool (namesB l m)) [some (.tup (l.map .str)), some (.int m), none, none, none, none] σ := by
    refine ex_ret (ex_ret_ (e_and (e_and_t (e_isinst rfl rfl) (e_and_c ?_ fun _ => e_and_1 ?_))))
    · refine (e_between_c (i := ((1 : Nat) : Int)) (k := (m : Int)) rfl (e_b1 rfl (len_tup hlim)) rfl).trans ?_
      rw [List.length_map, dec_le, dec_le]
    · exact all_comp (xs := l) (w := .str) (g := nameB) rfl hl fun n hn => e_call1 rfl (h1 (h n hn))
  show finS (ex (CC (d + 1)) topN f_are_names.body [some (.tup (l.map .str)), some (.int m), none, none, none, none] σ) = _
  rw [this]; rfl

theorem allStrs_map : ∀ l : List Str, allStrs (l.map .str) = some l
  | [] => rfl
  | x :: l => by
    show (allStrs (l.map .str)).map (x :: ·) = _
    rw [allStrs_map l]; rfl
theorem dedup_go : ∀ (l a : List Str), a.Nodup → (l.foldl (fun a x => if a.any (· == x) then a else a ++ [x]) a).length ≤ a.length + l.length ∧
    ((l.foldl (fun a x => if a.any (· == x) then a else a ++ [x]) a).length = a.length + l.length ↔ (a ++ l).Nodup)
  | [], a, h => by simpa using h
  | x :: l, a, h => by
    rw [List.foldl_cons]
    cases hx : a.any (· == x) with
    | true =>
      rw [if_pos rfl]
      obtain ⟨h1, h2⟩ := dedup_go l a h
      rw [List.length_cons]
      refine ⟨by omega, ⟨fun q => absurd q (by omega), fun q => ?_⟩⟩
      obtain ⟨y, hy, e⟩ := List.any_eq_true.mp hx
      have e : y = x := by simpa using e
      subst e
      rw [List.nodup_append] at q
      exact absurd rfl (q.2.2 y hy y (by simp))
    | false =>
      rw [if_neg (by simp)]
      have hn : (a ++ [x]).Nodup := by
        rw [List.nodup_append]
        refine ⟨h, by simp, fun y hy z hz e => ?_⟩
        rw [List.mem_singleton] at hz
        subst hz; subst e
        rw [List.any_eq_false] at hx
        exact hx y hy (by simp)
      obtain ⟨h1, h2⟩ := dedup_go l (a ++ [x]) hn
      rw [List.length_append, List.length_singleton] at h1 h2
      rw [List.length_cons]
      refine ⟨by omega, ?_⟩
      rw [List.append_assoc, List.singleton_append] at h2
      rw [← h2]
      omega
theorem dedup_iff {l : List Str} : (dedupS l).length = l.length ↔ l.Nodup := by
  have := (dedup_go l [] (by simp)).2
  rw [List.length_nil, Nat.zero_add, List.nil_append] at this
  exact this
noncomputable def unlikeB (l : List Str) : Bool := (dedupS l).length == l.length
theorem unlikeB_iff {l : List Str} : unlikeB l = true ↔ l.Nodup := by
  unfold unlikeB; rw [beq_iff_eq]; exact dedup_iff
theorem lenset_eq {v : PV} {l : List Str} (hv : seqItems σ v = some (l.map .str)) (hl : l.length ≤ 1000) : b1v .lenset v σ = .ok (.int (dedupS l).length) σ := by
  have e : b1v .lenset v σ = match (seqItems σ v).bind allStrs with
    | some l => if l.length ≤ 1000 then .ok (.int (dedupS l).length) σ else .stuck
    | none => .stuck := by cases v <;> rfl
  rw [e, hv]
  show (match allStrs (l.map .str) with
    | some l => if l.length ≤ 1000 then Out.ok (PV.int (dedupS l).length) σ else .stuck
    | none => .stuck) = _
  rw [allStrs_map]
  dsimp only
  rw [if_pos hl]
theorem len_seq {v : PV} {xs : List PV} (hv : seqItems σ v = some xs) (hn : ∀ s, v ≠ .str s) (hl : xs.length ≤ lim) : b1v .len v σ = .ok (.int xs.length) σ := by
  have e : b1v .len v σ = onSeq (fun xs => if xs.length ≤ lim then .ok (.int xs.length) σ else .stuck) v σ := by cases v <;> first | rfl | exact absurd rfl (hn _)
  rw [e, onSeq_some hv, if_pos hl]
theorem h3 {v : PV} {l : List Str} (hv : seqItems σ v = some (l.map .str)) (hn : ∀ s, v ≠ .str s) (hl : l.length ≤ 1000) : callN PP topN (d + 1) i_are_unlike [v] σ = .ok (.bool (unlikeB l)) σ := by
  rw [callC (fn := f_are_unlike) rfl rfl]
  have : ex (CC d) topN f_are_unlike.body [some v, none, none] σ = .ret (.bool (unlikeB l)) [some v, none, none] σ := by
    refine ex_ret (ex_ret_ ?_)
    refine e_cmp (q := unlikeB l) (e_b1 rfl (lenset_eq hv hl)) (e_b1 rfl (len_seq hv hn (by rw [List.length_map]; exact Nat.le_trans hl (by decide)))) ?_
    rw [eq_int, List.length_map]
    unfold unlikeB
    congr 1
    rw [Bool.eq_iff_iff]; simp only [beq_iff_eq]; omega
  show finS (ex (CC d) topN f_are_unlike.body [some v, none, none] σ) = _
  rw [this]; rfl

/-- a rule, and what it is good for -/
inductive Rule where
  | word (w : Str)
  | fixed (v : Int)
  | odd (k : Nat)
/-- what is no rule -/
noncomputable def oddR : List PV := [.tup [], .tup [.str "fixed", .str "7"], .tup [.str "fixed", .bool true], .tup [.str "fixed", .int 1, .int 1], .tup [.str "sum", .int 1], .tup [.str "later", .int 1], .tup [.str "way", .int 0], .tup [.str "most", .str "x"]]
noncomputable def Rule.pv : Rule → PV
  | .word w => .tup [.str w]
  | .fixed v => .tup [.str "fixed", .int v]
  | .odd k => oddR.getD k (.tup [])
inductive RuleOk : Rule → Nat → Nat → Prop where
  | sum (n g : Nat) : RuleOk (.word "sum") n g
  | times (n g : Nat) : RuleOk (.word "times") n g
  | least (n g : Nat) : RuleOk (.word "least") n g
  | most (n g : Nat) : RuleOk (.word "most") n g
  | later (g : Nat) : RuleOk (.word "later") 1 g
  | way : RuleOk (.word "way") 2 2
  | choose (g : Nat) : RuleOk (.word "choose") 3 g
  | fixed (v : Int) (n g : Nat) : 0 ≤ v → v ≤ 999999 → RuleOk (.fixed v) n g
noncomputable def ruleB : Rule → Nat → Nat → Bool
  | .fixed v, _, _ => decide (0 ≤ v) && decide (v ≤ 999999)
  | .word w, n, g => if w == ("fixed" : Str) then false else if w == ("later" : Str) then n == 1 else if w == ("way" : Str) then (n == 2 && g == 2) else if w == ("choose" : Str) then n == 3 else
      [("sum" : Str), "times", "least", "most"].any fun y => y == w
  | .odd _, _, _ => false
theorem ruleB_ok {r : Rule} {n g : Nat} (h : ruleB r n g = true) : RuleOk r n g := by
  cases r with
  | fixed v =>
    simp only [ruleB, Bool.and_eq_true, decide_eq_true_eq] at h
    exact .fixed v n g h.1 h.2
  | odd k => exact nomatch h
  | word w =>
    simp only [ruleB] at h
    split at h
    · cases h
    · split at h
      · rename_i q; rw [beq_iff_eq] at q h; subst q; subst h; exact .later g
      · split at h
        · rename_i q; rw [Bool.and_eq_true] at h; rw [beq_iff_eq] at q h; obtain ⟨h1, h2⟩ := h; rw [beq_iff_eq] at h2; subst q; subst h1; subst h2; exact .way
        · split at h
          · rename_i q; rw [beq_iff_eq] at q h; subst q; subst h; exact .choose g
          · simp only [List.any_cons, List.any_nil, Bool.or_false, Bool.or_eq_true, beq_iff_eq] at h
            rcases h with q | q | q | q
            · rw [← q]; exact .sum n g
            · rw [← q]; exact .times n g
            · rw [← q]; exact .least n g
            · rw [← q]; exact .most n g
theorem ruleB_of {r : Rule} {n g : Nat} (h : RuleOk r n g) : ruleB r n g = true := by
  cases h with
  | fixed v n g q1 q2 => simp [ruleB, q1, q2]
  | _ => rfl

theorem beq_nat {n k : Nat} : ((n : Int) == ((k : Nat) : Int)) = (n == k) := by
  rw [Bool.eq_iff_iff]; simp only [beq_iff_eq]; omega
theorem mem_plain {w : Str} : cmpop .isin (.str w) (.tup [.str "sum", .str "times", .str "least", .str "most"]) σ = .ok ([("sum" : Str), "times", "least", "most"].any fun y => y == w) σ := rfl
theorem rule_no : ∀ rv ∈ oddR, ∀ {n g : Int} {d : Nat} {σ : Sto}, callN PP topN (d + 2) i_is_rule [rv, .int n, .int g] σ = .ok (.bool false) σ := by
  intro rv h
  repeat (rcases List.mem_cons.mp h with rfl | h; exact rfl)
  contradiction
theorem odd_mem (k : Nat) : oddR.getD k (.tup []) ∈ oddR := by
  show (oddR[k]?).getD (.tup []) ∈ oddR
  cases h : oddR[k]? with
  | none => exact List.mem_cons_self
  | some v => exact List.mem_of_getElem? h
theorem h4 {r : Rule} {n g : Nat} : callN PP topN (d + 2) i_is_rule [r.pv, .int n, .int g] σ = .ok (.bool (ruleB r n g)) σ := by
  rw [callC (fn := f_is_rule) rfl rfl]
  cases r with
  | odd k => exact (callC (fn := f_is_rule) rfl rfl).symm.trans (rule_no _ (odd_mem k))
  | fixed v =>
    have : ex (CC (d + 1)) topN f_is_rule.body [some (.tup [.str "fixed", .int v]), some (.int n), some (.int g), none, none, none, none, none, none] σ = .ret (.bool (ruleB (.fixed v) n g)) [some (.tup [.str "fixed", .int v]), some (.int n), some (.int g), none, none, none, none, none, none] σ := by
      refine (ex_next (a := f_is_rule_s0) (ρ' := [some (.tup [.str "fixed", .int v]), some (.int n), some (.int g), none, none, none, none, none, none]) (σ' := σ) rfl).trans (ex_ret (a := f_is_rule_s1) ?_)
      refine (ex_ifT (σ' := σ) rfl).trans (ex_ret (ex_ret_ ?_))
      exact e_and (e_and_t rfl (e_and_1 (e_call1 rfl h0)))
    show finS (ex (CC (d + 1)) topN f_is_rule.body [some (.tup [.str "fixed", .int v]), some (.int n), some (.int g), none, none, none, none, none, none] σ) = _
    rw [this]; rfl
  | word w =>
    show finS (ex (CC (d + 1)) topN (.cons f_is_rule_s0 (.cons f_is_rule_s1 (.cons f_is_rule_s2 (.cons f_is_rule_s3 (.cons f_is_rule_s4 (.cons f_is_rule_s5 (.cons f_is_rule_s6 .nil))))))) [some (.tup [.str w]), some (.int n), some (.int g), none, none, none, none, none, none] σ) = _
    have ts : ∀ k : Str, tst (CC (d + 1)) (.cmp (.sub (.v 0) (.k (.int 0))) .eq (.k (.str k))) [some (.tup [.str w]), some (.int n), some (.int g), none, none, none, none, none, none] σ = .ok (w == k) σ := fun k => rfl
    rw [ex_next (a := f_is_rule_s0) (ρ' := [some (.tup [.str w]), some (.int n), some (.int g), none, none, none, none, none, none]) (σ' := σ) rfl]
    simp only [ruleB]
    cases h1 : w == ("fixed" : Str) with
    | true =>
      rw [ex_ret (a := f_is_rule_s1) ((ex_ifT (σ' := σ) (by rw [ts, h1])).trans (ex_ret (ex_ret_ (e_and (v := .ok (.bool false) σ) rfl))))]; rfl
    | false =>
      rw [ex_next (a := f_is_rule_s1) ((ex_ifF (σ' := σ) (by rw [ts, h1])).trans ex_nil)]
      rw [ex_next (a := f_is_rule_s2) (ρ' := [some (.tup [.str w]), some (.int n), some (.int g), none, none, none, none, none, none]) (σ' := σ) rfl]
      cases h2 : w == ("later" : Str) with
      | true =>
        rw [ex_ret (a := f_is_rule_s3) ((ex_ifT (σ' := σ) (by rw [ts, h2])).trans (ex_ret (ex_ret_ (e_cmp (x := .int n) (y := .int ((1 : Nat) : Int)) (σ₁ := σ) (σ₂ := σ) rfl rfl (eq_int.trans (by rw [beq_nat]))))))]; rfl
      | false =>
        rw [ex_next (a := f_is_rule_s3) ((ex_ifF (σ' := σ) (by rw [ts, h2])).trans ex_nil)]
        cases h3 : w == ("way" : Str) with
        | true =>
          rw [ex_ret (a := f_is_rule_s4) ((ex_ifT (σ' := σ) (by rw [ts, h3])).trans (ex_ret (ex_ret_ (e_and (e_and_c (q := n == 2) (p := g == 2) (e_cmp (x := .int n) (y := .int ((2 : Nat) : Int)) (σ₁ := σ) (σ₂ := σ) rfl rfl (eq_int.trans (by rw [beq_nat]))) fun _ => e_and_1 (e_cmp (x := .int g) (y := .int ((2 : Nat) : Int)) (σ₁ := σ) (σ₂ := σ) rfl rfl (eq_int.trans (by rw [beq_nat]))))))))]; rfl
        | false =>
          rw [ex_next (a := f_is_rule_s4) ((ex_ifF (σ' := σ) (by rw [ts, h3])).trans ex_nil)]
          cases h4 : w == ("choose" : Str) with
          | true =>
            rw [ex_ret (a := f_is_rule_s5) ((ex_ifT (σ' := σ) (by rw [ts, h4])).trans (ex_ret (ex_ret_ (e_cmp (x := .int n) (y := .int ((3 : Nat) : Int)) (σ₁ := σ) (σ₂ := σ) rfl rfl (eq_int.trans (by rw [beq_nat]))))))]; rfl
          | false =>
            rw [ex_next (a := f_is_rule_s5) ((ex_ifF (σ' := σ) (by rw [ts, h4])).trans ex_nil)]
            rw [ex_ret (a := f_is_rule_s6) (ex_ret_ (e_cmp (x := .str w) (y := .tup [.str "sum", .str "times", .str "least", .str "most"]) (σ₁ := σ) (σ₂ := σ) rfl rfl mem_plain))]; rfl
end
end Mine

namespace Mine
open PySem

structure Step where
  name : Str
  rule : Rule
  needs : List Str
  gives : List Str
noncomputable def Step.pv (s : Step) : PV := .tup [.str s.name, s.rule.pv, .tup (s.needs.map .str), .tup (s.gives.map .str)]
structure StepOk (s : Step) : Prop where
  name : NameOk s.name
  needs : ∀ n ∈ s.needs, NameOk n
  needs1 : 1 ≤ s.needs.length
  needs4 : s.needs.length ≤ 4
  gives : ∀ n ∈ s.gives, NameOk n
  gives1 : 1 ≤ s.gives.length
  gives3 : s.gives.length ≤ 3
  unlike : s.gives.Nodup
  rule : RuleOk s.rule s.needs.length s.gives.length
structure PlanOk (p : List Step) : Prop where
  pos : 1 ≤ p.length
  most : p.length ≤ 20
  steps : ∀ s ∈ p, StepOk s
  names : (p.map (·.name)).Nodup
  gives : (p.flatMap (·.gives)).Nodup
noncomputable def planV (p : List Step) : PV := .tup (p.map Step.pv)

/-- what the code asks of a step and of a plan -/
noncomputable def stepB (s : Step) : Bool := nameB s.name && (namesB s.needs 4 && (namesB s.gives 3 && (unlikeB s.gives && ruleB s.rule s.needs.length s.gives.length)))
noncomputable def planB (p : List Step) : Bool := (decide (1 ≤ p.length) && decide (p.length ≤ 20)) && (p.all stepB && (unlikeB (p.map (·.name)) && unlikeB (p.flatMap (·.gives))))
theorem namesB_iff {l : List Str} {m : Nat} : namesB l m = true ↔ (∀ n ∈ l, NameOk n) ∧ 1 ≤ l.length ∧ l.length ≤ m := by
  simp only [namesB, Bool.and_eq_true, decide_eq_true_eq, List.all_eq_true]
  exact ⟨fun h => ⟨fun n hn => nameB_ok (h.2 n hn), h.1⟩, fun h => ⟨h.2, fun n hn => nameB_of (h.1 n hn)⟩⟩
theorem stepB_iff {s : Step} : stepB s = true ↔ StepOk s := by
  simp only [stepB, Bool.and_eq_true, namesB_iff, unlikeB_iff]
  constructor
  · rintro ⟨a, b, c, e, f⟩
    exact ⟨nameB_ok a, b.1, b.2.1, b.2.2, c.1, c.2.1, c.2.2, e, ruleB_ok f⟩
  · intro h
    exact ⟨nameB_of h.name, ⟨h.needs, h.needs1, h.needs4⟩, ⟨h.gives, h.gives1, h.gives3⟩, h.unlike, ruleB_of h.rule⟩
theorem planB_iff {p : List Step} : planB p = true ↔ PlanOk p := by
  simp only [planB, Bool.and_eq_true, unlikeB_iff, decide_eq_true_eq, List.all_eq_true, stepB_iff]
  constructor
  · rintro ⟨⟨a, b⟩, c, e, f⟩
    exact ⟨a, b, c, e, f⟩
  · intro h
    exact ⟨⟨h.pos, h.most⟩, h.steps, h.names, h.gives⟩
/-- small enough to be looked at -/
structure Fits (s : Step) : Prop where
  name : s.name.length ≤ lim
  needs : ∀ n ∈ s.needs, n.length ≤ lim
  needsl : s.needs.length ≤ lim
  gives : ∀ n ∈ s.gives, n.length ≤ lim
  givesl : s.gives.length ≤ lim

section
variable {d : Nat} {σ : Sto}

theorem lenT {xs : List Str} (h : xs.length ≤ lim) : b1v .len (.tup (xs.map .str)) σ = .ok (.int xs.length) σ := by
  rw [len_tup (by rw [List.length_map]; exact h), List.length_map]
theorem bnot_or {a b : Bool} : (!a || !b) = !(a && b) := by cases a <;> cases b <;> rfl

theorem h5 {s : Step} (h : Fits s) : callN PP topN (d + 3) i_is_step [s.pv] σ = .ok (.bool (stepB s)) σ := by
  rw [callC (fn := f_is_step) rfl rfl]
  show finS (ex (CC (d + 2)) topN (.cons f_is_step_s0 (.cons f_is_step_s1 (.cons f_is_step_s2 .nil))) [some s.pv, none, none, none, none, none, none, none, none, none] σ) = _
  have e0 : tst (CC (d + 2)) (.or (.cons (.not (.isinst (.v 0) .tuple)) (.cons (.cmp (.b1 .len (.v 0)) .ne (.k (.int 4))) (.cons (.not (.call i_is_name (.cons (.sub (.v 0) (.k (.int 0))) .nil))) .nil)))) [some s.pv, none, none, none, none, none, none, none, none, none] σ = .ok (!nameB s.name) σ :=
    t_or (t_or_f (σ₁ := σ) rfl (t_or_f (σ₁ := σ) rfl (t_or_1 (t_not (t_call (e_call1 (x := .str s.name) (σ₁ := σ) rfl (h1 h.name)))))))
  unfold stepB
  cases q0 : nameB s.name with
  | false =>
    rw [q0] at e0
    rw [ex_ret (a := f_is_step_s0) ((ex_ifT e0).trans (ex_ret (ex_ret_ rfl)))]; rfl
  | true =>
    rw [q0] at e0
    rw [ex_next (a := f_is_step_s0) ((ex_ifF e0).trans ex_nil)]
    cases q1 : namesB s.needs 4 with
    | false =>
      have e1 : tst (CC (d + 2)) (.or (.cons (.not (.call i_are_names (.cons (.sub (.v 0) (.k (.int 2))) (.cons (.k (.int 4)) .nil)))) (.cons (.not (.call i_are_names (.cons (.sub (.v 0) (.k (.int 3))) (.cons (.k (.int 3)) .nil)))) (.cons (.not (.call i_are_unlike (.cons (.sub (.v 0) (.k (.int 3))) .nil))) .nil)))) [some s.pv, none, none, none, none, none, none, none, none, none] σ = .ok true σ :=
        t_or (t_or_t (t_not (q := false) (t_call (e_call2 (x := .tup (s.needs.map .str)) (y := .int ((4 : Nat) : Int)) (σ₁ := σ) (σ₂ := σ) rfl rfl ((h2 h.needs h.needsl).trans (by rw [q1]))))))
      rw [ex_ret (a := f_is_step_s1) ((ex_ifT e1).trans (ex_ret (ex_ret_ rfl)))]; rfl
    | true =>
      cases q2 : namesB s.gives 3 with
      | false =>
        have e1 : tst (CC (d + 2)) (.or (.cons (.not (.call i_are_names (.cons (.sub (.v 0) (.k (.int 2))) (.cons (.k (.int 4)) .nil)))) (.cons (.not (.call i_are_names (.cons (.sub (.v 0) (.k (.int 3))) (.cons (.k (.int 3)) .nil)))) (.cons (.not (.call i_are_unlike (.cons (.sub (.v 0) (.k (.int 3))) .nil))) .nil)))) [some s.pv, none, none, none, none, none, none, none, none, none] σ = .ok true σ :=
          t_or (t_or_f (t_not (q := true) (t_call (e_call2 (x := .tup (s.needs.map .str)) (y := .int ((4 : Nat) : Int)) (σ₁ := σ) (σ₂ := σ) rfl rfl ((h2 h.needs h.needsl).trans (by rw [q1]))))) (t_or_t (t_not (q := false) (t_call (e_call2 (x := .tup (s.gives.map .str)) (y := .int ((3 : Nat) : Int)) (σ₁ := σ) (σ₂ := σ) rfl rfl ((h2 h.gives h.givesl).trans (by rw [q2])))))))
        rw [ex_ret (a := f_is_step_s1) ((ex_ifT e1).trans (ex_ret (ex_ret_ rfl)))]; rfl
      | true =>
        have g3 := (namesB_iff.mp q2).2.2
        have e1 : tst (CC (d + 2)) (.or (.cons (.not (.call i_are_names (.cons (.sub (.v 0) (.k (.int 2))) (.cons (.k (.int 4)) .nil)))) (.cons (.not (.call i_are_names (.cons (.sub (.v 0) (.k (.int 3))) (.cons (.k (.int 3)) .nil)))) (.cons (.not (.call i_are_unlike (.cons (.sub (.v 0) (.k (.int 3))) .nil))) .nil)))) [some s.pv, none, none, none, none, none, none, none, none, none] σ = .ok (!unlikeB s.gives) σ :=
          t_or (t_or_f (t_not (q := true) (t_call (e_call2 (x := .tup (s.needs.map .str)) (y := .int ((4 : Nat) : Int)) (σ₁ := σ) (σ₂ := σ) rfl rfl ((h2 h.needs h.needsl).trans (by rw [q1]))))) (t_or_f (t_not (q := true) (t_call (e_call2 (x := .tup (s.gives.map .str)) (y := .int ((3 : Nat) : Int)) (σ₁ := σ) (σ₂ := σ) rfl rfl ((h2 h.gives h.givesl).trans (by rw [q2])))))
            (t_or_1 (t_not (t_call (e_call1 (x := .tup (s.gives.map .str)) (σ₁ := σ) rfl (h3 rfl (fun _ q => by cases q) (Nat.le_trans g3 (by decide)))))))))
        cases q3 : unlikeB s.gives with
        | false =>
          rw [q3] at e1
          rw [ex_ret (a := f_is_step_s1) ((ex_ifT e1).trans (ex_ret (ex_ret_ rfl)))]; rfl
        | true =>
          rw [q3] at e1
          rw [ex_next (a := f_is_step_s1) ((ex_ifF e1).trans ex_nil)]
          rw [ex_ret (a := f_is_step_s2) (ex_ret_ (e_call3 (x := s.rule.pv) (σ₁ := σ) rfl (e_b1 (x := .tup (s.needs.map .str)) (σ₁ := σ) rfl (lenT h.needsl)) (e_b1 (x := .tup (s.gives.map .str)) (σ₁ := σ) rfl (lenT h.givesl)) h4))]
          rfl

/-- the list of all that is given -/
theorem given_loop {pl : PV} {σ₀ : Sto} {d : Nat} : ∀ (p : List Step) (y : Option PV) (acc : List Str), acc.length + 3 * p.length ≤ 1000 → (∀ s ∈ p, s.gives.length ≤ 3) →
    ∃ y', forGo none (bind1 1) (fun ρ σ => ex (CC d) topN f_is_plan_s2b ρ σ) (p.map Step.pv) [some pl, y, some (.ref σ₀.length), none, none, none, none, none, none] (σ₀ ++ [.lst (acc.map .str)]) =
      .next [some pl, y', some (.ref σ₀.length), none, none, none, none, none, none] (σ₀ ++ [.lst ((acc ++ p.flatMap (·.gives)).map .str)])
  | [], y, acc, _, _ => ⟨y, by simpa using for_nil⟩
  | s :: p, y, acc, h, hs => by
    have hg := hs s (by simp)
    obtain ⟨y', ih⟩ := given_loop (pl := pl) (σ₀ := σ₀) (d := d) p (some s.pv) (acc ++ s.gives) (by rw [List.length_append]; rw [List.length_cons] at h; omega) fun t ht => hs t (List.mem_cons_of_mem _ ht)
    refine ⟨y', (for_next (ρ₁ := [some pl, some s.pv, some (.ref σ₀.length), none, none, none, none, none, none]) (ρ₂ := [some pl, some s.pv, some (.ref σ₀.length), none, none, none, none, none, none]) (σ₂ := σ₀ ++ [.lst ((acc ++ s.gives).map .str)]) rfl ?_).trans (ih.trans (by simp [List.flatMap_cons]))⟩
    have hat : (σ₀ ++ [MO.lst (acc.map .str)])[σ₀.length]? = some (.lst (acc.map .str)) := by simp
    refine (ex_next (ex_expr (e_me (m := .extend) (x := .ref σ₀.length) (σ₁ := σ₀ ++ [.lst (acc.map .str)]) (σ₂ := σ₀ ++ [.lst (acc.map .str)]) rfl ?_ (y := .tup (s.gives.map .str)) rfl ?_))).trans ex_nil
    · show isMut (.ref σ₀.length) _ = true
      unfold isMut; dsimp only; rw [hat]
    · show extendv (.ref σ₀.length) (.tup (s.gives.map .str)) _ = _
      unfold extendv; dsimp only; rw [hat]; dsimp only
      rw [if_pos (by rw [List.length_map, List.length_map, lim_val]; omega)]
      simp

theorem flat_le : ∀ (q : List Step), (∀ s ∈ q, s.gives.length ≤ 3) → (q.flatMap (·.gives)).length ≤ 3 * q.length
  | [], _ => by simp
  | s :: q, hs => by
    have h1 := flat_le q fun t ht => hs t (List.mem_cons_of_mem _ ht)
    have h2 := hs s (by simp)
    rw [List.flatMap_cons, List.length_append, List.length_cons]; omega
theorem h6x {p : List Step} (h : ∀ s ∈ p, Fits s) (hl : p.length ≤ lim) : ∃ τ, callN PP topN (d + 4) i_is_plan [planV p] σ = .ok (.bool (planB p)) (σ ++ τ) := by
  have hlim : (p.map Step.pv).length ≤ lim := by rw [List.length_map]; exact hl
  have hlen : ∀ {σ : Sto}, b1v .len (planV p) σ = .ok (.int p.length) σ := fun {σ} => by
    show b1v .len (.tup (p.map Step.pv)) σ = _
    rw [len_tup hlim, List.length_map]
  rw [callC (fn := f_is_plan) rfl rfl]
  show ∃ τ, finS (ex (CC (d + 3)) topN (.cons f_is_plan_s0 (.cons f_is_plan_s1 (.cons f_is_plan_s2 (.cons f_is_plan_s3 .nil)))) [some (planV p), none, none, none, none, none, none, none, none] σ) = _
  have e0 : tst (CC (d + 3)) (.or (.cons (.not (.isinst (.v 0) .tuple)) (.cons (.not (.cmp2 (.k (.int 1)) .le (.b1 .len (.v 0)) .le (.k (.int 20)))) (.cons (.not (.b1 .all f_is_plan_c0)) .nil)))) [some (planV p), none, none, none, none, none, none, none, none] σ = .ok (!(decide (1 ≤ p.length) && decide (p.length ≤ 20)) || !p.all stepB) σ := by
    refine t_or (t_or_f (σ₁ := σ) rfl (t_or_c ((t_not (t_between_c (i := ((1 : Nat) : Int)) (k := ((20 : Nat) : Int)) rfl (e_b1 rfl hlen) rfl)).trans (by rw [dec_le, dec_le])) fun _ => t_or_1 (t_not (t_b1 (all_comp (xs := p) (w := Step.pv) (g := stepB) rfl hl fun s hs => ?_)))))
    exact e_call1 rfl (h5 (h s hs))
  rw [bnot_or] at e0
  unfold planB
  rw [← Bool.and_assoc]
  cases q0 : ((decide (1 ≤ p.length) && decide (p.length ≤ 20)) && p.all stepB) with
  | false =>
    rw [q0] at e0
    exact ⟨[], by rw [ex_ret (a := f_is_plan_s0) ((ex_ifT e0).trans (ex_ret (ex_ret_ rfl))), List.append_nil]; rfl⟩
  | true =>
    rw [q0] at e0
    simp only [Bool.and_eq_true, decide_eq_true_eq, List.all_eq_true, stepB_iff] at q0
    obtain ⟨⟨p1, p20⟩, hs⟩ := q0
    have e1 : ex (CC (d + 3)) topN f_is_plan_s1 [some (planV p), none, none, none, none, none, none, none, none] σ = .next [some (planV p), none, some (.ref σ.length), none, none, none, none, none, none] (σ ++ [.lst []]) := rfl
    obtain ⟨y', e2⟩ := given_loop (pl := planV p) (σ₀ := σ) (d := d + 3) p none [] (by simp; omega) fun s hq => (hs s hq).gives3
    have e2' : ex (CC (d + 3)) topN f_is_plan_s2 [some (planV p), none, some (.ref σ.length), none, none, none, none, none, none] (σ ++ [.lst []]) = .next [some (planV p), y', some (.ref σ.length), none, none, none, none, none, none] (σ ++ [.lst ((p.flatMap (·.gives)).map .str)]) :=
      ex_for (ys := p.map Step.pv) (σ₁ := σ ++ [.lst []]) rfl e2
    have hgl : (p.flatMap (·.gives)).length ≤ 60 := by
      have h1 := flat_le p fun s hq => (hs s hq).gives3
      omega
    have e3 : ex (CC (d + 3)) topN f_is_plan_s3 [some (planV p), y', some (.ref σ.length), none, none, none, none, none, none] (σ ++ [.lst ((p.flatMap (·.gives)).map .str)]) = .ret (.bool (unlikeB (p.map (·.name)) && unlikeB (p.flatMap (·.gives)))) [some (planV p), y', some (.ref σ.length), none, none, none, none, none, none] (σ ++ [.lst ((p.flatMap (·.gives)).map .str)]) := by
      have hat : (σ ++ [MO.lst ((p.flatMap (·.gives)).map .str)])[σ.length]? = some (.lst ((p.flatMap (·.gives)).map .str)) := by simp
      have c1 : ev (CC (d + 3)) f_is_plan_c1 [some (planV p), y', some (.ref σ.length), none, none, none, none, none, none] (σ ++ [.lst ((p.flatMap (·.gives)).map .str)]) = .ok (.fl ((p.map (·.name)).map .str)) (σ ++ [.lst ((p.flatMap (·.gives)).map .str)]) := by
        refine (comp_map (fun x => match x with | .tup (.str n :: _) => .str n | _ => .none) (xs := p.map Step.pv) rfl hlim fun x hx => ?_).trans ?_
        · obtain ⟨s, hs, rfl⟩ := List.mem_map.mp hx
          rfl
        · rw [List.map_map, List.map_map]; rfl
      refine ex_ret_ (e_and (e_and_c (e_call1 c1 (h3 rfl (fun _ q => by cases q) (by rw [List.length_map]; exact Nat.le_trans p20 (by decide)))) fun _ => (e_and_1 (e_call1 rfl (h3 ?_ (fun _ q => by cases q) (Nat.le_trans hgl (by decide)))))))
      unfold seqItems; dsimp only; rw [hat]
    refine ⟨[.lst ((p.flatMap (·.gives)).map .str)], ?_⟩
    rw [ex_next (a := f_is_plan_s0) ((ex_ifF e0).trans ex_nil), ex_next e1, ex_next e2', ex_ret e3]; rfl
theorem h6 {p : List Step} (h : ∀ s ∈ p, Fits s) (hl : p.length ≤ lim) : ∃ σ', callN PP topN (d + 4) i_is_plan [planV p] σ = .ok (.bool (planB p)) σ' := let ⟨_, e⟩ := h6x h hl; ⟨_, e⟩
end
/-! helpers -/
section
variable {d : Nat} {σ : Sto} {C : Cfg} {ρ : Loc}
theorem range_it {n : Nat} (h : n ≤ 100) {a : X} (ha : ev C a ρ σ = .ok (.int n) σ) : evIt C (.range1 a) ρ σ = .ok (intRange 0 1 n, none) σ := by
  rw [evIt_range1, ha, bind_ok]
  show (if 0 ≤ (n : Int) ∧ (n : Int) ≤ lim then Out.ok (intRange 0 1 (n : Int).toNat, none) σ else .stuck) = _
  rw [if_pos ⟨by omega, by rw [lim_val]; omega⟩]; rfl
theorem range_mem {n : Nat} {x : PV} (h : x ∈ intRange 0 1 n) : ∃ i : Nat, i < n ∧ x = .int i := by
  obtain ⟨i, hi, rfl⟩ := List.mem_map.mp h
  exact ⟨i, List.mem_range.mp hi, by simp⟩
theorem small_list {ws : List Str} (h : ws.length ≤ 100) : (ws.map PV.str).length ≤ lim := by rw [List.length_map]; exact Nat.le_trans h (by decide)
theorem plan_lim {p : List Step} (hl : p.length ≤ 20) : (p.map Step.pv).length ≤ lim := by rw [List.length_map]; exact Nat.le_trans hl (by decide)
end
end Mine

namespace Mine
open PySem

section
variable {d : Nat} {σ : Sto} {C : Cfg} {ρ : Loc}

theorem h12 {l : List Int} (hl : l.length ≤ 63) {k : Nat} : callN PP topN (d + 1) i_law_cell_at [.fl (l.map .int), .int k] σ = .ok (.int (l.getD k 0)) σ := by
  rw [callC (fn := f_law_cell_at) rfl rfl]
  have hlim : (l.map PV.int).length ≤ lim := by rw [List.length_map]; exact Nat.le_trans hl (by decide)
  have hlen : b1v .len (.fl (l.map .int)) σ = .ok (.int l.length) σ := by rw [len_fl hlim, List.length_map]
  show finS (ex (CC d) topN f_law_cell_at.body [some (.fl (l.map .int)), some (.int k), none] σ) = _
  by_cases h : k < l.length
  · have : ex (CC d) topN f_law_cell_at.body [some (.fl (l.map .int)), some (.int k), none] σ = .ret (.int (l.getD k 0)) [some (.fl (l.map .int)), some (.int k), none] σ := by
      refine ex_ret ((ex_ifT (σ' := σ) (t_cmp (x := .int k) (σ₁ := σ) rfl (e_b1 (x := .fl (l.map .int)) (σ₁ := σ) rfl hlen) ?_)).trans (ex_ret (ex_ret_ (e_sub (x := .fl (l.map .int)) (y := .int k) (σ₁ := σ) (σ₂ := σ) rfl rfl (sub_fl hlim (by omega) ?_)))))
      · rw [lt_int, decide_eq_true (by (exact Int.ofNat_lt.mpr (by assumption)))]
      · simp [h]
    rw [this]; rfl
  · have : ex (CC d) topN f_law_cell_at.body [some (.fl (l.map .int)), some (.int k), none] σ = .ret (.int 0) [some (.fl (l.map .int)), some (.int k), none] σ := by
      refine (ex_next (ρ' := [some (.fl (l.map .int)), some (.int k), none]) (σ' := σ) ((ex_ifF (σ' := σ) (t_cmp (x := .int k) (σ₁ := σ) rfl (e_b1 (x := .fl (l.map .int)) (σ₁ := σ) rfl hlen) ?_)).trans ex_nil)).trans (ex_ret (ex_ret_ rfl))
      rw [lt_int, decide_eq_false (by (exact fun q => (by assumption : ¬ _) (Int.ofNat_lt.mp q)))]
    have e : l.getD k 0 = 0 := by simp [List.getD, Nat.not_lt.mp h]
    rw [this, e]; rfl

noncomputable def nxt (p : Int) : Int := (p * 48271 + 11) % 2147483647 * ((p * 48271 + 11) % 2147483647) % 2147483629
theorem nxt_nonneg (p : Int) : 0 ≤ nxt p := Int.emod_nonneg _ (by decide)
theorem h13 {p : Int} : callN PP topN (d + 1) i_law_next [.int p] σ = .ok (.int (nxt p)) σ := by
  rw [callC (fn := f_law_next) rfl rfl]
  have : ex (CC d) topN f_law_next.body [some (.int p), none] σ = .ret (.int (nxt p)) [some (.int p), some (.int ((p * 48271 + 11) % 2147483647))] σ := by
    refine (ex_next (ρ' := [some (.int p), some (.int ((p * 48271 + 11) % 2147483647))]) (σ' := σ) (ex_asg (e_bin (e_bin (e_bin (x := .int p) (y := .int 48271) (σ₁ := σ) (σ₂ := σ) rfl rfl (mul_int (.inr (by decide)))) (y := .int 11) (σ₂ := σ) rfl add_int) (y := .int 2147483647) (σ₂ := σ) rfl (mod_int (by decide))))).trans (ex_ret (ex_ret_ (e_bin (e_bin (x := .int ((p * 48271 + 11) % 2147483647)) (y := .int ((p * 48271 + 11) % 2147483647)) (σ₁ := σ) (σ₂ := σ) rfl rfl (mul_int (.inl ?_))) (y := .int 2147483629) (σ₂ := σ) rfl (mod_int (by decide)))))
    have h1 := Int.emod_nonneg (p * 48271 + 11) (show (2147483647 : Int) ≠ 0 by decide)
    have h2 := Int.emod_lt_of_pos (p * 48271 + 11) (show (0 : Int) < 2147483647 by decide)
    omega
  show finS (ex (CC d) topN f_law_next.body [some (.int p), none] σ) = _
  rw [this]; rfl

theorem fdm {p a b : Int} (ha : 0 < a) (ha2 : a < 1073741824) (hb : 0 < b) {x : X} (hx : ev C x ρ σ = .ok (.int p) σ) : ev C (.bin .mod (.bin .fdiv x (.k (.int a))) (.k (.int b))) ρ σ = .ok (.int (p / a % b)) σ :=
  e_bin (e_bin hx (y := .int a) (σ₂ := σ) rfl (fdiv_int ha ha2)) (y := .int b) (σ₂ := σ) rfl (mod_int hb)

theorem h15 {p : Int} : ∃ v, 0 ≤ v ∧ v ≤ 999999 ∧ ∀ {d : Nat} {σ : Sto}, callN PP topN (d + 1) i_law_value [.int p] σ = .ok (.int v) σ := by
  have m4 : ∀ {d : Nat} {σ : Sto} (c : Int), tst (CC d) (.cmp (.bin .mod (.v 0) (.k (.int 4))) .eq (.k (.int c))) [some (.int p)] σ = .ok (p % 4 == c) σ := fun {d σ} c =>
    t_cmp (e_bin (x := .int p) (y := .int 4) (σ₁ := σ) (σ₂ := σ) rfl rfl (mod_int (by decide))) (y := .int c) (σ₂ := σ) rfl eq_int
  have n0 := Int.emod_nonneg (p / 4) (show (4 : Int) ≠ 0 by decide)
  have n1 := Int.emod_lt_of_pos (p / 4) (show (0 : Int) < 4 by decide)
  have fin : ∀ {d : Nat} {σ : Sto} {v : Int}, ex (CC d) topN f_law_value.body [some (.int p)] σ = .ret (.int v) [some (.int p)] σ → callN PP topN (d + 1) i_law_value [.int p] σ = .ok (.int v) σ := fun {d σ v} h => by
    rw [callC (fn := f_law_value) rfl rfl]
    show finS (ex (CC d) topN f_law_value.body [some (.int p)] σ) = _
    rw [h]; rfl
  by_cases h0 : p % 4 = 0
  · have hx : ∃ v, 0 ≤ v ∧ v ≤ 999999 ∧ ([PV.int 0, .int 0, .int 1, .int 999999])[(p / 4 % 4).toNat]? = some (.int v) := by
      refine int_lt (n := 4) (P := fun w => ∃ v, 0 ≤ v ∧ v ≤ 999999 ∧ ([PV.int 0, .int 0, .int 1, .int 999999])[w.toNat]? = some (.int v)) (allS (allS (allS (allS all0 ?_) ?_) ?_) ?_) n0 n1
      · exact ⟨0, by decide, by decide, rfl⟩
      · exact ⟨0, by decide, by decide, rfl⟩
      · exact ⟨1, by decide, by decide, rfl⟩
      · exact ⟨999999, by decide, by decide, rfl⟩
    obtain ⟨v, v0, v1, hv⟩ := hx
    refine ⟨v, v0, v1, fun {d σ} => fin (ex_ret ((ex_ifT (σ' := σ) ((m4 0).trans (by rw [h0]; rfl))).trans (ex_ret (ex_ret_ (e_sub (x := .fl [PV.int 0, .int 0, .int 1, .int 999999]) (σ₁ := σ) rfl (fdm (by decide) (by decide) (by decide) rfl) (sub_fl (by decide) n0 hv))))))⟩
  · have k0 : ∀ {d : Nat} {σ : Sto}, tst (CC d) (.cmp (.bin .mod (.v 0) (.k (.int 4))) .eq (.k (.int 0))) [some (.int p)] σ = .ok false σ := fun {d σ} => (m4 0).trans (by rw [show (p % 4 == 0) = false from beq_eq_false_iff_ne.mpr h0])
    by_cases h1 : p % 4 = 1
    · have a0 := Int.emod_nonneg (p / 4) (show (1000000 : Int) ≠ 0 by decide)
      have a1 := Int.emod_lt_of_pos (p / 4) (show (0 : Int) < 1000000 by decide)
      refine ⟨p / 4 % 1000000, a0, by omega, fun {d σ} => fin ((ex_next (ρ' := [some (.int p)]) (σ' := σ) ((ex_ifF (σ' := σ) k0).trans ex_nil)).trans (ex_ret ((ex_ifT (σ' := σ) ((m4 1).trans (by rw [h1]; rfl))).trans (ex_ret (ex_ret_ (e_bin (e_bin (x := .int p) (y := .int 4) (σ₁ := σ) (σ₂ := σ) rfl rfl (fdiv_int (by decide) (by decide))) (y := .int 1000000) (σ₂ := σ) rfl (mod_int (by decide))))))))⟩
    · have a0 := Int.emod_nonneg (p / 4) (show (5 : Int) ≠ 0 by decide)
      have a1 := Int.emod_lt_of_pos (p / 4) (show (0 : Int) < 5 by decide)
      refine ⟨p / 4 % 5, a0, by omega, fun {d σ} => fin ((ex_next (ρ' := [some (.int p)]) (σ' := σ) ((ex_ifF (σ' := σ) k0).trans ex_nil)).trans ((ex_next (ρ' := [some (.int p)]) (σ' := σ) ((ex_ifF (σ' := σ) ((m4 1).trans (by rw [show (p % 4 == 1) = false from beq_eq_false_iff_ne.mpr h1]))).trans ex_nil)).trans (ex_ret (ex_ret_ (fdm (by decide) (by decide) (by decide) rfl)))))⟩

/-- the kinds of rules that are made -/
inductive RK : Rule → Prop where
  | sum : RK (.word "sum")
  | times : RK (.word "times")
  | least : RK (.word "least")
  | most : RK (.word "most")
  | later : RK (.word "later")
  | way : RK (.word "way")
  | choose : RK (.word "choose")
  | fixed (v : Int) : 0 ≤ v → v ≤ 999999 → RK (.fixed v)
theorem h16 {p w : Int} (h0 : 0 ≤ w) (h1 : w < 12) : ∃ r : Rule, RK r ∧ ∀ {d : Nat} {σ : Sto}, callN PP topN (d + 2) i_law_rule [.int p, .int w] σ = .ok r.pv σ := by
  refine int_lt (n := 12) (P := fun w => ∃ r : Rule, RK r ∧ ∀ {d : Nat} {σ : Sto}, callN PP topN (d + 2) i_law_rule [.int p, .int w] σ = .ok r.pv σ) (allS (allS (allS (allS (allS (allS (allS (allS (allS (allS (allS (allS all0 ?_) ?_) ?_) ?_) ?_) ?_) ?_) ?_) ?_) ?_) ?_) ?_) h0 h1
  · exact ⟨_, .sum, rfl⟩
  · exact ⟨_, .times, rfl⟩
  · exact ⟨_, .least, rfl⟩
  · exact ⟨_, .most, rfl⟩
  · obtain ⟨v, v0, v1, hv⟩ := h15 (p := p)
    refine ⟨_, .fixed v v0 v1, fun {d σ} => ?_⟩
    rw [callC (fn := f_law_rule) rfl rfl]
    have : ex (CC (d + 1)) topN f_law_rule.body [some (.int p), some (.int 4), none, none] σ = .ret (.tup [.str "fixed", .int v]) [some (.int p), some (.int 4), some (.str "fixed"), none] σ :=
      (ex_next (ρ' := [some (.int p), some (.int 4), some (.str "fixed"), none]) (σ' := σ) rfl).trans (ex_ret ((ex_ifT (σ' := σ) rfl).trans (ex_ret (ex_ret_ (e_tup (vs := [.str "fixed", .int v]) (s_cons (x := .str "fixed") (σ₁ := σ) rfl (s_cons (x := .int v) (σ₁ := σ) (e_call1 (x := .int p) (σ₁ := σ) rfl hv) rfl)) (show (2 : Nat) ≤ lim by decide))))))
    show finS (ex (CC (d + 1)) topN f_law_rule.body [some (.int p), some (.int 4), none, none] σ) = _
    rw [this]; rfl
  · exact ⟨_, .later, rfl⟩
  · exact ⟨_, .later, rfl⟩
  · exact ⟨_, .way, rfl⟩
  · exact ⟨_, .choose, rfl⟩
  · exact ⟨_, .way, rfl⟩
  · exact ⟨_, .choose, rfl⟩
  · exact ⟨_, .sum, rfl⟩
end
end Mine

namespace Mine
open PySem

/-! names -/
noncomputable def some12 : List Str := ["sum", "later", "way", "fixed", "a9", "b", "times", "choose", "least", "most", "z0", "put"]
noncomputable def nameA (b k : Nat) : Str := (some12.getD ((b + k) % 12) "") ++ (if k / 12 = 0 then ("" : Str) else "x")
noncomputable def namesA (b : Nat) : List Str := (List.range 24).map (nameA b)
noncomputable def nodupB : List Str → Bool
  | [] => true
  | x :: r => !(r.any (· == x)) && nodupB r
theorem nodupB_ok : ∀ {l : List Str}, nodupB l = true → l.Nodup
  | [], _ => .nil
  | x :: r, h => by
    simp only [nodupB, Bool.and_eq_true, Bool.not_eq_true', List.any_eq_false, beq_iff_eq] at h
    exact List.nodup_cons.mpr ⟨fun q => h.1 x q rfl, nodupB_ok h.2⟩
/-- neither zz.. nor yy.. -/
noncomputable def plainB (s : Str) : Bool := !(s.cps.toList.take 2 == [122, 122]) && !(s.cps.toList.take 2 == [121, 121])
noncomputable def Plain (s : Str) : Prop := plainB s = true
theorem namesA_plain : ∀ b : Nat, b < 12 → (namesA b).all plainB = true := by decide +kernel
theorem namesA_good : ∀ b : Nat, b < 12 → (nodupB (namesA b) && (namesA b).all nameB) = true := by decide +kernel

/-! the second kind -/
theorem mul_m {n : Nat} : (Txt.mul "m" (n : Int)).cps.toList = List.replicate n 109 := by
  have hm : ("m" : Str) = ⟨#[109]⟩ := by decide +kernel
  rw [hm]
  unfold Txt.mul
  by_cases h1 : (n : Int) < 1
  · have : n = 0 := by omega
    subst this; rw [if_pos h1]; rfl
  · rw [if_neg h1]
    by_cases h2 : n = 1
    · subst h2; rfl
    · rw [if_neg (by
        have : ((n : Int) == 1) = false := beq_eq_false_iff_ne.mpr (by omega)
        rw [this]; decide)]
      have key : ∀ (k : Nat) (acc : Array Nat), ((List.replicate k (#[109] : Array Nat)).foldl (· ++ ·) acc).toList = acc.toList ++ List.replicate k 109 := by
        intro k
        induction k with
        | zero => intro acc; simp
        | succ k ih =>
          intro acc
          rw [List.replicate_succ, List.foldl_cons, ih]
          simp [List.replicate_succ]
      have := key n #[]
      simpa using this
noncomputable def some36 : List Nat := ("abcdefghijklmnopqrstuvwxyz0123456789" : Str).cps.toList
noncomputable def cpsB (p q N b k : Nat) : List Nat := List.replicate p 109 ++ some36.getD ((b + k) % N) 0 :: List.replicate q 109
noncomputable def nameC (p q N b k : Nat) : Str := ⟨(cpsB p q N b k).toArray⟩
noncomputable def namesC (p q N b : Nat) : List Str := (List.range 24).map (nameC p q N b)
theorem some36_facts : some36.length = 36 ∧ some36.Nodup ∧ (∀ c ∈ some36, c ∈ lettersL ∨ c ∈ figuresL) ∧ (∀ i, i < 26 → some36.getD i 0 ∈ lettersL) ∧ 109 ∈ lettersL := by decide +kernel
theorem mid_inj {p q : Nat} {x y : Nat} (h : List.replicate p 109 ++ x :: List.replicate q 109 = List.replicate p 109 ++ y :: List.replicate q 109) : x = y :=
  (List.cons.inj (List.append_cancel_left h)).1
theorem sign36 {i j : Nat} (hi : i < 36) (hj : j < 36) (h : some36.getD i 0 = some36.getD j 0) : i = j := by
  obtain ⟨h1, h2, _⟩ := some36_facts
  have e1 : some36.getD i 0 = some36[i]'(by (exact Nat.le_trans (by assumption) (by decide))) := by simp [List.getD, h1, hi]
  have e2 : some36.getD j 0 = some36[j]'(by (exact Nat.le_trans (by assumption) (by decide))) := by simp [List.getD, h1, hj]
  rw [e1, e2] at h
  have e3 : some36[i]? = some36[j]? := by rw [List.getElem?_eq_getElem (by (exact Nat.le_trans (by assumption) (by decide))), List.getElem?_eq_getElem (by (exact Nat.le_trans (by assumption) (by decide))), h]
  exact (List.getElem?_inj (by (assumption)) h2).mp e3
theorem namesC_good {p q N b : Nat} (hs : p + 1 + q ≤ 8) (hN : (p = 0 ∧ N = 26) ∨ (0 < p ∧ N = 36)) : (namesC p q N b).Nodup ∧ ∀ n ∈ namesC p q N b, NameOk n := by
  have hN1 : 24 ≤ N ∧ N ≤ 36 := by omega
  obtain ⟨f1, f2, f3, f4, f5⟩ := some36_facts
  constructor
  · unfold namesC
    rw [List.Nodup, List.pairwise_map]
    refine List.Pairwise.imp_of_mem ?_ (List.nodup_range (n := 24))
    intro i j hi hj hne e
    have hi := List.mem_range.mp hi
    have hj := List.mem_range.mp hj
    have e1 : cpsB p q N b i = cpsB p q N b j := by
      have := congrArg (fun s : Str => s.cps.toList) e
      simpa [nameC] using this
    have e2 := mid_inj e1
    have m1 : (b + i) % N < N := Nat.mod_lt _ (by omega)
    have m2 : (b + j) % N < N := Nat.mod_lt _ (by omega)
    have e3 := sign36 (by omega) (by omega) e2
    refine hne ?_
    have d1 := Nat.div_add_mod (b + i) N
    have d2 := Nat.div_add_mod (b + j) N
    rcases Nat.lt_trichotomy ((b + i) / N) ((b + j) / N) with q | q | q
    · have : N * ((b + i) / N + 1) ≤ N * ((b + j) / N) := Nat.mul_le_mul_left _ q
      rw [Nat.mul_add] at this; omega
    · rw [q] at d1; omega
    · have : N * ((b + j) / N + 1) ≤ N * ((b + i) / N) := Nat.mul_le_mul_left _ q
      rw [Nat.mul_add] at this; omega
  · intro n hn
    obtain ⟨k, hk, rfl⟩ := List.mem_map.mp hn
    have m1 : (b + k) % N < N := Nat.mod_lt _ (by omega)
    have hin : some36.getD ((b + k) % N) 0 ∈ some36 := by
      have : some36.getD ((b + k) % N) 0 = some36[(b + k) % N]'(by omega) := by simp [List.getD, f1, show (b + k) % N < 36 by omega]
      rw [this]; exact List.getElem_mem _
    have hl : (nameC p q N b k).length = p + 1 + q := by
      show (cpsB p q N b k).toArray.size = _
      simp [cpsB]; omega
    refine ⟨by omega, by omega, fun c hc => ?_, fun c hc => ?_⟩
    · have hc' : (cpsB p q N b k)[0]? = some c := by simpa [nameC] using hc
      rcases hN with ⟨rfl, rfl⟩ | ⟨hp, rfl⟩
      · simp [cpsB] at hc'
        subst hc'
        have := f4 _ m1
        simpa [List.getD] using this
      · obtain ⟨p', rfl⟩ : ∃ p', p = p' + 1 := ⟨p - 1, by omega⟩
        simp [cpsB, List.replicate_succ] at hc'
        subst hc'; exact f5
    · have hc' : c ∈ cpsB p q N b k := by simpa [nameC] using hc
      simp only [cpsB, List.mem_append, List.mem_cons, List.mem_replicate] at hc'
      rcases hc' with ⟨_, rfl⟩ | rfl | ⟨_, rfl⟩
      · exact .inl f5
      · exact f3 _ hin
      · exact .inl f5
theorem plain_of {x y : Nat} {r : List Nat} {s : Str} (h : s.cps.toList = x :: y :: r) (q : x = 109 ∨ y = 109) : Plain s := by
  unfold Plain plainB
  rw [h]
  rcases q with rfl | rfl
  · rfl
  · show (!(x == 122 && (false && true)) && !(x == 121 && (false && true))) = true
    rw [Bool.false_and, Bool.and_false, Bool.and_false]; rfl
theorem namesC_plain {p q N b : Nat} : ∀ n ∈ namesC p q N b, Plain n := by
  intro n hn
  obtain ⟨k, hk, rfl⟩ := List.mem_map.mp hn
  have e : (nameC p q N b k).cps.toList = cpsB p q N b k := rfl
  generalize nameC p q N b k = s at e
  unfold cpsB at e
  cases p with
  | zero =>
    cases q with
    | zero => unfold Plain plainB; rw [e]; show (!(_ && false) && !(_ && false)) = true; rw [Bool.and_false, Bool.and_false]; rfl
    | succ q => exact plain_of e (.inr rfl)
  | succ p =>
    cases p with
    | zero => exact plain_of e (.inl rfl)
    | succ p => exact plain_of e (.inl rfl)
end Mine

namespace Mine
open PySem

section
variable {d : Nat} {σ : Sto} {C : Cfg} {ρ : Loc}

theorem range_map {n : Nat} {g : PV → PV} {f : Nat → Str} (h : ∀ k, k < n → g (.int k) = .str (f k)) : (intRange 0 1 n).map g = ((List.range n).map f).map .str := by
  unfold intRange
  rw [List.map_map, List.map_map]
  refine List.map_congr_left fun k hk => ?_
  show g (.int (0 + (k : Int) * 1)) = .str (f k)
  rw [show (0 + (k : Int) * 1) = k by omega]
  exact h k (List.mem_range.mp hk)
theorem some12_at : ∀ i, i < 12 → (some12.map PV.str)[i]? = some (.str (some12.getD i "")) := fun i hi => by
  rw [List.getElem?_map]
  have : some12.length = 12 := rfl
  simp [List.getD, this, hi]
theorem some12_len : ∀ i, i < 12 → (some12.getD i ("" : Str)).length ≤ 8 := by decide +kernel
noncomputable abbrev R9 (a b c e f g h : Option PV) : Loc := [a, b, c, e, f, g, h, none, none]

theorem namesA_comp {c : Int} : ev (CC d) f_law_names_c0 (R9 (some (.int c)) (some (.fl (some12.map .str))) none none none none none) σ = .ok (.fl ((namesA (c / 9 % 12).toNat).map .str)) σ := by
  have n0 := Int.emod_nonneg (c / 9) (show (12 : Int) ≠ 0 by decide)
  have n1 := Int.emod_lt_of_pos (c / 9) (show (0 : Int) < 12 by decide)
  refine (comp_map (fun x => match x with | .int i => .str (nameA (c / 9 % 12).toNat i.toNat) | _ => .none) (range_it (n := 24) (by decide) rfl) (by rw [show (intRange 0 1 24).length = 24 by simp [intRange]]; decide) fun x hx => ?_).trans (by rw [range_map (f := nameA (c / 9 % 12).toNat) fun k hk => by simp]; rfl)
  obtain ⟨k, hk, rfl⟩ := range_mem hx
  show _ = Out.ok (PV.str (nameA (c / 9 % 12).toNat ((k : Int).toNat))) σ
  have hi : ((c / 9 + k) % 12).toNat = ((c / 9 % 12).toNat + k) % 12 := add_mod' (N := 12) (by decide)
  have hlt : ((c / 9 % 12).toNat + k) % 12 < 12 := Nat.mod_lt _ (by decide)
  have h2 : ([PV.str "", .str "x"])[((k : Int) / 12).toNat]? = some (.str (if k / 12 = 0 then ("" : Str) else "x")) := by
    have e : ((k : Int) / 12).toNat = k / 12 := rfl
    rw [e]
    exact allS (P := fun i => ([PV.str "", .str "x"])[i]? = some (.str (if i = 0 then ("" : Str) else "x"))) (allS all0 rfl) rfl _ (Nat.div_lt_of_lt_mul hk)
  refine e_bin (x := .str (some12.getD (((c / 9 % 12).toNat + k) % 12) "")) (y := .str (if k / 12 = 0 then ("" : Str) else "x")) (σ₁ := σ) (σ₂ := σ) ?_ ?_ ?_
  · refine e_sub (x := .fl (some12.map .str)) (σ₁ := σ) rfl (e_bin (e_bin (e_bin (x := .int c) (y := .int 9) (σ₁ := σ) (σ₂ := σ) rfl rfl (fdiv_int (by decide) (by decide))) (y := .int k) (σ₂ := σ) rfl add_int) (y := .int 12) (σ₂ := σ) rfl (mod_int (by decide))) (sub_fl (show (12 : Nat) ≤ lim by decide) (Int.emod_nonneg _ (by decide)) ?_)
    rw [hi]; exact some12_at _ hlt
  · exact e_sub (x := .fl [.str "", .str "x"]) (σ₁ := σ) rfl (e_bin (x := .int k) (y := .int 12) (σ₁ := σ) (σ₂ := σ) rfl rfl (fdiv_int (by decide) (by decide))) (sub_fl (show (2 : Nat) ≤ lim by decide) (by omega) h2)
  · have l1 := some12_len _ hlt
    have l2 : (if k / 12 = 0 then ("" : Str) else "x").length ≤ 1 := by split <;> decide +kernel
    rw [add_str (by rw [lim_val]; omega)]
    rfl

theorem mul_str {n : Int} (h0 : 0 ≤ n) (h1 : n ≤ 100) : binop .mul (.str "m") (.int n) σ = .ok (.str (Txt.mul "m" n)) σ := by
  show (if ("m" : Str).length ≤ 100 ∧ 0 ≤ n ∧ n ≤ 100 then Out.ok (PV.str (Txt.mul "m" n)) σ else .stuck) = _
  exact if_pos ⟨by decide +kernel, h0, h1⟩
theorem append_at {σ₀ : Sto} {xs : List PV} {v : PV} (h : xs.length < 1000) : mev .append (.ref σ₀.length) [v] (σ₀ ++ [.lst xs]) = .ok .none (σ₀ ++ [.lst (xs ++ [v])]) := by
  have hat : (σ₀ ++ [MO.lst xs])[σ₀.length]? = some (.lst xs) := by simp
  show appendv (.ref σ₀.length) v (σ₀ ++ [.lst xs]) = _
  unfold appendv; dsimp only; rw [hat]; dsimp only
  rw [if_pos (by rw [lim_val]; (exact Nat.le_trans (by assumption) (by decide)))]
  simp
theorem mut_at {σ₀ τ : Sto} {xs : List PV} {m : Me} (hm : m = .append ∨ m = .extend ∨ m = .pop) : meOk m (.ref σ₀.length) (σ₀ ++ .lst xs :: τ) = true := by
  have hat : (σ₀ ++ MO.lst xs :: τ)[σ₀.length]? = some (.lst xs) := by simp
  have : isMut (.ref σ₀.length) (σ₀ ++ .lst xs :: τ) = true := by unfold isMut; dsimp only; rw [hat]
  rcases hm with rfl | rfl | rfl <;> exact this

/-- one turn of the second kind -/
theorem turnC {c : Int} {p q N k : Nat} (hs : p + 1 + q ≤ 8) (hN : (p = 0 ∧ N = 26) ∨ (0 < p ∧ N = 36)) (acc : List Str) (hacc : acc.length < 100) {z : Option PV} :
    ex (CC d) topN f_law_names_s5b (R9 (some (.int c)) (some (.str "abcdefghijklmnopqrstuvwxyz0123456789")) (some (.int k)) (some (.int ((p + 1 + q : Nat) : Int))) (some (.int p)) (some (.ref σ.length)) z) (σ ++ [.lst (acc.map .str)]) =
      .next (R9 (some (.int c)) (some (.str "abcdefghijklmnopqrstuvwxyz0123456789")) (some (.int k)) (some (.int ((p + 1 + q : Nat) : Int))) (some (.int p)) (some (.ref σ.length)) (some (.str ⟨#[some36.getD (((c / 64 % N).toNat + k) % N) 0]⟩))) (σ ++ [.lst ((acc ++ [nameC p q N (c / 64 % N).toNat k]).map .str)]) := by
  obtain ⟨f1, f2, f3, f4, f5⟩ := some36_facts
  have hN0 : 0 < N := by omega
  have n0 := Int.emod_nonneg (c / 64) (show (N : Int) ≠ 0 by (exact Int.ofNat_ne_zero.mpr (Nat.ne_of_gt (by assumption))))
  have n1 := Int.emod_lt_of_pos (c / 64) (show (0 : Int) < N by (exact Int.ofNat_lt.mpr (by assumption)))
  have hi : ((c / 64 + k) % N).toNat = ((c / 64 % N).toNat + k) % N := add_mod' (Nat.ne_of_gt hN0)
  have hlt : ((c / 64 % N).toNat + k) % N < N := Nat.mod_lt _ hN0
  have hsel : ([PV.int 26, .int 36])[((if decide ((p : Int) > 0) = true then 1 else 0 : Int)).toNat]? = some (.int N) := by
    rcases hN with ⟨rfl, rfl⟩ | ⟨hp, rfl⟩
    · rfl
    · rw [decide_eq_true (by omega)]; rfl
  have hsel0 : (0 : Int) ≤ (if decide ((p : Int) > 0) = true then 1 else 0 : Int) := by split <;> decide
  have s1 : ex (CC d) topN (.asg 6 (.sub (.v 1) (.bin .mod (.bin .add (.bin .fdiv (.v 0) (.k (.int 64))) (.v 2)) (.sub (.lst true (.cons (.k (.int 26)) (.cons (.k (.int 36)) .nil))) (.b1 .int (.cmp (.v 4) .gt (.k (.int 0)))))))) (R9 (some (.int c)) (some (.str "abcdefghijklmnopqrstuvwxyz0123456789")) (some (.int k)) (some (.int ((p + 1 + q : Nat) : Int))) (some (.int p)) (some (.ref σ.length)) z) (σ ++ [.lst (acc.map .str)]) =
      .next (R9 (some (.int c)) (some (.str "abcdefghijklmnopqrstuvwxyz0123456789")) (some (.int k)) (some (.int ((p + 1 + q : Nat) : Int))) (some (.int p)) (some (.ref σ.length)) (some (.str ⟨#[some36.getD (((c / 64 % N).toNat + k) % N) 0]⟩))) (σ ++ [.lst (acc.map .str)]) := by
    generalize hS : σ ++ [MO.lst (acc.map .str)] = S
    refine ex_asg (e_sub (x := .str "abcdefghijklmnopqrstuvwxyz0123456789") (σ₁ := S) rfl (e_bin (e_bin (e_bin (x := .int c) (y := .int 64) (σ₁ := S) (σ₂ := S) rfl rfl (fdiv_int (by decide) (by decide))) (y := .int k) (σ₂ := S) rfl add_int) (y := .int N) (σ₂ := S) (e_sub (x := .fl [.int 26, .int 36]) (σ₁ := S) rfl (e_b1 (e_cmp (x := .int p) (y := .int 0) (σ₁ := S) (σ₂ := S) rfl rfl gt_int) int_bool) (sub_fl (show (2 : Nat) ≤ lim by decide) hsel0 hsel)) (mod_int (by (exact Int.ofNat_lt.mpr (by assumption))))) (sub_str (by decide +kernel) (Int.emod_nonneg _ (by (exact Int.ofNat_ne_zero.mpr (Nat.ne_of_gt (by assumption))))) ?_))
    rw [hi]
    show some36[((c / 64 % N).toNat + k) % N]? = _
    simp [List.getD, f1, show ((c / 64 % N).toNat + k) % N < 36 by omega]
  refine (ex_next s1).trans ?_
  refine (ex_next (ex_expr (e_me (m := .append) (x := .ref σ.length) (σ₁ := σ ++ [.lst (acc.map .str)]) rfl (mut_at (.inl rfl)) (y := .str (nameC p q N (c / 64 % N).toNat k)) (σ₂ := σ ++ [.lst (acc.map .str)]) ?_ (append_at (by rw [List.length_map]; (exact Nat.le_trans (by assumption) (by decide))))))).trans (by rw [ex_nil, List.map_append]; rfl)
  generalize σ ++ [MO.lst (acc.map .str)] = S
  have hp : Txt.mul "m" (p : Int) = ⟨(List.replicate p 109).toArray⟩ := Str.ext' (Array.toList_inj.mp (by rw [mul_m]))
  have hq : Txt.mul "m" (((p + 1 + q : Nat) : Int) - 1 - p) = ⟨(List.replicate q 109).toArray⟩ := by
    rw [show ((p + 1 + q : Nat) : Int) - 1 - p = (q : Int) by omega]
    exact Str.ext' (Array.toList_inj.mp (by rw [mul_m]))
  refine e_bin (e_bin (e_bin (x := .str "m") (y := .int p) (σ₁ := S) (σ₂ := S) rfl rfl (mul_str (by omega) (by omega))) (y := .str ⟨#[some36.getD (((c / 64 % N).toNat + k) % N) 0]⟩) (σ₂ := S) rfl (add_str ?_)) (e_bin (x := .str "m") (σ₁ := S) rfl (e_bin (e_bin (x := .int ((p + 1 + q : Nat) : Int)) (y := .int 1) (σ₁ := S) (σ₂ := S) rfl rfl sub_int) (y := .int p) (σ₂ := S) rfl sub_int) (mul_str (by omega) (by omega))) ?_
  · rw [hp, lim_val]
    show (List.replicate p 109).toArray.size + 1 ≤ _
    simp; omega
  · rw [hp, hq, add_str]
    · congr 1
      refine congrArg PV.str (Str.ext' ?_)
      simp [Str.cps_append, nameC, cpsB]
    · rw [Str.length_append, lim_val]
      show (List.replicate p 109).toArray.size + 1 + (List.replicate q 109).toArray.size ≤ _
      simp; (exact Nat.le_trans (by assumption) (by decide))

theorem loopC {c : Int} {p q N : Nat} (hs : p + 1 + q ≤ 8) (hN : (p = 0 ∧ N = 26) ∨ (0 < p ∧ N = 36)) : ∀ (n k : Nat) (acc : List Str) (y z : Option PV), acc.length = k → k + n ≤ 24 → ∃ y' z',
    forGo none (bind1 2) (fun ρ σ => ex (CC d) topN f_law_names_s5b ρ σ) ((List.range' k n).map fun (i : Nat) => PV.int i) (R9 (some (.int c)) (some (.str "abcdefghijklmnopqrstuvwxyz0123456789")) y (some (.int ((p + 1 + q : Nat) : Int))) (some (.int p)) (some (.ref σ.length)) z) (σ ++ [.lst (acc.map .str)]) =
      .next (R9 (some (.int c)) (some (.str "abcdefghijklmnopqrstuvwxyz0123456789")) y' (some (.int ((p + 1 + q : Nat) : Int))) (some (.int p)) (some (.ref σ.length)) z') (σ ++ [.lst ((acc ++ (List.range' k n).map (nameC p q N (c / 64 % N).toNat)).map .str)])
  | 0, k, acc, y, z, _, _ => ⟨y, z, by simpa using for_nil⟩
  | n + 1, k, acc, y, z, h1, h2 => by
    obtain ⟨y', z', ih⟩ := loopC hs hN n (k + 1) (acc ++ [nameC p q N (c / 64 % N).toNat k]) (some (.int k)) (some (.str ⟨#[some36.getD (((c / 64 % N).toNat + k) % N) 0]⟩)) (by rw [List.length_append, h1]; rfl) (by omega)
    refine ⟨y', z', ?_⟩
    rw [List.range'_succ, List.map_cons]
    refine (for_next (ρ₁ := R9 (some (.int c)) (some (.str "abcdefghijklmnopqrstuvwxyz0123456789")) (some (.int k)) (some (.int ((p + 1 + q : Nat) : Int))) (some (.int p)) (some (.ref σ.length)) z) rfl (turnC hs hN acc (by omega))).trans (ih.trans ?_)
    simp [List.append_assoc]

theorem h14 (c : Int) : ∃ names : List Str, names.length = 24 ∧ names.Nodup ∧ (∀ n ∈ names, NameOk n) ∧ (∀ n ∈ names, Plain n) ∧
    ((∀ d, callN PP topN (d + 1) i_law_names [.int c] [] = .ok (.fl (names.map .str)) []) ∨ (∀ d, callN PP topN (d + 1) i_law_names [.int c] [] = .ok (.ref 0) [.lst (names.map .str)])) := by
  have t0 : ∀ d, tst (CC d) (.cmp (.bin .mod (.v 0) (.k (.int 9))) .eq (.k (.int 8))) (R9 (some (.int c)) none none none none none none) [] = .ok (c % 9 == 8) [] := fun d =>
    t_cmp (e_bin (x := .int c) (y := .int 9) (σ₁ := []) (σ₂ := []) rfl rfl (mod_int (by decide))) (y := .int 8) (σ₂ := []) rfl eq_int
  have fin : ∀ {d : Nat} {v : PV} {ρ : Loc} {σ : Sto}, ex (CC d) topN f_law_names.body (R9 (some (.int c)) none none none none none none) [] = .ret v ρ σ → callN PP topN (d + 1) i_law_names [.int c] [] = .ok v σ := fun {d v ρ σ} h => by
    rw [callC (fn := f_law_names) rfl rfl]
    show finS (ex (CC d) topN f_law_names.body (R9 (some (.int c)) none none none none none none) []) = _
    rw [h]; rfl
  by_cases h9 : c % 9 = 8
  · have n0 := Int.emod_nonneg (c / 9) (show (12 : Int) ≠ 0 by decide)
    have n1 := Int.emod_lt_of_pos (c / 9) (show (0 : Int) < 12 by decide)
    have g := namesA_good (c / 9 % 12).toNat (by omega)
    rw [Bool.and_eq_true] at g
    refine ⟨namesA (c / 9 % 12).toNat, by simp [namesA], nodupB_ok g.1, fun n hn => nameB_ok (List.all_eq_true.mp g.2 n hn), fun n hn => List.all_eq_true.mp (namesA_plain (c / 9 % 12).toNat (by omega)) n hn, .inl fun d => fin (ex_ret (a := f_law_names_s0) ((ex_ifT (σ' := []) ((t0 d).trans (by rw [h9]; rfl))).trans ((ex_next (ρ' := R9 (some (.int c)) (some (.fl (some12.map .str))) none none none none none) (σ' := []) rfl).trans (ex_ret (ex_ret_ namesA_comp)))))⟩
  · have a0 := Int.emod_nonneg c (show (8 : Int) ≠ 0 by decide)
    have a1 := Int.emod_lt_of_pos c (show (0 : Int) < 8 by decide)
    have b0 := Int.emod_nonneg (c / 8) (show (1 + c % 8 : Int) ≠ 0 by omega)
    have b1 := Int.emod_lt_of_pos (c / 8) (show (0 : Int) < 1 + c % 8 by omega)
    obtain ⟨p, hp⟩ : ∃ p : Nat, c / 8 % (1 + c % 8) = p := ⟨(c / 8 % (1 + c % 8)).toNat, by omega⟩
    obtain ⟨q, hq⟩ : ∃ q : Nat, 1 + c % 8 = ((p + 1 + q : Nat) : Int) := ⟨(1 + c % 8 - 1 - p).toNat, by omega⟩
    have hs : p + 1 + q ≤ 8 := by omega
    obtain ⟨N, hN⟩ : ∃ N : Nat, (p = 0 ∧ N = 26) ∨ (0 < p ∧ N = 36) := by
      rcases Nat.eq_zero_or_pos p with q | q
      · exact ⟨26, .inl ⟨q, rfl⟩⟩
      · exact ⟨36, .inr ⟨q, rfl⟩⟩
    have good := namesC_good (b := (c / 64 % N).toNat) hs hN
    refine ⟨namesC p q N (c / 64 % N).toNat, by simp [namesC], good.1, good.2, namesC_plain, .inr fun d => ?_⟩
    obtain ⟨y', z', hl⟩ := loopC (d := d) (σ := []) (c := c) hs hN 24 0 [] none none rfl (by decide)
    refine fin (ρ := R9 (some (.int c)) (some (.str "abcdefghijklmnopqrstuvwxyz0123456789")) y' (some (.int ((p + 1 + q : Nat) : Int))) (some (.int p)) (some (.ref 0)) z') ?_
    have e0 : ex (CC d) topN f_law_names_s0 (R9 (some (.int c)) none none none none none none) [] = .next (R9 (some (.int c)) none none none none none none) [] := (ex_ifF (σ' := []) ((t0 d).trans (by rw [show (c % 9 == 8) = false from beq_eq_false_iff_ne.mpr h9]))).trans ex_nil
    have e1 : ex (CC d) topN f_law_names_s1 (R9 (some (.int c)) none none none none none none) [] = .next (R9 (some (.int c)) none none (some (.int ((p + 1 + q : Nat) : Int))) none none none) [] := by
      refine ex_asg ((e_bin (x := .int 1) (σ₁ := []) rfl (e_bin (x := .int c) (y := .int 8) (σ₁ := []) (σ₂ := []) rfl rfl (mod_int (by decide))) add_int).trans ?_)
      rw [hq]
    have e2 : ex (CC d) topN f_law_names_s2 (R9 (some (.int c)) none none (some (.int ((p + 1 + q : Nat) : Int))) none none none) [] = .next (R9 (some (.int c)) none none (some (.int ((p + 1 + q : Nat) : Int))) (some (.int p)) none none) [] := by
      refine ex_asg ((e_bin (e_bin (x := .int c) (y := .int 8) (σ₁ := []) (σ₂ := []) rfl rfl (fdiv_int (by decide) (by decide))) (y := .int ((p + 1 + q : Nat) : Int)) (σ₂ := []) rfl (mod_int (by omega))).trans ?_)
      rw [← hq, hp]
    have e5 : ex (CC d) topN f_law_names_s5 (R9 (some (.int c)) (some (.str "abcdefghijklmnopqrstuvwxyz0123456789")) none (some (.int ((p + 1 + q : Nat) : Int))) (some (.int p)) (some (.ref 0)) none) [.lst []] =
        .next (R9 (some (.int c)) (some (.str "abcdefghijklmnopqrstuvwxyz0123456789")) y' (some (.int ((p + 1 + q : Nat) : Int))) (some (.int p)) (some (.ref 0)) z') [.lst ((namesC p q N (c / 64 % N).toNat).map .str)] := by
      refine ex_for (ys := (List.range' 0 24).map fun (i : Nat) => PV.int i) (σ₁ := [.lst []]) ((range_it (n := 24) (by decide) rfl).trans ?_) (hl.trans ?_)
      · have : intRange 0 1 24 = (List.range' 0 24).map fun (i : Nat) => PV.int i := by
          unfold intRange; rw [List.range_eq_range']; refine List.map_congr_left fun i _ => ?_; congr 1; omega
        rw [this]
      · simp [namesC, List.range_eq_range']
    exact (ex_next e0).trans ((ex_next e1).trans ((ex_next e2).trans ((ex_next (a := f_law_names_s3) (ρ' := R9 (some (.int c)) (some (.str "abcdefghijklmnopqrstuvwxyz0123456789")) none (some (.int ((p + 1 + q : Nat) : Int))) (some (.int p)) none none) (σ' := []) rfl).trans ((ex_next (a := f_law_names_s4) (ρ' := R9 (some (.int c)) (some (.str "abcdefghijklmnopqrstuvwxyz0123456789")) none (some (.int ((p + 1 + q : Nat) : Int))) (some (.int p)) (some (.ref 0)) none) (σ' := [.lst []]) rfl).trans ((ex_next e5).trans (ex_ret (a := f_law_names_s6) rfl))))))
end
end Mine

namespace Mine
open PySem

/-- the slots of the maker of plans -/
noncomputable abbrev R26 (s nm many room pl k fr sp pick rule more nd gv wt md : Option PV) : Loc :=
  [s, some (.int 0), nm, many, room, pl, k, fr, sp, pick, rule, more, nd, gv, wt, md, none, none, none, none, none, none, none, none, none, none]
noncomputable abbrev St2 (σn : Sto) (p : List PV) (f : List Str) : Sto := σn ++ [.lst p, .lst (f.map .str)]

section
variable {d : Nat} {σ σn : Sto} {C : Cfg} {ρ : Loc}

theorem erase_map : ∀ (f : List Str) (i : Nat), (f.map PV.str).eraseIdx i = (f.eraseIdx i).map .str
  | [], _ => rfl
  | _ :: _, 0 => rfl
  | x :: f, i + 1 => by
    show PV.str x :: (f.map PV.str).eraseIdx i = PV.str x :: (f.eraseIdx i).map .str
    rw [erase_map f i]
theorem erase_perm : ∀ (f : List Str) (i : Nat) (h : i < f.length), (f[i] :: f.eraseIdx i).Perm f
  | [], _, h => by simp at h
  | _ :: _, 0, _ => .refl _
  | x :: f, i + 1, h => by
    have hi : i < f.length := by simpa using h
    have := erase_perm f i hi
    show (f[i]'hi :: x :: f.eraseIdx i).Perm (x :: f)
    exact (List.Perm.swap x _ _).trans (.cons x this)
theorem at_free {p : List PV} {f : List Str} : (St2 σn p f)[σn.length + 1]? = some (.lst (f.map .str)) := by simp [St2, List.getElem?_append_right]
theorem at_plan {p : List PV} {f : List Str} : (St2 σn p f)[σn.length]? = some (.lst p) := by simp [St2, List.getElem?_append_right]
theorem len_free {p : List PV} {f : List Str} (h : f.length ≤ 100) : b1v .len (.ref (σn.length + 1)) (St2 σn p f) = .ok (.int f.length) (St2 σn p f) := by
  have hs : seqItems (St2 σn p f) (.ref (σn.length + 1)) = some (f.map .str) := by unfold seqItems; dsimp only; rw [at_free]
  rw [len_seq hs (fun _ q => by cases q) (small_list h), List.length_map]
theorem pop_free {p : List PV} {f : List Str} {i : Int} {x : Str} (h : f.length ≤ 100) (h0 : 0 ≤ i) (hx : f[i.toNat]? = some x) :
    mev .pop (.ref (σn.length + 1)) [.int i] (St2 σn p f) = .ok (.str x) (St2 σn p (f.eraseIdx i.toNat)) := by
  show popv (.ref (σn.length + 1)) (.int i) (St2 σn p f) = _
  unfold popv; dsimp only; rw [at_free]; dsimp only
  rw [if_pos ⟨h0, small_list h⟩, List.getElem?_map, hx]
  dsimp only [Option.map_some]
  congr 1
  have e : St2 σn p f = (σn ++ [.lst p]) ++ [.lst (f.map .str)] := by simp [St2]
  rw [e, List.set_append_right _ _ (by simp)]
  simp [St2, erase_map]

theorem compGo_step {f : PV → Sto → Out (Option PV)} {x v : PV} {xs ys : List PV} {σ₁ σ₂ : Sto} (h1 : f x σ = .ok (some v) σ₁) (h2 : compGo none f xs σ₁ = .ok ys σ₂) : compGo none f (x :: xs) σ = .ok (v :: ys) σ₂ := by
  refine (if_pos trivial).trans ?_
  rw [h1]; show (compGo none f xs σ₁).bind _ = _; rw [h2]; rfl
/-- drawing from what is free -/
theorem draw {p : List PV} {more : Int} : ∀ (js : List Nat) (f : List Str), js.length ≤ f.length → f.length ≤ 100 → ∃ made f', made.length = js.length ∧ (made ++ f').Perm f ∧
    compGo none (fun x σ => (tst (CC (d + 1)) (.k (.bool true)) (([none, none, none, none, some (.ref (σn.length + 1)), some (.int more)] : Loc).set 1 (some x)) σ).bind fun b σ => if b then (ev (CC (d + 1)) (.me .pop (.v 4) (.cons (.bin .mod (.call i_law_next (.cons (.bin .add (.bin .add (.v 5) (.bin .mul (.k (.int 31)) (.v 1))) (.k (.int 5))) .nil)) (.b1 .len (.v 4))) .nil)) (([none, none, none, none, some (.ref (σn.length + 1)), some (.int more)] : Loc).set 1 (some x)) σ).bind fun v σ => .ok (some v) σ else .ok none σ) (js.map fun (j : Nat) => PV.int j) (St2 σn p f) =
      .ok (made.map .str) (St2 σn p f')
  | [], f, _, _ => ⟨[], f, rfl, .refl _, if_pos trivial⟩
  | j :: js, f, h1, h2 => by
    have hf : 0 < f.length := by rw [List.length_cons] at h1; omega
    have n0 := Int.emod_nonneg (nxt (more + 31 * j + 5)) (show ((f.length : Nat) : Int) ≠ 0 by (exact Int.ofNat_ne_zero.mpr (Nat.ne_of_gt (by assumption))))
    have n1 := Int.emod_lt_of_pos (nxt (more + 31 * j + 5)) (show (0 : Int) < ((f.length : Nat) : Int) by (exact Int.ofNat_lt.mpr (by assumption)))
    have hi : (nxt (more + 31 * j + 5) % ((f.length : Nat) : Int)).toNat < f.length := by omega
    generalize hI : (nxt (more + 31 * j + 5) % ((f.length : Nat) : Int)).toNat = i at hi
    have hx : f[i]? = some f[i] := by simp [hi]
    obtain ⟨made, f', m1, m2, m3⟩ := draw (p := p) (more := more) js (f.eraseIdx i) (by rw [List.length_eraseIdx, if_pos hi]; rw [List.length_cons] at h1; omega) (Nat.le_trans (List.length_eraseIdx_le f i) h2)
    refine ⟨f[i] :: made, f', by rw [List.length_cons, m1, List.length_cons], ?_, ?_⟩
    · rw [List.cons_append]
      exact (List.Perm.cons _ m2).trans (erase_perm f i hi)
    · have e : ev (CC (d + 1)) (.me .pop (.v 4) (.cons (.bin .mod (.call i_law_next (.cons (.bin .add (.bin .add (.v 5) (.bin .mul (.k (.int 31)) (.v 1))) (.k (.int 5))) .nil)) (.b1 .len (.v 4))) .nil)) (([none, none, none, none, some (.ref (σn.length + 1)), some (.int more)] : Loc).set 1 (some (.int j))) (St2 σn p f) = .ok (.str f[i]) (St2 σn p (f.eraseIdx i)) := by
        refine e_me (m := .pop) (x := .ref (σn.length + 1)) (σ₁ := St2 σn p f) rfl ?_ (y := .int (nxt (more + 31 * j + 5) % ((f.length : Nat) : Int))) (σ₂ := St2 σn p f) ?_ ?_
        · show isMut (.ref (σn.length + 1)) (St2 σn p f) = true
          unfold isMut; dsimp only; rw [at_free]
        · exact e_bin (e_call1 (e_bin (e_bin (x := .int more) (σ₁ := St2 σn p f) rfl (e_bin (x := .int 31) (y := .int j) (σ₁ := St2 σn p f) (σ₂ := St2 σn p f) rfl rfl (mul_int (.inl (by decide)))) add_int) (y := .int 5) (σ₂ := St2 σn p f) rfl add_int) h13) (e_b1 (x := .ref (σn.length + 1)) (σ₁ := St2 σn p f) rfl (len_free h2)) (mod_int (by (exact Int.ofNat_lt.mpr (by assumption))))
        · rw [pop_free h2 n0 (by rw [hI]; exact hx), hI]
      refine compGo_step (σ₁ := St2 σn p (f.eraseIdx i)) ?_ m3
      show ((ev _ _ _ _).bind fun v σ => Out.ok (some v) σ) = _
      rw [e]; rfl

/-- what is wanted -/
theorem want {spots : List Str} {more : Int} {nd : Nat} (hs : 1 ≤ spots.length) (hl : spots.length ≤ 100) (hn : nd ≤ 4) {s nm many room pl k fr pick rule gv wt md : Option PV} :
    ∃ wanted : List Str, wanted.length = nd ∧ (∀ w ∈ wanted, w ∈ spots) ∧ ev (CC (d + 1)) f_law_plan_c1 (R26 s nm many room pl k fr (some (.fl (spots.map .str))) pick rule (some (.int more)) (some (.int nd)) gv wt md) σ = .ok (.fl (wanted.map .str)) σ := by
  have hlim := small_list hl
  refine ⟨(List.range nd).map fun (j : Nat) => spots.getD (nxt (more + 7 * (j : Int)) % ((spots.length : Nat) : Int)).toNat "", by simp, fun w hw => ?_, ?_⟩
  · obtain ⟨j, hj, rfl⟩ := List.mem_map.mp hw
    have n0 := Int.emod_nonneg (nxt (more + 7 * j)) (show ((spots.length : Nat) : Int) ≠ 0 by (exact Int.ofNat_ne_zero.mpr (Nat.ne_of_gt (by assumption))))
    have n1 := Int.emod_lt_of_pos (nxt (more + 7 * j)) (show (0 : Int) < ((spots.length : Nat) : Int) by (exact Int.ofNat_lt.mpr (by assumption)))
    have hi : (nxt (more + 7 * j) % ((spots.length : Nat) : Int)).toNat < spots.length := by omega
    have : spots.getD (nxt (more + 7 * j) % ((spots.length : Nat) : Int)).toNat "" = spots[(nxt (more + 7 * j) % ((spots.length : Nat) : Int)).toNat] := by simp [List.getD, hi]
    rw [this]; exact List.getElem_mem hi
  · refine (comp_map (fun x => match x with | .int i => .str (spots.getD (nxt (more + 7 * i) % ((spots.length : Nat) : Int)).toNat "") | _ => .none) (range_it (n := nd) (by (exact Nat.le_trans (by assumption) (by decide))) rfl) (by rw [show (intRange 0 1 nd).length = nd by simp [intRange]]; exact Nat.le_trans hn (by decide)) fun x hx => ?_).trans (by rw [range_map (f := fun (j : Nat) => spots.getD (nxt (more + 7 * (j : Int)) % ((spots.length : Nat) : Int)).toNat "") fun k hk => rfl])
    obtain ⟨j, hj, rfl⟩ := range_mem hx
    have n0 := Int.emod_nonneg (nxt (more + 7 * j)) (show ((spots.length : Nat) : Int) ≠ 0 by (exact Int.ofNat_ne_zero.mpr (Nat.ne_of_gt (by assumption))))
    have n1 := Int.emod_lt_of_pos (nxt (more + 7 * j)) (show (0 : Int) < ((spots.length : Nat) : Int) by (exact Int.ofNat_lt.mpr (by assumption)))
    have hi : (nxt (more + 7 * j) % ((spots.length : Nat) : Int)).toNat < spots.length := by omega
    have hlen : b1v .len (.fl (spots.map .str)) σ = .ok (.int spots.length) σ := by rw [len_fl hlim, List.length_map]
    refine e_sub (x := .fl (spots.map .str)) (σ₁ := σ) rfl (e_bin (e_call1 (e_bin (x := .int more) (σ₁ := σ) rfl (e_bin (x := .int 7) (y := .int j) (σ₁ := σ) (σ₂ := σ) rfl rfl (mul_int (.inl (by decide)))) add_int) h13) (e_b1 (x := .fl (spots.map .str)) (σ₁ := σ) rfl hlen) (mod_int (by (exact Int.ofNat_lt.mpr (by assumption))))) (sub_fl hlim n0 ?_)
    rw [List.getElem?_map]
    simp [List.getD, hi]
end
end Mine

namespace Mine
open PySem

noncomputable def Rule.head : Rule → Str
  | .word w => w
  | .fixed _ => "fixed"
  | .odd _ => ""
noncomputable def giv (more : Int) : Nat := [1, 1, 1, 2, 3].getD (more / 4 % 5).toNat 1
theorem giv_at (more : Int) : ([PV.int 1, .int 1, .int 1, .int 2, .int 3])[(more / 4 % 5).toNat]? = some (.int (giv more)) ∧ 1 ≤ giv more ∧ giv more ≤ 3 := by
  have n0 := Int.emod_nonneg (more / 4) (show (5 : Int) ≠ 0 by decide)
  have n1 := Int.emod_lt_of_pos (more / 4) (show (0 : Int) < 5 by decide)
  unfold giv
  generalize more / 4 % 5 = x at n0 n1
  refine int_lt (n := 5) (P := fun x => ([PV.int 1, .int 1, .int 1, .int 2, .int 3])[x.toNat]? = some (.int ([1, 1, 1, 2, 3].getD x.toNat 1 : Nat)) ∧ 1 ≤ [1, 1, 1, 2, 3].getD x.toNat 1 ∧ [1, 1, 1, 2, 3].getD x.toNat 1 ≤ 3) ?_ n0 n1
  refine allS (allS (allS (allS (allS all0 ?_) ?_) ?_) ?_) ?_ <;> exact ⟨rfl, by decide, by decide⟩
theorem head_at {r : Rule} {σ : Sto} (h : RK r) : subv r.pv (.int 0) σ = .ok (.str r.head) σ := by cases h <;> rfl

structure Kind (r : Rule) (more : Int) (nd gv : Nat) : Prop where
  n1 : 1 ≤ nd
  n4 : nd ≤ 4
  g1 : 1 ≤ gv
  g3 : gv ≤ 3
  ok : ∀ g : Nat, ((r.head == ("way" : Str)) = true → g = 2) → RuleOk r nd g
  way : (r.head == ("way" : Str)) = true → gv = 2
  nd_eq : (sget r.head ((["way", "choose"] : List Str).zip [.int 2, .int 3])).getD (.int (if (r.head == ("later" : Str)) = true then 1 else 1 + more % 4)) = .int nd
  gv_eq : (sget r.head ((["way"] : List Str).zip [.int 2])).getD (.int (giv more)) = .int gv
theorem kind_of {r : Rule} (h : RK r) (more : Int) : ∃ nd gv, Kind r more nd gv := by
  have m0 := Int.emod_nonneg more (show (4 : Int) ≠ 0 by decide)
  have m1 := Int.emod_lt_of_pos more (show (0 : Int) < 4 by decide)
  obtain ⟨_, g1, g3⟩ := giv_at more
  have hn : (1 + more % 4) = (((1 + more % 4).toNat : Nat) : Int) := by omega
  have oth : ∀ (r : Rule), (r.head == ("way" : Str)) = false → (r.head == ("later" : Str)) = false → (∀ n g, RuleOk r n g) → sget r.head ((["way", "choose"] : List Str).zip [PV.int 2, .int 3]) = none → sget r.head ((["way"] : List Str).zip [PV.int 2]) = none → ∃ nd gv, Kind r more nd gv := by
    intro r a b c e f
    refine ⟨(1 + more % 4).toNat, giv more, by omega, by omega, g1, g3, fun g _ => c _ _, fun q => (by rw [a] at q; cases q), ?_, ?_⟩
    · rw [e, b]; show PV.int (1 + more % 4) = _; rw [← hn]
    · rw [f]; rfl
  cases h with
  | sum => exact oth _ (by decide +kernel) (by decide +kernel) (fun n g => .sum n g) rfl rfl
  | times => exact oth _ (by decide +kernel) (by decide +kernel) (fun n g => .times n g) rfl rfl
  | least => exact oth _ (by decide +kernel) (by decide +kernel) (fun n g => .least n g) rfl rfl
  | most => exact oth _ (by decide +kernel) (by decide +kernel) (fun n g => .most n g) rfl rfl
  | fixed v v0 v1 => exact oth _ (show (("fixed" : Str) == "way") = false by decide +kernel) (show (("fixed" : Str) == "later") = false by decide +kernel) (fun n g => .fixed v n g v0 v1) rfl rfl
  | later =>
    refine ⟨1, giv more, by decide, by decide, g1, g3, fun g _ => .later g, fun q => (by rw [show (Rule.head (.word "later") == ("way" : Str)) = false by decide +kernel] at q; cases q), ?_, rfl⟩
    rw [show (Rule.head (.word "later") == ("later" : Str)) = true by decide +kernel]; rfl
  | way => exact ⟨2, 2, by decide, by decide, by decide, by decide, fun g hg => by rw [hg (by decide +kernel)]; exact .way, fun _ => rfl, rfl, rfl⟩
  | choose => exact ⟨3, giv more, by decide, by decide, g1, g3, fun g _ => .choose g, fun q => (by rw [show (Rule.head (.word "choose") == ("way" : Str)) = false by decide +kernel] at q; cases q), rfl, rfl⟩

section
variable {d : Nat} {σn : Sto}

/-- one turn of the maker of plans -/
theorem turn12 {l : List Int} (hl : l.length ≤ 63) {names spots free : List Str} {nmV : PV} {many room : Option PV} {steps : List Step} (hk : steps.length < 20)
    (hnm : ∀ τ (i : Nat), i < 24 → subv nmV (.int i) (σn ++ τ) = .ok (.str (names.getD i "")) (σn ++ τ)) (hsp : 1 ≤ spots.length) (hsl : spots.length ≤ 100) (hfl : free.length ≤ 100)
    (hnames : ∀ i, i < 24 → NameOk (names.getD i "")) (hspots : ∀ n ∈ spots, NameOk n) (hfree : ∀ n ∈ free, NameOk n) (hnd : free.Nodup) (pk rl mr nd gv wt md : Option PV) :
    ∃ pk' rl' mr' nd' gv' wt' md' : Option PV,
      (ex (CC (d + 2)) topN f_law_plan_s7b (R26 (some (.fl (l.map .int))) (some nmV) many room (some (.ref σn.length)) (some (.int steps.length)) (some (.ref (σn.length + 1))) (some (.fl (spots.map .str))) pk rl mr nd gv wt md) (St2 σn (steps.map Step.pv) free) =
        .brk (R26 (some (.fl (l.map .int))) (some nmV) many room (some (.ref σn.length)) (some (.int steps.length)) (some (.ref (σn.length + 1))) (some (.fl (spots.map .str))) pk' rl' mr' nd' gv' wt' md') (St2 σn (steps.map Step.pv) free)) ∨
      ∃ s free', StepOk s ∧ s.name = names.getD (23 - steps.length) "" ∧ (s.gives ++ free').Perm free ∧
        ex (CC (d + 2)) topN f_law_plan_s7b (R26 (some (.fl (l.map .int))) (some nmV) many room (some (.ref σn.length)) (some (.int steps.length)) (some (.ref (σn.length + 1))) (some (.fl (spots.map .str))) pk rl mr nd gv wt md) (St2 σn (steps.map Step.pv) free) =
        .next (R26 (some (.fl (l.map .int))) (some nmV) many room (some (.ref σn.length)) (some (.int steps.length)) (some (.ref (σn.length + 1))) (some (.fl (spots.map .str))) pk' rl' mr' nd' gv' wt' md') (St2 σn ((steps ++ [s]).map Step.pv) free') := by
  generalize hkk : steps.length = k at hk
  have kk : (((3 + k % 8 : Nat)) : Int) = 0 + 3 + (k : Int) % 8 := by omega
  generalize hpick : nxt (l.getD (3 + k % 8) 0 + 977 * (k : Int)) = pick
  have hp0 : 0 ≤ pick := by rw [← hpick]; exact nxt_nonneg _
  have w0 := Int.emod_nonneg (pick / 5) (show (12 : Int) ≠ 0 by decide)
  have w1 := Int.emod_lt_of_pos (pick / 5) (show (0 : Int) < 12 by decide)
  obtain ⟨r, hrk, hrule⟩ := h16 (p := nxt pick) w0 w1
  generalize hmore : nxt (pick + 1) = more
  obtain ⟨n, g, K⟩ := kind_of hrk more
  have m0 := Int.emod_nonneg more (show (4 : Int) ≠ 0 by decide)
  have v0 := Int.emod_nonneg (more / 4) (show (5 : Int) ≠ 0 by decide)
  have n1 := K.n1
  have n4 := K.n4
  have g1 := K.g1
  have g3 := K.g3
  generalize hS : St2 σn (steps.map Step.pv) free = S
  have e0 : ex (CC (d + 2)) topN f_law_plan_s7b0 (R26 (some (.fl (l.map .int))) (some nmV) many room (some (.ref σn.length)) (some (.int k)) (some (.ref (σn.length + 1))) (some (.fl (spots.map .str))) pk rl mr nd gv wt md) S =
      .next (R26 (some (.fl (l.map .int))) (some nmV) many room (some (.ref σn.length)) (some (.int k)) (some (.ref (σn.length + 1))) (some (.fl (spots.map .str))) (some (.int pick)) rl mr nd gv wt md) S := by
    refine ex_asg ((e_call1 (e_bin (e_call2 (x := .fl (l.map .int)) (y := .int ((3 + k % 8 : Nat) : Int)) (σ₁ := S) (σ₂ := S) rfl ((e_bin (e_bin (x := .int 0) (y := .int 3) (σ₁ := S) (σ₂ := S) rfl rfl add_int) (e_bin (x := .int k) (y := .int 8) (σ₁ := S) (σ₂ := S) rfl rfl (mod_int (by decide))) add_int).trans (by rw [kk])) (h12 hl)) (e_bin (x := .int 977) (y := .int k) (σ₁ := S) (σ₂ := S) rfl rfl (mul_int (.inl (by decide)))) add_int) h13).trans ?_)
    rw [hpick]
  have e1 : ex (CC (d + 2)) topN f_law_plan_s7b1 (R26 (some (.fl (l.map .int))) (some nmV) many room (some (.ref σn.length)) (some (.int k)) (some (.ref (σn.length + 1))) (some (.fl (spots.map .str))) (some (.int pick)) rl mr nd gv wt md) S =
      .next (R26 (some (.fl (l.map .int))) (some nmV) many room (some (.ref σn.length)) (some (.int k)) (some (.ref (σn.length + 1))) (some (.fl (spots.map .str))) (some (.int pick)) (some r.pv) mr nd gv wt md) S :=
    ex_asg (e_call2 (e_call1 (x := .int pick) (σ₁ := S) rfl h13) (fdm (by decide) (by decide) (by decide) rfl) hrule)
  have e2 : ex (CC (d + 2)) topN f_law_plan_s7b2 (R26 (some (.fl (l.map .int))) (some nmV) many room (some (.ref σn.length)) (some (.int k)) (some (.ref (σn.length + 1))) (some (.fl (spots.map .str))) (some (.int pick)) (some r.pv) mr nd gv wt md) S =
      .next (R26 (some (.fl (l.map .int))) (some nmV) many room (some (.ref σn.length)) (some (.int k)) (some (.ref (σn.length + 1))) (some (.fl (spots.map .str))) (some (.int pick)) (some r.pv) (some (.int more)) nd gv wt md) S :=
    ex_asg ((e_call1 (e_bin (x := .int pick) (y := .int 1) (σ₁ := S) (σ₂ := S) rfl rfl add_int) h13).trans (by rw [hmore]))
  have hd : ∀ {nd gv wt md : Option PV}, ev (CC (d + 2)) (.sub (.v 10) (.k (.int 0))) (R26 (some (.fl (l.map .int))) (some nmV) many room (some (.ref σn.length)) (some (.int k)) (some (.ref (σn.length + 1))) (some (.fl (spots.map .str))) (some (.int pick)) (some r.pv) (some (.int more)) nd gv wt md) S = .ok (.str r.head) S := fun {nd gv wt md} =>
    e_sub (x := r.pv) (y := .int 0) (σ₁ := S) (σ₂ := S) rfl rfl (head_at hrk)
  have e3 : ex (CC (d + 2)) topN f_law_plan_s7b3 (R26 (some (.fl (l.map .int))) (some nmV) many room (some (.ref σn.length)) (some (.int k)) (some (.ref (σn.length + 1))) (some (.fl (spots.map .str))) (some (.int pick)) (some r.pv) (some (.int more)) nd gv wt md) S =
      .next (R26 (some (.fl (l.map .int))) (some nmV) many room (some (.ref σn.length)) (some (.int k)) (some (.ref (σn.length + 1))) (some (.fl (spots.map .str))) (some (.int pick)) (some r.pv) (some (.int more)) (some (.int (if (r.head == ("later" : Str)) = true then 1 else 1 + more % 4))) gv wt md) S := by
    refine ex_asg (e_sub (x := .fl [.int (1 + more % 4), .int 1]) (σ₁ := S) (e_fl (vs := [.int (1 + more % 4), .int 1]) (s_cons (σ₁ := S) (e_bin (x := .int 1) (σ₁ := S) rfl (e_bin (x := .int more) (y := .int 4) (σ₁ := S) (σ₂ := S) rfl rfl (mod_int (by decide))) add_int) rfl) (show (2 : Nat) ≤ lim by decide)) (e_b1 (e_cmp hd (y := .str "later") (σ₂ := S) rfl eq_str) int_bool) (sub_fl (show (2 : Nat) ≤ lim by decide) (by split <;> decide) ?_))
    cases (r.head == ("later" : Str)) <;> rfl
  have e4 : ex (CC (d + 2)) topN f_law_plan_s7b4 (R26 (some (.fl (l.map .int))) (some nmV) many room (some (.ref σn.length)) (some (.int k)) (some (.ref (σn.length + 1))) (some (.fl (spots.map .str))) (some (.int pick)) (some r.pv) (some (.int more)) (some (.int (if (r.head == ("later" : Str)) = true then 1 else 1 + more % 4))) gv wt md) S =
      .next (R26 (some (.fl (l.map .int))) (some nmV) many room (some (.ref σn.length)) (some (.int k)) (some (.ref (σn.length + 1))) (some (.fl (spots.map .str))) (some (.int pick)) (some r.pv) (some (.int more)) (some (.int n)) gv wt md) S :=
    ex_asg ((e_fdget hd (y := .int (if (r.head == ("later" : Str)) = true then 1 else 1 + more % 4)) (σ₂ := S) rfl).trans (by rw [K.nd_eq]))
  have e5 : ex (CC (d + 2)) topN f_law_plan_s7b5 (R26 (some (.fl (l.map .int))) (some nmV) many room (some (.ref σn.length)) (some (.int k)) (some (.ref (σn.length + 1))) (some (.fl (spots.map .str))) (some (.int pick)) (some r.pv) (some (.int more)) (some (.int n)) gv wt md) S =
      .next (R26 (some (.fl (l.map .int))) (some nmV) many room (some (.ref σn.length)) (some (.int k)) (some (.ref (σn.length + 1))) (some (.fl (spots.map .str))) (some (.int pick)) (some r.pv) (some (.int more)) (some (.int n)) (some (.int g)) wt md) S :=
    ex_asg ((e_fdget hd (e_sub (x := .fl [.int 1, .int 1, .int 1, .int 2, .int 3]) (σ₁ := S) rfl (fdm (by decide) (by decide) (by decide) rfl) (sub_fl (show (5 : Nat) ≤ lim by decide) v0 (giv_at more).1))).trans (by rw [K.gv_eq]))
  have hmin : min (g : Int) (free.length : Int) = ((min g free.length : Nat) : Int) := by omega
  have e6 : ex (CC (d + 2)) topN f_law_plan_s7b6 (R26 (some (.fl (l.map .int))) (some nmV) many room (some (.ref σn.length)) (some (.int k)) (some (.ref (σn.length + 1))) (some (.fl (spots.map .str))) (some (.int pick)) (some r.pv) (some (.int more)) (some (.int n)) (some (.int g)) wt md) S =
      .next (R26 (some (.fl (l.map .int))) (some nmV) many room (some (.ref σn.length)) (some (.int k)) (some (.ref (σn.length + 1))) (some (.fl (spots.map .str))) (some (.int pick)) (some r.pv) (some (.int more)) (some (.int n)) (some (.int ((min g free.length : Nat) : Int))) wt md) S := by
    refine ex_asg (e_min2 (x := .int g) (σ₁ := S) rfl (e_b1 (x := .ref (σn.length + 1)) (σ₁ := S) rfl (by rw [← hS]; exact len_free hfl)) ?_)
    show Out.ok (PV.int (min (g : Int) (free.length : Int))) _ = _
    rw [hmin, hS]
  generalize hgg : min g free.length = gg at e6
  have hw2 : ∀ {nd wt md : Option PV}, tst (CC (d + 2)) (.and (.cons (.cmp (.sub (.v 10) (.k (.int 0))) .eq (.k (.str "way"))) (.cons (.cmp (.v 13) .lt (.k (.int 2))) .nil))) (R26 (some (.fl (l.map .int))) (some nmV) many room (some (.ref σn.length)) (some (.int k)) (some (.ref (σn.length + 1))) (some (.fl (spots.map .str))) (some (.int pick)) (some r.pv) (some (.int more)) nd (some (.int gg)) wt md) S = .ok ((r.head == ("way" : Str)) && decide ((gg : Int) < 2)) S := fun {nd wt md} => by
    refine t_and ?_
    rw [tstAnd_cons, t_cmp hd (y := .str "way") (σ₂ := S) rfl eq_str, bind_ok]
    cases r.head == ("way" : Str)
    · rfl
    · rw [if_pos rfl, tstAnd_cons, t_cmp (x := .int gg) (y := .int 2) (σ₁ := S) (σ₂ := S) rfl rfl lt_int, bind_ok]
      cases decide ((gg : Int) < 2) <;> rfl
  have cond : ∀ {nd wt md : Option PV}, tst (CC (d + 2)) (.or (.cons (.cmp (.v 13) .eq (.k (.int 0))) (.cons (.and (.cons (.cmp (.sub (.v 10) (.k (.int 0))) .eq (.k (.str "way"))) (.cons (.cmp (.v 13) .lt (.k (.int 2))) .nil))) .nil))) (R26 (some (.fl (l.map .int))) (some nmV) many room (some (.ref σn.length)) (some (.int k)) (some (.ref (σn.length + 1))) (some (.fl (spots.map .str))) (some (.int pick)) (some r.pv) (some (.int more)) nd (some (.int gg)) wt md) S = .ok (((gg : Int) == 0) || ((r.head == ("way" : Str)) && decide ((gg : Int) < 2))) S := fun {nd wt md} => by
    refine t_or ?_
    rw [tstOr_cons, t_cmp (x := .int gg) (y := .int 0) (σ₁ := S) (σ₂ := S) rfl rfl eq_int, bind_ok]
    cases ((gg : Int) == 0)
    · rw [ifF, tstOr_cons, hw2, bind_ok]
      cases ((r.head == ("way" : Str)) && decide ((gg : Int) < 2)) <;> rfl
    · rfl
  have front : ∀ rest, ex (CC (d + 2)) topN (.cons f_law_plan_s7b0 (.cons f_law_plan_s7b1 (.cons f_law_plan_s7b2 (.cons f_law_plan_s7b3 (.cons f_law_plan_s7b4 (.cons f_law_plan_s7b5 (.cons f_law_plan_s7b6 rest)))))))
      (R26 (some (.fl (l.map .int))) (some nmV) many room (some (.ref σn.length)) (some (.int k)) (some (.ref (σn.length + 1))) (some (.fl (spots.map .str))) pk rl mr nd gv wt md) S = ex (CC (d + 2)) topN rest (R26 (some (.fl (l.map .int))) (some nmV) many room (some (.ref σn.length)) (some (.int k)) (some (.ref (σn.length + 1))) (some (.fl (spots.map .str))) (some (.int pick)) (some r.pv) (some (.int more)) (some (.int n)) (some (.int gg)) wt md) S := fun rest => by
    rw [ex_next e0, ex_next e1, ex_next e2, ex_next e3, ex_next e4, ex_next e5, ex_next e6]
  by_cases hb : (((gg : Int) == 0) || ((r.head == ("way" : Str)) && decide ((gg : Int) < 2))) = true
  · refine ⟨some (.int pick), some r.pv, some (.int more), some (.int n), some (.int gg), wt, md, .inl ((front _).trans (ex_brk (a := f_law_plan_s7b7) ((ex_ifT (σ' := S) (cond.trans (by rw [hb]))).trans (ex_brk rfl))))⟩
  · have hb' : (((gg : Int) == 0) || ((r.head == ("way" : Str)) && decide ((gg : Int) < 2))) = false := by simpa using hb
    have hb1 := (Bool.or_eq_false_iff.mp hb').1
    have hb2 := (Bool.or_eq_false_iff.mp hb').2
    have gpos : 1 ≤ gg := by
      have : (gg : Int) ≠ 0 := beq_eq_false_iff_ne.mp hb1
      omega
    have gway : (r.head == ("way" : Str)) = true → gg = 2 := fun q => by
      rw [q, Bool.true_and] at hb2
      have h1 := of_decide_eq_false hb2
      have h2 := K.way q
      omega
    obtain ⟨wanted, wl, win, hwant⟩ := want (d := d + 1) (σ := S) (more := more) hsp hsl n4 (s := some (.fl (l.map .int))) (nm := some nmV) (many := many) (room := room) (pl := some (.ref σn.length)) (k := some (.int k)) (fr := some (.ref (σn.length + 1))) (pick := some (.int pick)) (rule := some r.pv) (gv := some (.int gg)) (wt := wt) (md := md)
    obtain ⟨made, free', dl, dp, hdraw⟩ := draw (d := d + 1) (σn := σn) (p := steps.map Step.pv) (more := more) (List.range' 0 gg) free (by rw [List.length_range']; omega) hfl
    rw [List.length_range'] at dl
    rw [hS] at hdraw
    have e7 : ex (CC (d + 2)) topN f_law_plan_s7b7 (R26 (some (.fl (l.map .int))) (some nmV) many room (some (.ref σn.length)) (some (.int k)) (some (.ref (σn.length + 1))) (some (.fl (spots.map .str))) (some (.int pick)) (some r.pv) (some (.int more)) (some (.int n)) (some (.int gg)) wt md) S = .next (R26 (some (.fl (l.map .int))) (some nmV) many room (some (.ref σn.length)) (some (.int k)) (some (.ref (σn.length + 1))) (some (.fl (spots.map .str))) (some (.int pick)) (some r.pv) (some (.int more)) (some (.int n)) (some (.int gg)) wt md) S :=
      (ex_ifF (σ' := S) (cond.trans (by rw [hb']))).trans ex_nil
    have e8 : ex (CC (d + 2)) topN f_law_plan_s7b8 (R26 (some (.fl (l.map .int))) (some nmV) many room (some (.ref σn.length)) (some (.int k)) (some (.ref (σn.length + 1))) (some (.fl (spots.map .str))) (some (.int pick)) (some r.pv) (some (.int more)) (some (.int n)) (some (.int gg)) wt md) S = .next (R26 (some (.fl (l.map .int))) (some nmV) many room (some (.ref σn.length)) (some (.int k)) (some (.ref (σn.length + 1))) (some (.fl (spots.map .str))) (some (.int pick)) (some r.pv) (some (.int more)) (some (.int n)) (some (.int gg)) (some (.fl (wanted.map .str))) md) S := ex_asg hwant
    have e9 : ex (CC (d + 2)) topN f_law_plan_s7b9 (R26 (some (.fl (l.map .int))) (some nmV) many room (some (.ref σn.length)) (some (.int k)) (some (.ref (σn.length + 1))) (some (.fl (spots.map .str))) (some (.int pick)) (some r.pv) (some (.int more)) (some (.int n)) (some (.int gg)) (some (.fl (wanted.map .str))) md) S = .next (R26 (some (.fl (l.map .int))) (some nmV) many room (some (.ref σn.length)) (some (.int k)) (some (.ref (σn.length + 1))) (some (.fl (spots.map .str))) (some (.int pick)) (some r.pv) (some (.int more)) (some (.int n)) (some (.int gg)) (some (.fl (wanted.map .str))) (some (.fl (made.map .str)))) (St2 σn (steps.map Step.pv) free') := by
      refine ex_asg ?_
      show ev (CC (d + 2)) (.comp true 1 _ _ _ _) _ S = _
      rw [ev_comp, show (CC (d + 2)).hd = false from rfl, range_it (n := gg) (by omega) rfl, bind_ok]
      have hr : intRange 0 1 gg = (List.range' 0 gg).map fun (j : Nat) => PV.int j := by
        unfold intRange; rw [List.range_eq_range']; refine List.map_congr_left fun i _ => ?_; congr 1; omega
      rw [hr]
      dsimp only
      refine (congrArg (fun o : Out (List PV) => compFin _ o fun ys σ => mkLst true ys σ) hdraw).trans ?_
      exact mk_fl (small_list (by omega))
    have hat : (St2 σn (steps.map Step.pv) free')[σn.length]? = some (.lst (steps.map Step.pv)) := at_plan
    have name_at : subv nmV (.int (23 - (k : Int))) (St2 σn (steps.map Step.pv) free') = .ok (.str (names.getD (23 - k) "")) (St2 σn (steps.map Step.pv) free') := by
      rw [show (23 - (k : Int)) = ((23 - k : Nat) : Int) by omega]
      exact hnm _ _ (by omega)
    have e10 : ex (CC (d + 2)) topN f_law_plan_s7b10 (R26 (some (.fl (l.map .int))) (some nmV) many room (some (.ref σn.length)) (some (.int k)) (some (.ref (σn.length + 1))) (some (.fl (spots.map .str))) (some (.int pick)) (some r.pv) (some (.int more)) (some (.int n)) (some (.int gg)) (some (.fl (wanted.map .str))) (some (.fl (made.map .str)))) (St2 σn (steps.map Step.pv) free') = .next (R26 (some (.fl (l.map .int))) (some nmV) many room (some (.ref σn.length)) (some (.int k)) (some (.ref (σn.length + 1))) (some (.fl (spots.map .str))) (some (.int pick)) (some r.pv) (some (.int more)) (some (.int n)) (some (.int gg)) (some (.fl (wanted.map .str))) (some (.fl (made.map .str)))) (St2 σn ((steps ++ [(Step.mk (names.getD (23 - k) "") r wanted made)]).map Step.pv) free') := by
      refine ex_expr (e_me (m := .append) (x := .ref σn.length) (σ₁ := St2 σn (steps.map Step.pv) free') rfl (mut_at (.inl rfl)) (y := Step.pv (Step.mk (names.getD (23 - k) "") r wanted made)) (σ₂ := St2 σn (steps.map Step.pv) free') ?_ ?_)
      · exact e_tup (vs := [.str (names.getD (23 - k) ""), r.pv, .tup (wanted.map .str), .tup (made.map .str)]) (s_cons (e_sub (x := nmV) (σ₁ := St2 σn (steps.map Step.pv) free') rfl (e_bin (x := .int 23) (y := .int k) (σ₁ := St2 σn (steps.map Step.pv) free') (σ₂ := St2 σn (steps.map Step.pv) free') rfl rfl sub_int) name_at) (s_cons (x := r.pv) (σ₁ := St2 σn (steps.map Step.pv) free') rfl (s_cons (e_b1 (x := .fl (wanted.map .str)) (σ₁ := St2 σn (steps.map Step.pv) free') rfl (tuple_fl (small_list (by omega)))) (s_cons (e_b1 (x := .fl (made.map .str)) (σ₁ := St2 σn (steps.map Step.pv) free') rfl (tuple_fl (small_list (by omega)))) rfl)))) (show (4 : Nat) ≤ lim by decide)
      · show appendv (.ref σn.length) _ _ = _
        unfold appendv; dsimp only; rw [hat]; dsimp only
        rw [if_pos (by rw [List.length_map, lim_val, hkk]; (exact Nat.le_trans (by assumption) (by decide)))]
        congr 1
        show (σn ++ [MO.lst (steps.map Step.pv), .lst (free'.map .str)]).set σn.length _ = _
        rw [List.set_append_right _ _ (Nat.le_refl _), Nat.sub_self]
        simp [St2]
    have madeIn : ∀ w ∈ made, w ∈ free := fun w hw => dp.subset (List.mem_append_left _ hw)
    have hnd2 : (made ++ free').Nodup := dp.nodup_iff.mpr hnd
    refine ⟨some (.int pick), some r.pv, some (.int more), some (.int n), some (.int gg), some (.fl (wanted.map .str)), some (.fl (made.map .str)), .inr ⟨⟨names.getD (23 - k) "", r, wanted, made⟩, free', ⟨hnames _ (by omega), fun w hw => hspots w (win w hw), by show 1 ≤ wanted.length; omega, by show wanted.length ≤ 4; omega, fun w hw => hfree w (madeIn w hw), by show 1 ≤ made.length; omega, by show made.length ≤ 3; omega, (List.nodup_append.mp hnd2).1, ?_⟩, rfl, dp, ?_⟩⟩
    · show RuleOk r wanted.length made.length
      rw [wl, dl]
      exact K.ok gg gway
    · exact (front _).trans ((ex_next e7).trans ((ex_next e8).trans ((ex_next e9).trans ((ex_next e10).trans ex_nil))))
end
end Mine

namespace Mine
open PySem

structure Inv (names : List Str) (steps : List Step) (free : List Str) : Prop where
  ok : ∀ s ∈ steps, StepOk s
  nm : steps.map (·.name) = (List.range steps.length).map fun j => names.getD (23 - j) ""
  nd : (steps.flatMap (·.gives) ++ free).Nodup
  fr : ∀ n ∈ free, NameOk n
  len : free.length ≤ 100
  fp : ∀ n ∈ free, Plain n
  gp : ∀ s ∈ steps, ∀ g ∈ s.gives, Plain g

section
variable {d : Nat} {σn : Sto}

theorem loop12 {l : List Int} (hl : l.length ≤ 63) {names spots : List Str} {nmV : PV} {many room : Option PV}
    (hnm : ∀ τ (i : Nat), i < 24 → subv nmV (.int i) (σn ++ τ) = .ok (.str (names.getD i "")) (σn ++ τ)) (hsp : 1 ≤ spots.length) (hsl : spots.length ≤ 100)
    (hnames : ∀ i, i < 24 → NameOk (names.getD i "")) (hspots : ∀ n ∈ spots, NameOk n) : ∀ (n : Nat) (steps : List Step) (free : List Str) (kk pk rl mr nd gv wt md : Option PV), steps.length + n ≤ 20 → Inv names steps free →
    ∃ (steps' : List Step) (free' : List Str) (kk' pk' rl' mr' nd' gv' wt' md' : Option PV), steps'.length ≤ 20 ∧ Inv names steps' free' ∧
      forGo none (bind1 6) (fun ρ σ => ex (CC (d + 2)) topN f_law_plan_s7b ρ σ) ((List.range' steps.length n).map fun (i : Nat) => PV.int i) (R26 (some (.fl (l.map .int))) (some nmV) many room (some (.ref σn.length)) kk (some (.ref (σn.length + 1))) (some (.fl (spots.map .str))) pk rl mr nd gv wt md) (St2 σn (steps.map Step.pv) free) =
        .next (R26 (some (.fl (l.map .int))) (some nmV) many room (some (.ref σn.length)) kk' (some (.ref (σn.length + 1))) (some (.fl (spots.map .str))) pk' rl' mr' nd' gv' wt' md') (St2 σn (steps'.map Step.pv) free')
  | 0, steps, free, kk, pk, rl, mr, nd, gv, wt, md, h, I => ⟨steps, free, kk, pk, rl, mr, nd, gv, wt, md, by (assumption), I, for_nil⟩
  | n + 1, steps, free, kk, pk, rl, mr, nd, gv, wt, md, h, I => by
    rw [List.range'_succ, List.map_cons]
    obtain ⟨pk', rl', mr', nd', gv', wt', md', T⟩ := turn12 (d := d) (σn := σn) hl (many := many) (room := room) (steps := steps) (by omega) hnm hsp hsl I.len hnames hspots I.fr (List.nodup_append.mp I.nd).2.1 pk rl mr nd gv wt md
    rcases T with T | ⟨s, free', so, sn, sp, T⟩
    · exact ⟨steps, free, some (.int steps.length), pk', rl', mr', nd', gv', wt', md', by omega, I, for_brk rfl T⟩
    · have I' : Inv names (steps ++ [s]) free' := by
        refine ⟨fun x hx => ?_, ?_, ?_, fun x hx => I.fr x (sp.subset (List.mem_append_right _ hx)), ?_, fun x hx => I.fp x (sp.subset (List.mem_append_right _ hx)), fun x hx g hg => ?_⟩
        · rcases List.mem_append.mp hx with q | q
          · exact I.ok x q
          · rw [List.mem_singleton.mp q]; exact so
        · rw [List.map_append, I.nm, List.length_append, List.length_singleton, List.range_succ, List.map_append, List.map_singleton, List.map_singleton, sn]
        · have : ((steps ++ [s]).flatMap (·.gives) ++ free').Perm (steps.flatMap (·.gives) ++ free) := by
            rw [List.flatMap_append, List.append_assoc]
            refine List.Perm.append_left _ ?_
            simpa using sp
          exact this.nodup_iff.mpr I.nd
        · have := sp.length_eq
          rw [List.length_append] at this
          have := I.len
          omega
        · rcases List.mem_append.mp hx with q | q
          · exact I.gp x q g hg
          · rw [List.mem_singleton.mp q] at hg; exact I.fp g (sp.subset (List.mem_append_left _ hg))
      obtain ⟨steps2, free2, kk2, pk2, rl2, mr2, nd2, gv2, wt2, md2, q1, q2, q3⟩ := loop12 hl hnm hsp hsl hnames hspots n (steps ++ [s]) free' (some (.int steps.length)) pk' rl' mr' nd' gv' wt' md' (by rw [List.length_append, List.length_singleton]; omega) I'
      refine ⟨steps2, free2, kk2, pk2, rl2, mr2, nd2, gv2, wt2, md2, q1, q2, (for_next rfl T).trans ?_⟩
      rw [List.length_append, List.length_singleton] at q3
      exact q3

/-! the plan as plain data -/
theorem mapM_ex {f : PV → Option PyData} : ∀ {xs : List PV}, (∀ x ∈ xs, ∃ d, f x = some d) → ∃ ds, xs.mapM f = some ds ∧ ds.length = xs.length
  | [], _ => ⟨[], rfl, rfl⟩
  | x :: xs, h => by
    obtain ⟨e, he⟩ := h x (by simp)
    obtain ⟨es, hes, hl⟩ := mapM_ex (xs := xs) fun y hy => h y (List.mem_cons_of_mem _ hy)
    exact ⟨e :: es, by rw [List.mapM_cons, he, hes]; rfl, by simp [hl]⟩
theorem toD_strs {σ : Sto} {m : Nat} (l : List Str) : ∃ e, toD (m + 2) σ (.tup (l.map .str)) = some e := by
  obtain ⟨ds, h, _⟩ := mapM_ex (f := toD (m + 1) σ) (xs := l.map .str) fun x hx => by obtain ⟨w, _, rfl⟩ := List.mem_map.mp hx; exact ⟨.str w, rfl⟩
  exact ⟨.tuple ds, by show ((l.map PV.str).mapM (toD (m + 1) σ)).map PyData.tuple = _; rw [h]; rfl⟩
theorem toD_step {σ : Sto} {m : Nat} (s : Step) : ∃ e, toD (m + 3) σ s.pv = some e := by
  obtain ⟨ds, h, _⟩ := mapM_ex (f := toD (m + 2) σ) (xs := [.str s.name, s.rule.pv, .tup (s.needs.map .str), .tup (s.gives.map .str)]) fun x hx => by
    simp only [List.mem_cons, List.not_mem_nil, or_false] at hx
    rcases hx with q | q | q | q
    · subst q; exact ⟨.str s.name, rfl⟩
    · subst q; cases s.rule with
      | word w => exact ⟨.tuple [.str w], rfl⟩
      | fixed v => exact ⟨.tuple [.str "fixed", .int v], rfl⟩
      | odd k =>
        have : ∀ rv ∈ oddR, ∃ e, toD (m + 2) σ rv = some e := by
          intro rv h
          repeat (rcases List.mem_cons.mp h with rfl | h; exact ⟨_, rfl⟩)
          contradiction
        exact this _ (odd_mem k)
    · subst q; exact toD_strs _
    · subst q; exact toD_strs _
  exact ⟨.tuple ds, by show (([PV.str s.name, s.rule.pv, .tup (s.needs.map .str), .tup (s.gives.map .str)]).mapM (toD (m + 2) σ)).map PyData.tuple = _; rw [h]; rfl⟩
theorem empty_test {σ : Sto} {i : Nat} {steps : List Step} (hat : σ[i]? = some (.lst (steps.map Step.pv))) : cmpop .eq (.ref i) (.fl []) σ = .ok (decide (steps = [])) σ := by
  obtain ⟨ds, h, hl⟩ := mapM_ex (f := toD 15 σ) (xs := steps.map Step.pv) fun x hx => by obtain ⟨s, _, rfl⟩ := List.mem_map.mp hx; exact toD_step (m := 12) s
  have e : toD 16 σ (.ref i) = some (.list ds) := by
    show (match σ[i]? with | some (.lst xs) => (xs.mapM (toD 15 σ)).map PyData.list | _ => none) = _
    rw [hat]; dsimp only; rw [h]; rfl
  show Out.ofOpt (eqv σ (.ref i) (.fl [])) σ = _
  unfold eqv
  rw [e]
  show Out.ok (PyData.eqv (.list ds) (.list [])) σ = _
  rw [List.length_map] at hl
  cases steps with
  | nil =>
    have : ds = [] := List.eq_nil_of_length_eq_zero hl
    subst this; rfl
  | cons s steps =>
    cases ds with
    | nil => simp at hl
    | cons x ds => rw [show decide (s :: steps = []) = false from decide_eq_false (by simp)]; rfl

theorem inv_plan {names : List Str} (hn : names.Nodup) (hl : names.length = 24) {steps : List Step} {free : List Str} (I : Inv names steps free) (h1 : 1 ≤ steps.length) (h2 : steps.length ≤ 20) : PlanOk steps := by
  refine ⟨h1, h2, I.ok, ?_, (List.nodup_append.mp I.nd).1⟩
  rw [I.nm, List.Nodup, List.pairwise_map]
  refine List.Pairwise.imp_of_mem ?_ (List.nodup_range (n := steps.length))
  intro i j hi hj hne e
  have hi := List.mem_range.mp hi
  have hj := List.mem_range.mp hj
  have e1 : names.getD (23 - i) "" = names[23 - i]'(by omega) := by simp [List.getD, show 23 - i < names.length by omega]
  have e2 : names.getD (23 - j) "" = names[23 - j]'(by omega) := by simp [List.getD, show 23 - j < names.length by omega]
  rw [e1, e2] at e
  have e3 : names[23 - i]? = names[23 - j]? := by rw [List.getElem?_eq_getElem (by omega), List.getElem?_eq_getElem (by omega), e]
  have := (List.getElem?_inj (by omega) hn).mp e3
  omega

theorem inv_name {names : List Str} (hl : names.length = 24) {steps : List Step} {free : List Str} (I : Inv names steps free) {s : Step} (hs : s ∈ steps) : s.name ∈ names := by
  have h : s.name ∈ steps.map (·.name) := List.mem_map.mpr ⟨s, hs, rfl⟩
  rw [I.nm] at h
  obtain ⟨j, _, e⟩ := List.mem_map.mp h
  have e1 : names.getD (23 - j) "" = names[23 - j]'(by omega) := by simp [List.getD, show 23 - j < names.length by omega]
  rw [← e, e1]; exact List.getElem_mem _
theorem names_at {names : List Str} (hl : names.length = 24) {v : PV} (h : (v = .fl (names.map .str) ∧ σn = []) ∨ (v = .ref 0 ∧ σn = [.lst (names.map .str)])) : ∀ τ (i : Nat), i < 24 → subv v (.int i) (σn ++ τ) = .ok (.str (names.getD i "")) (σn ++ τ) := by
  intro τ i hi
  have hg : (names.map PV.str)[(i : Int).toNat]? = some (.str (names.getD i "")) := by
    rw [List.getElem?_map]
    simp [List.getD, show i < names.length by omega]
  have hlim : (names.map PV.str).length ≤ lim := small_list (by omega)
  rcases h with ⟨rfl, rfl⟩ | ⟨rfl, rfl⟩
  · exact sub_fl hlim (by omega) hg
  · exact sub_ref (by rfl) hlim (by omega) hg
end
end Mine

namespace Mine
open PySem

section
variable {d : Nat} {σ : Sto}

theorem cell_call {l : List Int} (hl : l.length ≤ 63) {j : Nat} {a : X} {ρ : Loc} (h0 : ev (CC (d + 2)) (.v 0) ρ σ = .ok (.fl (l.map .int)) σ) (ha : ev (CC (d + 2)) a ρ σ = .ok (.int j) σ) : ev (CC (d + 2)) (.call i_law_cell_at (.cons (.v 0) (.cons a .nil))) ρ σ = .ok (.int (l.getD j 0)) σ :=
  e_call2 h0 ha (h12 hl)
theorem pick_list {xs : List Int} {ρ : Loc} {C : Cfg} {a b : X} {i : Int} (ha : ev C a ρ σ = .ok (.fl (xs.map .int)) σ) (hb : ev C b ρ σ = .ok (.int i) σ) (hl : xs.length ≤ 100) (h0 : 0 ≤ i) (h1 : i.toNat < xs.length) : ev C (.sub a b) ρ σ = .ok (.int (xs.getD i.toNat 0)) σ := by
  refine e_sub ha hb (sub_fl (by rw [List.length_map]; exact Nat.le_trans hl (by decide)) h0 ?_)
  rw [List.getElem?_map]
  simp [List.getD, h1]

theorem h17 {l : List Int} (hl : l.length ≤ 63) : ∃ p σ', PlanOk p ∧ (∀ s ∈ p, Plain s.name ∧ ∀ g ∈ s.gives, Plain g) ∧ callN PP topN (d + 3) i_law_plan [.fl (l.map .int), .int 0] [] = .ok (planV p) σ' := by
  obtain ⟨names, nl, nn, nok, npl, hcall⟩ := h14 (l.getD 0 0)
  obtain ⟨nmV, σn, hc14, hform⟩ : ∃ nmV σn, (∀ d, callN PP topN (d + 1) i_law_names [.int (l.getD 0 0)] [] = .ok nmV σn) ∧ ((nmV = .fl (names.map .str) ∧ σn = []) ∨ (nmV = .ref 0 ∧ σn = [.lst (names.map .str)])) := by
    rcases hcall with h | h
    · exact ⟨_, _, h, .inl ⟨rfl, rfl⟩⟩
    · exact ⟨_, _, h, .inr ⟨rfl, rfl⟩⟩
  have hnm := names_at (σn := σn) nl hform
  have hnames : ∀ i, i < 24 → NameOk (names.getD i "") := fun i hi => by
    have : names.getD i "" = names[i]'(by omega) := by simp [List.getD, show i < names.length by omega]
    rw [this]; exact nok _ (List.getElem_mem _)
  have hpl : ∀ i, i < 24 → Plain (names.getD i "") := fun i hi => by
    have : names.getD i "" = names[i]'(by omega) := by simp [List.getD, show i < names.length by omega]
    rw [this]; exact npl _ (List.getElem_mem _)
  generalize hc1 : l.getD 1 0 = c1
  generalize hc2 : l.getD 2 0 = c2
  have m0 := Int.emod_nonneg c1 (show (6 : Int) ≠ 0 by decide)
  have m1 := Int.emod_lt_of_pos c1 (show (0 : Int) < 6 by decide)
  have r0 := Int.emod_nonneg c2 (show (4 : Int) ≠ 0 by decide)
  have r1 := Int.emod_lt_of_pos c2 (show (0 : Int) < 4 by decide)
  have w0 := Int.emod_nonneg (c1 / 60) (show (12 : Int) ≠ 0 by decide)
  have w1 := Int.emod_lt_of_pos (c1 / 60) (show (0 : Int) < 12 by decide)
  -- the first lines
  have cell1 : ∀ {a b c e f g h i j k o m n : Option PV} {σ : Sto}, ev (CC (d + 2)) (.call i_law_cell_at (.cons (.v 0) (.cons (.bin .add (.v 1) (.k (.int 1))) .nil))) (R26 (some (.fl (l.map .int))) a b c e f g h i j k o m n none) σ = .ok (.int c1) σ := fun {a b c e f g h i j k o m n σ} => by
    rw [cell_call hl (j := 1) rfl (e_bin (x := .int 0) (y := .int 1) (σ₁ := σ) (σ₂ := σ) rfl rfl add_int), hc1]
  have cell2 : ∀ {a b c e f g h i j k o m n : Option PV} {σ : Sto}, ev (CC (d + 2)) (.call i_law_cell_at (.cons (.v 0) (.cons (.bin .add (.v 1) (.k (.int 2))) .nil))) (R26 (some (.fl (l.map .int))) a b c e f g h i j k o m n none) σ = .ok (.int c2) σ := fun {a b c e f g h i j k o m n σ} => by
    rw [cell_call hl (j := 2) rfl (e_bin (x := .int 0) (y := .int 2) (σ₁ := σ) (σ₂ := σ) rfl rfl add_int), hc2]
  have e0 : ex (CC (d + 2)) topN f_law_plan_s0 (R26 (some (.fl (l.map .int))) none none none none none none none none none none none none none none) [] = .next (R26 (some (.fl (l.map .int))) (some nmV) none none none none none none none none none none none none none) σn :=
    ex_asg (e_call1 (cell_call hl (j := 0) rfl rfl) (hc14 (d + 1)))
  obtain ⟨many, hm1, hm20, hmany⟩ : ∃ many : Nat, 1 ≤ many ∧ many ≤ 20 ∧ ∀ rest, ex (CC (d + 2)) topN (.cons f_law_plan_s1 (.cons f_law_plan_s2 rest)) (R26 (some (.fl (l.map .int))) (some nmV) none none none none none none none none none none none none none) σn = ex (CC (d + 2)) topN rest (R26 (some (.fl (l.map .int))) (some nmV) (some (.int many)) none none none none none none none none none none none none) σn := by
    have hlist : ∃ q : Nat, 1 ≤ q ∧ q ≤ 20 ∧ ([1, 2, 3, 4, 6, 8] : List Int).getD (c1 % 6).toNat 0 = q := by
      refine int_lt (n := 6) (P := fun w => ∃ q : Nat, 1 ≤ q ∧ q ≤ 20 ∧ ([1, 2, 3, 4, 6, 8] : List Int).getD w.toNat 0 = q) (allS (allS (allS (allS (allS (allS all0 ?_) ?_) ?_) ?_) ?_) ?_) m0 m1
      · exact ⟨1, by decide, by decide, rfl⟩
      · exact ⟨2, by decide, by decide, rfl⟩
      · exact ⟨3, by decide, by decide, rfl⟩
      · exact ⟨4, by decide, by decide, rfl⟩
      · exact ⟨6, by decide, by decide, rfl⟩
      · exact ⟨8, by decide, by decide, rfl⟩
    obtain ⟨q, q1, q2, hq⟩ := hlist
    have e1 : ex (CC (d + 2)) topN f_law_plan_s1 (R26 (some (.fl (l.map .int))) (some nmV) none none none none none none none none none none none none none) σn = .next (R26 (some (.fl (l.map .int))) (some nmV) (some (.int q)) none none none none none none none none none none none none) σn := by
      refine ex_asg ((pick_list (xs := [1, 2, 3, 4, 6, 8]) rfl (e_bin cell1 (y := .int 6) (σ₂ := σn) rfl (mod_int (by decide))) (by decide) m0 (toNat_lt' (n := 6) m0 m1)).trans ?_)
      rw [hq]
    have t2 : tst (CC (d + 2)) (.cmp (.bin .mod (.bin .fdiv (.call i_law_cell_at (.cons (.v 0) (.cons (.bin .add (.v 1) (.k (.int 1))) .nil))) (.k (.int 6))) (.k (.int 10))) .eq (.k (.int 1))) (R26 (some (.fl (l.map .int))) (some nmV) (some (.int q)) none none none none none none none none none none none none) σn = .ok (c1 / 6 % 10 == 1) σn :=
      t_cmp (fdm (by decide) (by decide) (by decide) cell1) (y := .int 1) (σ₂ := σn) rfl eq_int
    by_cases h10 : (c1 / 6 % 10 == 1) = true
    · refine ⟨(9 + c1 / 60 % 12).toNat, by omega, by omega, fun rest => ?_⟩
      rw [ex_next e1, ex_next (a := f_law_plan_s2) (ρ' := R26 (some (.fl (l.map .int))) (some nmV) (some (.int ((9 + c1 / 60 % 12).toNat : Nat))) none none none none none none none none none none none none) (σ' := σn) ?_]
      refine (ex_ifT (σ' := σn) (t2.trans (by rw [h10]))).trans ((ex_next (ex_asg ((e_bin (x := .int 9) (σ₁ := σn) rfl (fdm (by decide) (by decide) (by decide) cell1) add_int).trans ?_))).trans ex_nil)
      rw [show (((9 + c1 / 60 % 12).toNat : Nat) : Int) = 9 + c1 / 60 % 12 by omega]
    · refine ⟨q, q1, q2, fun rest => ?_⟩
      rw [ex_next e1, ex_next (a := f_law_plan_s2) ((ex_ifF (σ' := σn) (t2.trans (by rw [show (c1 / 6 % 10 == 1) = false by simpa using h10]))).trans ex_nil)]
  obtain ⟨room, hr2, hr9, hroom⟩ : ∃ room : Nat, 2 ≤ room ∧ room ≤ 9 ∧ ([2, 4, 6, 9] : List Int).getD (c2 % 4).toNat 0 = room := by
    refine int_lt (n := 4) (P := fun w => ∃ room : Nat, 2 ≤ room ∧ room ≤ 9 ∧ ([2, 4, 6, 9] : List Int).getD w.toNat 0 = room) (allS (allS (allS (allS all0 ?_) ?_) ?_) ?_) r0 r1
    · exact ⟨2, by decide, by decide, rfl⟩
    · exact ⟨4, by decide, by decide, rfl⟩
    · exact ⟨6, by decide, by decide, rfl⟩
    · exact ⟨9, by decide, by decide, rfl⟩
  have e3 : ex (CC (d + 2)) topN f_law_plan_s3 (R26 (some (.fl (l.map .int))) (some nmV) (some (.int many)) none none none none none none none none none none none none) σn = .next (R26 (some (.fl (l.map .int))) (some nmV) (some (.int many)) (some (.int room)) none none none none none none none none none none none) σn := by
    refine ex_asg ((pick_list (xs := [2, 4, 6, 9]) rfl (e_bin cell2 (y := .int 4) (σ₂ := σn) rfl (mod_int (by decide))) (by decide) r0 (toNat_lt' (n := 4) r0 r1)).trans ?_)
    rw [hroom]
  have e4 : ex (CC (d + 2)) topN f_law_plan_s4 (R26 (some (.fl (l.map .int))) (some nmV) (some (.int many)) (some (.int room)) none none none none none none none none none none none) σn = .next (R26 (some (.fl (l.map .int))) (some nmV) (some (.int many)) (some (.int room)) (some (.ref σn.length)) none none none none none none none none none none) (σn ++ [.lst []]) := rfl
  obtain ⟨t, ht⟩ : ∃ t : Nat, min (24 : Int) ((room : Int) + many) = t := ⟨min 24 (room + many), by omega⟩
  have ht1 : 1 ≤ t ∧ t ≤ 24 := by omega
  have tl : (names.take t).length = t := by rw [List.length_take]; omega
  have e5 : ex (CC (d + 2)) topN f_law_plan_s5 (R26 (some (.fl (l.map .int))) (some nmV) (some (.int many)) (some (.int room)) (some (.ref σn.length)) none none none none none none none none none none) (σn ++ [.lst []]) = .next (R26 (some (.fl (l.map .int))) (some nmV) (some (.int many)) (some (.int room)) (some (.ref σn.length)) none (some (.ref (σn.length + 1))) none none none none none none none none) (St2 σn [] (names.take t)) := by
    refine ex_asg ?_
    show ev (CC (d + 2)) (.comp false 1 _ _ _ _) _ _ = _
    have hmin : ev (CC (d + 2)) (.min2 (.k (.int 24)) (.bin .add (.v 4) (.v 3))) (R26 (some (.fl (l.map .int))) (some nmV) (some (.int many)) (some (.int room)) (some (.ref σn.length)) none none none none none none none none none none) (σn ++ [.lst []]) = .ok (.int t) (σn ++ [.lst []]) := by
      refine e_min2 (x := .int 24) (y := .int ((room : Int) + many)) (σ₁ := σn ++ [.lst []]) (σ₂ := σn ++ [.lst []]) rfl (e_bin (x := .int room) (y := .int many) (σ₁ := σn ++ [.lst []]) (σ₂ := σn ++ [.lst []]) rfl rfl add_int) ?_
      show Out.ok (PV.int (min (24 : Int) ((room : Int) + many))) _ = _
      rw [ht]
    rw [ev_comp, range_it (n := t) (by omega) hmin, bind_ok]
    dsimp only
    rw [compGo_map (g := fun x => match x with | .int i => .str (names.getD i.toNat "") | _ => .none) _ fun x hx => ?_]
    · show mkLst false _ _ = _
      rw [range_map (f := fun k => names.getD k "") fun k hk => by simp, mk_ref (small_list (by simp; omega))]
      have hmap : (List.range t).map (fun k => names.getD k "") = names.take t := by
        refine List.ext_getElem (by simp; omega) fun i h1 h2 => ?_
        simp [List.getD, show i < names.length by simp at h1; omega]
      rw [hmap]
      simp [St2]
    · obtain ⟨k, hk, rfl⟩ := range_mem hx
      show ((ev _ _ _ _).bind fun v σ => Out.ok (some v) σ) = _
      rw [e_sub (x := nmV) (y := .int k) (σ₁ := σn ++ [.lst []]) (σ₂ := σn ++ [.lst []]) rfl rfl (hnm [.lst []] k (by omega))]
      simp [bind_ok]
  have e6 : ex (CC (d + 2)) topN f_law_plan_s6 (R26 (some (.fl (l.map .int))) (some nmV) (some (.int many)) (some (.int room)) (some (.ref σn.length)) none (some (.ref (σn.length + 1))) none none none none none none none none) (St2 σn [] (names.take t)) = .next (R26 (some (.fl (l.map .int))) (some nmV) (some (.int many)) (some (.int room)) (some (.ref σn.length)) none (some (.ref (σn.length + 1))) (some (.fl ((names.take t).map .str))) none none none none none none none) (St2 σn [] (names.take t)) := by
    refine ex_asg (e_b1 (x := .ref (σn.length + 1)) (σ₁ := St2 σn [] (names.take t)) rfl ?_)
    have : seqItems (St2 σn [] (names.take t)) (.ref (σn.length + 1)) = some ((names.take t).map .str) := by unfold seqItems; dsimp only; rw [at_free]
    exact (onSeq_some this).trans (mk_fl (small_list (by omega)))
  have I0 : Inv names [] (names.take t) := ⟨fun s hs => (by cases hs), rfl, by simpa using nn.sublist (List.take_sublist _ _), fun n hn => nok n (List.mem_of_mem_take hn), by omega, fun n hn => npl n (List.mem_of_mem_take hn), fun s hs => (by cases hs)⟩
  obtain ⟨steps, free, kk, pk, rl, mr, nd, gv, wt, md, sl, I, hloop⟩ := loop12 (d := d) (σn := σn) hl (nmV := nmV) (many := some (.int many)) (room := some (.int room)) (spots := names.take t) hnm (by omega) (by omega) hnames (fun n hn => nok n (List.mem_of_mem_take hn)) many [] (names.take t) none none none none none none none none (by simpa using hm20) I0
  have e7 : ex (CC (d + 2)) topN f_law_plan_s7 (R26 (some (.fl (l.map .int))) (some nmV) (some (.int many)) (some (.int room)) (some (.ref σn.length)) none (some (.ref (σn.length + 1))) (some (.fl ((names.take t).map .str))) none none none none none none none) (St2 σn [] (names.take t)) = .next (R26 (some (.fl (l.map .int))) (some nmV) (some (.int many)) (some (.int room)) (some (.ref σn.length)) kk (some (.ref (σn.length + 1))) (some (.fl ((names.take t).map .str))) pk rl mr nd gv wt md) (St2 σn (steps.map Step.pv) free) := by
    refine ex_for (ys := (List.range' 0 many).map fun (i : Nat) => PV.int i) (σ₁ := St2 σn [] (names.take t)) ((range_it (n := many) (by (exact Nat.le_trans (by assumption) (by decide))) rfl).trans ?_) hloop
    have : intRange 0 1 many = (List.range' 0 many).map fun (i : Nat) => PV.int i := by
      unfold intRange; rw [List.range_eq_range']; refine List.map_congr_left fun i _ => ?_; congr 1; omega
    rw [this]
  have tup_at : ∀ {p : List Step} {f : List Str}, p.length ≤ 20 → b1v .tuple (.ref σn.length) (St2 σn (p.map Step.pv) f) = .ok (planV p) (St2 σn (p.map Step.pv) f) := fun {p f} hp => by
    have : seqItems (St2 σn (p.map Step.pv) f) (.ref σn.length) = some (p.map Step.pv) := by unfold seqItems; dsimp only; rw [at_plan]
    exact (onSeq_some this).trans (if_pos (plan_lim hp))
  obtain ⟨p, hp, hpp, e8⟩ : ∃ p, PlanOk p ∧ (∀ s ∈ p, Plain s.name ∧ ∀ g ∈ s.gives, Plain g) ∧ ex (CC (d + 2)) topN f_law_plan_s8 (R26 (some (.fl (l.map .int))) (some nmV) (some (.int many)) (some (.int room)) (some (.ref σn.length)) kk (some (.ref (σn.length + 1))) (some (.fl ((names.take t).map .str))) pk rl mr nd gv wt md) (St2 σn (steps.map Step.pv) free) = .next (R26 (some (.fl (l.map .int))) (some nmV) (some (.int many)) (some (.int room)) (some (.ref σn.length)) kk (some (.ref (σn.length + 1))) (some (.fl ((names.take t).map .str))) pk rl mr nd gv wt md) (St2 σn (p.map Step.pv) free) := by
    have tt : tst (CC (d + 2)) (.cmp (.v 5) .eq (.lst true .nil)) (R26 (some (.fl (l.map .int))) (some nmV) (some (.int many)) (some (.int room)) (some (.ref σn.length)) kk (some (.ref (σn.length + 1))) (some (.fl ((names.take t).map .str))) pk rl mr nd gv wt md) (St2 σn (steps.map Step.pv) free) = .ok (decide (steps = [])) (St2 σn (steps.map Step.pv) free) :=
      t_cmp (x := .ref σn.length) (y := .fl []) (σ₁ := St2 σn (steps.map Step.pv) free) (σ₂ := St2 σn (steps.map Step.pv) free) rfl rfl (empty_test at_plan)
    by_cases he : steps = []
    · refine ⟨[Step.mk (names.getD 0 "") (.word "sum") [names.getD 0 ""] [names.getD 1 ""]], ?_, fun s hs => ?_, ?_⟩
      · refine ⟨Nat.le_refl 1, (by show (1 : Nat) ≤ 20; decide), fun s hs => ?_, by simp, by simp⟩
        rw [List.mem_singleton.mp hs]
        exact ⟨hnames 0 (by decide), fun n hn => by rw [List.mem_singleton.mp hn]; exact hnames 0 (by decide), Nat.le_refl 1, (by show (1 : Nat) ≤ 4; decide), fun n hn => by rw [List.mem_singleton.mp hn]; exact hnames 1 (by decide), Nat.le_refl 1, (by show (1 : Nat) ≤ 3; decide), by simp, .sum _ _⟩
      · rw [List.mem_singleton.mp hs]
        exact ⟨hpl 0 (by decide), fun g hg => by rw [List.mem_singleton.mp hg]; exact hpl 1 (by decide)⟩
      · subst he
        refine (ex_ifT (σ' := St2 σn [] free) (tt.trans (by rw [decide_eq_true rfl]; rfl))).trans ((ex_next (ex_expr (e_me (m := .append) (x := .ref σn.length) (σ₁ := St2 σn [] free) rfl (mut_at (.inl rfl)) (y := Step.pv (Step.mk (names.getD 0 "") (.word "sum") [names.getD 0 ""] [names.getD 1 ""])) (σ₂ := St2 σn [] free) ?_ ?_))).trans ex_nil)
        · have n0 : ∀ {kk pk rl mr nd gv wt md sp : Option PV}, ev (CC (d + 2)) (.sub (.v 2) (.k (.int 0))) (R26 (some (.fl (l.map .int))) (some nmV) (some (.int many)) (some (.int room)) (some (.ref σn.length)) kk (some (.ref (σn.length + 1))) sp pk rl mr nd gv wt md) (St2 σn [] free) = .ok (.str (names.getD 0 "")) (St2 σn [] free) := fun {kk pk rl mr nd gv wt md sp} =>
            e_sub (x := nmV) (y := .int ((0 : Nat) : Int)) (σ₁ := St2 σn [] free) (σ₂ := St2 σn [] free) rfl rfl (hnm _ 0 (by decide))
          have n1 : ∀ {kk pk rl mr nd gv wt md sp : Option PV}, ev (CC (d + 2)) (.sub (.v 2) (.k (.int 1))) (R26 (some (.fl (l.map .int))) (some nmV) (some (.int many)) (some (.int room)) (some (.ref σn.length)) kk (some (.ref (σn.length + 1))) sp pk rl mr nd gv wt md) (St2 σn [] free) = .ok (.str (names.getD 1 "")) (St2 σn [] free) := fun {kk pk rl mr nd gv wt md sp} =>
            e_sub (x := nmV) (y := .int ((1 : Nat) : Int)) (σ₁ := St2 σn [] free) (σ₂ := St2 σn [] free) rfl rfl (hnm _ 1 (by decide))
          exact e_tup (vs := [.str (names.getD 0 ""), .tup [.str "sum"], .tup [.str (names.getD 0 "")], .tup [.str (names.getD 1 "")]]) (s_cons n0 (s_cons (x := .tup [.str "sum"]) (σ₁ := St2 σn [] free) rfl (s_cons (e_tup (vs := [.str (names.getD 0 "")]) (s_cons n0 rfl) (show (1 : Nat) ≤ lim by decide)) (s_cons (e_tup (vs := [.str (names.getD 1 "")]) (s_cons n1 rfl) (show (1 : Nat) ≤ lim by decide)) rfl)))) (show (4 : Nat) ≤ lim by decide)
        · show appendv (.ref σn.length) _ _ = _
          have hat : (St2 σn [] free)[σn.length]? = some (.lst []) := at_plan
          unfold appendv; dsimp only; rw [hat]; dsimp only
          rw [if_pos (by decide)]
          congr 1
          show (σn ++ [MO.lst [], .lst (free.map .str)]).set σn.length _ = _
          rw [List.set_append_right _ _ (Nat.le_refl _), Nat.sub_self]
          simp [St2]
    · refine ⟨steps, inv_plan nn nl I ?_ sl, fun s hs => ⟨npl _ (inv_name nl I hs), I.gp s hs⟩, (ex_ifF (tt.trans (by rw [decide_eq_false he]))).trans ex_nil⟩
      cases steps with
      | nil => exact absurd rfl he
      | cons _ _ => simp
  refine ⟨p, St2 σn (p.map Step.pv) free, hp, hpp, ?_⟩
  rw [callC (fn := f_law_plan) rfl rfl]
  show finS (ex (CC (d + 2)) topN (.cons f_law_plan_s0 (.cons f_law_plan_s1 (.cons f_law_plan_s2 (.cons f_law_plan_s3 (.cons f_law_plan_s4 (.cons f_law_plan_s5 (.cons f_law_plan_s6 (.cons f_law_plan_s7 (.cons f_law_plan_s8 (.cons f_law_plan_s9 .nil)))))))))) (R26 (some (.fl (l.map .int))) none none none none none none none none none none none none none none) []) = _
  rw [ex_next e0, hmany, ex_next e3, ex_next e4, ex_next e5, ex_next e6, ex_next e7, ex_next e8, ex_ret (a := f_law_plan_s9) (ex_ret_ (e_b1 (x := .ref σn.length) (σ₁ := St2 σn (p.map Step.pv) free) rfl (tup_at hp.most)))]
  rfl
end
end Mine

namespace Mine
open PySem

section
variable {d : Nat} {σ : Sto}

/-! is_between, givers_of, outside -/
theorem b_int {i a b : Int} : callN PP topN (d + 1) i_is_between [.int i, .int a, .int b] σ = .ok (.bool (decide (a ≤ i) && decide (i ≤ b))) σ := by
  rw [callC (fn := f_is_between) rfl rfl]
  have : ex (CC d) topN f_is_between.body [some (.int i), some (.int a), some (.int b), none, none, none] σ = .ret (.bool (decide (a ≤ i) && decide (i ≤ b))) [some (.int i), some (.int a), some (.int b), none, none, none] σ :=
    ex_ret (ex_ret_ (e_and (e_and_t (σ₁ := σ) rfl (e_and_t (σ₁ := σ) rfl (e_and_1 (e_between_c rfl rfl rfl))))))
  exact (congrArg finS this).trans rfl

/-- what stands at a place of the store -/
theorem at_mid {τ υ : Sto} {m : MO} : (τ ++ m :: υ)[τ.length]? = some m := by simp
theorem set_mid {τ υ : Sto} {m m' : MO} : (τ ++ m :: υ).set τ.length m' = τ ++ m' :: υ := by simp

theorem aget_none {es : List (Str × PV)} {k : Str} : k ∉ es.map (·.1) → aget k es = none := by
  intro h
  unfold aget
  rw [List.find?_eq_none.mpr]
  · rfl
  · intro e he q
    exact h (List.mem_map.mpr ⟨e, he, of_decide_eq_true q⟩)
theorem aput_new {es : List (Str × PV)} {k : Str} {v : PV} (h : k ∉ es.map (·.1)) : aput k v es = es ++ [(k, v)] := by
  unfold aput
  rw [if_neg]
  intro q
  obtain ⟨e, he, q⟩ := List.any_eq_true.mp q
  exact h (List.mem_map.mpr ⟨e, he, of_decide_eq_true q⟩)
theorem aget_some {es : List (Str × PV)} {k : Str} : (aget k es).isSome = decide (k ∈ es.map (·.1)) := by
  by_cases h : k ∈ es.map (·.1)
  · rw [decide_eq_true h]
    obtain ⟨e, he, q⟩ := List.mem_map.mp h
    unfold aget
    rw [Option.isSome_map, List.find?_isSome]
    exact ⟨e, he, decide_eq_true q⟩
  · rw [decide_eq_false h, aget_none h]; rfl

noncomputable def giversL (p : List Step) : List (Str × PV) := p.flatMap fun s => s.gives.map fun g => (g, s.pv)
theorem givers_keys (p : List Step) : (giversL p).map (·.1) = p.flatMap (·.gives) := by
  unfold giversL
  rw [List.map_flatMap]
  congr 1
  funext s
  rw [List.map_map]
  exact List.map_id _

theorem giv_in {pl s : PV} {τ : Sto} : ∀ (gs : List Str) (y : Option PV) (es : List (Str × PV)), es.length + gs.length ≤ 1000 → (es.map (·.1) ++ gs).Nodup →
    ∃ y', forGo none (bind1 3) (fun ρ σ => ex (CC d) topN f_givers_of_s1b0b ρ σ) (gs.map .str) [some pl, some (.ref τ.length), some s, y] (τ ++ [.ds es]) =
      .next [some pl, some (.ref τ.length), some s, y'] (τ ++ [.ds (es ++ gs.map fun g => (g, s))]) := by
  intro gs
  induction gs with
  | nil => intro y es _ _; exact ⟨y, by simpa using for_nil⟩
  | cons g gs ih =>
    intro y es hl hn
    have hk : g ∉ es.map (·.1) := fun q => (List.nodup_append.mp hn).2.2 g q g (by simp) rfl
    rw [List.length_cons] at hl
    obtain ⟨y', e⟩ := ih (some (.str g)) (es ++ [(g, s)]) (by rw [List.length_append]; show es.length + 1 + gs.length ≤ 1000; omega) (by simpa using hn)
    refine ⟨y', (for_next (ρ₁ := [some pl, some (.ref τ.length), some s, some (.str g)]) (ρ₂ := [some pl, some (.ref τ.length), some s, some (.str g)]) (σ₂ := τ ++ [.ds (es ++ [(g, s)])]) rfl ?_).trans (e.trans (by simp))⟩
    refine (ex_next ?_).trans ex_nil
    show storeSub (.ref τ.length) (.str g) s _ (τ ++ [.ds es]) = _
    unfold storeSub
    dsimp only
    rw [at_mid]
    dsimp only
    rw [if_pos (by rw [lim_val]; omega), set_mid, aput_new hk]
theorem giv_out {pl : PV} {τ : Sto} : ∀ (p : List Step) (x y : Option PV) (es : List (Str × PV)), es.length + 3 * p.length ≤ 1000 → (∀ s ∈ p, s.gives.length ≤ 3) → (es.map (·.1) ++ p.flatMap (·.gives)).Nodup →
    ∃ x' y', forGo none (bind1 2) (fun ρ σ => ex (CC d) topN f_givers_of_s1b ρ σ) (p.map Step.pv) [some pl, some (.ref τ.length), x, y] (τ ++ [.ds es]) =
      .next [some pl, some (.ref τ.length), x', y'] (τ ++ [.ds (es ++ giversL p)]) := by
  intro p
  induction p with
  | nil => intro x y es _ _ _; exact ⟨x, y, by simpa [giversL] using for_nil⟩
  | cons s p ih =>
    intro x y es hl h3 hn
    have hs := h3 s (by simp)
    rw [List.length_cons] at hl
    rw [List.flatMap_cons, ← List.append_assoc] at hn
    obtain ⟨y1, e1⟩ := giv_in (d := d) (pl := pl) (s := s.pv) (τ := τ) s.gives y es (by omega) (List.nodup_append.mp hn).1
    have hk : (es ++ s.gives.map fun g => (g, s.pv)).map (·.1) = es.map (·.1) ++ s.gives := by
      rw [List.map_append, List.map_map]; congr 1; exact List.map_id _
    obtain ⟨x', y', e2⟩ := ih (some s.pv) y1 (es ++ s.gives.map fun g => (g, s.pv)) (by rw [List.length_append, List.length_map]; omega) (fun t ht => h3 t (List.mem_cons_of_mem _ ht)) (by rw [hk]; exact hn)
    refine ⟨x', y', (for_next (ρ₁ := [some pl, some (.ref τ.length), some s.pv, y]) (ρ₂ := [some pl, some (.ref τ.length), some s.pv, y1]) (σ₂ := τ ++ [.ds (es ++ s.gives.map fun g => (g, s.pv))]) rfl ?_).trans (e2.trans (by simp [giversL]))⟩
    exact (ex_next (ex_for (ys := s.gives.map .str) (σ₁ := τ ++ [.ds es]) rfl e1)).trans ex_nil
theorem givers_of {p : List Step} (h : PlanOk p) : callN PP topN (d + 1) i_givers_of [planV p] σ = .ok (.ref σ.length) (σ ++ [.ds (giversL p)]) := by
  rw [callC (fn := f_givers_of) rfl rfl]
  obtain ⟨x', y', e⟩ := giv_out (d := d) (pl := planV p) (τ := σ) p none none [] (by show 0 + 3 * p.length ≤ 1000; have := h.most; omega) (fun s hs => (h.steps s hs).gives3) (by simpa using h.gives)
  have : ex (CC d) topN f_givers_of.body [some (planV p), none, none, none] σ = .ret (.ref σ.length) [some (planV p), some (.ref σ.length), x', y'] (σ ++ [.ds (giversL p)]) := by
    refine (ex_next (a := f_givers_of_s0) (ρ' := [some (planV p), some (.ref σ.length), none, none]) (σ' := σ ++ [.ds []]) rfl).trans ((ex_next (ex_for (ys := p.map Step.pv) (σ₁ := σ ++ [.ds []]) rfl e)).trans ?_)
    exact ex_ret (ex_ret_ rfl)
  exact (congrArg finS this).trans rfl
end
end Mine

namespace Mine
open PySem

section
variable {d : Nat} {σ : Sto}

theorem toD_strsM {ns : List Str} : (ns.map PV.str).mapM (toD 16 σ) = some (ns.map PyData.str) := by
  induction ns with
  | nil => rfl
  | cons n ns ih => rw [List.map_cons, List.mapM_cons, ih]; rfl
theorem memv_strs {ns : List Str} {g : Str} : memv σ (.str g) (ns.map .str) = some (decide (g ∈ ns)) := by
  unfold memv
  rw [toD_strsM]
  show some ((ns.map PyData.str).any fun y => PyData.eqv y (.str g)) = _
  congr 1
  rw [List.any_map]
  induction ns with
  | nil => rfl
  | cons n ns ih =>
    rw [List.any_cons, ih]
    show (n == g || decide (g ∈ ns)) = _
    by_cases q : n = g
    · subst q; simp
    · rw [beq_eq_false_iff_ne.mpr q]
      by_cases q2 : g ∈ ns
      · simp [q2]
      · rw [decide_eq_false q2, decide_eq_false (by simp [q2]; exact fun z => q z.symm)]; rfl
theorem not_in_lst {r : Nat} {ns : List Str} {g : Str} (h : σ[r]? = some (.lst (ns.map .str))) : cmpop .notin (.str g) (.ref r) σ = .ok (!decide (g ∈ ns)) σ := by
  show Out.ofOpt ((isinv (.str g) (.ref r) σ).map (!·)) σ = _
  have : isinv (.str g) (.ref r) σ = some (decide (g ∈ ns)) := by
    unfold isinv
    dsimp only
    rw [h]
    exact memv_strs
  rw [this]; rfl
theorem not_in_ds {r : Nat} {es : List (Str × PV)} {g : Str} (h : σ[r]? = some (.ds es)) : cmpop .notin (.str g) (.ref r) σ = .ok (!decide (g ∈ es.map (·.1))) σ := by
  show Out.ofOpt ((isinv (.str g) (.ref r) σ).map (!·)) σ = _
  have : isinv (.str g) (.ref r) σ = some (decide (g ∈ es.map (·.1))) := by
    unfold isinv
    dsimp only
    rw [h]
    exact congrArg some aget_some
  rw [this]; rfl

noncomputable def outStep (G acc : List Str) (n : Str) : List Str := if (!decide (n ∈ G) && !decide (n ∈ acc)) = true then acc ++ [n] else acc
noncomputable def outL (G ns : List Str) : List Str := ns.foldl (outStep G) []
theorem outStep_len {G acc : List Str} {n : Str} : (outStep G acc n).length ≤ acc.length + 1 := by
  unfold outStep; split
  · simp
  · omega
theorem out_len {G : List Str} : ∀ (ns acc : List Str), (ns.foldl (outStep G) acc).length ≤ acc.length + ns.length := by
  intro ns
  induction ns with
  | nil => intro acc; exact Nat.le_refl _
  | cons n ns ih =>
    intro acc
    rw [List.foldl_cons, List.length_cons]
    have h1 := ih (outStep G acc n)
    have h2 := outStep_len (G := G) (acc := acc) (n := n)
    omega

theorem app_end {τ : Sto} {xs : List PV} {v : PV} (h : xs.length < 1000) : mev .append (.ref τ.length) [v] (τ ++ [.lst xs]) = .ok .none (τ ++ [.lst (xs ++ [v])]) := append_at h

/-- `outside` -/
theorem out_in {pl s : PV} {r : Nat} {es : List (Str × PV)} {τ : Sto} {w : Option PV} (hr : τ[r]? = some (.ds es)) : ∀ (ns : List Str) (y : Option PV) (acc : List Str), acc.length + ns.length ≤ 900 →
    ∃ y', forGo none (bind1 4) (fun ρ σ => ex (CC d) topN f_outside_s2b0b ρ σ) (ns.map .str) [some pl, some (.ref r), some (.ref τ.length), some s, y, w] (τ ++ [.lst (acc.map .str)]) =
      .next [some pl, some (.ref r), some (.ref τ.length), some s, y', w] (τ ++ [.lst ((ns.foldl (outStep (es.map (·.1))) acc).map .str)]) := by
  intro ns
  induction ns with
  | nil => intro y acc _; exact ⟨y, for_nil⟩
  | cons n ns ih =>
    intro y acc hl
    rw [List.length_cons] at hl
    obtain ⟨y', e⟩ := ih (some (.str n)) (outStep (es.map (·.1)) acc n) (by have := outStep_len (G := es.map (·.1)) (acc := acc) (n := n); omega)
    refine ⟨y', (for_next (ρ₁ := [some pl, some (.ref r), some (.ref τ.length), some s, some (.str n), w]) (ρ₂ := [some pl, some (.ref r), some (.ref τ.length), some s, some (.str n), w]) (σ₂ := τ ++ [.lst ((outStep (es.map (·.1)) acc n).map .str)]) rfl ?_).trans e⟩
    have hr' : (τ ++ [MO.lst (acc.map .str)])[r]? = some (.ds es) := by
      rw [List.getElem?_append_left (List.getElem?_eq_some_iff.mp hr).1]; exact hr
    have t : tst (CC d) (.and (.cons (.cmp (.v 4) .notin (.v 1)) (.cons (.cmp (.v 4) .notin (.v 2)) .nil))) [some pl, some (.ref r), some (.ref τ.length), some s, some (.str n), w] (τ ++ [.lst (acc.map .str)]) = .ok (!decide (n ∈ es.map (·.1)) && !decide (n ∈ acc)) (τ ++ [.lst (acc.map .str)]) :=
      t_and (t_and_c (t_cmp (x := .str n) (y := .ref r) (σ₁ := τ ++ [.lst (acc.map .str)]) (σ₂ := τ ++ [.lst (acc.map .str)]) rfl rfl (not_in_ds hr')) fun _ => t_and_1 (t_cmp (x := .str n) (y := .ref τ.length) (σ₁ := τ ++ [.lst (acc.map .str)]) (σ₂ := τ ++ [.lst (acc.map .str)]) rfl rfl (not_in_lst at_mid)))
    unfold outStep
    cases hq : (!decide (n ∈ es.map (·.1)) && !decide (n ∈ acc)) with
    | false =>
      rw [hq] at t
      exact (ex_next ((ex_ifF t).trans ex_nil)).trans ex_nil
    | true =>
      rw [hq] at t
      rw [if_pos rfl]
      refine (ex_next ((ex_ifT t).trans ((ex_next (ex_expr (e_me (m := .append) (x := .ref τ.length) (σ₁ := τ ++ [.lst (acc.map .str)]) rfl ?_ (y := .str n) (σ₂ := τ ++ [.lst (acc.map .str)]) rfl (app_end (by rw [List.length_map]; omega))))).trans ?_))).trans ex_nil
      · exact mut_at (.inl rfl)
      · rw [List.map_append]; exact ex_nil
theorem out_out {pl : PV} {r : Nat} {es : List (Str × PV)} {τ : Sto} {w : Option PV} (hr : τ[r]? = some (.ds es)) : ∀ (p : List Step) (x y : Option PV) (acc : List Str), acc.length + 4 * p.length ≤ 900 → (∀ s ∈ p, s.needs.length ≤ 4) →
    ∃ x' y', forGo none (bind1 3) (fun ρ σ => ex (CC d) topN f_outside_s2b ρ σ) (p.map Step.pv) [some pl, some (.ref r), some (.ref τ.length), x, y, w] (τ ++ [.lst (acc.map .str)]) =
      .next [some pl, some (.ref r), some (.ref τ.length), x', y', w] (τ ++ [.lst (((p.flatMap (·.needs)).foldl (outStep (es.map (·.1))) acc).map .str)]) := by
  intro p
  induction p with
  | nil => intro x y acc _ _; exact ⟨x, y, for_nil⟩
  | cons s p ih =>
    intro x y acc hl h4
    have hs := h4 s (by simp)
    rw [List.length_cons] at hl
    obtain ⟨y1, e1⟩ := out_in (d := d) (pl := pl) (s := s.pv) (w := w) hr s.needs y acc (by omega)
    obtain ⟨x', y', e2⟩ := ih (some s.pv) y1 (s.needs.foldl (outStep (es.map (·.1))) acc) (by have := out_len (G := es.map (·.1)) s.needs acc; omega) fun t ht => h4 t (List.mem_cons_of_mem _ ht)
    refine ⟨x', y', (for_next (ρ₁ := [some pl, some (.ref r), some (.ref τ.length), some s.pv, y, w]) (ρ₂ := [some pl, some (.ref r), some (.ref τ.length), some s.pv, y1, w]) (σ₂ := τ ++ [.lst ((s.needs.foldl (outStep (es.map (·.1))) acc).map .str)]) rfl ?_).trans (e2.trans (by rw [List.flatMap_cons, List.foldl_append]))⟩
    exact (ex_next (ex_for (ys := s.needs.map .str) (σ₁ := τ ++ [.lst (acc.map .str)]) rfl e1)).trans ex_nil
theorem outside_ {p : List Step} (h : PlanOk p) : callN PP topN (d + 2) i_outside [planV p] σ = .ok (.ref (σ.length + 1)) (σ ++ [.ds (giversL p), .lst ((outL (p.flatMap (·.gives)) (p.flatMap (·.needs))).map .str)]) := by
  rw [callC (fn := f_outside) rfl rfl]
  have hr : (σ ++ [MO.ds (giversL p)])[σ.length]? = some (.ds (giversL p)) := by simp
  obtain ⟨x', y', e⟩ := out_out (d := d + 1) (pl := planV p) (w := none) hr p none none [] (by show 0 + 4 * p.length ≤ 900; have := h.most; omega) fun s hs => (h.steps s hs).needs4
  rw [givers_keys] at e
  have hl : (σ ++ [MO.ds (giversL p)]).length = σ.length + 1 := by simp
  rw [hl] at e
  have : ex (CC (d + 1)) topN f_outside.body [some (planV p), none, none, none, none, none] σ = .ret (.ref (σ.length + 1)) [some (planV p), some (.ref σ.length), some (.ref (σ.length + 1)), x', y', none] (σ ++ [.ds (giversL p), .lst ((outL (p.flatMap (·.gives)) (p.flatMap (·.needs))).map .str)]) := by
    refine (ex_next (a := f_outside_s0) (ρ' := [some (planV p), some (.ref σ.length), none, none, none, none]) (σ' := σ ++ [.ds (giversL p)]) (ex_asg (e_call1 (x := planV p) (σ₁ := σ) rfl (givers_of h)))).trans ?_
    refine (ex_next (a := f_outside_s1) (ρ' := [some (planV p), some (.ref σ.length), some (.ref (σ ++ [MO.ds (giversL p)]).length), none, none, none]) (σ' := σ ++ [.ds (giversL p)] ++ [.lst []]) rfl).trans ?_
    rw [hl]
    refine (ex_next (ex_for (ys := p.map Step.pv) (σ₁ := σ ++ [.ds (giversL p)] ++ [.lst []]) rfl e)).trans ((ex_ret (ex_ret_ rfl)).trans ?_)
    rw [List.append_assoc]; rfl
  exact (congrArg finS this).trans rfl
end
end Mine

namespace Mine
open PySem

section
variable {d : Nat} {σ : Sto}

theorem lo_given {pl : PV} {τ : Sto} {u w : Option PV} : ∀ (p : List Step) (x : Option PV) (acc : List Str), acc.length + 3 * p.length ≤ 900 → (∀ s ∈ p, s.gives.length ≤ 3) →
    ∃ x', forGo none (bind1 2) (fun ρ σ => ex (CC d) topN f_law_outside_s1b ρ σ) (p.map Step.pv) [some pl, some (.ref τ.length), x, u, w] (τ ++ [.lst (acc.map .str)]) =
      .next [some pl, some (.ref τ.length), x', u, w] (τ ++ [.lst ((acc ++ p.flatMap (·.gives)).map .str)]) := by
  intro p
  induction p with
  | nil => intro x acc _ _; exact ⟨x, by simpa using for_nil⟩
  | cons s p ih =>
    intro x acc hl h3
    have hg := h3 s (by simp)
    rw [List.length_cons] at hl
    obtain ⟨x', e⟩ := ih (some s.pv) (acc ++ s.gives) (by rw [List.length_append]; omega) fun t ht => h3 t (List.mem_cons_of_mem _ ht)
    refine ⟨x', (for_next (ρ₁ := [some pl, some (.ref τ.length), some s.pv, u, w]) (ρ₂ := [some pl, some (.ref τ.length), some s.pv, u, w]) (σ₂ := τ ++ [.lst ((acc ++ s.gives).map .str)]) rfl ?_).trans (e.trans (by simp [List.flatMap_cons]))⟩
    refine (ex_next (ex_expr (e_me (m := .extend) (x := .ref τ.length) (σ₁ := τ ++ [.lst (acc.map .str)]) (σ₂ := τ ++ [.lst (acc.map .str)]) rfl (mut_at (.inr (.inl rfl))) (y := .tup (s.gives.map .str)) rfl ?_))).trans ex_nil
    show extendv (.ref τ.length) (.tup (s.gives.map .str)) _ = _
    unfold extendv; dsimp only; rw [at_mid]; dsimp only
    rw [if_pos (by rw [List.length_map, List.length_map, lim_val]; omega), set_mid, List.map_append]
theorem lo_in {pl s : PV} {r : Nat} {G : List Str} {τ : Sto} (hr : τ[r]? = some (.lst (G.map .str))) : ∀ (ns : List Str) (y : Option PV) (acc : List Str), acc.length + ns.length ≤ 900 →
    ∃ y', forGo none (bind1 4) (fun ρ σ => ex (CC d) topN f_law_outside_s3b0b ρ σ) (ns.map .str) [some pl, some (.ref r), some s, some (.ref τ.length), y] (τ ++ [.lst (acc.map .str)]) =
      .next [some pl, some (.ref r), some s, some (.ref τ.length), y'] (τ ++ [.lst ((ns.foldl (outStep G) acc).map .str)]) := by
  intro ns
  induction ns with
  | nil => intro y acc _; exact ⟨y, for_nil⟩
  | cons n ns ih =>
    intro y acc hl
    rw [List.length_cons] at hl
    obtain ⟨y', e⟩ := ih (some (.str n)) (outStep G acc n) (by have := outStep_len (G := G) (acc := acc) (n := n); omega)
    refine ⟨y', (for_next (ρ₁ := [some pl, some (.ref r), some s, some (.ref τ.length), some (.str n)]) (ρ₂ := [some pl, some (.ref r), some s, some (.ref τ.length), some (.str n)]) (σ₂ := τ ++ [.lst ((outStep G acc n).map .str)]) rfl ?_).trans e⟩
    have hr' : (τ ++ [MO.lst (acc.map .str)])[r]? = some (.lst (G.map .str)) := by
      rw [List.getElem?_append_left (List.getElem?_eq_some_iff.mp hr).1]; exact hr
    have t : tst (CC d) (.and (.cons (.cmp (.v 4) .notin (.v 1)) (.cons (.cmp (.v 4) .notin (.v 3)) .nil))) [some pl, some (.ref r), some s, some (.ref τ.length), some (.str n)] (τ ++ [.lst (acc.map .str)]) = .ok (!decide (n ∈ G) && !decide (n ∈ acc)) (τ ++ [.lst (acc.map .str)]) :=
      t_and (t_and_c (t_cmp (x := .str n) (y := .ref r) (σ₁ := τ ++ [.lst (acc.map .str)]) (σ₂ := τ ++ [.lst (acc.map .str)]) rfl rfl (not_in_lst hr')) fun _ => t_and_1 (t_cmp (x := .str n) (y := .ref τ.length) (σ₁ := τ ++ [.lst (acc.map .str)]) (σ₂ := τ ++ [.lst (acc.map .str)]) rfl rfl (not_in_lst at_mid)))
    unfold outStep
    cases hq : (!decide (n ∈ G) && !decide (n ∈ acc)) with
    | false =>
      rw [hq] at t
      exact (ex_next ((ex_ifF t).trans ex_nil)).trans ex_nil
    | true =>
      rw [hq] at t
      rw [if_pos rfl]
      refine (ex_next ((ex_ifT t).trans ((ex_next (ex_expr (e_me (m := .append) (x := .ref τ.length) (σ₁ := τ ++ [.lst (acc.map .str)]) rfl ?_ (y := .str n) (σ₂ := τ ++ [.lst (acc.map .str)]) rfl (app_end (by rw [List.length_map]; omega))))).trans ?_))).trans ex_nil
      · exact mut_at (.inl rfl)
      · rw [List.map_append]; exact ex_nil
theorem lo_out {pl : PV} {r : Nat} {G : List Str} {τ : Sto} (hr : τ[r]? = some (.lst (G.map .str))) : ∀ (p : List Step) (x y : Option PV) (acc : List Str), acc.length + 4 * p.length ≤ 900 → (∀ s ∈ p, s.needs.length ≤ 4) →
    ∃ x' y', forGo none (bind1 2) (fun ρ σ => ex (CC d) topN f_law_outside_s3b ρ σ) (p.map Step.pv) [some pl, some (.ref r), x, some (.ref τ.length), y] (τ ++ [.lst (acc.map .str)]) =
      .next [some pl, some (.ref r), x', some (.ref τ.length), y'] (τ ++ [.lst (((p.flatMap (·.needs)).foldl (outStep G) acc).map .str)]) := by
  intro p
  induction p with
  | nil => intro x y acc _ _; exact ⟨x, y, for_nil⟩
  | cons s p ih =>
    intro x y acc hl h4
    have hs := h4 s (by simp)
    rw [List.length_cons] at hl
    obtain ⟨y1, e1⟩ := lo_in (d := d) (pl := pl) (s := s.pv) hr s.needs y acc (by omega)
    obtain ⟨x', y', e2⟩ := ih (some s.pv) y1 (s.needs.foldl (outStep G) acc) (by have := out_len (G := G) s.needs acc; omega) fun t ht => h4 t (List.mem_cons_of_mem _ ht)
    refine ⟨x', y', (for_next (ρ₁ := [some pl, some (.ref r), some s.pv, some (.ref τ.length), y]) (ρ₂ := [some pl, some (.ref r), some s.pv, some (.ref τ.length), y1]) (σ₂ := τ ++ [.lst ((s.needs.foldl (outStep G) acc).map .str)]) rfl ?_).trans (e2.trans (by rw [List.flatMap_cons, List.foldl_append]))⟩
    exact (ex_next (ex_for (ys := s.needs.map .str) (σ₁ := τ ++ [.lst (acc.map .str)]) rfl e1)).trans ex_nil
theorem law_outside {p : List Step} (h : PlanOk p) : callN PP topN (d + 1) i_law_outside [planV p] σ = .ok (.ref (σ.length + 1)) (σ ++ [.lst ((p.flatMap (·.gives)).map .str), .lst ((outL (p.flatMap (·.gives)) (p.flatMap (·.needs))).map .str)]) := by
  rw [callC (fn := f_law_outside) rfl rfl]
  obtain ⟨x1, e1⟩ := lo_given (d := d) (pl := planV p) (τ := σ) (u := none) (w := none) p none [] (by show 0 + 3 * p.length ≤ 900; have := h.most; omega) fun s hs => (h.steps s hs).gives3
  rw [List.nil_append] at e1
  generalize hG : p.flatMap (·.gives) = G at e1
  have hr : (σ ++ [MO.lst (G.map .str)])[σ.length]? = some (.lst (G.map .str)) := by simp
  obtain ⟨x', y', e⟩ := lo_out (d := d) (pl := planV p) hr p x1 none [] (by show 0 + 4 * p.length ≤ 900; have := h.most; omega) fun s hs => (h.steps s hs).needs4
  have hl : (σ ++ [MO.lst (G.map .str)]).length = σ.length + 1 := by simp
  rw [hl] at e
  have : ex (CC d) topN f_law_outside.body [some (planV p), none, none, none, none] σ = .ret (.ref (σ.length + 1)) [some (planV p), some (.ref σ.length), x', some (.ref (σ.length + 1)), y'] (σ ++ [.lst (G.map .str), .lst ((outL G (p.flatMap (·.needs))).map .str)]) := by
    refine (ex_next (a := f_law_outside_s0) (ρ' := [some (planV p), some (.ref σ.length), none, none, none]) (σ' := σ ++ [.lst []]) rfl).trans ?_
    refine (ex_next (ex_for (ys := p.map Step.pv) (σ₁ := σ ++ [.lst []]) rfl e1)).trans ?_
    refine (ex_next (a := f_law_outside_s2) (ρ' := [some (planV p), some (.ref σ.length), x1, some (.ref (σ ++ [MO.lst (G.map .str)]).length), none]) (σ' := σ ++ [.lst (G.map .str)] ++ [.lst []]) rfl).trans ?_
    rw [hl]
    refine (ex_next (ex_for (ys := p.map Step.pv) (σ₁ := σ ++ [.lst (G.map .str)] ++ [.lst []]) rfl e)).trans ((ex_ret (ex_ret_ rfl)).trans ?_)
    rw [List.append_assoc]; rfl
  exact (congrArg finS this).trans rfl

/-! Board -/
theorem store_attr {n : Str} {c : Nat} {v : PV} {ρ : Loc} {τ υ : Sto} {fs : List (Str × PV)} (h : fs.length < 100) : storeAttr c (.inst c τ.length) n v ρ (τ ++ .ns fs :: υ) = .next ρ (τ ++ .ns (aput n v fs) :: υ) := by
  unfold storeAttr
  dsimp only
  rw [if_pos rfl, at_mid]
  dsimp only
  rw [if_pos h, set_mid]
theorem ex_attr {c k : Nat} {n : Str} {o x : X} {v : PV} {C : Cfg} {ρ : Loc} {τ υ υ' : Sto} {fs : List (Str × PV)} (hx : ev C x ρ (τ ++ .ns fs :: υ) = .ok v (τ ++ .ns fs :: υ')) (ho : ev C o ρ (τ ++ .ns fs :: υ') = .ok (.inst c τ.length) (τ ++ .ns fs :: υ')) (h : fs.length < 100) :
    ex C k (.asgAttr c o n x) ρ (τ ++ .ns fs :: υ) = .next ρ (τ ++ .ns (aput n v fs) :: υ') := by
  show (ev C x ρ (τ ++ .ns fs :: υ)).toS ρ (fun v σ => (ev C o ρ σ).toS ρ fun o σ => storeAttr c o n v ρ σ) = _
  rw [hx]
  show (ev C o ρ (τ ++ .ns fs :: υ')).toS ρ (fun o σ => storeAttr c o n v ρ σ) = _
  rw [ho]
  exact store_attr h
end
end Mine

namespace Mine
open PySem

section
variable {d : Nat} {σ : Sto}

theorem fits_ok {s : Step} (h : StepOk s) : Fits s := by
  have k : ∀ n, NameOk n → n.length ≤ lim := fun n q => Nat.le_trans q.len (by decide)
  exact ⟨k _ h.name, fun n hn => k n (h.needs n hn), Nat.le_trans h.needs4 (by decide), fun n hn => k n (h.gives n hn), Nat.le_trans h.gives3 (by decide)⟩
theorem plan_true {p : List Step} (h : PlanOk p) : ∃ τ, callN PP topN (d + 4) i_is_plan [planV p] σ = .ok (.bool true) (σ ++ τ) := by
  obtain ⟨τ, e⟩ := h6x (d := d) (σ := σ) (fun s hs => fits_ok (h.steps s hs)) (Nat.le_trans h.most (by decide))
  rw [planB_iff.mpr h] at e
  exact ⟨τ, e⟩
/-- `Board(plan, turns)` -/
theorem init_plan {pl tv o : PV} (h : ∃ τ, callN PP topN (d + 4) i_is_plan [pl] σ = .ok (.bool false) (σ ++ τ)) : ∃ σ', callN PP topN (d + 5) i_Board___init__ [o, pl, tv] σ = .exc 102 σ' := by
  obtain ⟨τ, h⟩ := h
  rw [callC (fn := f_Board___init__) rfl rfl]
  refine ⟨σ ++ τ, ?_⟩
  have : ex (CC (d + 4)) topN f_Board___init__.body [some o, some pl, some tv, none, none, none, none, none, none, none] σ = .exc 102 [some o, some pl, some tv, none, none, none, none, none, none, none] (σ ++ τ) :=
    ex_exc ((ex_ifT (t_not (q := false) (t_call (e_call1 (x := pl) (σ₁ := σ) rfl h)))).trans (ex_exc ex_raise))
  exact (congrArg finS this).trans rfl
theorem init_turn {pl tv o : PV} (h : ∃ τ, callN PP topN (d + 4) i_is_plan [pl] σ = .ok (.bool true) (σ ++ τ)) (ht : ∀ {d : Nat} {σ : Sto}, callN PP topN (d + 1) i_is_between [tv, .int 1, .int 200] σ = .ok (.bool false) σ) : ∃ σ', callN PP topN (d + 5) i_Board___init__ [o, pl, tv] σ = .exc 114 σ' := by
  obtain ⟨τ, h⟩ := h
  rw [callC (fn := f_Board___init__) rfl rfl]
  refine ⟨σ ++ τ, ?_⟩
  have : ex (CC (d + 4)) topN f_Board___init__.body [some o, some pl, some tv, none, none, none, none, none, none, none] σ = .exc 114 [some o, some pl, some tv, none, none, none, none, none, none, none] (σ ++ τ) :=
    (ex_next (a := f_Board___init___s0) ((ex_ifF (t_not (q := true) (t_call (e_call1 (x := pl) (σ₁ := σ) rfl h)))).trans ex_nil)).trans
      (ex_exc (a := f_Board___init___s1) ((ex_ifT (t_not (q := false) (t_call (e_call3 (x := tv) (y := .int 1) (z := .int 200) (σ₁ := σ ++ τ) (σ₂ := σ ++ τ) (σ₃ := σ ++ τ) rfl rfl rfl (ht (d := d + 3)))))).trans (ex_exc ex_raise)))
  exact (congrArg finS this).trans rfl
theorem aput_len {es : List (Str × PV)} {k : Str} {v : PV} : (aput k v es).length ≤ es.length + 1 := by
  unfold aput
  split
  · rw [List.length_map]; exact Nat.le_succ _
  · rw [List.length_append]; exact Nat.le_refl _
theorem init_ok {p : List Step} {tv : PV} (h : PlanOk p) (ht : ∀ {d : Nat} {σ : Sto}, callN PP topN (d + 1) i_is_between [tv, .int 1, .int 200] σ = .ok (.bool true) σ) :
    ∃ fs υ, callN PP topN (d + 5) i_Board___init__ [.inst 320 σ.length, planV p, tv] (σ ++ [.ns []]) = .ok .none (σ ++ .ns fs :: υ) := by
  obtain ⟨τ, hp⟩ := plan_true (d := d) (σ := σ ++ [.ns []]) h
  rw [callC (fn := f_Board___init__) rfl rfl]
  generalize hρ : ([some (.inst 320 σ.length), some (planV p), some tv, none, none, none, none, none, none, none] : Loc) = ρ
  have o0 : ∀ {st : Sto}, ev (CC (d + 4)) (.v 0) ρ st = .ok (.inst 320 σ.length) st := fun {st} => by subst hρ; rfl
  have o1 : ∀ {st : Sto}, ev (CC (d + 4)) (.v 1) ρ st = .ok (planV p) st := fun {st} => by subst hρ; rfl
  have o2 : ∀ {st : Sto}, ev (CC (d + 4)) (.v 2) ρ st = .ok tv st := fun {st} => by subst hρ; rfl
  have s0 : ex (CC (d + 4)) topN f_Board___init___s0 ρ (σ ++ [.ns []]) = .next ρ (σ ++ .ns [] :: τ) := by
    have c1 : ev (CC (d + 4)) (.call i_is_plan (.cons (.v 1) .nil)) ρ (σ ++ [.ns []]) = .ok (.bool true) (σ ++ .ns [] :: τ) := by
      have c : ev (CC (d + 4)) (.call i_is_plan (.cons (.v 1) .nil)) ρ (σ ++ [.ns []]) = .ok (.bool true) (σ ++ [.ns []] ++ τ) := e_call1 o1 hp
      rw [List.append_assoc] at c; exact c
    exact (ex_ifF (t_not (q := true) (t_call c1))).trans ex_nil
  have s1 : ex (CC (d + 4)) topN f_Board___init___s1 ρ (σ ++ .ns [] :: τ) = .next ρ (σ ++ .ns [] :: τ) :=
    (ex_ifF (t_not (q := true) (t_call (e_call3 (f := i_is_between) (y := .int 1) (z := .int 200) (σ₂ := σ ++ .ns [] :: τ) (σ₃ := σ ++ .ns [] :: τ) o2 rfl rfl (ht (d := d + 3)))))).trans ex_nil
  have s2 : ex (CC (d + 4)) topN f_Board___init___s2 ρ (σ ++ .ns [] :: τ) = .next ρ (σ ++ .ns (aput "plan" (planV p) []) :: τ) := ex_attr o1 o0 (by decide)
  have l1 : (aput ("plan" : Str) (planV p) []).length ≤ 1 := aput_len
  generalize aput ("plan" : Str) (planV p) [] = f1 at s2 l1
  have s3 : ex (CC (d + 4)) topN f_Board___init___s3 ρ (σ ++ .ns f1 :: τ) = .next ρ (σ ++ .ns (aput "turns" tv f1) :: τ) := ex_attr o2 o0 (by omega)
  have l2 : (aput ("turns" : Str) tv f1).length ≤ 2 := Nat.le_trans aput_len (Nat.succ_le_succ l1)
  generalize aput ("turns" : Str) tv f1 = f2 at s3 l2
  have s4 : ∃ v, ex (CC (d + 4)) topN f_Board___init___s4 ρ (σ ++ .ns f2 :: τ) = .next ρ (σ ++ .ns (aput "givers" v f2) :: (τ ++ [.ds (giversL p)])) := by
    have c1 : ev (CC (d + 4)) (.call i_givers_of (.cons (.v 1) .nil)) ρ (σ ++ .ns f2 :: τ) = .ok (.ref (σ ++ .ns f2 :: τ).length) (σ ++ .ns f2 :: (τ ++ [.ds (giversL p)])) := by
      have c : ev (CC (d + 4)) (.call i_givers_of (.cons (.v 1) .nil)) ρ (σ ++ .ns f2 :: τ) = .ok (.ref (σ ++ .ns f2 :: τ).length) ((σ ++ .ns f2 :: τ) ++ [.ds (giversL p)]) := e_call1 o1 (givers_of (d := d + 3) h)
      rw [List.append_assoc] at c; exact c
    exact ⟨_, ex_attr c1 o0 (by omega)⟩
  obtain ⟨v4, s4⟩ := s4
  have l3 : (aput ("givers" : Str) v4 f2).length ≤ 3 := Nat.le_trans aput_len (Nat.succ_le_succ l2)
  generalize aput ("givers" : Str) v4 f2 = f3 at s4 l3
  generalize τ ++ [MO.ds (giversL p)] = τ1 at s4
  have s5 : ∃ v τ', ex (CC (d + 4)) topN f_Board___init___s5 ρ (σ ++ .ns f3 :: τ1) = .next ρ (σ ++ .ns (aput "outer" v f3) :: τ') := by
    have c1 : ev (CC (d + 4)) (.call i_outside (.cons (.v 1) .nil)) ρ (σ ++ .ns f3 :: τ1) = .ok (.ref ((σ ++ .ns f3 :: τ1).length + 1)) (σ ++ .ns f3 :: (τ1 ++ [.ds (giversL p), .lst ((outL (p.flatMap (·.gives)) (p.flatMap (·.needs))).map .str)])) := by
      have c : ev (CC (d + 4)) (.call i_outside (.cons (.v 1) .nil)) ρ (σ ++ .ns f3 :: τ1) = .ok (.ref ((σ ++ .ns f3 :: τ1).length + 1)) ((σ ++ .ns f3 :: τ1) ++ [.ds (giversL p), .lst ((outL (p.flatMap (·.gives)) (p.flatMap (·.needs))).map .str)]) := e_call1 o1 (outside_ (d := d + 2) h)
      rw [List.append_assoc] at c; exact c
    exact ⟨_, _, ex_attr c1 o0 (by omega)⟩
  obtain ⟨v5, τ2, s5⟩ := s5
  have l4 : (aput ("outer" : Str) v5 f3).length ≤ 4 := Nat.le_trans aput_len (Nat.succ_le_succ l3)
  generalize aput ("outer" : Str) v5 f3 = f4 at s5 l4
  have s6 : ∃ v τ', ex (CC (d + 4)) topN f_Board___init___s6 ρ (σ ++ .ns f4 :: τ2) = .next ρ (σ ++ .ns (aput "here" v f4) :: τ') := by
    have c : ev (CC (d + 4)) (.dnew true) ρ (σ ++ .ns f4 :: τ2) = .ok (.ref (σ ++ .ns f4 :: τ2).length) ((σ ++ .ns f4 :: τ2) ++ [.dp []]) := rfl
    rw [List.append_assoc] at c
    exact ⟨_, τ2 ++ [.dp []], ex_attr c o0 (by omega)⟩
  obtain ⟨v6, τ3, s6⟩ := s6
  have l5 : (aput ("here" : Str) v6 f4).length ≤ 5 := Nat.le_trans aput_len (Nat.succ_le_succ l4)
  generalize aput ("here" : Str) v6 f4 = f5 at s6 l5
  have s7 : ∃ v τ', ex (CC (d + 4)) topN f_Board___init___s7 ρ (σ ++ .ns f5 :: τ3) = .next ρ (σ ++ .ns (aput "gone" v f5) :: τ') := by
    have c : ev (CC (d + 4)) (.dnew true) ρ (σ ++ .ns f5 :: τ3) = .ok (.ref (σ ++ .ns f5 :: τ3).length) ((σ ++ .ns f5 :: τ3) ++ [.dp []]) := rfl
    rw [List.append_assoc] at c
    exact ⟨_, τ3 ++ [.dp []], ex_attr c o0 (by omega)⟩
  obtain ⟨v7, τ4, s7⟩ := s7
  have l6 : (aput ("gone" : Str) v7 f5).length ≤ 6 := Nat.le_trans aput_len (Nat.succ_le_succ l5)
  generalize aput ("gone" : Str) v7 f5 = f6 at s7 l6
  have s8 : ∃ v τ', ex (CC (d + 4)) topN f_Board___init___s8 ρ (σ ++ .ns f6 :: τ4) = .next ρ (σ ++ .ns (aput "order" v f6) :: τ') := by
    have c : ev (CC (d + 4)) (.lst false .nil) ρ (σ ++ .ns f6 :: τ4) = .ok (.ref (σ ++ .ns f6 :: τ4).length) ((σ ++ .ns f6 :: τ4) ++ [.lst []]) := rfl
    rw [List.append_assoc] at c
    exact ⟨_, τ4 ++ [.lst []], ex_attr c o0 (by omega)⟩
  obtain ⟨v8, τ5, s8⟩ := s8
  refine ⟨aput "order" v8 f6, τ5, ?_⟩
  have : ex (CC (d + 4)) topN f_Board___init__.body ρ (σ ++ [.ns []]) = .next ρ (σ ++ .ns (aput "order" v8 f6) :: τ5) :=
    (ex_next s0).trans ((ex_next s1).trans ((ex_next s2).trans ((ex_next s3).trans ((ex_next s4).trans ((ex_next s5).trans ((ex_next s6).trans ((ex_next s7).trans ((ex_next s8).trans ex_nil))))))))
  subst hρ
  exact (congrArg finS this).trans rfl
end
end Mine

namespace Mine
open PySem

section
variable {d : Nat} {σ : Sto}

theorem word_plan : callH PP topN true (d + 1) i_law_word [.exc 102] σ = .ok (.str "NoPlan") σ := rfl
theorem word_turn : callH PP topN true (d + 1) i_law_word [.exc 114] σ = .ok (.str "NoTurn") σ := rfl

theorem e_new2 {C : Cfg} {ρ : Loc} {a b : X} {x y : PV} {c f : Nat} {v : Out PV} (ha : ev C a ρ σ = .ok x σ) (hb : ev C b ρ σ = .ok y σ) (h : newv C c f [x, y] σ = v) : ev C (.new c f (.cons a (.cons b .nil))) ρ σ = v := by
  rw [ev_new, evs_cons, ha, bind_ok, evs_cons, hb]; exact h
theorem ex_exprX {C : Cfg} {k c : Nat} {ρ : Loc} {x : X} {σ' : Sto} (h : ev C x ρ σ = .exc c σ') : ex C k (.expr x) ρ σ = .exc c ρ σ' := by
  show (ev C x ρ σ).toS ρ _ = _
  rw [h]; rfl
theorem made_exc {pl tv : PV} {c : Nat} {w : Str} (hi : ∀ {σ : Sto} {o : PV}, ∃ σ', callN PP topN (d + 5) i_Board___init__ [o, pl, tv] σ = .exc c σ') (hc : ([89, 102, 114, 126, 138, 150, 162, 174, 186, 198, 210] : List Nat).contains c = true)
    (hw : ∀ {σ : Sto}, callH PP topN true (d + 5) i_law_word [.exc c] σ = .ok (.str w) σ) : ∃ σ', callN PP topN (d + 6) i_law_made [pl, tv] σ = .ok (.str w) σ' := by
  obtain ⟨σ', hi⟩ := hi (σ := σ ++ [.ns []]) (o := .inst 320 σ.length)
  refine ⟨σ', ?_⟩
  rw [callC (fn := f_law_made) rfl rfl]
  have e1 : ev (CC (d + 5)) (.new 320 i_Board___init__ (.cons (.v 0) (.cons (.v 1) .nil))) [some pl, some tv, none, none, none, none] σ = .exc c σ' := by
    have hi' : (CC (d + 5)).call i_Board___init__ [.inst 320 σ.length, pl, tv] (σ ++ [.ns []]) = .exc c σ' := hi
    refine e_new2 rfl rfl ?_
    unfold newv
    rw [hi']; rfl
  have e2 : ex (CC (d + 5)) topN (.cons f_law_made_s0y0 .nil) [some pl, some tv, none, none, none, none] σ = .exc c [some pl, some tv, none, none, none, none] σ' := by
    exact ex_exc (ex_exprX e1)
  have e3 : ex (CC (d + 5)) topN f_law_made_s0 [some pl, some tv, none, none, none, none] σ = .ret (.str w) [none, none, none, none, none, none] σ' := by
    refine (ex_tryX e2 hc (by show 2 < 6; decide)).trans ?_
    have : ex (CC (d + 5)).inH topN (.cons f_law_made_s0h0 .nil) [some pl, some tv, some (.exc c), none, none, none] σ' = .ret (.str w) [some pl, some tv, some (.exc c), none, none, none] σ' :=
      ex_ret (ex_ret_ (e_call1 (x := .exc c) (σ₁ := σ') rfl hw))
    exact (congrArg clearS this).trans rfl
  exact (congrArg finS (ex_ret e3)).trans rfl
theorem made_ok {p : List Step} {tv : PV} (h : PlanOk p) (ht : ∀ {d : Nat} {σ : Sto}, callN PP topN (d + 1) i_is_between [tv, .int 1, .int 200] σ = .ok (.bool true) σ) : ∃ σ', callN PP topN (d + 6) i_law_made [planV p, tv] σ = .ok (.str "") σ' := by
  obtain ⟨fs, υ, hi⟩ := init_ok (d := d) (σ := σ) h ht
  refine ⟨σ ++ .ns fs :: υ, ?_⟩
  rw [callC (fn := f_law_made) rfl rfl]
  have e1 : ev (CC (d + 5)) (.new 320 i_Board___init__ (.cons (.v 0) (.cons (.v 1) .nil))) [some (planV p), some tv, none, none, none, none] σ = .ok (.inst 320 σ.length) (σ ++ .ns fs :: υ) := by
    have hi' : (CC (d + 5)).call i_Board___init__ [.inst 320 σ.length, planV p, tv] (σ ++ [.ns []]) = .ok .none (σ ++ .ns fs :: υ) := hi
    refine e_new2 rfl rfl ?_
    unfold newv
    rw [hi']; rfl
  have e3 : ex (CC (d + 5)) topN f_law_made_s0 [some (planV p), some tv, none, none, none, none] σ = .next [some (planV p), some tv, none, none, none, none] (σ ++ .ns fs :: υ) :=
    ex_tryE ((ex_next (ex_exprV e1)).trans ex_nil) (fun _ _ _ q => by contradiction)
  exact (congrArg finS ((ex_next e3).trans (ex_ret (ex_ret_ rfl)))).trans rfl
theorem made_plan {pl tv : PV} (h : ∀ {σ : Sto}, ∃ τ, callN PP topN (d + 4) i_is_plan [pl] σ = .ok (.bool false) (σ ++ τ)) : ∃ σ', callN PP topN (d + 6) i_law_made [pl, tv] σ = .ok (.str "NoPlan") σ' :=
  made_exc (c := 102) (fun {_ _} => init_plan h) rfl fun {_} => word_plan
theorem made_turn {p : List Step} {tv : PV} (h : PlanOk p) (ht : ∀ {d : Nat} {σ : Sto}, callN PP topN (d + 1) i_is_between [tv, .int 1, .int 200] σ = .ok (.bool false) σ) : ∃ σ', callN PP topN (d + 6) i_law_made [planV p, tv] σ = .ok (.str "NoTurn") σ' :=
  made_exc (c := 114) (fun {_ _} => init_turn (plan_true h) ht) rfl fun {_} => word_turn

end
end Mine

namespace Mine
open PySem

noncomputable def badL : List Str := ["", "A", "a b", "9a", "abcdefghi", "a_", "->", "a-", "aB", "a.", "b!", "a\t"]
theorem bad_no : ∀ x ∈ badL, nameB x = false := by decide +kernel
theorem bad_len : ∀ x ∈ badL, x.length ≤ 9 := by decide +kernel
section
variable {d : Nat} {σ : Sto}

theorem bad_name {c : Int} : ∃ b ∈ badL, ∀ {d : Nat} {σ : Sto}, callN PP topN (d + 1) i_law_bad_name [.int c] σ = .ok (.str b) σ := by
  have n0 := Int.emod_nonneg c (show (12 : Int) ≠ 0 by decide)
  have n1 := Int.emod_lt_of_pos c (show (0 : Int) < 12 by decide)
  have hi : (c % 12).toNat < badL.length := toNat_lt' (n := 12) n0 n1
  refine ⟨badL[(c % 12).toNat], List.getElem_mem hi, fun {d σ} => ?_⟩
  rw [callC (fn := f_law_bad_name) rfl rfl]
  have : ex (CC d) topN f_law_bad_name.body [some (.int c), none] σ = .ret (.str badL[(c % 12).toNat]) [some (.int c), some (.fl (badL.map .str))] σ := by
    refine (ex_next (a := f_law_bad_name_s0) (ρ' := [some (.int c), some (.fl (badL.map .str))]) (σ' := σ) rfl).trans (ex_ret (ex_ret_ (e_sub (x := .fl (badL.map .str)) (σ₁ := σ) rfl (e_bin (x := .int c) (y := .int 12) (σ₁ := σ) (σ₂ := σ) rfl rfl (mod_int (by decide))) (sub_fl (show (12 : Nat) ≤ lim by decide) n0 ?_))))
    rw [List.getElem?_map, List.getElem?_eq_getElem hi]; rfl
  exact (congrArg finS this).trans rfl

theorem sliceT {xs : List Str} {lo hi : PV} {a b : Option Int} (h1 : optInt lo = some a) (h2 : optInt hi = some b) (hl : xs.length ≤ lim) : slicev (.tup (xs.map .str)) lo hi σ = .ok (.tup ((sliceOf xs a b).map .str)) σ := by
  unfold slicev
  rw [h1, h2]
  refine (if_pos (by rw [List.length_map]; exact hl)).trans ?_
  unfold sliceOf
  rw [List.length_map, List.map_take, List.map_drop]
theorem addT {xs ys : List Str} (h : xs.length + ys.length ≤ lim) : binop .add (.tup (xs.map .str)) (.tup (ys.map .str)) σ = .ok (.tup ((xs ++ ys).map .str)) σ := by
  rw [List.map_append]
  exact if_pos (by rw [List.length_map, List.length_map]; exact h)
theorem slice_le {α : Type} (xs : List α) (a b : Option Int) : (sliceOf xs a b).length ≤ xs.length := by
  unfold sliceOf
  exact Nat.le_trans (List.length_take_le' _ _) (by rw [List.length_drop]; exact Nat.sub_le _ _)
theorem slice_mem {α : Type} {xs : List α} {a b : Option Int} {x : α} (h : x ∈ sliceOf xs a b) : x ∈ xs := List.mem_of_mem_drop (List.mem_of_mem_take h)

noncomputable abbrev RS (s : Step) (w : Nat) (c : Int) (b : Str) (at_ : Int) (x : Option PV) : Loc := [some s.pv, some (.int w), some (.int c), some (.str s.name), some s.rule.pv, some (.tup (s.needs.map .str)), some (.tup (s.gives.map .str)), some (.str b), some (.int at_), x, none, none]
theorem skipS {k : Int} {s r b : S} {ρ : Loc} {w : Nat} (hs : s = .ife (.cmp (.v 1) .eq (.k (.int k))) b .nil) (hρ : ρ[1]? = some (some (.int w))) (hk : (w : Int) ≠ k) : ex (CC d) topN (.cons s r) ρ σ = ex (CC d) topN r ρ σ := by
  subst hs
  refine ex_next ((ex_ifF (σ' := σ) (t_cmp (x := .int w) (y := .int k) (σ₁ := σ) (σ₂ := σ) ?_ rfl ?_)).trans ex_nil)
  · rw [ev_v]; unfold valAt; rw [hρ]
  · rw [eq_int, beq_eq_false_iff_ne.mpr hk]
theorem takeS {k : Int} {s r b : S} {ρ ρ' : Loc} {v : PV} {w : Nat} (hs : s = .ife (.cmp (.v 1) .eq (.k (.int k))) b .nil) (hρ : ρ[1]? = some (some (.int w))) (hk : (w : Int) = k) (hb : ex (CC d) topN b ρ σ = .ret v ρ' σ) : ex (CC d) topN (.cons s r) ρ σ = .ret v ρ' σ := by
  subst hs
  refine ex_ret ((ex_ifT (σ' := σ) (t_cmp (x := .int w) (y := .int k) (σ₁ := σ) (σ₂ := σ) ?_ rfl ?_)).trans hb)
  · rw [ev_v]; unfold valAt; rw [hρ]
  · rw [eq_int, hk]; simp

/-- none of these is a step -/
structure NoStep (t : Step) : Prop where
  fits : Fits t
  no : stepB t = false
theorem no_name {t : Step} (f : Fits t) (h : nameB t.name = false) : NoStep t := ⟨f, by unfold stepB; rw [h]; rfl⟩
theorem no_needs {t : Step} (f : Fits t) (h : namesB t.needs 4 = false) : NoStep t := ⟨f, by unfold stepB; rw [h, Bool.false_and, Bool.and_false]⟩
theorem no_gives {t : Step} (f : Fits t) (h : namesB t.gives 3 = false) : NoStep t := ⟨f, by unfold stepB; rw [h, Bool.false_and, Bool.and_false, Bool.and_false]⟩
theorem no_unlike {t : Step} (f : Fits t) (h : unlikeB t.gives = false) : NoStep t := ⟨f, by unfold stepB; rw [h, Bool.false_and, Bool.and_false, Bool.and_false, Bool.and_false]⟩
theorem no_rule {t : Step} (f : Fits t) (h : ruleB t.rule t.needs.length t.gives.length = false) : NoStep t := ⟨f, by unfold stepB; rw [h, Bool.and_false, Bool.and_false, Bool.and_false, Bool.and_false]⟩
theorem namesB_bad {l : List Str} {m : Nat} {b : Str} (hb : b ∈ badL) (h : b ∈ l) : namesB l m = false := by
  cases q : namesB l m with
  | false => rfl
  | true =>
    have := nameB_of ((namesB_iff.mp q).1 b h)
    rw [bad_no b hb] at this; contradiction
theorem namesB_many {l : List Str} {m : Nat} (h : m < l.length) : namesB l m = false := by
  cases q : namesB l m with
  | false => rfl
  | true => exact absurd (namesB_iff.mp q).2.2 (Nat.not_le.mpr h)
theorem namesB_none {m : Nat} : namesB [] m = false := by
  cases q : namesB [] m with
  | false => rfl
  | true => exact absurd (namesB_iff.mp q).2.1 (by decide)
end
end Mine

namespace Mine
open PySem

section
variable {d : Nat} {σ : Sto}

theorem pick_at {L : List Rule} {n : Nat} {c : Int} {nd gv : Nat} (hn : L.length = n) (h0 : 0 < n) (hl : n ≤ 100) (hr : ∀ r ∈ L, ruleB r nd gv = false) : ∃ r, ruleB r nd gv = false ∧ ∀ {σ : Sto}, subv (.fl (L.map Rule.pv)) (.int (c % n)) σ = .ok r.pv σ := by
  have n0 := Int.emod_nonneg c (show ((n : Nat) : Int) ≠ 0 from Int.ofNat_ne_zero.mpr (Nat.ne_of_gt h0))
  have n1 := Int.emod_lt_of_pos c (show (0 : Int) < ((n : Nat) : Int) from (Int.ofNat_lt.mpr h0 : ((0 : Nat) : Int) < _))
  have hi : (c % n).toNat < L.length := by rw [hn]; exact toNat_lt' n0 n1
  refine ⟨L[(c % n).toNat], hr _ (List.getElem_mem hi), fun {σ} => sub_fl (by rw [List.length_map, hn]; exact Nat.le_trans hl (by decide)) n0 ?_⟩
  rw [List.getElem?_map, List.getElem?_eq_getElem hi]; rfl
noncomputable def L7 : List Rule := [.word "sums", .word "Sum", .odd 0, .word "", .word "give", .word "fixed"]
noncomputable def L8 : List Rule := [.fixed (-1), .fixed 1000000, .odd 1, .odd 2, .odd 3]
noncomputable def L9 : List Rule := [.odd 4, .odd 5, .odd 6, .odd 7]
theorem l7_no {n g : Nat} : ∀ r ∈ L7, ruleB r n g = false := by
  intro r h
  repeat (rcases List.mem_cons.mp h with rfl | h; exact rfl)
  contradiction
theorem l8_no {n g : Nat} : ∀ r ∈ L8, ruleB r n g = false := by
  intro r h
  repeat (rcases List.mem_cons.mp h with rfl | h; exact rfl)
  contradiction
theorem l9_no {n g : Nat} : ∀ r ∈ L9, ruleB r n g = false := by
  intro r h
  repeat (rcases List.mem_cons.mp h with rfl | h; exact rfl)
  contradiction
theorem small_ab : ∀ x ∈ (["a", "b", "ya", "yb", "yc", "yd"] : List Str), x.length ≤ lim := by decide +kernel

theorem mul5 : binop .mul (.tup [.str "a"]) (.int 5) σ = .ok (.tup [.str "a", .str "a", .str "a", .str "a", .str "a"]) σ :=
  (if_pos (c := (([PV.str "a"] : List PV).length ≤ 100 ∧ 2 ≤ (5 : Int) ∧ (5 : Int) ≤ 100) ∧ ([PV.str "a"] : List PV).isEmpty = false) (by decide) : (if (([PV.str "a"] : List PV).length ≤ 100 ∧ 2 ≤ (5 : Int) ∧ (5 : Int) ≤ 100) ∧ ([PV.str "a"] : List PV).isEmpty = false then Out.ok (PV.tup (List.replicate (5 : Int).toNat [PV.str "a"]).flatten) σ else .stuck) = _)
structure Pick (L : List PV) (c : Int) (n : Nat) (r : Str) (nd gv : List Str) : Prop where
  at_ : ∀ {σ : Sto}, subv (.fl L) (.int (c % n)) σ = .ok (.tup (nd.map .str)) σ
  six : ∀ x ∈ nd, x ∈ (["a", "b", "ya", "yb", "yc", "yd"] : List Str)
  len : nd.length ≤ 4
  no : ∀ g, (r = "choose" ∨ g = gv.length) → ruleB (.word r) nd.length g = false
theorem pick12 {c : Int} : ∃ nd, Pick [.tup [.str "a"], .tup [.str "a", .str "b"], .tup [.str "a", .str "b", .str "a", .str "b"]] c 3 "choose" nd [] := by
  have n0 := Int.emod_nonneg c (show (3 : Int) ≠ 0 by decide)
  have n1 := Int.emod_lt_of_pos c (show (0 : Int) < 3 by decide)
  have key : ∃ nd : List Str, ([PV.tup [.str "a"], .tup [.str "a", .str "b"], .tup [.str "a", .str "b", .str "a", .str "b"]])[(c % 3).toNat]? = some (.tup (nd.map .str)) ∧ (∀ x ∈ nd, x ∈ (["a", "b", "ya", "yb", "yc", "yd"] : List Str)) ∧ nd.length ≤ 4 ∧ ∀ g, ruleB (.word "choose") nd.length g = false :=
    int_lt (n := 3) (P := fun x => ∃ nd : List Str, ([PV.tup [.str "a"], .tup [.str "a", .str "b"], .tup [.str "a", .str "b", .str "a", .str "b"]])[x.toNat]? = some (.tup (nd.map .str)) ∧ (∀ x ∈ nd, x ∈ (["a", "b", "ya", "yb", "yc", "yd"] : List Str)) ∧ nd.length ≤ 4 ∧ ∀ g, ruleB (.word "choose") nd.length g = false)
      (allS (allS (allS all0 ⟨["a"], rfl, by simp, by decide, fun _ => rfl⟩) ⟨["a", "b"], rfl, by simp, by decide, fun _ => rfl⟩) ⟨["a", "b", "a", "b"], rfl, by simp, by decide, fun _ => rfl⟩) n0 n1
  obtain ⟨nd, h1, h2, h3, h4⟩ := key
  exact ⟨nd, fun {σ} => sub_fl (show (3 : Nat) ≤ lim by decide) n0 h1, h2, h3, fun g _ => h4 g⟩
theorem pick11 {c : Int} : ∃ (nd gv : List Str) (k : Int), (∀ {σ : Sto}, subv (.fl [.tup [.str "a"], .tup [.str "a", .str "b", .str "a"], .tup [.str "a", .str "b"]]) (.int (c % 3)) σ = .ok (.tup (nd.map .str)) σ) ∧ (∀ {σ : Sto}, subv (.fl [.int 2, .int 2, .int 1]) (.int (c % 3)) σ = .ok (.int k) σ) ∧ sliceOf (["ya", "yb"] : List Str) none (some k) = gv ∧ (∀ x ∈ nd ++ gv, x ∈ (["a", "b", "ya", "yb", "yc", "yd"] : List Str)) ∧ nd.length ≤ 4 ∧ gv.length ≤ 2 ∧ ruleB (.word "way") nd.length gv.length = false := by
  have n0 := Int.emod_nonneg c (show (3 : Int) ≠ 0 by decide)
  have n1 := Int.emod_lt_of_pos c (show (0 : Int) < 3 by decide)
  obtain ⟨nd, gv, k, h1, h2, h3⟩ := int_lt (n := 3) (P := fun x => ∃ (nd gv : List Str) (k : Int), ([PV.tup [.str "a"], .tup [.str "a", .str "b", .str "a"], .tup [.str "a", .str "b"]])[x.toNat]? = some (.tup (nd.map .str)) ∧ ([PV.int 2, .int 2, .int 1])[x.toNat]? = some (.int k) ∧ sliceOf (["ya", "yb"] : List Str) none (some k) = gv ∧ (∀ x ∈ nd ++ gv, x ∈ (["a", "b", "ya", "yb", "yc", "yd"] : List Str)) ∧ nd.length ≤ 4 ∧ gv.length ≤ 2 ∧ ruleB (.word "way") nd.length gv.length = false)
      (allS (allS (allS all0 ⟨["a"], ["ya", "yb"], 2, rfl, rfl, by decide +kernel, by simp, by decide, by decide, rfl⟩) ⟨["a", "b", "a"], ["ya", "yb"], 2, rfl, rfl, by decide +kernel, by simp, by decide, by decide, rfl⟩) ⟨["a", "b"], ["ya"], 1, rfl, rfl, by decide +kernel, by simp, by decide, by decide, rfl⟩) n0 n1
  exact ⟨nd, gv, k, fun {σ} => sub_fl (show (3 : Nat) ≤ lim by decide) n0 h1, fun {σ} => sub_fl (show (3 : Nat) ≤ lim by decide) n0 h2, h3⟩
theorem law_step {s : Step} (h : StepOk s) {w : Nat} (hw : w < 14) {c : Int} : ∃ t : Step, NoStep t ∧ ∀ {d : Nat} {σ : Sto}, callN PP topN (d + 2) i_law_step [s.pv, .int w, .int c] σ = .ok t.pv σ := by
  obtain ⟨b, hb, hbn⟩ := bad_name (c := c)
  have f := fits_ok h
  have hbl : b.length ≤ lim := Nat.le_trans (bad_len b hb) (by decide)
  have hnp : (0 : Int) < ((s.needs.length : Nat) : Int) := (Int.ofNat_lt.mpr h.needs1 : ((0 : Nat) : Int) < _)
  generalize hat : c / 12 % ((s.needs.length : Nat) : Int) = at_
  have front : ∀ {d : Nat} {σ : Sto} (rest : S), ex (CC (d + 1)) topN (.cons f_law_step_s0 (.cons f_law_step_s1 (.cons f_law_step_s2 rest))) [some s.pv, some (.int w), some (.int c), none, none, none, none, none, none, none, none, none] σ = ex (CC (d + 1)) topN rest (RS s w c b at_ none) σ := fun {d σ} rest => by
    refine (ex_next (a := f_law_step_s0) (ρ' := [some s.pv, some (.int w), some (.int c), some (.str s.name), some s.rule.pv, some (.tup (s.needs.map .str)), some (.tup (s.gives.map .str)), none, none, none, none, none]) (σ' := σ) rfl).trans ?_
    refine (ex_next (a := f_law_step_s1) (ρ' := [some s.pv, some (.int w), some (.int c), some (.str s.name), some s.rule.pv, some (.tup (s.needs.map .str)), some (.tup (s.gives.map .str)), some (.str b), none, none, none, none]) (σ' := σ) (ex_asg (e_call1 (x := .int c) (σ₁ := σ) rfl hbn))).trans ?_
    refine ex_next (ex_asg ((e_bin (e_bin (x := .int c) (y := .int 12) (σ₁ := σ) (σ₂ := σ) rfl rfl (fdiv_int (by decide) (by decide))) (e_b1 (x := .tup (s.needs.map .str)) (σ₁ := σ) rfl (lenT f.needsl)) (mod_int hnp)).trans ?_))
    rw [hat]
  suffices main : ∃ t : Step, NoStep t ∧ ∀ {d : Nat} {σ : Sto}, ∃ ρ', ex (CC (d + 1)) topN (.cons f_law_step_s3 (.cons f_law_step_s4 (.cons f_law_step_s5 (.cons f_law_step_s6 (.cons f_law_step_s7 (.cons f_law_step_s8 (.cons f_law_step_s9 (.cons f_law_step_s10 (.cons f_law_step_s11 (.cons f_law_step_s12 (.cons f_law_step_s13 (.cons f_law_step_s14 (.cons f_law_step_s15 (.cons f_law_step_s16 .nil)))))))))))))) (RS s w c b at_ none) σ = .ret t.pv ρ' σ by
    obtain ⟨t, ht, e⟩ := main
    refine ⟨t, ht, fun {d σ} => ?_⟩
    obtain ⟨ρ', e⟩ := e (d := d) (σ := σ)
    rw [callC (fn := f_law_step) rfl rfl]
    exact (congrArg finS ((front _).trans e)).trans rfl
  by_cases w0 : w = 0
  · exact ⟨⟨b, s.rule, s.needs, s.gives⟩, no_name ⟨hbl, f.needs, f.needsl, f.gives, f.givesl⟩ (bad_no b hb), fun {d σ} => ⟨_, takeS (k := 0) rfl rfl (by omega) (ex_ret (ex_ret_ rfl))⟩⟩
  have k1 : ∀ {d : Nat} {σ : Sto} (r : S), ex (CC (d + 1)) topN (.cons f_law_step_s3 r) (RS s w c b at_ none) σ = ex (CC (d + 1)) topN r (RS s w c b at_ none) σ := fun r => skipS (k := 0) rfl rfl (by omega)
  by_cases w1 : w = 1
  · refine ⟨⟨s.name, s.rule, sliceOf s.needs none (some at_) ++ [b] ++ sliceOf s.needs (some (at_ + 1)) none, s.gives⟩, no_needs ⟨f.name, fun n hn => ?_, ?_, f.gives, f.givesl⟩ (namesB_bad hb (by simp)), fun {d σ} => ⟨_, (k1 _).trans (takeS (k := 1) rfl rfl (by omega) (ex_ret (ex_ret_ (e_tup (vs := [.str s.name, s.rule.pv, .tup ((sliceOf s.needs none (some at_) ++ [b] ++ sliceOf s.needs (some (at_ + 1)) none).map .str), .tup (s.gives.map .str)]) (s_cons (x := .str s.name) (σ₁ := σ) rfl (s_cons (x := s.rule.pv) (σ₁ := σ) rfl (s_cons (σ₁ := σ) (e_bin (σ₁ := σ) (σ₂ := σ) (e_bin (σ₁ := σ) (σ₂ := σ) (e_slice (x := .tup (s.needs.map .str)) (y := .none) (z := .int at_) (σ₁ := σ) (σ₂ := σ) (σ₃ := σ) rfl rfl rfl (sliceT rfl rfl f.needsl)) (y := .tup (([b] : List Str).map .str)) rfl (addT ?_)) (e_slice (x := .tup (s.needs.map .str)) (y := .int (at_ + 1)) (z := .none) (σ₁ := σ) (σ₂ := σ) (σ₃ := σ) rfl (e_bin (x := .int at_) (y := .int 1) (σ₁ := σ) (σ₂ := σ) rfl rfl add_int) rfl (sliceT rfl rfl f.needsl)) (addT ?_)) (s_cons (x := .tup (s.gives.map .str)) (σ₁ := σ) rfl rfl)))) (show (4 : Nat) ≤ lim by decide)))))⟩⟩
    · rcases List.mem_append.mp hn with q | q
      · rcases List.mem_append.mp q with q | q
        · exact f.needs n (slice_mem q)
        · rw [List.mem_singleton.mp q]; exact hbl
      · exact f.needs n (slice_mem q)
    · have a1 := slice_le s.needs none (some at_)
      have a2 := slice_le s.needs (some (at_ + 1)) none
      have := h.needs4
      simp only [List.length_append, List.length_cons, List.length_nil]; rw [lim_val]; omega
    · have a1 := slice_le s.needs none (some at_)
      have := h.needs4
      simp only [List.length_cons, List.length_nil]; rw [lim_val]; omega
    · have a1 := slice_le s.needs none (some at_)
      have a2 := slice_le s.needs (some (at_ + 1)) none
      have := h.needs4
      simp only [List.length_append, List.length_cons, List.length_nil]; rw [lim_val]; omega
  have k2 : ∀ {d : Nat} {σ : Sto} (r : S), ex (CC (d + 1)) topN (.cons f_law_step_s3 (.cons f_law_step_s4 r)) (RS s w c b at_ none) σ = ex (CC (d + 1)) topN r (RS s w c b at_ none) σ := fun r => (k1 _).trans (skipS (k := 1) rfl rfl (by omega))
  by_cases w2 : w = 2
  · refine ⟨⟨s.name, s.rule, s.needs, sliceOf s.gives none (some (-1)) ++ [b]⟩, no_gives ⟨f.name, f.needs, f.needsl, fun n hn => ?_, ?_⟩ (namesB_bad hb (by simp)), fun {d σ} => ⟨_, (k2 _).trans (takeS (k := 2) rfl rfl (by omega) (ex_ret (ex_ret_ (e_tup (vs := [.str s.name, s.rule.pv, .tup (s.needs.map .str), .tup ((sliceOf s.gives none (some (-1)) ++ [b]).map .str)]) (s_cons (x := .str s.name) (σ₁ := σ) rfl (s_cons (x := s.rule.pv) (σ₁ := σ) rfl (s_cons (x := .tup (s.needs.map .str)) (σ₁ := σ) rfl (s_cons (σ₁ := σ) (e_bin (σ₁ := σ) (σ₂ := σ) (e_slice (x := .tup (s.gives.map .str)) (y := .none) (z := .int (-1)) (σ₁ := σ) (σ₂ := σ) (σ₃ := σ) rfl rfl rfl (sliceT rfl rfl f.givesl)) (y := .tup (([b] : List Str).map .str)) rfl (addT ?_)) rfl)))) (show (4 : Nat) ≤ lim by decide)))))⟩⟩
    · rcases List.mem_append.mp hn with q | q
      · exact f.gives n (slice_mem q)
      · rw [List.mem_singleton.mp q]; exact hbl
    · have a1 := slice_le s.gives none (some (-1))
      have := h.gives3
      simp only [List.length_append, List.length_cons, List.length_nil]; rw [lim_val]; omega
    · have a1 := slice_le s.gives none (some (-1))
      have := h.gives3
      simp only [List.length_cons, List.length_nil]; rw [lim_val]; omega
  have k3 : ∀ {d : Nat} {σ : Sto} (r : S), ex (CC (d + 1)) topN (.cons f_law_step_s3 (.cons f_law_step_s4 (.cons f_law_step_s5 r))) (RS s w c b at_ none) σ = ex (CC (d + 1)) topN r (RS s w c b at_ none) σ := fun r => (k2 _).trans (skipS (k := 2) rfl rfl (by omega))
  by_cases w3 : w = 3
  · exact ⟨⟨s.name, .word "sum", [], s.gives⟩, no_needs ⟨f.name, fun n hn => (nomatch hn), Nat.zero_le _, f.gives, f.givesl⟩ namesB_none, fun {d σ} => ⟨_, (k3 _).trans (takeS (k := 3) rfl rfl (by omega) (ex_ret (ex_ret_ rfl)))⟩⟩
  have k4 : ∀ {d : Nat} {σ : Sto} (r : S), ex (CC (d + 1)) topN (.cons f_law_step_s3 (.cons f_law_step_s4 (.cons f_law_step_s5 (.cons f_law_step_s6 r)))) (RS s w c b at_ none) σ = ex (CC (d + 1)) topN r (RS s w c b at_ none) σ := fun r => (k3 _).trans (skipS (k := 3) rfl rfl (by omega))
  have ab : ∀ {l : List Str}, (∀ x ∈ l, x ∈ (["a", "b", "ya", "yb", "yc", "yd"] : List Str)) → ∀ x ∈ l, x.length ≤ lim := fun hl x hx => small_ab x (hl x hx)
  by_cases w4 : w = 4
  · exact ⟨⟨s.name, .word "sum", ["a", "a", "a", "a", "a"], s.gives⟩, no_needs ⟨f.name, ab (by simp), (by show (5 : Nat) ≤ lim; decide), f.gives, f.givesl⟩ (namesB_many (by show 4 < 5; decide)), fun {d σ} => ⟨_, (k4 _).trans (takeS (k := 4) rfl rfl (by omega) (ex_ret (ex_ret_ (e_tup (vs := [.str s.name, .tup [.str "sum"], .tup [.str "a", .str "a", .str "a", .str "a", .str "a"], .tup (s.gives.map .str)]) (s_cons (x := .str s.name) (σ₁ := σ) rfl (s_cons (x := .tup [.str "sum"]) (σ₁ := σ) rfl (s_cons (σ₁ := σ) (e_bin (x := .tup [.str "a"]) (y := .int 5) (σ₁ := σ) (σ₂ := σ) rfl rfl mul5) (s_cons (x := .tup (s.gives.map .str)) (σ₁ := σ) rfl rfl)))) (show (4 : Nat) ≤ lim by decide)))))⟩⟩
  have k5 : ∀ {d : Nat} {σ : Sto} (r : S), ex (CC (d + 1)) topN (.cons f_law_step_s3 (.cons f_law_step_s4 (.cons f_law_step_s5 (.cons f_law_step_s6 (.cons f_law_step_s7 r))))) (RS s w c b at_ none) σ = ex (CC (d + 1)) topN r (RS s w c b at_ none) σ := fun r => (k4 _).trans (skipS (k := 4) rfl rfl (by omega))
  by_cases w5 : w = 5
  · exact ⟨⟨s.name, s.rule, s.needs, []⟩, no_gives ⟨f.name, f.needs, f.needsl, fun n hn => (nomatch hn), Nat.zero_le _⟩ namesB_none, fun {d σ} => ⟨_, (k5 _).trans (takeS (k := 5) rfl rfl (by omega) (ex_ret (ex_ret_ rfl)))⟩⟩
  have k6 : ∀ {d : Nat} {σ : Sto} (r : S), ex (CC (d + 1)) topN (.cons f_law_step_s3 (.cons f_law_step_s4 (.cons f_law_step_s5 (.cons f_law_step_s6 (.cons f_law_step_s7 (.cons f_law_step_s8 r)))))) (RS s w c b at_ none) σ = ex (CC (d + 1)) topN r (RS s w c b at_ none) σ := fun r => (k5 _).trans (skipS (k := 5) rfl rfl (by omega))
  by_cases w6 : w = 6
  · exact ⟨⟨s.name, .word "sum", s.needs, ["ya", "yb", "yc", "yd"]⟩, no_gives ⟨f.name, f.needs, f.needsl, ab (by simp), (by show (4 : Nat) ≤ lim; decide)⟩ (namesB_many (by show 3 < 4; decide)), fun {d σ} => ⟨_, (k6 _).trans (takeS (k := 6) rfl rfl (by omega) (ex_ret (ex_ret_ rfl)))⟩⟩
  have k7 : ∀ {d : Nat} {σ : Sto} (r : S), ex (CC (d + 1)) topN (.cons f_law_step_s3 (.cons f_law_step_s4 (.cons f_law_step_s5 (.cons f_law_step_s6 (.cons f_law_step_s7 (.cons f_law_step_s8 (.cons f_law_step_s9 r))))))) (RS s w c b at_ none) σ = ex (CC (d + 1)) topN r (RS s w c b at_ none) σ := fun r => (k6 _).trans (skipS (k := 6) rfl rfl (by omega))
  by_cases w7 : w = 7
  · obtain ⟨r, hr, hs⟩ := pick_at (c := c) (L := L7) (n := 6) rfl (by decide) (by decide) (l7_no (n := s.needs.length) (g := s.gives.length))
    refine ⟨⟨s.name, r, s.needs, s.gives⟩, no_rule ⟨f.name, f.needs, f.needsl, f.gives, f.givesl⟩ hr, fun {d σ} => ⟨_, (k7 _).trans (takeS (k := 7) rfl rfl (by omega) ((ex_next (a := f_law_step_s10t0) (ρ' := RS s w c b at_ (some (.fl (L7.map Rule.pv)))) (σ' := σ) rfl).trans (ex_ret (ex_ret_ (e_tup (vs := [.str s.name, r.pv, .tup (s.needs.map .str), .tup (s.gives.map .str)]) (s_cons (x := .str s.name) (σ₁ := σ) rfl (s_cons (σ₁ := σ) (e_sub (x := .fl (L7.map Rule.pv)) (σ₁ := σ) rfl (e_bin (x := .int c) (y := .int 6) (σ₁ := σ) (σ₂ := σ) rfl rfl (mod_int (by decide))) hs) (s_cons (x := .tup (s.needs.map .str)) (σ₁ := σ) rfl (s_cons (x := .tup (s.gives.map .str)) (σ₁ := σ) rfl rfl)))) (show (4 : Nat) ≤ lim by decide))))))⟩⟩
  have k8 : ∀ {d : Nat} {σ : Sto} (r : S), ex (CC (d + 1)) topN (.cons f_law_step_s3 (.cons f_law_step_s4 (.cons f_law_step_s5 (.cons f_law_step_s6 (.cons f_law_step_s7 (.cons f_law_step_s8 (.cons f_law_step_s9 (.cons f_law_step_s10 r)))))))) (RS s w c b at_ none) σ = ex (CC (d + 1)) topN r (RS s w c b at_ none) σ := fun r => (k7 _).trans (skipS (k := 7) rfl rfl (by omega))
  by_cases w8 : w = 8
  · obtain ⟨r, hr, hs⟩ := pick_at (c := c) (L := L8) (n := 5) rfl (by decide) (by decide) (l8_no (n := s.needs.length) (g := s.gives.length))
    refine ⟨⟨s.name, r, s.needs, s.gives⟩, no_rule ⟨f.name, f.needs, f.needsl, f.gives, f.givesl⟩ hr, fun {d σ} => ⟨_, (k8 _).trans (takeS (k := 8) rfl rfl (by omega) ((ex_next (a := f_law_step_s11t0) (ρ' := RS s w c b at_ (some (.fl (L8.map Rule.pv)))) (σ' := σ) rfl).trans (ex_ret (ex_ret_ (e_tup (vs := [.str s.name, r.pv, .tup (s.needs.map .str), .tup (s.gives.map .str)]) (s_cons (x := .str s.name) (σ₁ := σ) rfl (s_cons (σ₁ := σ) (e_sub (x := .fl (L8.map Rule.pv)) (σ₁ := σ) rfl (e_bin (x := .int c) (y := .int 5) (σ₁ := σ) (σ₂ := σ) rfl rfl (mod_int (by decide))) hs) (s_cons (x := .tup (s.needs.map .str)) (σ₁ := σ) rfl (s_cons (x := .tup (s.gives.map .str)) (σ₁ := σ) rfl rfl)))) (show (4 : Nat) ≤ lim by decide))))))⟩⟩
  have k9 : ∀ {d : Nat} {σ : Sto} (r : S), ex (CC (d + 1)) topN (.cons f_law_step_s3 (.cons f_law_step_s4 (.cons f_law_step_s5 (.cons f_law_step_s6 (.cons f_law_step_s7 (.cons f_law_step_s8 (.cons f_law_step_s9 (.cons f_law_step_s10 (.cons f_law_step_s11 r))))))))) (RS s w c b at_ none) σ = ex (CC (d + 1)) topN r (RS s w c b at_ none) σ := fun r => (k8 _).trans (skipS (k := 8) rfl rfl (by omega))
  by_cases w9 : w = 9
  · obtain ⟨r, hr, hs⟩ := pick_at (c := c) (L := L9) (n := 4) rfl (by decide) (by decide) (l9_no (n := s.needs.length) (g := s.gives.length))
    exact ⟨⟨s.name, r, s.needs, s.gives⟩, no_rule ⟨f.name, f.needs, f.needsl, f.gives, f.givesl⟩ hr, fun {d σ} => ⟨_, (k9 _).trans (takeS (k := 9) rfl rfl (by omega) (ex_ret (ex_ret_ (e_tup (vs := [.str s.name, r.pv, .tup (s.needs.map .str), .tup (s.gives.map .str)]) (s_cons (x := .str s.name) (σ₁ := σ) rfl (s_cons (σ₁ := σ) (e_sub (x := .fl (L9.map Rule.pv)) (σ₁ := σ) rfl (e_bin (x := .int c) (y := .int 4) (σ₁ := σ) (σ₂ := σ) rfl rfl (mod_int (by decide))) hs) (s_cons (x := .tup (s.needs.map .str)) (σ₁ := σ) rfl (s_cons (x := .tup (s.gives.map .str)) (σ₁ := σ) rfl rfl)))) (show (4 : Nat) ≤ lim by decide)))))⟩⟩
  have k10 : ∀ {d : Nat} {σ : Sto} (r : S), ex (CC (d + 1)) topN (.cons f_law_step_s3 (.cons f_law_step_s4 (.cons f_law_step_s5 (.cons f_law_step_s6 (.cons f_law_step_s7 (.cons f_law_step_s8 (.cons f_law_step_s9 (.cons f_law_step_s10 (.cons f_law_step_s11 (.cons f_law_step_s12 r)))))))))) (RS s w c b at_ none) σ = ex (CC (d + 1)) topN r (RS s w c b at_ none) σ := fun r => (k9 _).trans (skipS (k := 9) rfl rfl (by omega))
  by_cases w10 : w = 10
  · exact ⟨⟨s.name, .word "later", ["a", "b"], s.gives⟩, no_rule ⟨f.name, ab (by simp), (by show (2 : Nat) ≤ lim; decide), f.gives, f.givesl⟩ rfl, fun {d σ} => ⟨_, (k10 _).trans (takeS (k := 10) rfl rfl (by omega) (ex_ret (ex_ret_ rfl)))⟩⟩
  have k11 : ∀ {d : Nat} {σ : Sto} (r : S), ex (CC (d + 1)) topN (.cons f_law_step_s3 (.cons f_law_step_s4 (.cons f_law_step_s5 (.cons f_law_step_s6 (.cons f_law_step_s7 (.cons f_law_step_s8 (.cons f_law_step_s9 (.cons f_law_step_s10 (.cons f_law_step_s11 (.cons f_law_step_s12 (.cons f_law_step_s13 r))))))))))) (RS s w c b at_ none) σ = ex (CC (d + 1)) topN r (RS s w c b at_ none) σ := fun r => (k10 _).trans (skipS (k := 10) rfl rfl (by omega))
  by_cases w11 : w = 11
  · obtain ⟨nd, gv, k, h1, h2, h3, h4, h5, h6, h7⟩ := pick11 (c := c)
    have hs : ∀ {σ : Sto}, slicev (.tup ((["ya", "yb"] : List Str).map .str)) .none (.int k) σ = .ok (.tup (gv.map .str)) σ := fun {σ} => by rw [sliceT (xs := ["ya", "yb"]) rfl rfl (show (2 : Nat) ≤ lim by decide), h3]
    exact ⟨⟨s.name, .word "way", nd, gv⟩, no_rule ⟨f.name, ab fun x hx => h4 x (List.mem_append_left _ hx), Nat.le_trans h5 (by decide), ab fun x hx => h4 x (List.mem_append_right _ hx), Nat.le_trans h6 (by decide)⟩ h7, fun {d σ} => ⟨_, (k11 _).trans (takeS (k := 11) rfl rfl (by omega) ((ex_next (a := f_law_step_s14t0) (ρ' := RS s w c b at_ (some (.fl [.tup [.str "a"], .tup [.str "a", .str "b", .str "a"], .tup [.str "a", .str "b"]]))) (σ' := σ) rfl).trans (ex_ret (ex_ret_ (e_tup (vs := [.str s.name, .tup [.str "way"], .tup (nd.map .str), .tup (gv.map .str)]) (s_cons (x := .str s.name) (σ₁ := σ) rfl (s_cons (x := .tup [.str "way"]) (σ₁ := σ) rfl (s_cons (σ₁ := σ) (e_sub (x := .fl [.tup [.str "a"], .tup [.str "a", .str "b", .str "a"], .tup [.str "a", .str "b"]]) (σ₁ := σ) rfl (e_bin (x := .int c) (y := .int 3) (σ₁ := σ) (σ₂ := σ) rfl rfl (mod_int (by decide))) h1) (s_cons (σ₁ := σ) (e_slice (x := .tup ((["ya", "yb"] : List Str).map .str)) (y := .none) (z := .int k) (σ₁ := σ) (σ₂ := σ) (σ₃ := σ) rfl rfl (e_sub (x := .fl [.int 2, .int 2, .int 1]) (σ₁ := σ) rfl (e_bin (x := .int c) (y := .int 3) (σ₁ := σ) (σ₂ := σ) rfl rfl (mod_int (by decide))) h2) hs) rfl)))) (show (4 : Nat) ≤ lim by decide))))))⟩⟩
  have k12 : ∀ {d : Nat} {σ : Sto} (r : S), ex (CC (d + 1)) topN (.cons f_law_step_s3 (.cons f_law_step_s4 (.cons f_law_step_s5 (.cons f_law_step_s6 (.cons f_law_step_s7 (.cons f_law_step_s8 (.cons f_law_step_s9 (.cons f_law_step_s10 (.cons f_law_step_s11 (.cons f_law_step_s12 (.cons f_law_step_s13 (.cons f_law_step_s14 r)))))))))))) (RS s w c b at_ none) σ = ex (CC (d + 1)) topN r (RS s w c b at_ none) σ := fun r => (k11 _).trans (skipS (k := 11) rfl rfl (by omega))
  by_cases w12 : w = 12
  · obtain ⟨nd, P⟩ := pick12 (c := c)
    exact ⟨⟨s.name, .word "choose", nd, s.gives⟩, no_rule ⟨f.name, ab P.six, Nat.le_trans P.len (by decide), f.gives, f.givesl⟩ (P.no _ (.inl rfl)), fun {d σ} => ⟨_, (k12 _).trans (takeS (k := 12) rfl rfl (by omega) (ex_ret (ex_ret_ (e_tup (vs := [.str s.name, .tup [.str "choose"], .tup (nd.map .str), .tup (s.gives.map .str)]) (s_cons (x := .str s.name) (σ₁ := σ) rfl (s_cons (x := .tup [.str "choose"]) (σ₁ := σ) rfl (s_cons (σ₁ := σ) (e_sub (x := .fl [.tup [.str "a"], .tup [.str "a", .str "b"], .tup [.str "a", .str "b", .str "a", .str "b"]]) (σ₁ := σ) rfl (e_bin (x := .int c) (y := .int 3) (σ₁ := σ) (σ₂ := σ) rfl rfl (mod_int (by decide))) P.at_) (s_cons (x := .tup (s.gives.map .str)) (σ₁ := σ) rfl rfl)))) (show (4 : Nat) ≤ lim by decide)))))⟩⟩
  have k13 : ∀ {d : Nat} {σ : Sto} (r : S), ex (CC (d + 1)) topN (.cons f_law_step_s3 (.cons f_law_step_s4 (.cons f_law_step_s5 (.cons f_law_step_s6 (.cons f_law_step_s7 (.cons f_law_step_s8 (.cons f_law_step_s9 (.cons f_law_step_s10 (.cons f_law_step_s11 (.cons f_law_step_s12 (.cons f_law_step_s13 (.cons f_law_step_s14 (.cons f_law_step_s15 r))))))))))))) (RS s w c b at_ none) σ = ex (CC (d + 1)) topN r (RS s w c b at_ none) σ := fun r => (k12 _).trans (skipS (k := 12) rfl rfl (by omega))
  have hg := h.gives1
  have hone : sliceOf s.gives none (some 1) = s.gives.take 1 := by
    have e : clipAt s.gives.length (1 : Int) = 1 := (clipAt_nat _ 1).trans (Nat.min_eq_left hg)
    unfold sliceOf
    simp only [Option.elim, e, Nat.sub_zero, List.drop_zero]
  refine ⟨⟨s.name, s.rule, s.needs, s.gives ++ sliceOf s.gives none (some 1)⟩, no_unlike ⟨f.name, f.needs, f.needsl, fun n hn => ?_, ?_⟩ ?_, fun {d σ} => ⟨_, (k13 _).trans (ex_ret (ex_ret_ (e_tup (vs := [.str s.name, s.rule.pv, .tup (s.needs.map .str), .tup ((s.gives ++ sliceOf s.gives none (some 1)).map .str)]) (s_cons (x := .str s.name) (σ₁ := σ) rfl (s_cons (x := s.rule.pv) (σ₁ := σ) rfl (s_cons (x := .tup (s.needs.map .str)) (σ₁ := σ) rfl (s_cons (σ₁ := σ) (e_bin (x := .tup (s.gives.map .str)) (σ₁ := σ) (σ₂ := σ) rfl (e_slice (x := .tup (s.gives.map .str)) (y := .none) (z := .int 1) (σ₁ := σ) (σ₂ := σ) (σ₃ := σ) rfl rfl rfl (sliceT rfl rfl f.givesl)) (addT ?_)) rfl)))) (show (4 : Nat) ≤ lim by decide))))⟩⟩
  · rcases List.mem_append.mp hn with q | q
    · exact f.gives n q
    · exact f.gives n (slice_mem q)
  · have a1 := slice_le s.gives none (some 1)
    have := h.gives3
    rw [List.length_append, lim_val]; omega
  · show unlikeB (s.gives ++ sliceOf s.gives none (some 1)) = false
    rw [hone]
    cases hq : unlikeB (s.gives ++ s.gives.take 1) with
    | false => rfl
    | true =>
      have hn := unlikeB_iff.mp hq
      cases hgv : s.gives with
      | nil => rw [hgv] at hg; exact absurd hg (by decide)
      | cons g gs =>
        rw [hgv] at hn
        exact absurd rfl ((List.nodup_append.mp hn).2.2 g List.mem_cons_self g (by simp))
  · have a1 := slice_le s.gives none (some 1)
    have := h.gives3
    rw [lim_val]; omega
end
end Mine

namespace Mine
open PySem

section
variable {d : Nat} {σ : Sto}
theorem slice_pv {p : List Step} {a b : Option Int} : sliceOf (p.map Step.pv) a b = (sliceOf p a b).map Step.pv := by
  unfold sliceOf
  rw [List.length_map, List.map_take, List.map_drop]
theorem sliceP {p : List Step} {lo hi : PV} {a b : Option Int} (h1 : optInt lo = some a) (h2 : optInt hi = some b) (hl : p.length ≤ 100) : slicev (planV p) lo hi σ = .ok (planV (sliceOf p a b)) σ := by
  show slicev (.tup (p.map Step.pv)) lo hi σ = _
  unfold slicev
  rw [h1, h2]
  refine (if_pos (by rw [List.length_map]; exact Nat.le_trans hl (by decide))).trans ?_
  rw [slice_pv]; rfl
theorem addP {p q : List Step} (h : p.length + q.length ≤ 1000) : binop .add (planV p) (planV q) σ = .ok (planV (p ++ q)) σ := by
  show binop .add (.tup (p.map Step.pv)) (.tup (q.map Step.pv)) σ = .ok (.tup ((p ++ q).map Step.pv)) σ
  rw [List.map_append]
  exact if_pos (by rw [List.length_map, List.length_map]; exact Nat.le_trans h (by decide))
theorem subP {p : List Step} {i : Int} {s : Step} (h0 : 0 ≤ i) (hl : p.length ≤ 100) (h : p[i.toNat]? = some s) : subv (planV p) (.int i) σ = .ok s.pv σ :=
  sub_tup (by rw [List.length_map]; exact Nat.le_trans hl (by decide)) h0 (by rw [List.getElem?_map, h]; rfl)
structure NoPlan (q : List Step) : Prop where
  fits : ∀ s ∈ q, Fits s
  len : q.length ≤ 100
  no : planB q = false
theorem np_step {q : List Step} {t : Step} (hf : ∀ s ∈ q, Fits s) (hl : q.length ≤ 100) (ht : t ∈ q) (n : NoStep t) : NoPlan q := ⟨hf, hl, by
  cases h : planB q with
  | false => rfl
  | true =>
    have := stepB_iff.mpr ((planB_iff.mp h).steps t ht)
    rw [n.no] at this; contradiction⟩
theorem np_bad {q : List Step} (hf : ∀ s ∈ q, Fits s) (hl : q.length ≤ 100) (n : ¬ PlanOk q) : NoPlan q := ⟨hf, hl, by
  cases h : planB q with
  | false => rfl
  | true => exact absurd (planB_iff.mp h) n⟩

theorem spoilt_low {p : List Step} (h : PlanOk p) {w : Nat} (hw : w < 14) {c : Int} : ∃ q, NoPlan q ∧ ∀ {d : Nat} {σ : Sto}, callN PP topN (d + 3) i_law_spoilt [planV p, .int w, .int c] σ = .ok (planV q) σ := by
  have hp : (0 : Int) < ((p.length : Nat) : Int) := (Int.ofNat_lt.mpr h.pos : ((0 : Nat) : Int) < _)
  have hl : p.length ≤ 100 := Nat.le_trans h.most (by decide)
  have n0 := Int.emod_nonneg c (show ((p.length : Nat) : Int) ≠ 0 from Int.ne_of_gt hp)
  have n1 := Int.emod_lt_of_pos c hp
  generalize hk : c % ((p.length : Nat) : Int) = k at n0 n1
  have hi : k.toNat < p.length := toNat_lt' n0 n1
  obtain ⟨t, nt, ht⟩ := law_step (h.steps _ (List.getElem_mem hi)) hw (c := c / 20)
  have a1 := slice_le p none (some k)
  have a2 := slice_le p (some (k + 1)) none
  have hm := h.most
  refine ⟨sliceOf p none (some k) ++ [t] ++ sliceOf p (some (k + 1)) none, np_step (t := t) (fun s hs => ?_) ?_ (by simp) nt, fun {d σ} => ?_⟩
  · rcases List.mem_append.mp hs with q | q
    · rcases List.mem_append.mp q with q | q
      · exact fits_ok (h.steps s (slice_mem q))
      · rw [List.mem_singleton.mp q]; exact nt.fits
    · exact fits_ok (h.steps s (slice_mem q))
  · simp only [List.length_append, List.length_cons, List.length_nil]; omega
  · rw [callC (fn := f_law_spoilt) rfl rfl]
    generalize hρ : ([some (planV p), some (.int w), some (.int c), some (.int k), none, none, none, none, none, none, none] : Loc) = ρ
    have v0 : ev (CC (d + 2)) (.v 0) ρ σ = .ok (planV p) σ := by subst hρ; rfl
    have v1 : ev (CC (d + 2)) (.v 1) ρ σ = .ok (.int w) σ := by subst hρ; rfl
    have v2 : ev (CC (d + 2)) (.v 2) ρ σ = .ok (.int c) σ := by subst hρ; rfl
    have v3 : ev (CC (d + 2)) (.v 3) ρ σ = .ok (.int k) σ := by subst hρ; rfl
    have s0 : ex (CC (d + 2)) topN f_law_spoilt_s0 [some (planV p), some (.int w), some (.int c), none, none, none, none, none, none, none, none] σ = .next ρ σ := by
      subst hρ
      have hl2 : b1v .len (planV p) σ = .ok (.int ((p.length : Nat) : Int)) σ := by
        show b1v .len (.tup (p.map Step.pv)) σ = _
        rw [len_tup (plan_lim h.most), List.length_map]
      refine ex_asg ((e_bin (x := .int c) (σ₁ := σ) rfl (e_b1 (x := planV p) (σ₁ := σ) rfl hl2) (mod_int hp)).trans ?_)
      rw [hk]
    have c1 : ev (CC (d + 2)) (.call i_law_step (.cons (.sub (.v 0) (.v 3)) (.cons (.v 1) (.cons (.bin .fdiv (.v 2) (.k (.int 20))) .nil)))) ρ σ = .ok t.pv σ :=
      e_call3 (e_sub v0 v3 (subP n0 hl (List.getElem?_eq_getElem hi))) v1 (e_bin v2 (y := .int 20) (σ₂ := σ) rfl (fdiv_int (by decide) (by decide))) ht
    have c2 : ev (CC (d + 2)) (.tup (.cons (.call i_law_step (.cons (.sub (.v 0) (.v 3)) (.cons (.v 1) (.cons (.bin .fdiv (.v 2) (.k (.int 20))) .nil)))) .nil)) ρ σ = .ok (planV [t]) σ := e_tup (s_cons c1 rfl) (show (1 : Nat) ≤ lim by decide)
    have c3 : ev (CC (d + 2)) (.slice (.v 0) (.k .none) (.v 3)) ρ σ = .ok (planV (sliceOf p none (some k))) σ := e_slice (y := .none) (σ₂ := σ) v0 rfl v3 (sliceP rfl rfl hl)
    have c4 : ev (CC (d + 2)) (.slice (.v 0) (.bin .add (.v 3) (.k (.int 1))) (.k .none)) ρ σ = .ok (planV (sliceOf p (some (k + 1)) none)) σ := e_slice (z := .none) (σ₃ := σ) v0 (e_bin v3 (y := .int 1) (σ₂ := σ) rfl add_int) rfl (sliceP rfl rfl hl)
    have s1 : ex (CC (d + 2)) topN f_law_spoilt_s1 ρ σ = .ret (planV (sliceOf p none (some k) ++ [t] ++ sliceOf p (some (k + 1)) none)) ρ σ := by
      refine (ex_ifT (t_cmp v1 (y := .int 14) (σ₂ := σ) rfl (lt_int.trans ?_))).trans (ex_ret (ex_ret_ (e_bin (e_bin c3 c2 (addP ?_)) c4 (addP ?_))))
      · rw [decide_eq_true (by omega)]
      · simp only [List.length_cons, List.length_nil]; omega
      · simp only [List.length_append, List.length_cons, List.length_nil]; omega
    exact (congrArg finS ((ex_next s0).trans (ex_ret s1))).trans rfl
end
end Mine

namespace Mine
open PySem

/-! steps that are put behind a plan -/
noncomputable def nS (j : Nat) : Str := Str.ofString (toString ((j : Nat) : Int))
noncomputable def zS (j : Nat) : Str := "zzzzzz" ++ nS j
noncomputable def yS (j : Nat) : Str := "yyyyyy" ++ nS j
theorem zy_facts : ∀ j, j < 20 → (nameB (zS j) && (nameB (yS j) && (!plainB (zS j) && (!plainB (yS j) && decide ((nS j).length ≤ 2))))) = true := by decide +kernel
theorem zy_nodup : nodupB ((List.range 20).map zS) = true ∧ nodupB ((List.range 20).map yS) = true := by decide +kernel
noncomputable def ext (w : Str) (nd : List Str) (j : Nat) : Step := ⟨zS j, .word w, nd, [yS j]⟩
noncomputable def extL (w : Str) (nd : List Str) (n : Nat) : List Step := (List.range n).map (ext w nd)
theorem ext_ok {w : Str} {nd : List Str} {j : Nat} (hj : j < 20) (hn : ∀ n ∈ nd, NameOk n) (n1 : 1 ≤ nd.length) (n4 : nd.length ≤ 4) (hr : RuleOk (.word w) nd.length 1) : StepOk (ext w nd j) := by
  have h := zy_facts j hj
  simp only [Bool.and_eq_true] at h
  exact ⟨nameB_ok h.1, hn, n1, n4, fun n q => by rw [List.mem_singleton.mp q]; exact nameB_ok h.2.1, Nat.le_refl 1, (by show (1 : Nat) ≤ 3; decide), by simp [ext], hr⟩
theorem ext_plan {p : List Step} (h : PlanOk p) (hp : ∀ s ∈ p, Plain s.name ∧ ∀ g ∈ s.gives, Plain g) {w : Str} {nd : List Str} (hn : ∀ n ∈ nd, NameOk n) (n1 : 1 ≤ nd.length) (n4 : nd.length ≤ 4) (hr : RuleOk (.word w) nd.length 1) : PlanOk (p ++ extL w nd (20 - p.length)) := by
  have hm := h.most
  have h1 := h.pos
  have np : ∀ j, j < 20 → plainB (zS j) = false ∧ plainB (yS j) = false := fun j hj => by
    have h := zy_facts j hj
    simp only [Bool.and_eq_true, Bool.not_eq_true'] at h
    exact ⟨h.2.2.1, h.2.2.2.1⟩
  have sub : ∀ {f : Nat → Str}, nodupB ((List.range 20).map f) = true → ((List.range (20 - p.length)).map f).Nodup := fun {f} q =>
    (nodupB_ok q).sublist (List.Sublist.map f (List.range_sublist.mpr (by omega)))
  refine ⟨?_, ?_, fun s hs => ?_, ?_, ?_⟩
  · rw [List.length_append]; omega
  · simp only [List.length_append, extL, List.length_map, List.length_range]; omega
  · rcases List.mem_append.mp hs with q | q
    · exact h.steps s q
    · obtain ⟨j, hj, rfl⟩ := List.mem_map.mp q
      exact ext_ok (by have := List.mem_range.mp hj; omega) hn n1 n4 hr
  · rw [List.map_append, extL, List.map_map]
    refine List.nodup_append.mpr ⟨h.names, sub zy_nodup.1, fun a ha b hb e => ?_⟩
    obtain ⟨s, hs, rfl⟩ := List.mem_map.mp ha
    obtain ⟨j, hj, rfl⟩ := List.mem_map.mp hb
    have q : plainB s.name = true := (hp s hs).1
    rw [e] at q
    have q2 : plainB (zS j) = true := q
    rw [(np j (by have := List.mem_range.mp hj; omega)).1] at q2; contradiction
  · have e : (extL w nd (20 - p.length)).flatMap (·.gives) = (List.range (20 - p.length)).map yS := by
      unfold extL
      rw [List.flatMap_map]
      generalize List.range (20 - p.length) = l
      induction l with
      | nil => rfl
      | cons x l ih => rw [List.flatMap_cons, ih]; rfl
    rw [List.flatMap_append, e]
    refine List.nodup_append.mpr ⟨h.gives, sub zy_nodup.2, fun a ha b hb e => ?_⟩
    obtain ⟨s, hs, q⟩ := List.mem_flatMap.mp ha
    obtain ⟨j, hj, rfl⟩ := List.mem_map.mp hb
    have q : plainB a = true := (hp s hs).2 a q
    rw [e, (np j (by have := List.mem_range.mp hj; omega)).2] at q; contradiction

section
variable {d : Nat} {σ : Sto} {C : Cfg} {ρ : Loc}
theorem str_int {j : Nat} (h : j < 20) : b1v .str (.int j) σ = .ok (.str (nS j)) σ := by
  show (if 0 ≤ ((j : Nat) : Int) ∧ ((j : Nat) : Int) < 1000000000 then Out.ok (PV.str (Str.ofString (toString ((j : Nat) : Int)))) σ else .stuck) = _
  exact if_pos ⟨by omega, by omega⟩
theorem ext_comp {w : Str} {ndX : X} {nd : List Str} {a : X} {n : Nat} (hn : n ≤ 20) (ha : ev C a ρ σ = .ok (.int n) σ) (hnd : ∀ ρ', ev C ndX ρ' σ = .ok (.tup (nd.map .str)) σ) (hh : C.hd = false := by first | rfl | assumption) :
    ev C (.comp true 1 [none, none, none] (.tup (.cons (.bin .add (.k (.str "zzzzzz")) (.b1 .str (.v 1))) (.cons (.tup (.cons (.k (.str w)) .nil)) (.cons ndX (.cons (.tup (.cons (.bin .add (.k (.str "yyyyyy")) (.b1 .str (.v 1))) .nil)) .nil))))) (.k (.bool true)) (.range1 a)) ρ σ = .ok (.fl ((extL w nd n).map Step.pv)) σ := by
  refine (comp_map (fun x => match x with | .int i => (ext w nd i.toNat).pv | _ => .none) (range_it (n := n) (Nat.le_trans hn (by decide)) ha) (by simp [intRange]; exact Nat.le_trans hn (by decide)) fun x hx => ?_).trans ?_
  · obtain ⟨j, hj, rfl⟩ := range_mem hx
    have hj20 : j < 20 := Nat.lt_of_lt_of_le hj hn
    have hz := zy_facts j hj20
    simp only [Bool.and_eq_true, decide_eq_true_eq] at hz
    have hl := hz.2.2.2.2
    have l6 : ("zzzzzz" : Str).length = 6 ∧ ("yyyyyy" : Str).length = 6 := by decide +kernel
    have sj : ev C (.b1 .str (.v 1)) ((capLoc [none, none, none] ρ).set 1 (some (.int j))) σ = .ok (.str (nS j)) σ := e_b1 (x := .int j) (σ₁ := σ) rfl (str_int hj20)
    have z : ev C (.bin .add (.k (.str "zzzzzz")) (.b1 .str (.v 1))) ((capLoc [none, none, none] ρ).set 1 (some (.int j))) σ = .ok (.str (zS j)) σ := e_bin (x := .str "zzzzzz") (σ₁ := σ) rfl sj (add_str (by rw [l6.1, lim_val]; omega))
    have y : ev C (.bin .add (.k (.str "yyyyyy")) (.b1 .str (.v 1))) ((capLoc [none, none, none] ρ).set 1 (some (.int j))) σ = .ok (.str (yS j)) σ := e_bin (x := .str "yyyyyy") (σ₁ := σ) rfl sj (add_str (by rw [l6.2, lim_val]; omega))
    exact e_tup (vs := [.str (zS j), .tup [.str w], .tup (nd.map .str), .tup [.str (yS j)]]) (s_cons z (s_cons (x := .tup [.str w]) (σ₁ := σ) rfl (s_cons (hnd _) (s_cons (e_tup (vs := [.str (yS j)]) (s_cons y rfl) (show (1 : Nat) ≤ lim by decide)) rfl)))) (show (4 : Nat) ≤ lim by decide)
  · refine congrArg (fun l => Out.ok (PV.fl l) σ) ?_
    unfold intRange extL
    rw [List.map_map, List.map_map]
    refine List.map_congr_left fun k hk => ?_
    show (ext w nd (0 + (k : Int) * 1).toNat).pv = (ext w nd k).pv
    rw [show (0 + (k : Int) * 1).toNat = k by omega]
theorem extL_len {w : Str} {nd : List Str} {n : Nat} : (extL w nd n).length = n := by simp [extL]
theorem extL_fits {w : Str} {nd : List Str} {n : Nat} (hn : n ≤ 20) (h : ∀ x ∈ nd, x.length ≤ lim) (h4 : nd.length ≤ 4) : ∀ s ∈ extL w nd n, Fits s := by
  intro s hs
  obtain ⟨j, hj, rfl⟩ := List.mem_map.mp hs
  have hz := zy_facts j (by have := List.mem_range.mp hj; omega)
  simp only [Bool.and_eq_true, decide_eq_true_eq] at hz
  have a := (nameB_ok hz.1).len
  have b := (nameB_ok hz.2.1).len
  exact ⟨Nat.le_trans a (by decide), h, Nat.le_trans h4 (by decide), fun n hn => by rw [List.mem_singleton.mp hn]; exact Nat.le_trans b (by decide), (by show (1 : Nat) ≤ lim; decide)⟩
end
end Mine

namespace Mine
open PySem

noncomputable abbrev RP (p : List Step) (w : Nat) (c k : Int) (a b e : Option PV) : Loc := [some (planV p), some (.int w), some (.int c), some (.int k), a, b, e, none, none, none, none]
theorem z12_len : ∀ x ∈ (["a", "zzzzzzz1", "zzzzzzz2"] : List Str), x.length ≤ lim := by decide +kernel
section
variable {d : Nat} {σ : Sto}
theorem name_two {p : List Step} {s t : Step} (hs : s ∈ p) (e : t.name = s.name) : ¬ PlanOk (p ++ [t]) := fun q => by
  have := q.names
  rw [List.map_append] at this
  exact (List.nodup_append.mp this).2.2 s.name (List.mem_map_of_mem hs) t.name (List.mem_singleton.mpr rfl) e.symm
theorem place_two {p : List Step} {s t : Step} {g : Str} (hs : s ∈ p) (hg : g ∈ s.gives) (e : g ∈ t.gives) : ¬ PlanOk (p ++ [t]) := fun q => by
  have := q.gives
  rw [List.flatMap_append] at this
  exact (List.nodup_append.mp this).2.2 g (List.mem_flatMap.mpr ⟨s, hs, hg⟩) g (List.mem_flatMap.mpr ⟨t, List.mem_singleton.mpr rfl, e⟩) rfl
theorem np_more {p : List Step} {t : Step} (h : PlanOk p) (f : Fits t) (n : ¬ PlanOk (p ++ [t])) : NoPlan (p ++ [t]) := by
  refine np_bad (fun s hs => ?_) ?_ n
  · rcases List.mem_append.mp hs with q | q
    · exact fits_ok (h.steps s q)
    · rw [List.mem_singleton.mp q]; exact f
  · have := h.most
    simp only [List.length_append, List.length_cons, List.length_nil]; omega

theorem spoilt_high {p : List Step} (h : PlanOk p) {w : Nat} (h14 : 14 ≤ w) (hw : w < 18) {c : Int} : ∃ q, NoPlan q ∧ ∀ {d : Nat} {σ : Sto}, callN PP topN (d + 3) i_law_spoilt [planV p, .int w, .int c] σ = .ok (planV q) σ := by
  have hp : (0 : Int) < ((p.length : Nat) : Int) := (Int.ofNat_lt.mpr h.pos : ((0 : Nat) : Int) < _)
  have hm := h.most
  have hl : p.length ≤ 100 := Nat.le_trans h.most (by decide)
  have n0 := Int.emod_nonneg c (show ((p.length : Nat) : Int) ≠ 0 from Int.ne_of_gt hp)
  have n1 := Int.emod_lt_of_pos c hp
  generalize hk : c % ((p.length : Nat) : Int) = k at n0 n1
  have hi : k.toNat < p.length := toNat_lt' n0 n1
  have hat := List.getElem?_eq_getElem hi
  have hin : p[k.toNat] ∈ p := List.getElem_mem hi
  generalize hs : p[k.toNat] = s at hat hin
  have ok := h.steps s hin
  have fs := fits_ok ok
  have hl2 : ∀ {σ : Sto}, b1v .len (planV p) σ = .ok (.int ((p.length : Nat) : Int)) σ := fun {σ} => by
    show b1v .len (.tup (p.map Step.pv)) σ = _
    rw [len_tup (plan_lim h.most), List.length_map]
  have front : ∀ {d : Nat} {σ : Sto} (rest : S), ex (CC (d + 2)) topN (.cons f_law_spoilt_s0 (.cons f_law_spoilt_s1 rest)) [some (planV p), some (.int w), some (.int c), none, none, none, none, none, none, none, none] σ = ex (CC (d + 2)) topN rest (RP p w c k none none none) σ := fun {d σ} rest => by
    have s0 : ex (CC (d + 2)) topN f_law_spoilt_s0 [some (planV p), some (.int w), some (.int c), none, none, none, none, none, none, none, none] σ = .next (RP p w c k none none none) σ := by
      refine ex_asg ((e_bin (x := .int c) (σ₁ := σ) rfl (e_b1 (x := planV p) (σ₁ := σ) rfl hl2) (mod_int hp)).trans ?_)
      rw [hk]
    refine (ex_next s0).trans (ex_next ((ex_ifF (σ' := σ) (t_cmp (x := .int w) (y := .int 14) (σ₁ := σ) (σ₂ := σ) rfl rfl (lt_int.trans ?_))).trans ex_nil))
    rw [decide_eq_false (by omega)]
  have at0 : ∀ {d : Nat} {σ : Sto} {a b e : Option PV}, ev (CC (d + 2)) (.sub (.v 0) (.v 3)) (RP p w c k a b e) σ = .ok s.pv σ := fun {d σ a b e} => e_sub (x := planV p) (y := .int k) (σ₁ := σ) (σ₂ := σ) rfl rfl (subP n0 hl hat)
  have add1 : ∀ {d : Nat} {σ : Sto} {a b e : Option PV} {x : X} {t : Step}, ev (CC (d + 2)) x (RP p w c k a b e) σ = .ok t.pv σ → ev (CC (d + 2)) (.bin .add (.v 0) (.tup (.cons x .nil))) (RP p w c k a b e) σ = .ok (planV (p ++ [t])) σ := fun {d σ a b e x t} hx =>
    e_bin (x := planV p) (y := planV [t]) (σ₁ := σ) (σ₂ := σ) rfl (e_tup (s_cons hx rfl) (show (1 : Nat) ≤ lim by decide)) (addP (by simp only [List.length_cons, List.length_nil]; omega))
  suffices main : ∃ q, NoPlan q ∧ ∀ {d : Nat} {σ : Sto}, ∃ ρ', ex (CC (d + 2)) topN (.cons f_law_spoilt_s2 (.cons f_law_spoilt_s3 (.cons f_law_spoilt_s4 (.cons f_law_spoilt_s5 (.cons f_law_spoilt_s6 (.cons f_law_spoilt_s7 .nil)))))) (RP p w c k none none none) σ = .ret (planV q) ρ' σ by
    obtain ⟨t, ht, e⟩ := main
    refine ⟨t, ht, fun {d σ} => ?_⟩
    obtain ⟨ρ', e⟩ := e (d := d) (σ := σ)
    rw [callC (fn := f_law_spoilt) rfl rfl]
    exact (congrArg finS ((front _).trans e)).trans rfl
  by_cases w14 : w = 14
  · refine ⟨p ++ [⟨s.name, .word "sum", ["a"], ["zzzzzzz1"]⟩], np_more h ⟨fs.name, fun x hx => z12_len x (by simp at hx; simp [hx]), (by show (1 : Nat) ≤ lim; decide), fun x hx => z12_len x (by simp at hx; simp [hx]), (by show (1 : Nat) ≤ lim; decide)⟩ (name_two hin rfl), fun {d σ} => ⟨_, takeS (k := 14) rfl rfl (by omega) (ex_ret (ex_ret_ (add1 ?_)))⟩⟩
    exact e_tup (vs := [.str s.name, .tup [.str "sum"], .tup [.str "a"], .tup [.str "zzzzzzz1"]]) (s_cons (e_sub at0 (y := .int 0) (σ₂ := σ) rfl rfl) rfl) (show (4 : Nat) ≤ lim by decide)
  have k1 : ∀ {d : Nat} {σ : Sto} (r : S), ex (CC (d + 2)) topN (.cons f_law_spoilt_s2 r) (RP p w c k none none none) σ = ex (CC (d + 2)) topN r (RP p w c k none none none) σ := fun r => skipS (k := 14) rfl rfl (by omega)
  by_cases w15 : w = 15
  · have gp : (0 : Int) < ((s.gives.length : Nat) : Int) := (Int.ofNat_lt.mpr ok.gives1 : ((0 : Nat) : Int) < _)
    have m0 := Int.emod_nonneg (c / 20) (show ((s.gives.length : Nat) : Int) ≠ 0 from Int.ne_of_gt gp)
    have m1 := Int.emod_lt_of_pos (c / 20) gp
    generalize hj : c / 20 % ((s.gives.length : Nat) : Int) = j at m0 m1
    have hji : j.toNat < s.gives.length := toNat_lt' m0 m1
    have hg : s.gives[j.toNat] ∈ s.gives := List.getElem_mem hji
    have hgat := List.getElem?_eq_getElem hji
    generalize s.gives[j.toNat] = g at hg hgat
    refine ⟨p ++ [⟨"zzzzzzz2", .word "sum", ["a"], [g]⟩], np_more h ⟨z12_len _ (by simp), fun x hx => z12_len x (by simp at hx; simp [hx]), (by show (1 : Nat) ≤ lim; decide), fun x hx => by rw [List.mem_singleton.mp hx]; exact fs.gives g hg, (by show (1 : Nat) ≤ lim; decide)⟩ (place_two hin hg (List.mem_singleton.mpr rfl)), fun {d σ} => ⟨_, (k1 _).trans (takeS (k := 15) rfl rfl (by omega) ((ex_next (a := f_law_spoilt_s3t0) (ρ' := RP p w c k (some (.str g)) none none) (σ' := σ) (ex_asg ?_)).trans (ex_ret (ex_ret_ (add1 ?_)))))⟩⟩
    · have at3 : ev (CC (d + 2)) (.sub (.sub (.v 0) (.v 3)) (.k (.int 3))) (RP p w c k none none none) σ = .ok (.tup (s.gives.map .str)) σ := e_sub at0 (y := .int 3) (σ₂ := σ) rfl rfl
      have idx : ev (CC (d + 2)) (.bin .mod (.bin .fdiv (.v 2) (.k (.int 20))) (.b1 .len (.sub (.sub (.v 0) (.v 3)) (.k (.int 3))))) (RP p w c k none none none) σ = .ok (.int j) σ := by
        refine (e_bin (e_bin (x := .int c) (y := .int 20) (σ₁ := σ) (σ₂ := σ) rfl rfl (fdiv_int (by decide) (by decide))) (e_b1 at3 (lenT fs.givesl)) (mod_int gp)).trans ?_
        rw [hj]
      exact e_sub at3 idx (sub_tup (by rw [List.length_map]; exact fs.givesl) m0 (by rw [List.getElem?_map, hgat]; rfl))
    · exact e_tup (vs := [.str "zzzzzzz2", .tup [.str "sum"], .tup [.str "a"], .tup [.str g]]) rfl (show (4 : Nat) ≤ lim by decide)
  have k2 : ∀ {d : Nat} {σ : Sto} (r : S), ex (CC (d + 2)) topN (.cons f_law_spoilt_s2 (.cons f_law_spoilt_s3 r)) (RP p w c k none none none) σ = ex (CC (d + 2)) topN r (RP p w c k none none none) σ := fun r => (k1 _).trans (skipS (k := 15) rfl rfl (by omega))
  by_cases w16 : w = 16
  · exact ⟨[], np_bad (fun _ hs => nomatch hs) (Nat.zero_le _) (fun q => absurd q.pos (by decide)), fun {d σ} => ⟨_, (k2 _).trans (takeS (k := 16) rfl rfl (by omega) (ex_ret (ex_ret_ rfl)))⟩⟩
  have k3 : ∀ {d : Nat} {σ : Sto} (r : S), ex (CC (d + 2)) topN (.cons f_law_spoilt_s2 (.cons f_law_spoilt_s3 (.cons f_law_spoilt_s4 r))) (RP p w c k none none none) σ = ex (CC (d + 2)) topN r (RP p w c k none none none) σ := fun r => (k2 _).trans (skipS (k := 16) rfl rfl (by omega))
  have pos := h.pos
  have n20 : 21 - p.length ≤ 20 := by omega
  refine ⟨p ++ extL "sum" ["a"] (21 - p.length), np_bad (fun s hs => ?_) ?_ (fun q => ?_), fun {d σ} => ⟨_, (k3 _).trans ((ex_next (a := f_law_spoilt_s5) (ρ' := RP p w c k none (some (.int ((21 - p.length : Nat) : Int))) none) (σ' := σ) (ex_asg ?_)).trans ((ex_next (a := f_law_spoilt_s6) (ρ' := RP p w c k none (some (.int ((21 - p.length : Nat) : Int))) (some (.fl ((extL "sum" ["a"] (21 - p.length)).map Step.pv)))) (σ' := σ) (ex_asg (ext_comp n20 (a := .v 5) rfl (nd := ["a"]) fun _ => rfl))).trans (ex_ret (ex_ret_ (e_bin (x := planV p) (σ₁ := σ) rfl (e_b1 (x := .fl ((extL "sum" ["a"] (21 - p.length)).map Step.pv)) (σ₁ := σ) rfl (tuple_fl ?_)) (addP ?_))))))⟩⟩
  · rcases List.mem_append.mp hs with q | q
    · exact fits_ok (h.steps s q)
    · exact extL_fits n20 (fun x hx => z12_len x (by simp at hx; simp [hx])) (by decide) s q
  · rw [List.length_append, extL_len]; omega
  · have := q.most
    rw [List.length_append, extL_len] at this; omega
  · refine (e_bin (x := .int 21) (σ₁ := σ) rfl (e_b1 (x := planV p) (σ₁ := σ) rfl hl2) sub_int).trans ?_
    rw [show (21 : Int) - ((p.length : Nat) : Int) = ((21 - p.length : Nat) : Int) by omega]
  · rw [List.length_map, extL_len]; exact Nat.le_trans n20 (by decide)
  · rw [extL_len]; omega

theorem law_spoilt {p : List Step} (h : PlanOk p) {w : Nat} (hw : w < 18) {c : Int} : ∃ q, NoPlan q ∧ ∀ {d : Nat} {σ : Sto}, callN PP topN (d + 3) i_law_spoilt [planV p, .int w, .int c] σ = .ok (planV q) σ :=
  if h14 : w < 14 then spoilt_low h h14 else spoilt_high h (Nat.le_of_not_lt h14) hw
theorem np_false {q : List Step} (n : NoPlan q) {d : Nat} {σ : Sto} : ∃ τ, callN PP topN (d + 4) i_is_plan [planV q] σ = .ok (.bool false) (σ ++ τ) := by
  obtain ⟨τ, e⟩ := h6x (d := d) (σ := σ) n.fits (Nat.le_trans n.len (by decide))
  rw [n.no] at e
  exact ⟨τ, e⟩
end
end Mine

namespace Mine
open PySem

noncomputable abbrev RW (a b c e f g t u x y z : Option PV) : Loc := [a, b, c, e, f, g, t, u, x, y, z, none, none, none, none, none, none, none, none, none, none, none, none, none, none]
noncomputable def TL : List PV := [.int 1, .int 200, .int 0, .int 201, .int (-1), .bool true, .none, .str "3", .int 7, .int 150]
noncomputable def cond6 : X := .or (.cons (.isinst (.v 6) .bool) (.cons (.not (.isinst (.v 6) .int)) (.cons (.not (.cmp2 (.k (.int 1)) .le (.v 6) .le (.k (.int 200)))) .nil)))
structure TurnV (tv : PV) (tb : Bool) : Prop where
  btw : ∀ {d : Nat} {σ : Sto}, callN PP topN (d + 1) i_is_between [tv, .int 1, .int 200] σ = .ok (.bool tb) σ
  tst6 : ∀ {d : Nat} {σ : Sto} {a b c e f g u x y z : Option PV}, tst (CC d) cond6 (RW a b c e f g (some tv) u x y z) σ = .ok (!tb) σ
section
variable {d : Nat} {σ : Sto}
theorem turn_int (i : Int) : TurnV (.int i) (decide (1 ≤ i) && decide (i ≤ 200)) := ⟨b_int, fun {d σ a b c e f g u x y z} =>
  t_or (t_or_f (σ₁ := σ) rfl (t_or_f (σ₁ := σ) rfl (t_or_1 (t_not (t_between_c (σ := σ) rfl rfl rfl)))))⟩
theorem turn_at {c : Int} : ∃ tv tb, TurnV tv tb ∧ ∀ {σ : Sto}, subv (.fl TL) (.int (c % 10)) σ = .ok tv σ := by
  have n0 := Int.emod_nonneg c (show (10 : Int) ≠ 0 by decide)
  have n1 := Int.emod_lt_of_pos c (show (0 : Int) < 10 by decide)
  obtain ⟨tv, tb, h1, h2⟩ := int_lt (n := 10) (P := fun x => ∃ tv tb, TurnV tv tb ∧ TL[x.toNat]? = some tv)
    (allS (allS (allS (allS (allS (allS (allS (allS (allS (allS all0 ⟨_, _, turn_int _, rfl⟩) ⟨_, _, turn_int _, rfl⟩) ⟨_, _, turn_int _, rfl⟩) ⟨_, _, turn_int _, rfl⟩) ⟨_, _, turn_int _, rfl⟩)
      ⟨.bool true, false, ⟨rfl, rfl⟩, rfl⟩) ⟨.none, false, ⟨rfl, rfl⟩, rfl⟩) ⟨.str "3", false, ⟨rfl, rfl⟩, rfl⟩) ⟨_, _, turn_int _, rfl⟩) ⟨_, _, turn_int _, rfl⟩) n0 n1
  exact ⟨tv, tb, h1, fun {σ} => sub_fl (show (10 : Nat) ≤ lim by decide) n0 h2⟩
theorem mul4 : binop .mul (.tup [.str "a"]) (.int 4) σ = .ok (.tup [.str "a", .str "a", .str "a", .str "a"]) σ :=
  (if_pos (c := (([PV.str "a"] : List PV).length ≤ 100 ∧ 2 ≤ (4 : Int) ∧ (4 : Int) ≤ 100) ∧ ([PV.str "a"] : List PV).isEmpty = false) (by decide) : (if (([PV.str "a"] : List PV).length ≤ 100 ∧ 2 ≤ (4 : Int) ∧ (4 : Int) ≤ 100) ∧ ([PV.str "a"] : List PV).isEmpty = false then Out.ok (PV.tup (List.replicate (4 : Int).toNat [PV.str "a"]).flatten) σ else .stuck) = _)

/-! two lists of texts -/
theorem toD_lst {n r : Nat} {ns : List Str} (h : σ[r]? = some (.lst (ns.map .str))) : toD (n + 2) σ (.ref r) = some (.list (ns.map .str)) := by
  have : (ns.map PV.str).mapM (toD (n + 1) σ) = some (ns.map PyData.str) := by
    clear h
    induction ns with
    | nil => rfl
    | cons n ns ih => rw [List.map_cons, List.mapM_cons, ih]; rfl
  show (match σ[r]? with | some (.lst xs) => (xs.mapM (toD (n + 1) σ)).map PyData.list | _ => none) = _
  rw [h]
  show ((ns.map PV.str).mapM (toD (n + 1) σ)).map PyData.list = _
  rw [this]; rfl
theorem eqv_lists {i j : Nat} {ns : List Str} (hi : σ[i]? = some (.lst (ns.map .str))) (hj : σ[j]? = some (.lst (ns.map .str))) : eqv σ (.ref i) (.ref j) = some true := by
  unfold eqv
  rw [toD_lst (n := 14) hi, toD_lst (n := 14) hj]
  show some (PyData.eqv (.list (ns.map PyData.str)) (.list (ns.map PyData.str))) = _
  rw [PyData.eqv]
  congr 1
  clear hi hj
  induction ns with
  | nil => rfl
  | cons n ns ih => rw [List.map_cons, PyData.eqvAll, ih]; simp [PyData.eqv]
theorem list_is {r : Nat} {xs : List PV} (h : σ[r]? = some (.lst xs)) : isinstv (.ref r) .list σ = .ok true σ := by
  have e : asLst σ (.ref r) = some xs := by unfold asLst; dsimp only; rw [h]
  show (match asLst σ (.ref r) with | some _ => Out.ok true σ | none => .stuck) = _
  rw [e]
theorem flatN_le : ∀ (q : List Step), (∀ s ∈ q, s.needs.length ≤ 4) → (q.flatMap (·.needs)).length ≤ 4 * q.length := by
  intro q
  induction q with
  | nil => intro _; exact Nat.le_refl _
  | cons s q ih =>
    intro h
    have h1 := h s List.mem_cons_self
    have h2 := ih fun t ht => h t (List.mem_cons_of_mem _ ht)
    rw [List.flatMap_cons, List.length_append, List.length_cons]; omega

/-! the plans that the law asks about itself -/
noncomputable def pA : List Step := [⟨"a", .word "sum", ["a"], ["a"]⟩]
noncomputable def pB : List Step := [⟨"a", .word "sum", ["a"], []⟩]
theorem pA_ok : planB pA = true := by decide +kernel
theorem pB_no : planB pB = false := by decide +kernel
theorem one_a : ∀ x ∈ (["a"] : List Str), x.length ≤ lim := fun x hx => z12_len x (by simp at hx; simp [hx])
theorem fit_a {gs : List Str} (h : ∀ x ∈ gs, x ∈ (["a"] : List Str)) (hl : gs.length ≤ 1) : ∀ s ∈ [(⟨"a", .word "sum", ["a"], gs⟩ : Step)], Fits s := fun s hs => by
  rw [List.mem_singleton.mp hs]
  exact ⟨one_a _ (by simp), one_a, (by show (1 : Nat) ≤ lim; decide), fun x hx => one_a x (h x hx), Nat.le_trans hl (by decide)⟩
theorem ask_a : ∃ σ', callN PP topN (d + 4) i_is_plan [planV pA] σ = .ok (.bool true) σ' := by
  obtain ⟨τ, e⟩ := h6 (d := d) (σ := σ) (p := pA) (fit_a (fun _ h => h) (Nat.le_refl 1)) (show (1 : Nat) ≤ lim by decide)
  rw [pA_ok] at e; exact ⟨τ, e⟩
theorem ask_b : ∃ σ', callN PP topN (d + 4) i_is_plan [planV pB] σ = .ok (.bool false) σ' := by
  obtain ⟨τ, e⟩ := h6 (d := d) (σ := σ) (p := pB) (fit_a (fun _ h => nomatch h) (Nat.zero_le _)) (show (1 : Nat) ≤ lim by decide)
  rw [pB_no] at e; exact ⟨τ, e⟩

/-! a round -/
theorem law_round {pl tv sc wy : PV} {o8 o9 : Option PV} {o4 o5 : Option PV} {good : Bool} {due : Str} (hP : ∀ {σ : Sto}, ∃ σ', callN PP topN 19 i_is_plan [pl] σ = .ok (.bool good) σ') (hM : ∀ {σ : Sto}, ∃ σ', callN PP topN 19 i_law_made [pl, tv] σ = .ok (.str due) σ') :
    ∃ σ', ex (CC 19) topN f_law_s7b (RW (some sc) (some pl) (some wy) (some (.bool good)) o4 o5 (some tv) (some (.str due)) o8 o9 none) σ = .next (RW (some sc) (some pl) (some wy) (some (.bool good)) o4 o5 (some tv) (some (.str due)) o8 (some (.bool good)) none) σ' := by
  obtain ⟨σ₁, e1⟩ := hP (σ := σ)
  obtain ⟨σ₂, e2⟩ := hM (σ := σ₁)
  obtain ⟨σ₃, e3⟩ := ask_a (d := 15) (σ := σ₂)
  obtain ⟨σ₄, e4⟩ := ask_b (d := 15) (σ := σ₃)
  have b0 : ex (CC 19) topN f_law_s7b0 (RW (some sc) (some pl) (some wy) (some (.bool good)) o4 o5 (some tv) (some (.str due)) o8 o9 none) σ = .next (RW (some sc) (some pl) (some wy) (some (.bool good)) o4 o5 (some tv) (some (.str due)) o8 (some (.bool good)) none) σ₁ := ex_asg (e_call1 (x := pl) (σ₁ := σ) rfl e1)
  have b1 : ex (CC 19) topN f_law_s7b1 (RW (some sc) (some pl) (some wy) (some (.bool good)) o4 o5 (some tv) (some (.str due)) o8 (some (.bool good)) none) σ₁ = .next (RW (some sc) (some pl) (some wy) (some (.bool good)) o4 o5 (some tv) (some (.str due)) o8 (some (.bool good)) none) σ₂ := by
    refine (ex_ifF (σ' := σ₂) (t_or (t_or_f (σ₁ := σ₁) rfl (t_or_f (σ₁ := σ₁) (t_cmp (x := .bool good) (y := .bool good) (σ₁ := σ₁) (σ₂ := σ₁) rfl rfl ?_) (t_or_1 (t_cmp (e_call2 (x := pl) (y := tv) (σ₁ := σ₁) (σ₂ := σ₁) rfl rfl e2) (y := .str due) (σ₂ := σ₂) rfl (ne_str.trans ?_))))))).trans ex_nil
    · cases good <;> rfl
    · simp
  have b2 : ex (CC 19) topN f_law_s7b2 (RW (some sc) (some pl) (some wy) (some (.bool good)) o4 o5 (some tv) (some (.str due)) o8 (some (.bool good)) none) σ₂ = .next (RW (some sc) (some pl) (some wy) (some (.bool good)) o4 o5 (some tv) (some (.str due)) o8 (some (.bool good)) none) σ₃ :=
    (ex_ifF (σ' := σ₃) (t_cmp (e_call1 (x := planV pA) (σ₁ := σ₂) rfl e3) (y := .bool true) (σ₂ := σ₃) rfl rfl)).trans ex_nil
  have b3 : ex (CC 19) topN f_law_s7b3 (RW (some sc) (some pl) (some wy) (some (.bool good)) o4 o5 (some tv) (some (.str due)) o8 (some (.bool good)) none) σ₃ = .next (RW (some sc) (some pl) (some wy) (some (.bool good)) o4 o5 (some tv) (some (.str due)) o8 (some (.bool good)) none) σ₄ :=
    (ex_ifF (σ' := σ₄) (t_cmp (e_call1 (x := planV pB) (σ₁ := σ₃) rfl e4) (y := .bool false) (σ₂ := σ₄) rfl rfl)).trans ex_nil
  exact ⟨σ₄, (ex_next b0).trans ((ex_next b1).trans ((ex_next b2).trans ((ex_next b3).trans ex_nil)))⟩
theorem law_rounds {pl tv sc wy : PV} {o4 o5 : Option PV} {good : Bool} {due : Str} (hP : ∀ {σ : Sto}, ∃ σ', callN PP topN 19 i_is_plan [pl] σ = .ok (.bool good) σ') (hM : ∀ {σ : Sto}, ∃ σ', callN PP topN 19 i_law_made [pl, tv] σ = .ok (.str due) σ') :
    ∃ σ', ex (CC 19) topN f_law_s7 (RW (some sc) (some pl) (some wy) (some (.bool good)) o4 o5 (some tv) (some (.str due)) none none none) σ = .next (RW (some sc) (some pl) (some wy) (some (.bool good)) o4 o5 (some tv) (some (.str due)) (some (.int 1)) (some (.bool good)) none) σ' := by
  obtain ⟨σ₁, e1⟩ := law_round (σ := σ) (sc := sc) (wy := wy) (o4 := o4) (o5 := o5) (o8 := some (.int 0)) (o9 := none) hP hM
  obtain ⟨σ₂, e2⟩ := law_round (σ := σ₁) (sc := sc) (wy := wy) (o4 := o4) (o5 := o5) (o8 := some (.int 1)) (o9 := some (.bool good)) hP hM
  exact ⟨σ₂, ex_for (ys := [.int 0, .int 1]) (σ₁ := σ) (range_it (n := 2) (by decide) rfl) ((for_next (x := .int 0) rfl e1).trans ((for_next (x := .int 1) rfl e2).trans for_nil))⟩

/-! the front: what the law's way makes of a plan -/
theorem law_plan_of {p : List Step} (hp : PlanOk p) (hpl : ∀ s ∈ p, Plain s.name ∧ ∀ g ∈ s.gives, Plain g) {l : List Int} (hl : l.length ≤ 63) {w : Nat} (hw : w < 30) {σ : Sto} :
    ∃ (q : List Step) (o4 o5 : Option PV), ((w < 18 ∧ NoPlan q) ∨ (18 ≤ w ∧ PlanOk q)) ∧
      ex (CC 19) topN f_law_s3 (RW (some (.fl (l.map .int))) (some (planV p)) (some (.int w)) (some (.bool (decide (17 < w)))) none none none none none none none) σ = .next (RW (some (.fl (l.map .int))) (some (planV q)) (some (.int w)) (some (.bool (decide (17 < w)))) o4 o5 none none none none none) σ := by
  by_cases w18 : w < 18
  · obtain ⟨q, nq, hq⟩ := law_spoilt hp w18 (c := l.getD 13 0)
    refine ⟨q, none, none, .inl ⟨w18, nq⟩, ?_⟩
    rw [decide_eq_false (show ¬ 17 < w by omega)]
    exact (ex_ifT (σ' := σ) rfl).trans ((ex_next (a := f_law_s3t0) (ex_asg (e_call3 (x := planV p) (y := .int w) (σ₁ := σ) (σ₂ := σ) rfl rfl (e_call2 (x := .fl (l.map .int)) (y := .int ((13 : Nat) : Int)) (σ₁ := σ) (σ₂ := σ) rfl rfl (h12 (d := 18) hl)) (hq (d := 16))))).trans ex_nil)
  · rw [decide_eq_true (show 17 < w by omega)]
    have front : ∀ {o : OutS}, ex (CC 19) topN f_law_s3e0 (RW (some (.fl (l.map .int))) (some (planV p)) (some (.int w)) (some (.bool true)) none none none none none none none) σ = o → ex (CC 19) topN f_law_s3 (RW (some (.fl (l.map .int))) (some (planV p)) (some (.int w)) (some (.bool true)) none none none none none none none) σ = ex (CC 19) topN (.cons f_law_s3e0 .nil) (RW (some (.fl (l.map .int))) (some (planV p)) (some (.int w)) (some (.bool true)) none none none none none none none) σ := fun _ => ex_ifF (σ' := σ) rfl
    by_cases w18' : w = 18
    · have hm := hp.most
      have pos := hp.pos
      have n20 : 20 - p.length ≤ 20 := by omega
      have hl2 : ∀ {σ : Sto}, b1v .len (planV p) σ = .ok (.int ((p.length : Nat) : Int)) σ := fun {σ} => by
        show b1v .len (.tup (p.map Step.pv)) σ = _
        rw [len_tup (plan_lim hp.most), List.length_map]
      have ha : NameOk "a" := nameB_ok (by decide +kernel)
      have hq := ext_plan hp hpl (w := "most") (nd := ["a", "a", "a", "a"]) (fun n hn => by simp at hn; rw [hn]; exact ha) (by decide) (by decide) (RuleOk.most _ _)
      refine ⟨_, some (.int ((20 - p.length : Nat) : Int)), some (.fl ((extL "most" ["a", "a", "a", "a"] (20 - p.length)).map Step.pv)), .inr ⟨by omega, hq⟩, (front rfl).trans ((ex_next (a := f_law_s3e0) ((ex_ifT (σ' := σ) (t_cmp (x := .int w) (y := .int 18) (σ₁ := σ) (σ₂ := σ) rfl rfl (eq_int.trans ?_))).trans ((ex_next (a := f_law_s3e0t0) (ρ' := RW (some (.fl (l.map .int))) (some (planV p)) (some (.int w)) (some (.bool true)) (some (.int ((20 - p.length : Nat) : Int))) none none none none none none) (σ' := σ) (ex_asg ?_)).trans ((ex_next (a := f_law_s3e0t1) (ρ' := RW (some (.fl (l.map .int))) (some (planV p)) (some (.int w)) (some (.bool true)) (some (.int ((20 - p.length : Nat) : Int))) (some (.fl ((extL "most" ["a", "a", "a", "a"] (20 - p.length)).map Step.pv))) none none none none none) (σ' := σ) (ex_asg (ext_comp n20 (a := .v 4) rfl (nd := ["a", "a", "a", "a"]) fun _ => ?_))).trans ((ex_next (a := f_law_s3e0t2) (ex_asg (e_bin (x := planV p) (σ₁ := σ) rfl (e_b1 (x := .fl ((extL "most" ["a", "a", "a", "a"] (20 - p.length)).map Step.pv)) (σ₁ := σ) rfl (tuple_fl ?_)) (addP ?_)))).trans ex_nil))))).trans ex_nil)⟩
      · rw [w18']; rfl
      · refine (e_bin (x := .int 20) (σ₁ := σ) rfl (e_b1 (x := planV p) (σ₁ := σ) rfl hl2) sub_int).trans ?_
        rw [show (20 : Int) - ((p.length : Nat) : Int) = ((20 - p.length : Nat) : Int) by omega]
      · exact e_bin (x := .tup [.str "a"]) (y := .int 4) (σ₁ := σ) (σ₂ := σ) rfl rfl mul4
      · rw [List.length_map, extL_len]; exact Nat.le_trans n20 (by decide)
      · rw [extL_len]; omega
    · refine ⟨p, none, none, .inr ⟨by omega, hp⟩, (front rfl).trans ((ex_next (a := f_law_s3e0) ((ex_ifF (σ' := σ) (t_cmp (x := .int w) (y := .int 18) (σ₁ := σ) (σ₂ := σ) rfl rfl (eq_int.trans ?_))).trans ex_nil)).trans ex_nil)⟩
      rw [beq_eq_false_iff_ne.mpr (by omega)]
end
end Mine

namespace Mine
open PySem

section
variable {d : Nat} {σ : Sto}
theorem law_tail {p : List Step} (h : PlanOk p) {sc wy tv du tn : PV} {o4 o5 o9 : Option PV} :
    ∃ ρ' σ', ex (CC 19) topN (.cons f_law_s9 (.cons f_law_s10 (.cons f_law_s11 (.cons f_law_s12 (.cons f_law_s13 .nil))))) (RW (some sc) (some (planV p)) (some wy) (some (.bool true)) o4 o5 (some tv) (some du) (some tn) o9 none) σ = .ret (.bool true) ρ' σ' := by
  generalize hO : outL (p.flatMap (·.gives)) (p.flatMap (·.needs)) = O
  have hOl : O.length < 1000 := by
    have h1 := out_len (G := p.flatMap (·.gives)) (p.flatMap (·.needs)) []
    have h2 := flatN_le p fun s hs => (h.steps s hs).needs4
    have h3 := h.most
    have h4 : (outL (p.flatMap (·.gives)) (p.flatMap (·.needs))).length ≤ ([] : List Str).length + (p.flatMap (·.needs)).length := h1
    rw [hO] at h4
    rw [List.length_nil] at h4
    omega
  have c9 := law_outside (d := 18) (σ := σ) h
  rw [hO] at c9
  generalize (MO.lst ((p.flatMap (·.gives)).map .str)) = m1 at c9
  generalize hτ : σ ++ [m1, MO.lst (O.map .str)] = τ at c9
  have at1 : τ[σ.length + 1]? = some (.lst (O.map .str)) := by subst hτ; simp
  have c10 := outside_ (d := 17) (σ := τ) h
  rw [hO] at c10
  generalize (MO.ds (giversL p)) = m2 at c10
  have l1 : σ.length + 1 < τ.length := by subst hτ; simp
  generalize hυ : (τ ++ [m2]) ++ [MO.lst (O.map .str ++ [.str "x"])] = υ
  have lτ : (τ ++ [m2]).length = τ.length + 1 := by simp
  have at2 : (τ ++ [m2, MO.lst (O.map .str)])[σ.length + 1]? = some (.lst (O.map .str)) := by rw [List.getElem?_append_left l1]; exact at1
  have at3 : (τ ++ [m2, MO.lst (O.map .str)])[τ.length + 1]? = some (.lst (O.map .str)) := by simp
  have c13 := outside_ (d := 17) (σ := υ) h
  rw [hO] at c13
  generalize (MO.ds (giversL p)) = m3 at c13
  have l2 : σ.length + 1 < υ.length := by subst hυ; simp; omega
  have at4 : υ[σ.length + 1]? = some (.lst (O.map .str)) := by subst hυ; rw [List.append_assoc, List.getElem?_append_left l1]; exact at1
  have at5 : (υ ++ [m3, MO.lst (O.map .str)])[σ.length + 1]? = some (.lst (O.map .str)) := by rw [List.getElem?_append_left l2]; exact at4
  have at6 : (υ ++ [m3, MO.lst (O.map .str)])[υ.length + 1]? = some (.lst (O.map .str)) := by simp
  have e9 : ex (CC 19) topN f_law_s9 (RW (some sc) (some (planV p)) (some wy) (some (.bool true)) o4 o5 (some tv) (some du) (some tn) o9 none) σ = .next (RW (some sc) (some (planV p)) (some wy) (some (.bool true)) o4 o5 (some tv) (some du) (some tn) o9 (some (.ref (σ.length + 1)))) τ := ex_asg (e_call1 (x := planV p) (σ₁ := σ) rfl c9)
  have e10 : ex (CC 19) topN f_law_s10 (RW (some sc) (some (planV p)) (some wy) (some (.bool true)) o4 o5 (some tv) (some du) (some tn) o9 (some (.ref (σ.length + 1)))) τ = .next (RW (some sc) (some (planV p)) (some wy) (some (.bool true)) o4 o5 (some tv) (some du) (some tn) (some (.ref (τ.length + 1))) (some (.ref (σ.length + 1)))) (τ ++ [m2, MO.lst (O.map .str)]) := ex_asg (e_call1 (x := planV p) (σ₁ := τ) rfl c10)
  generalize hρ : RW (some sc) (some (planV p)) (some wy) (some (.bool true)) o4 o5 (some tv) (some du) (some tn) (some (.ref (τ.length + 1))) (some (.ref (σ.length + 1))) = ρ at e10
  have v1 : ∀ {υ : Sto}, ev (CC 19) (.v 1) ρ υ = .ok (planV p) υ := fun {υ} => by subst hρ; rfl
  have v9 : ∀ {υ : Sto}, ev (CC 19) (.v 9) ρ υ = .ok (.ref (τ.length + 1)) υ := fun {υ} => by subst hρ; rfl
  have v10 : ∀ {υ : Sto}, ev (CC 19) (.v 10) ρ υ = .ok (.ref (σ.length + 1)) υ := fun {υ} => by subst hρ; rfl
  have e11 : ex (CC 19) topN f_law_s11 ρ (τ ++ [m2, MO.lst (O.map .str)]) = .next ρ (τ ++ [m2, MO.lst (O.map .str)]) := by
    refine (ex_ifF (σ' := τ ++ [m2, MO.lst (O.map .str)]) (t_or (t_or_f (t_not (t_isinst (e_isinst v9 (list_is at3)))) (t_or_1 (t_cmp v9 v10 ?_))))).trans ex_nil
    show Out.ofOpt ((eqv _ _ _).map (!·)) _ = _
    rw [eqv_lists at3 at2]; rfl
  have e12 : ex (CC 19) topN f_law_s12 ρ (τ ++ [m2, MO.lst (O.map .str)]) = .next ρ υ := by
    have q := append_at (σ₀ := τ ++ [m2]) (xs := O.map .str) (v := .str "x") (by rw [List.length_map]; exact hOl)
    have q2 := mut_at (σ₀ := τ ++ [m2]) (xs := O.map .str) (τ := []) (m := .append) (.inl rfl)
    rw [lτ, List.append_assoc] at q q2
    rw [hυ] at q
    exact ex_expr (e_me v9 q2 (y := .str "x") (σ₂ := τ ++ [m2, MO.lst (O.map .str)]) rfl q)
  have e13 : ex (CC 19) topN f_law_s13 ρ υ = .ret (.bool true) ρ (υ ++ [m3, MO.lst (O.map .str)]) := by
    refine ex_ret_ (e_cmp (e_call1 v1 c13) v10 ?_)
    show Out.ofOpt (eqv _ _ _) _ = _
    rw [eqv_lists at6 at5]; rfl
  exact ⟨_, _, (ex_next e9).trans ((ex_next e10).trans ((ex_next e11).trans ((ex_next e12).trans (ex_ret e13))))⟩

theorem runX {l : List Int} (hl : l.length ≤ 63) : ∃ σ, callN PP topN 20 i_law [.fl (l.map .int)] [] = .ok (.bool true) σ := by
  obtain ⟨p, σ₁, hp, hpl, c17⟩ := h17 (d := 16) hl
  have n0 := Int.emod_nonneg (l.getD 12 0) (show (30 : Int) ≠ 0 by decide)
  have n1 := Int.emod_lt_of_pos (l.getD 12 0) (show (0 : Int) < 30 by decide)
  obtain ⟨w, hw⟩ : ∃ w : Nat, l.getD 12 0 % 30 = w := ⟨(l.getD 12 0 % 30).toNat, by omega⟩
  obtain ⟨q, o4, o5, hq, e3⟩ := law_plan_of hp hpl hl (w := w) (by omega) (σ := σ₁)
  obtain ⟨tv, tb, tt, tat⟩ := turn_at (c := l.getD 14 0)
  have e0 : ex (CC 19) topN f_law_s0 (RW (some (.fl (l.map .int))) none none none none none none none none none none) [] = .next (RW (some (.fl (l.map .int))) (some (planV p)) none none none none none none none none none) σ₁ :=
    ex_asg (e_call2 (x := .fl (l.map .int)) (y := .int 0) (σ₁ := []) (σ₂ := []) rfl rfl c17)
  have e1 : ex (CC 19) topN f_law_s1 (RW (some (.fl (l.map .int))) (some (planV p)) none none none none none none none none none) σ₁ = .next (RW (some (.fl (l.map .int))) (some (planV p)) (some (.int w)) none none none none none none none none) σ₁ := by
    refine ex_asg ((e_bin (e_call2 (x := .fl (l.map .int)) (y := .int ((12 : Nat) : Int)) (σ₁ := σ₁) (σ₂ := σ₁) rfl rfl (h12 (d := 18) hl)) (y := .int 30) (σ₂ := σ₁) rfl (mod_int (by decide))).trans ?_)
    rw [hw]
  have e2 : ex (CC 19) topN f_law_s2 (RW (some (.fl (l.map .int))) (some (planV p)) (some (.int w)) none none none none none none none none) σ₁ = .next (RW (some (.fl (l.map .int))) (some (planV p)) (some (.int w)) (some (.bool (decide (17 < w)))) none none none none none none none) σ₁ :=
    ex_asg ((e_cmp (x := .int w) (y := .int 17) (σ₁ := σ₁) (σ₂ := σ₁) rfl rfl gt_int).trans (by rw [show decide ((w : Int) > 17) = decide (17 < w) from decide_eq_decide.mpr (by omega)]))
  have e4 : ∀ {g : Bool}, ex (CC 19) topN f_law_s4 (RW (some (.fl (l.map .int))) (some (planV q)) (some (.int w)) (some (.bool g)) o4 o5 none none none none none) σ₁ = .next (RW (some (.fl (l.map .int))) (some (planV q)) (some (.int w)) (some (.bool g)) o4 o5 (some tv) none none none none) σ₁ := fun {g} =>
    ex_asg (e_sub (x := .fl TL) (σ₁ := σ₁) rfl (e_bin (e_call2 (x := .fl (l.map .int)) (y := .int ((14 : Nat) : Int)) (σ₁ := σ₁) (σ₂ := σ₁) rfl rfl (h12 (d := 18) hl)) (y := .int 10) (σ₂ := σ₁) rfl (mod_int (by decide))) tat)
  have e5 : ∀ {g : Bool}, ex (CC 19) topN f_law_s5 (RW (some (.fl (l.map .int))) (some (planV q)) (some (.int w)) (some (.bool g)) o4 o5 (some tv) none none none none) σ₁ = .next (RW (some (.fl (l.map .int))) (some (planV q)) (some (.int w)) (some (.bool g)) o4 o5 (some tv) (some (.str "")) none none none) σ₁ := fun {g} => rfl
  rw [callC (d := 19) (fn := f_law) rfl rfl]
  show ∃ σ, finS (ex (CC 19) topN (.cons f_law_s0 (.cons f_law_s1 (.cons f_law_s2 (.cons f_law_s3 (.cons f_law_s4 (.cons f_law_s5 (.cons f_law_s6 (.cons f_law_s7 (.cons f_law_s8 (.cons f_law_s9 (.cons f_law_s10 (.cons f_law_s11 (.cons f_law_s12 (.cons f_law_s13 .nil)))))))))))))) (RW (some (.fl (l.map .int))) none none none none none none none none none none) []) = _
  rw [ex_next e0, ex_next e1, ex_next e2, ex_next e3, ex_next e4, ex_next e5]
  rcases hq with ⟨h18, nq⟩ | ⟨h18, ok⟩
  · rw [decide_eq_false (show ¬ 17 < w by omega)]
    have e6 : ex (CC 19) topN f_law_s6 (RW (some (.fl (l.map .int))) (some (planV q)) (some (.int w)) (some (.bool false)) o4 o5 (some tv) (some (.str "")) none none none) σ₁ = .next (RW (some (.fl (l.map .int))) (some (planV q)) (some (.int w)) (some (.bool false)) o4 o5 (some tv) (some (.str "NoPlan")) none none none) σ₁ := rfl
    obtain ⟨σ₂, e7⟩ := law_rounds (σ := σ₁) (sc := .fl (l.map .int)) (wy := .int w) (o4 := o4) (o5 := o5) (tv := tv) (good := false) (due := "NoPlan") (pl := planV q) (fun {σ} => let ⟨_, e⟩ := np_false nq (d := 15) (σ := σ); ⟨_, e⟩) (fun {σ} => made_plan (d := 13) (np_false nq))
    refine ⟨σ₂, ?_⟩
    rw [ex_next e6, ex_next e7]
    rfl
  · rw [decide_eq_true (show 17 < w by omega)]
    have hP : ∀ {σ : Sto}, ∃ σ', callN PP topN 19 i_is_plan [planV q] σ = .ok (.bool true) σ' := fun {σ} => let ⟨_, e⟩ := plan_true ok (d := 15) (σ := σ); ⟨_, e⟩
    obtain ⟨due, hM, e6⟩ : ∃ due : Str, (∀ {σ : Sto}, ∃ σ', callN PP topN 19 i_law_made [planV q, tv] σ = .ok (.str due) σ') ∧ ex (CC 19) topN f_law_s6 (RW (some (.fl (l.map .int))) (some (planV q)) (some (.int w)) (some (.bool true)) o4 o5 (some tv) (some (.str "")) none none none) σ₁ = .next (RW (some (.fl (l.map .int))) (some (planV q)) (some (.int w)) (some (.bool true)) o4 o5 (some tv) (some (.str due)) none none none) σ₁ := by
      have go : ∀ {o : OutS}, ex (CC 19) topN (.cons f_law_s6e0 .nil) (RW (some (.fl (l.map .int))) (some (planV q)) (some (.int w)) (some (.bool true)) o4 o5 (some tv) (some (.str "")) none none none) σ₁ = o → ex (CC 19) topN f_law_s6 (RW (some (.fl (l.map .int))) (some (planV q)) (some (.int w)) (some (.bool true)) o4 o5 (some tv) (some (.str "")) none none none) σ₁ = o := fun h => (ex_ifF (σ' := σ₁) rfl).trans h
      have t6 := tt.tst6 (d := 19) (σ := σ₁) (a := some (.fl (l.map .int))) (b := some (planV q)) (c := some (.int w)) (e := some (.bool true)) (f := o4) (g := o5) (u := some (.str "")) (x := none) (y := none) (z := none)
      cases tb with
      | true => exact ⟨"", fun {σ} => made_ok (d := 13) ok tt.btw, go ((ex_next ((ex_ifF t6).trans ex_nil)).trans ex_nil)⟩
      | false => exact ⟨"NoTurn", fun {σ} => made_turn (d := 13) ok tt.btw, go ((ex_next ((ex_ifT t6).trans ((ex_next (a := f_law_s6e0t0) rfl).trans ex_nil))).trans ex_nil)⟩
    obtain ⟨σ₂, e7⟩ := law_rounds (σ := σ₁) (sc := .fl (l.map .int)) (wy := .int w) (o4 := o4) (o5 := o5) (tv := tv) (good := true) (due := due) (pl := planV q) hP hM
    have e8 : ex (CC 19) topN f_law_s8 (RW (some (.fl (l.map .int))) (some (planV q)) (some (.int w)) (some (.bool true)) o4 o5 (some tv) (some (.str due)) (some (.int 1)) (some (.bool true)) none) σ₂ = .next (RW (some (.fl (l.map .int))) (some (planV q)) (some (.int w)) (some (.bool true)) o4 o5 (some tv) (some (.str due)) (some (.int 1)) (some (.bool true)) none) σ₂ := rfl
    obtain ⟨ρ', σ₃, e9⟩ := law_tail (σ := σ₂) ok (sc := .fl (l.map .int)) (wy := .int w) (tv := tv) (du := .str due) (tn := .int 1) (o4 := o4) (o5 := o5) (o9 := some (.bool true))
    refine ⟨σ₃, ?_⟩
    rw [ex_next e6, ex_next e7, ex_next e8, e9]
    rfl
end
end Mine

namespace Mine
open PySem PySem.W PyProof.Rows
set_option maxRecDepth 1000000 in
set_option maxHeartbeats 80000000 in
theorem leftX0 : ∀ w os, (leftT PySem.Challenge.pw_uf020019_02 w os topN).map (fun s => (PySem.W.Fast.tw4187177175401517315 (viewOf PySem.Challenge.pw_uf020019_02) [] (importedModules PySem.Challenge.pw_uf020019_02.main.body) (fun s => xlAt (viewOf PySem.Challenge.pw_uf020019_02) [] s && recOk (RowW.records (OpenRow.toRowW PySem.Challenge.rw_uf020019_02.row)) s) true s, Hook.obs (topHook TT 40 30 PP.fns) s)) = some (openGood (viewOf PySem.Challenge.pw_uf020019_02) [], Hook.val (topHook TT 40 30 PP.fns) w) := fun w os => by kernel_rfl
theorem leftX : LeftO PySem.Challenge.pw_uf020019_02 (viewOf PySem.Challenge.pw_uf020019_02) [] (fun s => xlAt (viewOf PySem.Challenge.pw_uf020019_02) [] s && recOk (RowW.records (OpenRow.toRowW PySem.Challenge.rw_uf020019_02.row)) s) (Hook.obs (topHook TT 40 30 PP.fns)) (Hook.val (topHook TT 40 30 PP.fns)) topN :=
  left_of (by kernel_rfl) (by rfl) (fun s => by kernel_rfl) leftX0
end Mine
open PySem PySem.W PyProof.Rows
set_option maxRecDepth 100000 in
set_option maxHeartbeats 8000000 in
theorem PySem.Challenge.cw_uf020019_02_holds : PySem.Challenge.rw_uf020019_02.Holds := by
  w_on
  refine holds_law (by decide +kernel) fun said => ?_
  refine holds_open (q := Mine.viewOf PySem.Challenge.pw_uf020019_02) (loose := []) (Xt := fun s => xlAt (Mine.viewOf PySem.Challenge.pw_uf020019_02) [] s && recOk (RowW.records (OpenRow.toRowW PySem.Challenge.rw_uf020019_02.row)) s)
    (XP := XL (Mine.viewOf PySem.Challenge.pw_uf020019_02) []) (Yf := Hook.obs (Mine.topHook Mine.TT 40 30 Mine.PP.fns)) (Ya := Hook.val (Mine.topHook Mine.TT 40 30 Mine.PP.fns)) (YP := Hook.says (Mine.topHook Mine.TT 40 30 Mine.PP.fns)) (N := Mine.topN)
    Mine.leftX (Hook.of (Mine.topHook Mine.TT 40 30 Mine.PP.fns)) (Hook.keeps (Mine.topHook Mine.TT 40 30 Mine.PP.fns)) (fun s e => xl_of s (Bool.and_eq_true_iff.mp e).1) XL.keeps (by rfl) (by rfl) (by rfl) (fun s e => recFacts_of (Bool.and_eq_true_iff.mp e).2)
    (by rfl) (by first | assumption | decide +kernel) (by decide +kernel) ⟨rfl, rfl, rfl, rfl, rfl, by decide +kernel⟩ ?hw ?hc
  (case hw => w_witness2)
  intro w s₀ s₁ mg mb G Y fa o pm cd doc dV kV ho hd hcd hD hmg hg args vals as hpre hlay hrd hwl hlo
  obtain ⟨K, h₀, KX, k₀, k0, k1, k2, k3⟩ := Mine.Says.ex Y
  refine Ground.open G ?_
  intro T B D TE TW
  clear hd hcd hD ho TE TW D B Y
  have hmg' : mg (PySem.Str.ofString "law") = some (.ref fa) := hmg
  clear hmg
  wrow_args hpre hlay hrd hwl hlo
  rename_i xs q1 q2 q3 q4 q5 q6 q7 a q8 q9 q10 q11 W q12 q13 q14 hc q15
  obtain ⟨σ, hrun⟩ := Mine.runX (l := xs) (by omega)
  have p : Mine.PrgOk ⟨⟨s₁.heap, [], PySem.Challenge.rw_uf020019_02.row.prog, w⟩, mg, mb, Mine.TT.repl⟩ Mine.TT Mine.PP :=
    Mine.prgOk (n1 := 40) (n2 := 30) (topRead_of T) KX k₀ k0 k1 k2 k3 fun q => q
  refine Mine.law_end p (f := 22) rfl hmg' (by decide) rfl W hrun fun s' hk ho hg' => ?_
  refine GoodW.toG ⟨.inl ⟨_, _, [], rfl, fun cls => rfl, .bool true, ?_, fun _ => ⟨List.nodup_nil, fun a h => by simp at h⟩⟩, hk, ho, hg'.trans hg⟩
  first | rfl | wrow_post

