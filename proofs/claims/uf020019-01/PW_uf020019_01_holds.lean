import PyProof.Rows.All
import Wide.All
import OpenK.AllK
import Wide.FinOn
import PySem.Sem
import PyProof.P3Statements
import PyProof.Cells
import PyProof.WalksMore
import PyProof.Claim2
import PyProof.StrBlock2
import PyProof.StrBlockL
import KE.IntText
import PyProof.SliceMore
import PyProof.Rows.IntOr
import PyProof.Rows.RuleB_pow
import PyProof.Rows.SeqMore
import PyProof.Rows.TupAdd
import PyProof.Rows.EqDataRows
import PyProof.Rows.InDataRows
import PyProof.IsiPairs
import PyProof.IsiNone
import PyProof.IsiHeapPairs
import PyProof.Rows.RuleIs2
import PyProof.Rows.StrRules
import PyProof.Rows.TupSub
import PyProof.Rows.StrTemp
import PyProof.Rows.Lst
import PyProof.ListIndexNeg
import PyProof.Conv_int_bool
import PyProof.Rows.StrMul
import PyProof.SeqI3
import PyProof.StrLawsIn
import PyProof.Rows.SortShell
import PyProof.Rows.SetFrom
import PyProof.Rows.StrInSeq
import PyProof.SetRoads
import PyProof.DictStraight
import PyProof.CallStr
import KE.KIntText
import PyProof.ConsumeWalk
import PyProof.WalkInts
import PyProof.ListCopy
import PyProof.TupleOfSeq
import PyProof.TupleCall
import PyProof.Rows.SortWalk
import PyProof.Rows.ListMade
import PyProof.CompFree
import PyProof.RangeFor
import PyProof.StrWalks
import PyProof.Rows.Exc
import PyProof.DictDisplay
import PyProof.StrBlock
import PyProof.DefCall
import PyProof.Rows.Chain
import PyProof.Rows.StrWeight2
import PyProof.SeqRoads2
import PyProof.AutoSeq1
import PyProof.MeetsSeq
import PyProof.Rows.StrSplitJoin
import PyProof.Rows.SeqSlice
import PyProof.Rows.TupMore
import PyProof.RulesTry
import PySem.Challenge.RW_uf020019_01
set_option autoImplicit false
set_option linter.all false
set_option Elab.async false
namespace Mine
open PySem Classical

/-- abstract values -/
inductive PV where
  | none | bool (b : Bool) | int (i : Int) | str (s : Str)
  | tup (xs : List PV) | fl (xs : List PV) | ref (i : Nat)

/-- abstract objects that may change -/
inductive MO where
  | lst (xs : List PV)
  | exc (c : Nat)

noncomputable abbrev Sto := List MO
noncomputable abbrev Loc := List (Option PV)

inductive Out (α : Type) where
  | ok (a : α) (σ : Sto)
  | exc (i : Nat) (σ : Sto)
  | stuck

noncomputable def Out.bind {α β : Type} : Out α → (α → Sto → Out β) → Out β
  | .ok a σ, f => f a σ
  | .exc i σ, _ => .exc i σ
  | .stuck, _ => .stuck

noncomputable def Out.ofOpt {α : Type} : Option α → Sto → Out α
  | some a, σ => .ok a σ
  | none, _ => .stuck

inductive Op where | add | sub | mul | mod | fdiv | pow
inductive Cm where | eq | ne | lt | le | gt | ge | is | isNot | isin | notin
inductive Ty where | int | str | bool | tuple | list
inductive B1 where | len | list (fz : Bool) | tuple | sum | min | max | sorted | all | any | int | str | lenset
inductive Me where | append | extend | pop | count | index | join | split

/-- expressions; `nil`/`cons` make lists of expressions -/
inductive X where
  | nil | cons (a r : X)
  | k (v : PV)
  | v (i : Nat)
  | and (xs : X) | or (xs : X) | not (a : X) | neg (a : X)
  | bin (o : Op) (a b : X)
  | cmp (a : X) (o : Cm) (b : X)
  | cmp2 (a : X) (o : Cm) (b : X) (o2 : Cm) (c : X)
  | ife (c a b : X)
  | lst (fz : Bool) (xs : X)
  | tup (xs : X)
  | fdget (ks : List Str) (vals : List PV) (key dflt : X)
  | comp (fz : Bool) (t : Nat) (cap : List (Option Nat)) (elt : X) (cond : X) (it : X)
  | range1 (a : X)
  | call (f : Nat) (args : X)
  | b1 (b : B1) (a : X)
  | min2 (a b : X)
  | isinst (a : X) (t : Ty)
  | me (m : Me) (o : X) (args : X)
  | sub (o i : X)
  | slice (o lo hi : X)

/-- a size that the model bears easily -/
noncomputable def lim : Nat := 1000000

/-! values -/
noncomputable def asLst (σ : Sto) : PV → Option (List PV)
  | .fl xs => some xs
  | .ref i => match σ[i]? with
    | some (.lst xs) => some xs
    | _ => none
  | _ => none

/-- what `list`, `tuple` .. take out of a value -/
noncomputable def seqItems (σ : Sto) : PV → Option (List PV)
  | .fl xs => some xs
  | .tup xs => some xs
  | .ref i => match σ[i]? with
    | some (.lst xs) => some xs
    | _ => none
  | _ => none

/-- the signs of a text -/
noncomputable def signsV (s : Str) : List PV := s.cps.toList.map fun n => .str ⟨#[n]⟩
/-- what a `for` takes out of a value -/
noncomputable def items (σ : Sto) : PV → Option (List PV)
  | .str s => some (signsV s)
  | .fl xs => some xs
  | .tup xs => some xs
  | .ref i => match σ[i]? with
    | some (.lst xs) => some xs
    | _ => none
  | _ => none

/-- the value as plain data, all lists read out -/
noncomputable def toD : Nat → Sto → PV → Option PyData
  | 0, _, _ => none
  | n + 1, σ, .tup xs => (xs.mapM (toD n σ)).map .tuple
  | n + 1, σ, .fl xs => (xs.mapM (toD n σ)).map .list
  | n + 1, σ, .ref i => match σ[i]? with
    | some (.lst xs) => (xs.mapM (toD n σ)).map .list
    | _ => none
  | _ + 1, _, .none => some .none
  | _ + 1, _, .bool b => some (.bool b)
  | _ + 1, _, .int i => some (.int i)
  | _ + 1, _, .str s => some (.str s)

noncomputable def eqv (σ : Sto) (a b : PV) : Option Bool :=
  match toD 16 σ a, toD 16 σ b with
  | some x, some y => some (PyData.eqv x y)
  | _, _ => none

noncomputable def memv (σ : Sto) (x : PV) (xs : List PV) : Option Bool :=
  match toD 16 σ x, xs.mapM (toD 16 σ) with
  | some d, some ds => some (ds.any fun y => PyData.eqv y d)
  | _, _ => none

noncomputable def sget (k : Str) : List (Str × PV) → Option PV
  | [] => none
  | (x, v) :: r => if x = k then some v else sget k r
noncomputable def seqIdx (i : Int) (n : Nat) : Option Nat :=
  if 0 ≤ i then (if i.toNat < n then some i.toNat else none)
  else if 0 ≤ i + n then some (i + n).toNat else none

end Mine

namespace Mine
open PySem

/-- what stands at an address stays -/
noncomputable def Stays (_h h' : Heap) (b : Addr) (o : Obj) : Prop := h'.get? b = some o
theorem Stays.trans {h h' h'' : Heap} {b : Addr} {o : Obj} (_e : h.get? b = some o) (x : Stays h h' b o) (y : ∀ o', h'.get? b = some o' → Stays h' h'' b o') : Stays h h'' b o := y o x
theorem Stays.ns {h h' : Heap} {b : Addr} {o : Obj} {m : Str → Option Value} (n : h.Ns b m) (e : h.get? b = some o) (x : Stays h h' b o) : h'.Ns b m := by
  obtain ⟨o', es, ep, e', r⟩ := n
  rw [e] at e'; cases e'
  exact ⟨o, es, ep, x, r⟩

/-- where the objects that may change lie; and lists in the making, that no value shows -/
structure AL where
  ix : List Addr
  hid : List Addr
noncomputable def AL.all (α : AL) : List Addr := α.ix ++ α.hid

/-- values -/
inductive VR (h : Heap) (α : AL) : PV → Value → Prop where
  | none : VR h α .none .none
  | bool (b : Bool) : VR h α (.bool b) (.bool b)
  | int (i : Int) (t : Tok) : VR h α (.int i) (.int i t)
  | str (s : Str) (t : Tok) : PyData.strOk s = true → VR h α (.str s) (.str s t)
  | tup {xs : List PV} {a : Addr} {items : Array Value} {n : Nat} : h.get? a = some { cls := .type "tuple", data := .seq items n } → a ∉ α.all → xs.length = items.size →
      (∀ (i : Nat) (x : PV) (v : Value), xs[i]? = some x → items[i]? = some v → VR h α x v) → VR h α (.tup xs) (.ref a)
  | fl {xs : List PV} {a : Addr} {items : Array Value} {n : Nat} : h.get? a = some { cls := .type "list", data := .seq items n } → a ∉ α.all → xs.length = items.size →
      (∀ (i : Nat) (x : PV) (v : Value), xs[i]? = some x → items[i]? = some v → VR h α x v) → VR h α (.fl xs) (.ref a)
  | ref {i : Nat} {a : Addr} : α.ix[i]? = some a → VR h α (.ref i) (.ref a)

/-- what one piece of a run may do: new changing objects behind the old ones; all else stays, but the frame's own objects F -/
structure Ext (F : List Addr) (α : AL) (h : Heap) (α' : AL) (h' : Heap) : Prop where
  hid : α'.hid = α.hid
  pre : ∃ β, α'.ix = α.ix ++ β ∧ ∀ x ∈ β, h.get? x = none ∧ x ∉ F
  seqs : ∀ b o, b ∉ α.ix → h.get? b = some o → (∃ xs n, o.data = .seq xs n) → h'.get? b = some o
  rest : ∀ b o, b ∉ α.ix → b ∉ F → h.get? b = some o → Stays h h' b o
  alive : ∀ b o, b ∉ F → h.get? b = some o → ∃ o', h'.get? b = some o'

theorem Ext.refl {F α h} : Ext F α h α h :=
  ⟨rfl, ⟨[], by simp, fun _ hx => by simp at hx⟩, fun _ _ _ e _ => e, fun _ _ _ _ e => e, fun _ o _ e => ⟨o, e⟩⟩

theorem Ext.keeps {F α h h'} (k : ∀ b o, h.get? b = some o → h'.get? b = some o) : Ext F α h α h' :=
  ⟨rfl, ⟨[], by simp, fun _ hx => by simp at hx⟩, fun b o _ e _ => k b o e, fun b o _ _ e => k b o e, fun b o _ e => ⟨o, k b o e⟩⟩

theorem Ext.notMem {F α h α' h'} (x : Ext F α h α' h') {b : Addr} {o : Obj} (hb : b ∉ α.ix) (e : h.get? b = some o) : b ∉ α'.ix := by
  obtain ⟨β, q, hf⟩ := x.pre
  rw [q]
  intro hm
  rcases List.mem_append.mp hm with q | q
  · exact hb q
  · rw [(hf b q).1] at e; cases e
theorem AL.not_ix {α : AL} {b : Addr} (h : b ∉ α.all) : b ∉ α.ix := fun q => h (List.mem_append_left _ q)
theorem Ext.notAll {F α h α' h'} (x : Ext F α h α' h') {b : Addr} {o : Obj} (hb : b ∉ α.all) (e : h.get? b = some o) : b ∉ α'.all := by
  intro hm
  rcases List.mem_append.mp hm with q | q
  · exact x.notMem (AL.not_ix hb) e q
  · rw [x.hid] at q; exact hb (List.mem_append_right _ q)

theorem Ext.mono {F F' α h α' h'} (x : Ext F α h α' h') (hF : ∀ b ∈ F, b ∈ F') (al : ∀ b ∈ F', ∃ o, h.get? b = some o) : Ext F' α h α' h' := by
  obtain ⟨β, e, hf⟩ := x.pre
  exact ⟨x.hid, ⟨β, e, fun y hy => ⟨(hf y hy).1, fun q => by obtain ⟨o, ho⟩ := al y q; rw [(hf y hy).1] at ho; cases ho⟩⟩, x.seqs, fun b o hb hbF e => x.rest b o hb (fun q => hbF (hF b q)) e,
    fun b o hb e => x.alive b o (fun q => hb (hF b q)) e⟩

theorem Ext.trans {F α h α' h' α'' h''} (x : Ext F α h α' h') (y : Ext F α' h' α'' h'') : Ext F α h α'' h'' := by
  obtain ⟨β, q1, hf⟩ := x.pre
  obtain ⟨γ, q2, hg⟩ := y.pre
  refine ⟨y.hid.trans x.hid, ⟨β ++ γ, by rw [q2, q1, List.append_assoc], fun a ha => ?_⟩, fun b o hb e hs => ?_, fun b o hb hF e => ?_, fun b o hb e => ?_⟩
  · rcases List.mem_append.mp ha with q | q
    · exact hf a q
    · refine ⟨?_, (hg a q).2⟩
      cases hq : h.get? a with
      | none => rfl
      | some o =>
        obtain ⟨o', ho'⟩ := x.alive a o (hg a q).2 hq
        rw [(hg a q).1] at ho'; cases ho'
  · exact y.seqs b o (x.notMem hb e) (x.seqs b o hb e hs) hs
  · exact (x.rest b o hb hF e).trans e fun o' e' => y.rest b o' (x.notMem hb e) hF e'
  · obtain ⟨o', e'⟩ := x.alive b o hb e
    exact y.alive b o' hb e'

/-- objects that were made meanwhile are nobody else's -/
theorem Ext.drop {F own α h α' h' α'' h''} (x : Ext [] α h α' h') (hown : ∀ b ∈ own, h.get? b = none) (al : ∀ b ∈ F, ∃ o, h.get? b = some o) (y : Ext (own ++ F) α' h' α'' h'') : Ext F α h α'' h'' := by
  obtain ⟨β, q1, hf⟩ := x.pre
  obtain ⟨γ, q2, hg⟩ := y.pre
  have no : ∀ b o, h.get? b = some o → b ∉ own := fun b o e q => by rw [hown b q] at e; cases e
  refine ⟨y.hid.trans x.hid, ⟨β ++ γ, by rw [q2, q1, List.append_assoc], fun a ha => ?_⟩, fun b o hb e hs => ?_, fun b o hb hF e => ?_, fun b o hb e => ?_⟩
  · rcases List.mem_append.mp ha with q | q
    · refine ⟨(hf a q).1, fun qF => ?_⟩
      obtain ⟨o, ho⟩ := al a qF
      rw [(hf a q).1] at ho; cases ho
    · refine ⟨?_, fun qF => (hg a q).2 (List.mem_append_right _ qF)⟩
      cases hq : h.get? a with
      | none => rfl
      | some o =>
        obtain ⟨o', ho'⟩ := x.alive a o (by simp) hq
        rw [(hg a q).1] at ho'; cases ho'
  · exact y.seqs b o (x.notMem hb e) (x.seqs b o hb e hs) hs
  · exact (x.rest b o hb (by simp) e).trans e fun o' e' => y.rest b o' (x.notMem hb e) (fun q => by
      rcases List.mem_append.mp q with q | q
      · exact no b o e q
      · exact hF q) e'
  · obtain ⟨o', e'⟩ := x.alive b o (by simp) e
    exact y.alive b o' (fun q => by
      rcases List.mem_append.mp q with q | q
      · exact no b o e q
      · exact hb q) e'

theorem Ext.get {F α h α' h'} (x : Ext F α h α' h') {i : Nat} {a : Addr} (e : α.ix[i]? = some a) : α'.ix[i]? = some a := by
  obtain ⟨β, q, _⟩ := x.pre
  rw [q, List.getElem?_append_left (List.getElem?_eq_some_iff.mp e).1]; exact e

theorem VR.ext {F α h α' h'} (x : Ext F α h α' h') {p : PV} {v : Value} (r : VR h α p v) : VR h' α' p v := by
  induction r with
  | none => exact .none
  | bool b => exact .bool b
  | int i t => exact .int i t
  | str s t hs => exact .str s t hs
  | tup e hn hl _ ih => exact .tup (x.seqs _ _ (AL.not_ix hn) e ⟨_, _, rfl⟩) (x.notAll hn e) hl ih
  | fl e hn hl _ ih => exact .fl (x.seqs _ _ (AL.not_ix hn) e ⟨_, _, rfl⟩) (x.notAll hn e) hl ih
  | ref e => exact .ref (x.get e)

/-- lists of values -/
noncomputable def VRs (h : Heap) (α : AL) (xs : List PV) (vs : List Value) : Prop :=
  xs.length = vs.length ∧ ∀ (i : Nat) (x : PV) (v : Value), xs[i]? = some x → vs[i]? = some v → VR h α x v
theorem VRs.nil {h α} : VRs h α [] [] := ⟨rfl, fun _ _ _ e => by simp at e⟩
theorem VRs.cons {h α x xs v vs} (a : VR h α x v) (b : VRs h α xs vs) : VRs h α (x :: xs) (v :: vs) := by
  refine ⟨by simp [b.1], fun i y w e1 e2 => ?_⟩
  cases i with
  | zero => simp at e1 e2; subst e1 e2; exact a
  | succ i => simp at e1 e2; exact b.2 i y w e1 e2
theorem VRs.ext {F α h α' h'} (x : Ext F α h α' h') {p : List PV} {v : List Value} (r : VRs h α p v) : VRs h' α' p v :=
  ⟨r.1, fun i a b e1 e2 => (r.2 i a b e1 e2).ext x⟩
theorem VRs.inv_cons {h α x xs vs} (r : VRs h α (x :: xs) vs) : ∃ v vs', vs = v :: vs' ∧ VR h α x v ∧ VRs h α xs vs' := by
  cases vs with
  | nil => simp [VRs] at r
  | cons v vs' => exact ⟨v, vs', rfl, r.2 0 x v (by simp) (by simp), by have := r.1; simp at this; exact this, fun i a b e1 e2 => r.2 (i + 1) a b (by simpa using e1) (by simpa using e2)⟩
theorem VRs.append {h α xs vs ys ws} (a : VRs h α xs vs) (b : VRs h α ys ws) : VRs h α (xs ++ ys) (vs ++ ws) := by
  refine ⟨by simp [a.1, b.1], fun i y w e1 e2 => ?_⟩
  by_cases hi : i < xs.length
  · rw [List.getElem?_append_left hi] at e1
    rw [List.getElem?_append_left (by rw [← a.1]; exact hi)] at e2
    exact a.2 i y w e1 e2
  · rw [List.getElem?_append_right (by omega)] at e1
    rw [List.getElem?_append_right (by rw [← a.1]; omega), ← a.1] at e2
    exact b.2 _ y w e1 e2
theorem VR.tupI {h : Heap} {α : AL} {xs : List PV} {a : Addr} {items : List Value} {n : Nat} (e : h.get? a = some { cls := .type "tuple", data := .seq items.toArray n }) (hn : a ∉ α.all) (r : VRs h α xs items) : VR h α (.tup xs) (.ref a) :=
  .tup e hn (by simpa using r.1) fun i x v e1 e2 => r.2 i x v e1 (by simpa using e2)
theorem VR.flI {h : Heap} {α : AL} {xs : List PV} {a : Addr} {items : List Value} {n : Nat} (e : h.get? a = some { cls := .type "list", data := .seq items.toArray n }) (hn : a ∉ α.all) (r : VRs h α xs items) : VR h α (.fl xs) (.ref a) :=
  .fl e hn (by simpa using r.1) fun i x v e1 e2 => r.2 i x v e1 (by simpa using e2)
theorem VR.tupE {h : Heap} {α : AL} {xs : List PV} {v : Value} (r : VR h α (.tup xs) v) : ∃ a items n, v = .ref a ∧ h.get? a = some { cls := .type "tuple", data := .seq (List.toArray items) n } ∧ a ∉ α.all ∧ VRs h α xs items := by
  cases r with
  | tup e hn hl hr => exact ⟨_, _, _, rfl, by simpa using e, hn, by simpa using hl, fun i x v e1 e2 => hr i x v e1 (by simpa using e2)⟩
theorem VR.flE {h : Heap} {α : AL} {xs : List PV} {v : Value} (r : VR h α (.fl xs) v) : ∃ a items n, v = .ref a ∧ h.get? a = some { cls := .type "list", data := .seq (List.toArray items) n } ∧ a ∉ α.all ∧ VRs h α xs items := by
  cases r with
  | fl e hn hl hr => exact ⟨_, _, _, rfl, by simpa using e, hn, by simpa using hl, fun i x v e1 e2 => hr i x v e1 (by simpa using e2)⟩
end Mine

namespace Mine
open PySem Classical

/-- what the text's own classes and functions are, seen from a body -/
structure Cfg where
  call : Nat → List PV → Sto → Out PV

noncomputable def watchOk (w : Option (Nat × List PV)) (σ : Sto) : Prop :=
  match w with
  | none => True
  | some (i, xs) => σ[i]? = some (.lst xs)

noncomputable def compGo (w : Option (Nat × List PV)) (f : PV → Sto → Out (Option PV)) : List PV → Sto → Out (List PV)
  | [], σ => if watchOk w σ then .ok [] σ else .stuck
  | x :: xs, σ => if watchOk w σ then
      match f x σ with
      | .ok y σ => (compGo w f xs σ).bind fun ys σ => .ok (match y with | some v => v :: ys | none => ys) σ
      | _ => .stuck
    else .stuck

noncomputable def watchOf (σ : Sto) : PV → Option (Nat × List PV)
  | .ref i => match σ[i]? with
    | some (.lst xs) => some (i, xs)
    | _ => none
  | _ => none

noncomputable def mkLst (fz : Bool) (xs : List PV) (σ : Sto) : Out PV :=
  if xs.length ≤ lim then (if fz then .ok (.fl xs) σ else .ok (.ref σ.length) (σ ++ [.lst xs])) else .stuck

noncomputable def intRange (a c : Int) (n : Nat) : List PV := (List.range n).map fun (i : Nat) => .int (a + (i : Int) * c)
noncomputable def mulOk (a b : Int) : Bool := decide (a.natAbs < 2 ^ 60 ∨ b.natAbs < 2 ^ 60)

/-- on two numbers -/
noncomputable def arith (f : Int → Int → Out PV) (a b : PV) : Out PV :=
  match a with
  | .int x => match b with
    | .int y => f x y
    | _ => .stuck
  | _ => .stuck
noncomputable def addv (a b : PV) (σ : Sto) : Out PV :=
  match a with
  | .int x => match b with
    | .int y => .ok (.int (x + y)) σ
    | _ => .stuck
  | .str x => match b with
    | .str y => if x.length + y.length ≤ lim then .ok (.str (x ++ y)) σ else .stuck
    | _ => .stuck
  | .tup x => match b with
    | .tup y => if x.length + y.length ≤ lim then .ok (.tup (x ++ y)) σ else .stuck
    | _ => .stuck
  | a => match asLst σ a with
    | some x => match asLst σ b with
      | some y => if x.length + y.length ≤ lim then .ok (.fl (x ++ y)) σ else .stuck
      | none => .stuck
    | none => .stuck
noncomputable def mulv (a b : PV) (σ : Sto) : Out PV :=
  match b with
  | .int y => match a with
    | .int x => if mulOk x y then .ok (.int (x * y)) σ else .stuck
    | .str x => if x.length ≤ 100 ∧ 0 ≤ y ∧ y ≤ 100 then .ok (.str (Txt.mul x y)) σ else .stuck
    | _ => .stuck
  | _ => .stuck
noncomputable def binop (o : Op) (a b : PV) (σ : Sto) : Out PV :=
  match o with
  | .add => addv a b σ
  | .sub => arith (fun x y => .ok (.int (x - y)) σ) a b
  | .mul => mulv a b σ
  | .mod => arith (fun x y => if y = 0 then .stuck else .ok (.int (x.fmod y)) σ) a b
  | .fdiv => arith (fun x y => if y ≠ 0 ∧ y.natAbs < 1073741824 then .ok (.int (x.fdiv y)) σ else .stuck) a b
  | .pow => arith (fun x n => if 0 ≤ n ∧ n ≤ 100 ∧ x = 10 then .ok (.int (x ^ n.toNat)) σ else .stuck) a b

noncomputable def ordv (f : Int → Int → Bool) (a b : PV) (σ : Sto) : Out Bool :=
  match a with
  | .int x => match b with
    | .int y => .ok (f x y) σ
    | _ => .stuck
  | _ => .stuck
noncomputable def isNoneV : PV → Bool
  | .none => true
  | _ => false
noncomputable def isv (f : Bool → Bool) (a b : PV) (σ : Sto) : Out Bool :=
  match b with
  | .none => .ok (f (isNoneV a)) σ
  | .bool y => match a with
    | .bool x => .ok (f (decide (x = y))) σ
    | _ => .stuck
  | _ => .stuck
noncomputable def isinv (a b : PV) (σ : Sto) : Option Bool :=
  match b with
  | .str y => match a with
    | .str x => match x.cps.toList with
      | [c] => some (y.cps.toList.contains c)
      | _ => none
    | _ => none
  | .tup xs => memv σ a xs
  | b => match asLst σ b with
    | some xs => memv σ a xs
    | none => none
noncomputable def cmpop (o : Cm) (a b : PV) (σ : Sto) : Out Bool :=
  match o with
  | .eq => Out.ofOpt (eqv σ a b) σ
  | .ne => Out.ofOpt ((eqv σ a b).map (!·)) σ
  | .lt => ordv (fun x y => decide (x < y)) a b σ
  | .le => ordv (fun x y => decide (x ≤ y)) a b σ
  | .gt => ordv (fun x y => decide (x > y)) a b σ
  | .ge => ordv (fun x y => decide (x ≥ y)) a b σ
  | .is => isv id a b σ
  | .isNot => isv (!·) a b σ
  | .isin => Out.ofOpt (isinv a b σ) σ
  | .notin => Out.ofOpt ((isinv a b σ).map (!·)) σ

noncomputable def allInts : List PV → Option (List Int)
  | [] => some []
  | .int i :: r => (allInts r).map (i :: ·)
  | _ :: _ => none
noncomputable def allBools : List PV → Option (List Bool)
  | [] => some []
  | .bool b :: r => (allBools r).map (b :: ·)
  | _ :: _ => none
noncomputable def allStrs : List PV → Option (List Str)
  | [] => some []
  | .str s :: r => (allStrs r).map (s :: ·)
  | _ :: _ => none

/-- each once -/
noncomputable def dedupS (l : List Str) : List Str := l.foldl (fun a x => if a.any (· == x) then a else a ++ [x]) []

noncomputable def sortInts (l : List Int) : List Int := l.mergeSort (fun a b => decide (a ≤ b))

noncomputable def sortP (xs : List PV) : Option (List PV) :=
  match allInts xs with
  | some l => if l.length < 64 then some ((sortInts l).map .int) else none
  | none => none

/-- what is done with the items of a list or tuple; with the numbers, truth values, texts of a list -/
noncomputable def onSeq (f : List PV → Out PV) (a : PV) (σ : Sto) : Out PV :=
  match seqItems σ a with
  | some xs => f xs
  | none => .stuck
noncomputable def onAll {α : Type} (g : List PV → Option α) (f : α → Out PV) (a : PV) (σ : Sto) : Out PV :=
  match (asLst σ a).bind g with
  | some l => f l
  | none => .stuck
noncomputable def lenv (a : PV) (σ : Sto) : Out PV :=
  match a with
  | .str s => if s.length ≤ lim then .ok (.int s.length) σ else .stuck
  | a => onSeq (fun xs => if xs.length ≤ lim then .ok (.int xs.length) σ else .stuck) a σ
noncomputable def intv (a : PV) (σ : Sto) : Out PV :=
  match a with
  | .bool b => .ok (.int (if b then 1 else 0)) σ
  | .str s => if s.length ≤ 640 then (match intText? s with
    | some n => .ok (.int n) σ
    | none => .stuck) else .stuck
  | _ => .stuck
noncomputable def strv (a : PV) (σ : Sto) : Out PV :=
  match a with
  | .str s => .ok (.str s) σ
  | .int i => if 0 ≤ i ∧ i < 1000000000 then .ok (.str (Str.ofString (toString i))) σ else .stuck
  | _ => .stuck
noncomputable def b1v (b : B1) (a : PV) (σ : Sto) : Out PV :=
  match b with
  | .len => lenv a σ
  | .list fz => onSeq (fun xs => mkLst fz xs σ) a σ
  | .tuple => onSeq (fun xs => if xs.length ≤ lim then .ok (.tup xs) σ else .stuck) a σ
  | .sum => onAll allInts (fun l => if l.length ≤ 1000 ∧ l.all (fun x => decide (x.natAbs < 2 ^ 40)) then .ok (.int l.sum) σ else .stuck) a σ
  | .min => onAll allInts (fun l => match l with
    | x :: l => .ok (.int (l.foldl min x)) σ
    | [] => .stuck) a σ
  | .max => onAll allInts (fun l => match l with
    | x :: l => .ok (.int (l.foldl max x)) σ
    | [] => .stuck) a σ
  | .sorted => onAll sortP (fun l => .ok (.fl l) σ) a σ
  | .all => onAll allBools (fun l => .ok (.bool (l.all id)) σ) a σ
  | .any => onAll allBools (fun l => .ok (.bool (l.any id)) σ) a σ
  | .int => intv a σ
  | .str => strv a σ
  | .lenset => match (seqItems σ a).bind allStrs with
    | some l => if l.length ≤ 1000 then .ok (.int (dedupS l).length) σ else .stuck
    | none => .stuck

noncomputable def isinstv (a : PV) (t : Ty) (σ : Sto) : Out Bool :=
  match t with
  | .int => match a with
    | .int _ => .ok true σ
    | .bool _ => .ok true σ
    | .none => .ok false σ
    | .str _ => .ok false σ
    | _ => .stuck
  | .bool => match a with
    | .bool _ => .ok true σ
    | .int _ => .ok false σ
    | .none => .ok false σ
    | .str _ => .ok false σ
    | _ => .stuck
  | .str => match a with
    | .str _ => .ok true σ
    | .int _ => .ok false σ
    | .none => .ok false σ
    | .bool _ => .ok false σ
    | .tup _ => .ok false σ
    | _ => .stuck
  | .tuple => match a with
    | .tup _ => .ok true σ
    | .str _ => .ok false σ
    | .int _ => .ok false σ
    | _ => .stuck
  | .list => match a with
    | .tup _ => .ok false σ
    | a => match asLst σ a with
      | some _ => .ok true σ
      | none => .stuck

noncomputable def itemAt (xs : List PV) (i : Int) (σ : Sto) : Out PV := if xs.length ≤ lim then Out.ofOpt ((seqIdx i xs.length).bind (xs[·]?)) σ else .stuck
noncomputable def subv (o i : PV) (σ : Sto) : Out PV :=
  match i with
  | .int i => match o with
    | .str s => if s.cps.size ≤ lim then
        match (seqIdx i s.cps.size).bind (s.cps[·]?) with
        | some c => .ok (.str ⟨#[c]⟩) σ
        | none => .stuck
      else .stuck
    | .tup xs => itemAt xs i σ
    | o => match asLst σ o with
      | some xs => itemAt xs i σ
      | none => .stuck
  | _ => .stuck

noncomputable def optInt : PV → Option (Option Int)
  | .none => some none
  | .int i => some (some i)
  | _ => none
noncomputable def sliceOf {α : Type} (xs : List α) (lo hi : Option Int) : List α :=
  (xs.drop (lo.elim 0 (clipAt xs.length))).take (hi.elim xs.length (clipAt xs.length) - lo.elim 0 (clipAt xs.length))
noncomputable def slicev (o lo hi : PV) (σ : Sto) : Out PV :=
  match o with
  | .tup xs => match lo, hi with
    | .int a, .none => if 1 ≤ a ∧ a.toNat ≤ xs.length ∧ xs.length ≤ lim then .ok (.tup (xs.drop a.toNat)) σ else .stuck
    | _, _ => .stuck
  | o => match asLst σ o, optInt lo, optInt hi with
    | some xs, some lo, some hi => if xs.length ≤ lim then .ok (.fl (sliceOf xs lo hi)) σ else .stuck
    | _, _, _ => .stuck

noncomputable def negv (a : PV) (σ : Sto) : Out PV :=
  match a with
  | .int i => .ok (.int (-i)) σ
  | _ => .stuck

noncomputable def isMut (o : PV) (σ : Sto) : Bool :=
  match o with
  | .ref r => match σ[r]? with
    | some (.lst _) => true
    | _ => false
  | _ => false
noncomputable def isTxt : PV → Bool
  | .str _ => true
  | _ => false
/-- an object that has the method -/
noncomputable def meOk (m : Me) (o : PV) (σ : Sto) : Bool :=
  match m with
  | .append | .extend | .pop => isMut o σ
  | .join | .split => isTxt o
  | .count | .index => (asLst σ o).isSome

/-- where it stands first -/
noncomputable def idxOf (p : Str → Bool) : List Str → Option Nat
  | [] => none
  | x :: r => if p x then some 0 else (idxOf p r).map (· + 1)

noncomputable def appendv (o v : PV) (σ : Sto) : Out PV :=
  match o with
  | .ref r => match σ[r]? with
    | some (.lst xs) => if xs.length < lim then .ok .none (σ.set r (.lst (xs ++ [v]))) else .stuck
    | _ => .stuck
  | _ => .stuck
/-- only texts are hung on from a tuple -/
noncomputable def extendv (o v : PV) (σ : Sto) : Out PV :=
  match o with
  | .ref r => match σ[r]? with
    | some (.lst xs) => match v with
      | .tup ys => if xs.length + ys.length ≤ lim then .ok .none (σ.set r (.lst (xs ++ ys))) else .stuck
      | _ => .stuck
    | _ => .stuck
  | _ => .stuck
noncomputable def popv (o v : PV) (σ : Sto) : Out PV :=
  match o with
  | .ref r => match σ[r]? with
    | some (.lst xs) => match v with
      | .int i => if 0 ≤ i ∧ xs.length ≤ lim then match xs[i.toNat]? with
          | some v => .ok v (σ.set r (.lst (xs.eraseIdx i.toNat)))
          | none => .stuck
        else .stuck
      | _ => .stuck
    | _ => .stuck
  | _ => .stuck
noncomputable def countv (o v : PV) (σ : Sto) : Out PV :=
  match v with
  | .str y => match (asLst σ o).bind allStrs with
    | some ys => .ok (.int (ys.countP (· == y))) σ
    | none => .stuck
  | _ => .stuck
noncomputable def indexv (o v : PV) (σ : Sto) : Out PV :=
  match v with
  | .str y => match (asLst σ o).bind allStrs with
    | some ys => if ys.length ≤ lim then (match idxOf (· == y) ys with
      | some j => .ok (.int j) σ
      | none => .stuck) else .stuck
    | none => .stuck
  | _ => .stuck
noncomputable def joinv (o v : PV) (σ : Sto) : Out PV :=
  match o with
  | .str x => match (asLst σ v).bind allStrs with
    | some ys => if x.length ≤ 16 ∧ (ys.map (·.length)).sum + ys.length ≤ 1000000 then .ok (.str (Txt.join x ys)) σ else .stuck
    | none => .stuck
  | _ => .stuck
noncomputable def splitv (o v : PV) (σ : Sto) : Out PV :=
  match o, v with
  | .str x, .str y => if (y.length == 0) = false ∧ x.length ≤ 100000 then .ok (.fl ((Txt.split x y).map .str)) σ else .stuck
  | _, _ => .stuck
/-- a method of a built-in object -/
noncomputable def mev (m : Me) (o : PV) (args : List PV) (σ : Sto) : Out PV :=
  match args with
  | [v] => match m with
    | .append => appendv o v σ
    | .extend => extendv o v σ
    | .pop => popv o v σ
    | .count => countv o v σ
    | .index => indexv o v σ
    | .join => joinv o v σ
    | .split => splitv o v σ
  | _ => .stuck

noncomputable def min2v (x y : PV) (σ : Sto) : Out PV :=
  match x, y with
  | .int x, .int y => .ok (.int (min x y)) σ
  | _, _ => .stuck

noncomputable def fdgetv (ks : List Str) (vals : List PV) (key dflt : PV) (σ : Sto) : Out PV :=
  match key with
  | .str k => .ok ((sget k (ks.zip vals)).getD dflt) σ
  | _ => .stuck

noncomputable def truthv (v : PV) (σ : Sto) : Out Bool :=
  match v with
  | .bool b => .ok b σ
  | _ => .stuck

noncomputable def itv (v : PV) (σ : Sto) : Out (List PV × Option (Nat × List PV)) :=
  match items σ v with
  | some xs => .ok (xs, watchOf σ v) σ
  | none => .stuck
noncomputable def range1v (a : PV) (σ : Sto) : Out (List PV × Option (Nat × List PV)) :=
  match a with
  | .int n => if 0 ≤ n ∧ n ≤ lim then .ok (intRange 0 1 n.toNat, none) σ else .stuck
  | _ => .stuck

/-- the slots of a comprehension -/
noncomputable def capLoc (cap : List (Option Nat)) (ρ : Loc) : Loc := cap.map fun (o : Option Nat) => match o with | some i => (ρ[i]?).join | none => none
noncomputable def valAt (ρ : Loc) (i : Nat) (σ : Sto) : Out PV :=
  match ρ[i]? with
  | some (some v) => .ok v σ
  | _ => .stuck

/-- what an expression means: its value; as a list of expressions: their values, `and`, `or`; its truth; what a loop takes out of it -/
structure Den where
  ev : Loc → Sto → Out PV
  tst : Loc → Sto → Out Bool
  evs : Loc → Sto → Out (List PV)
  evAnd : Loc → Sto → Out PV
  evOr : Loc → Sto → Out PV
  tstAnd : Loc → Sto → Out Bool
  tstOr : Loc → Sto → Out Bool
  evIt : Loc → Sto → Out (List PV × Option (Nat × List PV))
noncomputable def Den.two (e : Loc → Sto → Out PV) (t : Loc → Sto → Out Bool) : Den :=
  ⟨e, t, fun _ _ => .stuck, fun _ _ => .stuck, fun _ _ => .stuck, fun _ _ => .stuck, fun _ _ => .stuck, fun ρ σ => (e ρ σ).bind itv⟩
noncomputable def Den.val (e : Loc → Sto → Out PV) : Den := Den.two e fun ρ σ => (e ρ σ).bind truthv
noncomputable def Den.nil : Den :=
  ⟨fun _ _ => .stuck, fun _ _ => .stuck, fun _ σ => .ok [] σ, fun _ _ => .stuck, fun _ _ => .stuck, fun _ σ => .ok true σ, fun _ σ => .ok false σ, fun _ _ => .stuck⟩
noncomputable def Den.cons (a : Den) (last : Bool) (r : Den) : Den :=
  ⟨fun _ _ => .stuck, fun _ _ => .stuck, fun ρ σ => (a.ev ρ σ).bind fun v σ => (r.evs ρ σ).bind fun vs σ => .ok (v :: vs) σ,
    fun ρ σ => if last then a.ev ρ σ else (a.ev ρ σ).bind fun v σ => (truthv v σ).bind fun b σ => if b then r.evAnd ρ σ else .ok v σ,
    fun ρ σ => if last then a.ev ρ σ else (a.ev ρ σ).bind fun v σ => (truthv v σ).bind fun b σ => if b then .ok v σ else r.evOr ρ σ,
    fun ρ σ => (a.tst ρ σ).bind fun b σ => if b then r.tstAnd ρ σ else .ok false σ,
    fun ρ σ => (a.tst ρ σ).bind fun b σ => if b then .ok true σ else r.tstOr ρ σ,
    fun _ _ => .stuck⟩
noncomputable def X.isNil : X → Bool
  | .nil => true
  | _ => false

noncomputable def sem (C : Cfg) : X → Den
  | .nil => Den.nil
  | .cons a r => Den.cons (sem C a) r.isNil (sem C r)
  | .k v => .val fun _ σ => .ok v σ
  | .v i => .val fun ρ σ => valAt ρ i σ
  | .and xs => .two (sem C xs).evAnd (sem C xs).tstAnd
  | .or xs => .two (sem C xs).evOr (sem C xs).tstOr
  | .not a => .two (fun ρ σ => ((sem C a).ev ρ σ).bind fun v σ => (truthv v σ).bind fun b σ => .ok (.bool (!b)) σ) (fun ρ σ => ((sem C a).tst ρ σ).bind fun b σ => .ok (!b) σ)
  | .neg a => .val fun ρ σ => ((sem C a).ev ρ σ).bind negv
  | .bin o a b => .val fun ρ σ => ((sem C a).ev ρ σ).bind fun x σ => ((sem C b).ev ρ σ).bind fun y σ => binop o x y σ
  | .cmp a o b => .two (fun ρ σ => ((sem C a).ev ρ σ).bind fun x σ => ((sem C b).ev ρ σ).bind fun y σ => (cmpop o x y σ).bind fun r σ => .ok (.bool r) σ)
      (fun ρ σ => ((sem C a).ev ρ σ).bind fun x σ => ((sem C b).ev ρ σ).bind fun y σ => cmpop o x y σ)
  | .cmp2 a o b o2 c => .two (fun ρ σ => ((sem C a).ev ρ σ).bind fun x σ => ((sem C b).ev ρ σ).bind fun y σ => (cmpop o x y σ).bind fun r σ =>
      if r then ((sem C c).ev ρ σ).bind fun z σ => (cmpop o2 y z σ).bind fun r σ => .ok (.bool r) σ else .ok (.bool false) σ)
      (fun ρ σ => ((sem C a).ev ρ σ).bind fun x σ => ((sem C b).ev ρ σ).bind fun y σ => (cmpop o x y σ).bind fun r σ =>
      if r then ((sem C c).ev ρ σ).bind fun z σ => cmpop o2 y z σ else .ok false σ)
  | .ife c a b => .two (fun ρ σ => ((sem C c).tst ρ σ).bind fun t σ => if t then (sem C a).ev ρ σ else (sem C b).ev ρ σ)
      (fun ρ σ => ((sem C c).tst ρ σ).bind fun t σ => if t then (sem C a).tst ρ σ else (sem C b).tst ρ σ)
  | .lst fz xs => .val fun ρ σ => ((sem C xs).evs ρ σ).bind fun vs σ => mkLst fz vs σ
  | .tup xs => .val fun ρ σ => ((sem C xs).evs ρ σ).bind fun vs σ => if vs.length ≤ lim then .ok (.tup vs) σ else .stuck
  | .fdget ks vals key dflt => .val fun ρ σ => ((sem C key).ev ρ σ).bind fun k σ => ((sem C dflt).ev ρ σ).bind fun d σ => fdgetv ks vals k d σ
  | .comp fz t cap elt cond it => .val fun ρ σ => ((sem C it).evIt ρ σ).bind fun (xs, w) σ =>
      (compGo w (fun x σ =>
        ((sem C cond).tst ((capLoc cap ρ).set t (some x)) σ).bind fun b σ => if b then ((sem C elt).ev ((capLoc cap ρ).set t (some x)) σ).bind fun v σ => .ok (some v) σ else .ok none σ) xs σ).bind fun ys σ => mkLst fz ys σ
  | .range1 a => ⟨fun _ _ => .stuck, fun _ _ => .stuck, fun _ _ => .stuck, fun _ _ => .stuck, fun _ _ => .stuck, fun _ _ => .stuck, fun _ _ => .stuck, fun ρ σ => ((sem C a).ev ρ σ).bind range1v⟩
  | .call f args => .val fun ρ σ => ((sem C args).evs ρ σ).bind fun vs σ => C.call f vs σ
  | .b1 b a => .val fun ρ σ => ((sem C a).ev ρ σ).bind fun v σ => b1v b v σ
  | .min2 a b => .val fun ρ σ => ((sem C a).ev ρ σ).bind fun x σ => ((sem C b).ev ρ σ).bind fun y σ => min2v x y σ
  | .isinst a t => .val fun ρ σ => ((sem C a).ev ρ σ).bind fun v σ => (isinstv v t σ).bind fun b σ => .ok (.bool b) σ
  | .me m o args => .val fun ρ σ => ((sem C o).ev ρ σ).bind fun r σ => if meOk m r σ then ((sem C args).evs ρ σ).bind fun vs σ => mev m r vs σ else .stuck
  | .sub o i => .val fun ρ σ => ((sem C o).ev ρ σ).bind fun x σ => ((sem C i).ev ρ σ).bind fun y σ => subv x y σ
  | .slice o lo hi => .val fun ρ σ => ((sem C o).ev ρ σ).bind fun x σ => ((sem C lo).ev ρ σ).bind fun a σ => ((sem C hi).ev ρ σ).bind fun b σ => slicev x a b σ

noncomputable def ev (C : Cfg) (x : X) (ρ : Loc) (σ : Sto) : Out PV := (sem C x).ev ρ σ
noncomputable def evs (C : Cfg) (x : X) (ρ : Loc) (σ : Sto) : Out (List PV) := (sem C x).evs ρ σ
noncomputable def evAnd (C : Cfg) (x : X) (ρ : Loc) (σ : Sto) : Out PV := (sem C x).evAnd ρ σ
noncomputable def evOr (C : Cfg) (x : X) (ρ : Loc) (σ : Sto) : Out PV := (sem C x).evOr ρ σ
noncomputable def tst (C : Cfg) (x : X) (ρ : Loc) (σ : Sto) : Out Bool := (sem C x).tst ρ σ
noncomputable def tstAnd (C : Cfg) (x : X) (ρ : Loc) (σ : Sto) : Out Bool := (sem C x).tstAnd ρ σ
noncomputable def tstOr (C : Cfg) (x : X) (ρ : Loc) (σ : Sto) : Out Bool := (sem C x).tstOr ρ σ
noncomputable def evIt (C : Cfg) (x : X) (ρ : Loc) (σ : Sto) : Out (List PV × Option (Nat × List PV)) := (sem C x).evIt ρ σ

section
variable {C : Cfg} {ρ : Loc} {σ : Sto}
theorem ev_k {v : PV} : ev C (.k v) ρ σ = .ok v σ := rfl
theorem ev_v {i : Nat} : ev C (.v i) ρ σ = valAt ρ i σ := rfl
theorem ev_and {xs : X} : ev C (.and xs) ρ σ = evAnd C xs ρ σ := rfl
theorem ev_or {xs : X} : ev C (.or xs) ρ σ = evOr C xs ρ σ := rfl
theorem ev_not {a : X} : ev C (.not a) ρ σ = (ev C a ρ σ).bind fun v σ => (truthv v σ).bind fun b σ => .ok (.bool (!b)) σ := rfl
theorem ev_neg {a : X} : ev C (.neg a) ρ σ = (ev C a ρ σ).bind negv := rfl
theorem ev_bin {o : Op} {a b : X} : ev C (.bin o a b) ρ σ = (ev C a ρ σ).bind fun x σ => (ev C b ρ σ).bind fun y σ => binop o x y σ := rfl
theorem ev_cmp {o : Cm} {a b : X} : ev C (.cmp a o b) ρ σ = (ev C a ρ σ).bind fun x σ => (ev C b ρ σ).bind fun y σ => (cmpop o x y σ).bind fun r σ => .ok (.bool r) σ := rfl
theorem ev_cmp2 {o o2 : Cm} {a b c : X} : ev C (.cmp2 a o b o2 c) ρ σ = (ev C a ρ σ).bind fun x σ => (ev C b ρ σ).bind fun y σ => (cmpop o x y σ).bind fun r σ =>
      if r then (ev C c ρ σ).bind fun z σ => (cmpop o2 y z σ).bind fun r σ => .ok (.bool r) σ else .ok (.bool false) σ := rfl
theorem ev_ife {c a b : X} : ev C (.ife c a b) ρ σ = (tst C c ρ σ).bind fun t σ => if t then ev C a ρ σ else ev C b ρ σ := rfl
theorem ev_lst {fz : Bool} {xs : X} : ev C (.lst fz xs) ρ σ = (evs C xs ρ σ).bind fun vs σ => mkLst fz vs σ := rfl
theorem ev_tup {xs : X} : ev C (.tup xs) ρ σ = (evs C xs ρ σ).bind fun vs σ => if vs.length ≤ lim then .ok (.tup vs) σ else .stuck := rfl
theorem ev_fdget {ks : List Str} {vals : List PV} {key dflt : X} : ev C (.fdget ks vals key dflt) ρ σ = (ev C key ρ σ).bind fun k σ => (ev C dflt ρ σ).bind fun d σ => fdgetv ks vals k d σ := rfl
theorem ev_comp {fz : Bool} {t : Nat} {cap : List (Option Nat)} {elt cond it : X} : ev C (.comp fz t cap elt cond it) ρ σ = (evIt C it ρ σ).bind fun (xs, w) σ =>
      (compGo w (fun x σ =>
        (tst C cond ((capLoc cap ρ).set t (some x)) σ).bind fun b σ => if b then (ev C elt ((capLoc cap ρ).set t (some x)) σ).bind fun v σ => .ok (some v) σ else .ok none σ) xs σ).bind fun ys σ => mkLst fz ys σ := rfl
theorem ev_call {f : Nat} {args : X} : ev C (.call f args) ρ σ = (evs C args ρ σ).bind fun vs σ => C.call f vs σ := rfl
theorem ev_b1 {b : B1} {a : X} : ev C (.b1 b a) ρ σ = (ev C a ρ σ).bind fun v σ => b1v b v σ := rfl
theorem ev_min2 {a b : X} : ev C (.min2 a b) ρ σ = (ev C a ρ σ).bind fun x σ => (ev C b ρ σ).bind fun y σ => min2v x y σ := rfl
theorem ev_isinst {a : X} {t : Ty} : ev C (.isinst a t) ρ σ = (ev C a ρ σ).bind fun v σ => (isinstv v t σ).bind fun b σ => .ok (.bool b) σ := rfl
theorem ev_me {m : Me} {o args : X} : ev C (.me m o args) ρ σ = (ev C o ρ σ).bind fun r σ => if meOk m r σ then (evs C args ρ σ).bind fun vs σ => mev m r vs σ else .stuck := rfl
theorem ev_sub {o i : X} : ev C (.sub o i) ρ σ = (ev C o ρ σ).bind fun x σ => (ev C i ρ σ).bind fun y σ => subv x y σ := rfl
theorem ev_slice {o lo hi : X} : ev C (.slice o lo hi) ρ σ = (ev C o ρ σ).bind fun x σ => (ev C lo ρ σ).bind fun a σ => (ev C hi ρ σ).bind fun b σ => slicev x a b σ := rfl
theorem evs_nil : evs C .nil ρ σ = .ok [] σ := rfl
theorem evs_cons {a r : X} : evs C (.cons a r) ρ σ = (ev C a ρ σ).bind fun v σ => (evs C r ρ σ).bind fun vs σ => .ok (v :: vs) σ := rfl
theorem evAnd_nil : evAnd C .nil ρ σ = .stuck := rfl
theorem evAnd_one {a : X} : evAnd C (.cons a .nil) ρ σ = ev C a ρ σ := rfl
theorem evAnd_cons {a b r : X} : evAnd C (.cons a (.cons b r)) ρ σ = (ev C a ρ σ).bind fun v σ => (truthv v σ).bind fun t σ => if t then evAnd C (.cons b r) ρ σ else .ok v σ := rfl
theorem evOr_nil : evOr C .nil ρ σ = .stuck := rfl
theorem evOr_one {a : X} : evOr C (.cons a .nil) ρ σ = ev C a ρ σ := rfl
theorem evOr_cons {a b r : X} : evOr C (.cons a (.cons b r)) ρ σ = (ev C a ρ σ).bind fun v σ => (truthv v σ).bind fun t σ => if t then .ok v σ else evOr C (.cons b r) ρ σ := rfl
theorem tst_and {xs : X} : tst C (.and xs) ρ σ = tstAnd C xs ρ σ := rfl
theorem tst_or {xs : X} : tst C (.or xs) ρ σ = tstOr C xs ρ σ := rfl
theorem tst_not {a : X} : tst C (.not a) ρ σ = (tst C a ρ σ).bind fun b σ => .ok (!b) σ := rfl
theorem tst_cmp {o : Cm} {a b : X} : tst C (.cmp a o b) ρ σ = (ev C a ρ σ).bind fun x σ => (ev C b ρ σ).bind fun y σ => cmpop o x y σ := rfl
theorem tst_cmp2 {o o2 : Cm} {a b c : X} : tst C (.cmp2 a o b o2 c) ρ σ = (ev C a ρ σ).bind fun x σ => (ev C b ρ σ).bind fun y σ => (cmpop o x y σ).bind fun r σ =>
      if r then (ev C c ρ σ).bind fun z σ => cmpop o2 y z σ else .ok false σ := rfl
theorem tst_ife {c a b : X} : tst C (.ife c a b) ρ σ = (tst C c ρ σ).bind fun t σ => if t then tst C a ρ σ else tst C b ρ σ := rfl
theorem tst_call {f : Nat} {args : X} : tst C (.call f args) ρ σ = (ev C (.call f args) ρ σ).bind truthv := rfl
theorem tst_b1 {b : B1} {a : X} : tst C (.b1 b a) ρ σ = (ev C (.b1 b a) ρ σ).bind truthv := rfl
theorem tst_isinst {a : X} {t : Ty} : tst C (.isinst a t) ρ σ = (ev C (.isinst a t) ρ σ).bind truthv := rfl
theorem tst_v {i : Nat} : tst C (.v i) ρ σ = (ev C (.v i) ρ σ).bind truthv := rfl
theorem tst_k {v : PV} : tst C (.k v) ρ σ = truthv v σ := rfl
theorem tstAnd_nil : tstAnd C .nil ρ σ = .ok true σ := rfl
theorem tstAnd_cons {a r : X} : tstAnd C (.cons a r) ρ σ = (tst C a ρ σ).bind fun b σ => if b then tstAnd C r ρ σ else .ok false σ := rfl
theorem tstOr_nil : tstOr C .nil ρ σ = .ok false σ := rfl
theorem tstOr_cons {a r : X} : tstOr C (.cons a r) ρ σ = (tst C a ρ σ).bind fun b σ => if b then .ok true σ else tstOr C r ρ σ := rfl
theorem evIt_range1 {a : X} : evIt C (.range1 a) ρ σ = (ev C a ρ σ).bind range1v := rfl
end

/-! statements -/
inductive S where
  | nil | cons (a r : S)
  | asg (i : Nat) (x : X)
  | asgSub (o i x : X)
  | expr (x : X)
  | ret (x : X) | ret0
  | ife (c : X) (a b : S)
  | for1 (i : Nat) (it : X) (body : S)
  | whl (c : X) (body : S)
  | brk | cont | pass
  | raise
  | tryE (body : S)

inductive OutS where
  | next (ρ : Loc) (σ : Sto)
  | brk (ρ : Loc) (σ : Sto)
  | cont (ρ : Loc) (σ : Sto)
  | ret (v : PV) (ρ : Loc) (σ : Sto)
  | exc (i : Nat) (ρ : Loc) (σ : Sto)
  | stuck

noncomputable def Out.toS {α : Type} (o : Out α) (ρ : Loc) (f : α → Sto → OutS) : OutS :=
  match o with
  | .ok a σ => f a σ
  | .exc i σ => .exc i ρ σ
  | .stuck => .stuck

noncomputable def forGo (w : Option (Nat × List PV)) (bind : PV → Loc → Option Loc) (f : Loc → Sto → OutS) : List PV → Loc → Sto → OutS
  | [], ρ, σ => if watchOk w σ then .next ρ σ else .stuck
  | x :: xs, ρ, σ => if watchOk w σ then
      match bind x ρ with
      | none => .stuck
      | some ρ => match f ρ σ with
        | .next ρ σ => forGo w bind f xs ρ σ
        | .cont ρ σ => forGo w bind f xs ρ σ
        | .brk ρ σ => .next ρ σ
        | .ret v ρ σ => .ret v ρ σ
        | _ => .stuck
    else .stuck

noncomputable def whileGo (c : Loc → Sto → Out Bool) (f : Loc → Sto → OutS) : Nat → Loc → Sto → OutS
  | 0, _, _ => .stuck
  | n + 1, ρ, σ => match c ρ σ with
    | .ok true σ => match f ρ σ with
      | .next ρ σ => whileGo c f n ρ σ
      | .cont ρ σ => whileGo c f n ρ σ
      | .brk ρ σ => .next ρ σ
      | .ret v ρ σ => .ret v ρ σ
      | _ => .stuck
    | .ok false σ => .next ρ σ
    | _ => .stuck

noncomputable def storeSub (o i v : PV) (ρ : Loc) (σ : Sto) : OutS :=
  match o with
  | .ref r => match σ[r]?, i with
    | some (.lst xs), .int i => if 0 ≤ i ∧ i.toNat < xs.length ∧ xs.length ≤ lim then .next ρ (σ.set r (.lst (xs.set i.toNat v))) else .stuck
    | _, _ => .stuck
  | _ => .stuck

noncomputable def bind1 (i : Nat) (v : PV) (ρ : Loc) : Option Loc := some (ρ.set i (some v))

noncomputable def ex (C : Cfg) (N : Nat) : S → Loc → Sto → OutS
  | .nil, ρ, σ => .next ρ σ
  | .cons a r, ρ, σ => match ex C N a ρ σ with
    | .next ρ σ => ex C N r ρ σ
    | o => o
  | .asg i x, ρ, σ => (ev C x ρ σ).toS ρ fun v σ => .next (ρ.set i (some v)) σ
  | .asgSub o i x, ρ, σ => (ev C x ρ σ).toS ρ fun v σ => (ev C o ρ σ).toS ρ fun o σ => (ev C i ρ σ).toS ρ fun i σ => storeSub o i v ρ σ
  | .expr x, ρ, σ => (ev C x ρ σ).toS ρ fun v σ => match v with
    | .none => .next ρ σ
    | _ => .stuck
  | .ret x, ρ, σ => (ev C x ρ σ).toS ρ fun v σ => .ret v ρ σ
  | .ret0, ρ, σ => .ret .none ρ σ
  | .ife c a b, ρ, σ => (tst C c ρ σ).toS ρ fun t σ => if t then ex C N a ρ σ else ex C N b ρ σ
  | .for1 i it body, ρ, σ => (evIt C it ρ σ).toS ρ fun (xs, w) σ => forGo w (bind1 i) (fun ρ σ => ex C N body ρ σ) xs ρ σ
  | .whl c body, ρ, σ => whileGo (fun ρ σ => tst C c ρ σ) (fun ρ σ => ex C N body ρ σ) N ρ σ
  | .brk, ρ, σ => .brk ρ σ
  | .cont, ρ, σ => .cont ρ σ
  | .pass, ρ, σ => .next ρ σ
  | .raise, _, _ => .stuck
  | .tryE body, ρ, σ => match ex C N body ρ σ with
    | .exc _ _ _ => .stuck
    | o => o

/-- the text's functions -/
structure Fn where
  params : Nat
  slots : Nat
  body : S

structure Prg where
  fns : List Fn

noncomputable def callN (P : Prg) (N : Nat) : Nat → Nat → List PV → Sto → Out PV
  | 0, _, _, _ => .stuck
  | d + 1, f, vs, σ => match P.fns[f]? with
    | some fn => if vs.length = fn.params then
        match ex ⟨callN P N d⟩ N fn.body (vs.map some ++ List.replicate (fn.slots - fn.params) none) σ with
        | .next _ σ => .ok .none σ
        | .ret v _ σ => .ok v σ
        | .exc i _ σ => .exc i σ
        | _ => .stuck
      else .stuck
    | none => .stuck
end Mine

namespace Mine
open PySem

noncomputable def relab (N names : List (Str × NameKind)) : List (Str × NameKind) := names.map fun (n, k) => if (k == .free && N.lookup n == some .cell) then (n, .cell) else (n, k)
noncomputable def capOf (N N' : List (Str × NameKind)) : List (Option Nat) := N'.map fun (n, k) => if k == .cell then N.findIdx? (·.1 == n) else none
/-- what the text's names mean -/
structure Tab where
  fns : List Str
  cst : List (Str × PV)
  bins : List Str
  muts : List (Nat × Nat)

noncomputable def trConst : Const → Option PV
  | .none => some .none
  | .bool b => some (.bool b)
  | .int i => some (.int i)
  | .str s => if PyData.strOk s then some (.str s) else none
  | _ => none
noncomputable def trOp : Operator → Option Op
  | .Add => some .add | .Sub => some .sub | .Mult => some .mul | .Mod => some .mod | .FloorDiv => some .fdiv | .Pow => some .pow
  | _ => none
noncomputable def trCm : CmpOp → Option Cm
  | .Eq => some .eq | .NotEq => some .ne | .Lt => some .lt | .LtE => some .le | .Gt => some .gt | .GtE => some .ge
  | .Is => some .is | .IsNot => some .isNot | .In => some .isin | .NotIn => some .notin
noncomputable def b1Name (fz : Bool) (x : Str) : Option B1 :=
  if x == "len" then some .len else if x == "list" then some (.list fz) else if x == "tuple" then some .tuple else if x == "sum" then some .sum
  else if x == "min" then some .min else if x == "max" then some .max else if x == "sorted" then some .sorted else if x == "all" then some .all
  else if x == "any" then some .any else if x == "int" then some .int else if x == "str" then some .str else none
noncomputable def meName (x : Str) : Option Me :=
  if x == "append" then some .append else if x == "extend" then some .extend else if x == "pop" then some .pop else if x == "count" then some .count
  else if x == "index" then some .index else if x == "join" then some .join else if x == "split" then some .split else none
noncomputable def tyName (x : Str) : Option Ty :=
  if x == "int" then some .int else if x == "str" then some .str else if x == "bool" then some .bool else if x == "tuple" then some .tuple else if x == "list" then some .list else none
/-- the builtins' values -/
noncomputable def biVal (x : Str) : Option Value :=
  if x == "len" then some (.builtin "len") else if x == "list" then some (.type "list") else if x == "tuple" then some (.type "tuple") else if x == "sum" then some (.builtin "sum")
  else if x == "min" then some (.builtin "min") else if x == "max" then some (.builtin "max") else if x == "sorted" then some (.builtin "sorted") else if x == "all" then some (.builtin "all")
  else if x == "any" then some (.builtin "any") else if x == "int" then some (.type "int") else if x == "str" then some (.type "str") else if x == "bool" then some (.type "bool")
  else if x == "isinstance" then some (.builtin "isinstance") else if x == "range" then some (.type "range") else if x == "set" then some (.type "set") else none

noncomputable def scOkB : List (Str × NameKind) → Bool
  | [] => true
  | (x, k) :: r => !(r.any fun p => p.1 == x) && !(x == ("__debug__" : Str)) && (k == .local || k == .cell || k == .globalImplicit) && scOkB r
noncomputable def isIt : X → Bool
  | .range1 _ => true
  | _ => false

noncomputable def trL (f : Expr → Option X) : List Expr → Option X
  | [] => some .nil
  | e :: r => match f e, trL f r with
    | some a, some b => some (.cons a b)
    | _, _ => none
noncomputable def trName (T : Tab) (N : List (Str × NameKind)) (x : Str) : Option X :=
  match N.findIdx? (·.1 == x) with
  | some i => match N[i]? with
    | some (_, .local) => some (.v i)
    | some (_, .cell) => some (.v i)
    | some (_, .globalImplicit) => (T.cst.lookup x).map .k
    | _ => none
  | none => none
noncomputable def isG (N : List (Str × NameKind)) (x : Str) : Bool := N.lookup x == some .globalImplicit
noncomputable def isB (T : Tab) (N : List (Str × NameKind)) (x : Str) : Bool := isG N x && T.bins.contains x
noncomputable def dictKeys : List (Option Expr) → Option (List Str)
  | [] => some []
  | some (.Constant (.str s) _ _) :: r => if PyData.strOk s then (dictKeys r).map (s :: ·) else none
  | _ => none

noncomputable def dictVals : Nat → List Expr → Option (List PV)
  | 0, [] => some []
  | n + 1, .Constant c _ _ :: r => match trConst c, dictVals n r with
    | some v, some vs => some (v :: vs)
    | _, _ => none
  | _, _ => none

/-- `len(set(x))` -/
noncomputable def lenSet (T : Tab) (N : List (Str × NameKind)) (g : Str) (a : Expr) : Option Expr :=
  match a with
  | .Call (.Name h _) [x] [] _ => if g == "len" && h == "set" && isB T N h then some x else none
  | _ => none
noncomputable def trCall (T : Tab) (N : List (Str × NameKind)) (f : Expr → Option X) (pos : Pos) (g : Str) (args : List Expr) : Option X :=
  if isG N g then
    match T.fns.findIdx? (· == g) with
    | some i => match args with
      | [] => none
      | _ => (trL f args).map (.call i)
    | none =>
      if T.bins.contains g then
        match args with
        | [a] => match lenSet T N g a with
          | some x => (f x).map (.b1 .lenset)
          | none => match b1Name (!(T.muts.contains (pos.line, pos.col))) g, f a with
            | some b, some x => some (.b1 b x)
            | _, _ => none
        | [a, .Name t tp] => if g == "isinstance" && isB T N t then
            match f a, tyName t with
            | some x, some ty => some (.isinst x ty)
            | _, _ => none
          else if g == "min" then match f a, f (.Name t tp) with
            | some x, some y => some (.min2 x y)
            | _, _ => none
          else none
        | [a, b] => if g == "min" then match f a, f b with
            | some x, some y => some (.min2 x y)
            | _, _ => none
          else none
        | _ => none
      else none
  else none

noncomputable def trIt (T : Tab) (N : List (Str × NameKind)) (f : Expr → Option X) (e : Expr) : Option X :=
  match e with
  | .Call (.Name g _) [a] [] _ => if g == "range" && isB T N g then (f a).map .range1 else
      match f e with
      | some x => if isIt x then none else some x
      | none => none
  | e => match f e with
    | some x => if isIt x then none else some x
    | none => none

noncomputable def trIf (f : Expr → Option X) : List Expr → Option X
  | [] => some (.k (.bool true))
  | [c] => f c
  | _ => none
noncomputable def trComp (T : Tab) (N : List (Str × NameKind)) (f : List (Str × NameKind) → Expr → Option X) (elt : Expr) (x : Str) (iter : Expr) (ifs : List Expr) (scope : Scope) (pos : Pos) : Option X :=
  let N' := relab N scope.names
  if scope.kind == .function && scOkB N' && scope.names.all (fun p => p.2 != .cell) then
    match N'.findIdx? (·.1 == x), trIt T N (f N) iter, f N' elt, trIf (f N') ifs with
    | some t, some it, some elt, some c => if N'[t]? == some (x, NameKind.local) then some (.comp (!(T.muts.contains (pos.line, pos.col))) t (capOf N N') elt c it) else none
    | _, _, _, _ => none
  else none

noncomputable def trOpt (f : Expr → Option X) : Option Expr → Option X
  | none => some (.k .none)
  | some e => f e
/-- not a call without arguments -/
noncomputable def notCall0 : Expr → Bool
  | .Call _ [] _ _ => false
  | _ => true

noncomputable def trCmp (f : Expr → Option X) (l : Expr) (os : List CmpOp) (rs : List Expr) : Option X :=
  match os with
  | [] => none
  | o :: os => match rs with
    | [] => none
    | r :: rs => match trCm o, f l, f r with
      | some o, some a, some b => match os with
        | [] => match rs with
          | [] => some (.cmp a o b)
          | _ :: _ => none
        | o2 :: os => match rs with
          | [] => none
          | r2 :: rs => if os.isEmpty && rs.isEmpty then
              match trCm o2, f r2 with
              | some o2, some c => some (.cmp2 a o b o2 c)
              | _, _ => none
            else none
      | _, _, _ => none
noncomputable def isDict : Expr → Option (List (Option Expr) × List Expr × Pos)
  | .Dict ks vs p => some (ks, vs, p)
  | _ => none
noncomputable def trGet (f : Expr → Option X) (ks : List (Option Expr)) (vs : List Expr) (m : Str) (args : List Expr) : Option X :=
  match args with
  | [] => none
  | k :: r => match r with
    | [] => none
    | d :: r => if r.isEmpty && m == "get" then
        match dictKeys ks, dictVals ks.length vs, f k, f d with
        | some ks, some vs, some k, some d => if decide ks.Nodup && decide (ks.length ≤ 15) && !ks.isEmpty then some (.fdget ks vs k d) else none
        | _, _, _, _ => none
      else none
noncomputable def trMeth (f : Expr → Option X) (o : Expr) (m : Str) (args : List Expr) : Option X :=
  match isDict o with
  | some (ks, vs, _) => trGet f ks vs m args
  | none => match args with
    | [] => none
    | a :: r => if r.isEmpty && notCall0 o then
        match meName m, f o, f a with
        | some m, some o, some a => some (.me m o (.cons a .nil))
        | _, _, _ => none
      else none
noncomputable def trCallE (T : Tab) (N : List (Str × NameKind)) (f : Expr → Option X) (fn : Expr) (args : List Expr) (pos : Pos) : Option X :=
  match fn with
  | .Name g _ => trCall T N f pos g args
  | .Attribute o m apos => if apos.endLine == pos.line then trMeth f o m args else none
  | _ => none
noncomputable def trSubs (f : Expr → Option X) (o i : Expr) : Option X :=
  match i with
  | .Slice lo hi st _ => if st.isNone then
      match f o, trOpt f lo, trOpt f hi with
      | some o, some lo, some hi => some (.slice o lo hi)
      | _, _, _ => none
    else none
  | i => match f o, f i with
    | some o, some i => some (.sub o i)
    | _, _ => none
noncomputable def isName : Expr → Option (Str × Pos)
  | .Name x p => some (x, p)
  | _ => none
noncomputable def trCompE (T : Tab) (N : List (Str × NameKind)) (f : List (Str × NameKind) → Expr → Option X) (elt : Expr) (gens : List Comprehension) (scope : Scope) (pos : Pos) : Option X :=
  match gens with
  | [] => none
  | g :: r => if r.isEmpty && g.is_async == 0 then
      match isName g.target with
      | some (x, _) => trComp T N f elt x g.iter g.ifs scope pos
      | none => none
    else none
noncomputable def trStep (T : Tab) (f : List (Str × NameKind) → Expr → Option X) (N : List (Str × NameKind)) (e : Expr) : Option X :=
    match e with
    | .Constant c _ _ => (trConst c).map .k
    | .Name x _ => trName T N x
    | .BoolOp o es _ => match o with
      | .And => (trL (f N) es).map .and
      | .Or => (trL (f N) es).map .or
    | .UnaryOp o a _ => match o with
      | .Not => (f N a).map .not
      | .USub => (f N a).map .neg
      | _ => none
    | .BinOp l o r _ => match trOp o, f N l, f N r with
      | some o, some a, some b => some (.bin o a b)
      | _, _, _ => none
    | .Compare l os rs _ => trCmp (f N) l os rs
    | .IfExp c a b _ => match f N c, f N a, f N b with
      | some c, some a, some b => some (.ife c a b)
      | _, _, _ => none
    | .List es pos => (trL (f N) es).map (.lst (!(T.muts.contains (pos.line, pos.col))))
    | .Tuple es _ _ => (trL (f N) es).map .tup
    | .Call fn args kws pos => if kws.isEmpty then trCallE T N (f N) fn args pos else none
    | .Subscript o i _ => trSubs (f N) o i
    | .ListComp elt gens scope pos => trCompE T N f elt gens scope pos
    | _ => none
noncomputable def trE (T : Tab) : Nat → List (Str × NameKind) → Expr → Option X
  | 0, _, _ => none
  | n + 1, N, e => trStep T (trE T n) N e
noncomputable def isComp : Expr → Bool
  | .ListComp .. | .SetComp .. | .DictComp .. => true
  | _ => false
noncomputable def slotOf (N : List (Str × NameKind)) (x : Str) : Option Nat :=
  match N.findIdx? (·.1 == x) with
  | some i => match N[i]? with
    | some (_, .local) => some i
    | some (_, .cell) => some i
    | _ => none
  | none => none
noncomputable def trSs (g : Stmt → Option S) : List Stmt → Option S
  | [] => some .nil
  | st :: r => match g st, trSs g r with
    | some a, some b => some (.cons a b)
    | _, _ => none

noncomputable def asComp : Expr → Option (Expr × List Comprehension × Scope × Pos)
  | .ListComp elt gens scope pos => some (elt, gens, scope, pos)
  | _ => none
noncomputable def trAsg (T : Tab) (N : List (Str × NameKind)) (f₀ : List (Str × NameKind) → Expr → Option X) (f : Expr → Option X) (t v : Expr) : Option S :=
  match t with
  | .Name z _ => match asComp v with
    | some (elt, gens, scope, pos) => match slotOf N z, trCompE T N f₀ elt gens scope pos with
      | some i, some y => some (.asg i y)
      | _, _ => none
    | none => if isComp v then none else match slotOf N z, f v with
      | some i, some y => some (.asg i y)
      | _, _ => none
  | .Subscript o i _ => if isComp v then none else match f o, f i, f v with
    | some o, some i, some v => some (.asgSub o i v)
    | _, _, _ => none
  | _ => none
noncomputable def trSStep (T : Tab) (N : List (Str × NameKind)) (f₀ : List (Str × NameKind) → Expr → Option X) (f : Expr → Option X) (g : Stmt → Option S) (st : Stmt) : Option S :=
  match st with
  | .Assign ts v _ => match ts with
    | [] => none
    | t :: r => if r.isEmpty then trAsg T N f₀ f t v else none
  | .Expr e _ => if isComp e then none else (f e).map .expr
  | .Return v _ => match v with
    | some e => (f e).map .ret
    | none => some .ret0
  | .If t b o _ => match f t, trSs g b, trSs g o with
    | some t, some b, some o => some (.ife t b o)
    | _, _, _ => none
  | .For t it b o _ => if o.isEmpty then
      match isName t with
      | some (x, _) => match slotOf N x, trIt T N f it, trSs g b with
        | some i, some it, some b => some (.for1 i it b)
        | _, _, _ => none
      | none => none
    else none
  | .Break _ => some .brk
  | .Continue _ => some .cont
  | .Pass _ => some .pass
  | .Raise _ _ _ => some .raise
  | .Try b hs o fi _ => if !hs.isEmpty && o.isEmpty && fi.isEmpty then (trSs g b).map .tryE else none
  | _ => none
noncomputable def trS (T : Tab) (N : List (Str × NameKind)) (f : List (Str × NameKind) → Expr → Option X) : Nat → Stmt → Option S
  | 0, _ => none
  | n + 1, st => trSStep T N f (f N) (trS T N f n) st

end Mine

namespace Mine
open PySem

/-- where a run stands: the program, its world, the heap that stood before the law was called -/
structure Kt where
  prog : Program
  w : World
  hb : Heap
  mg : Str → Option Value
  mb : Str → Option Value

/-- facts of the heap that stood before -/
structure Kt.Ok (K : Kt) : Prop where
  g : K.hb.Ns mainGlobals K.mg
  b : K.hb.Ns builtinsNs K.mb
  nolimit : K.hb.NoLimit

/-- objects -/
noncomputable def OR (h : Heap) (α : AL) : MO → Addr → Prop
  | .lst xs, a => ∃ items n, h.get? a = some { cls := .type "list", data := .seq (List.toArray items) n } ∧ VRs h α xs items
  | _, _ => False

structure R (hb : Heap) (h : Heap) (σ : Sto) (α : AL) : Prop where
  base : ∀ b o, hb.get? b = some o → h.get? b = some o
  fresh : ∀ a ∈ α.ix, hb.get? a = none
  nodup : α.ix.Nodup
  len : σ.length = α.ix.length
  hidden : ∀ a ∈ α.hid, a ∉ α.ix ∧ ∃ o, h.get? a = some o
  obj : ∀ (i : Nat) (m : MO) (a : Addr), σ[i]? = some m → α.ix[i]? = some a → OR h α m a
  hfr : ∀ a ∈ α.hid, hb.get? a = none

structure Sm (s s' : Shared) : Prop where
  gens : s'.gens = s.gens
  os : s'.os = s.os
theorem Sm.refl (s : Shared) : Sm s s := ⟨rfl, rfl⟩
theorem Sm.trans {a b c : Shared} (x : Sm a b) (y : Sm b c) : Sm a c := ⟨y.gens.trans x.gens, y.os.trans x.os⟩

/-- an exception in flight (not told yet) -/
noncomputable def FX (_K : Kt) (_A : Around) (_s : Shared) (_α : AL) (_i : Nat) (_σ : Sto) (_e : Value) (_s' : Shared) : Prop := False

section
variable (K : Kt) {β γ : Type} (Rel : Heap → AL → β → γ → Prop)
noncomputable def Post (c : Out β) (s : Shared) (α : AL) (y : γ) (s' : Shared) : Prop :=
  ∃ b σ' α', c = .ok b σ' ∧ Ext [] α s.heap α' s'.heap ∧ R K.hb s'.heap σ' α' ∧ Rel s'.heap α' b y ∧ Sm s s'
noncomputable def PostX (A : Around) (c : Out β) (s : Shared) (α : AL) (e : Value) (s' : Shared) : Prop :=
  ∃ i σ', c = .exc i σ' ∧ FX K A s α i σ' e s'
/-- a tree runs as the outcome says -/
noncomputable def Runs (A : Around) (t : Sem γ) (c : Out β) (s : Shared) (α : AL) : Prop :=
  c ≠ .stuck → wpAny (model K.prog K.w) A t (Post K Rel c s α) (PostX K A c s α) s
end

noncomputable def RelEq {β : Type} (_h : Heap) (_α : AL) (b y : β) : Prop := y = b

theorem FX.lift {K : Kt} {A : Around} {s s₁ : Shared} {α α₁ : AL} {i : Nat} {σ : Sto} {e : Value} {s' : Shared} (_x : Ext [] α s.heap α₁ s₁.heap) (_m : Sm s s₁) (f : FX K A s₁ α₁ i σ e s') : FX K A s α i σ e s' := f

section
variable {K : Kt} {A : Around} {β γ β' γ' : Type} {Rel : Heap → AL → β → γ → Prop} {Rel' : Heap → AL → β' → γ' → Prop} {s : Shared} {α : AL}

theorem Runs.bind {t : Sem γ} {k : γ → Sem γ'} {c : Out β} {f : β → Sto → Out β'} (H : Runs K Rel A t c s α)
    (N : ∀ b σ' α' y s', c = .ok b σ' → Ext [] α s.heap α' s'.heap → R K.hb s'.heap σ' α' → Rel s'.heap α' b y → Sm s s' → Runs K Rel' A (k y) (f b σ') s' α') :
    Runs K Rel' A (t >>= k) (c.bind f) s α := by
  intro hc
  have h1 : c ≠ .stuck := by rintro rfl; exact hc rfl
  refine wpAny_bind (wpAny_mono (H h1) (fun y s' hp => ?_) fun e s' hx => ?_)
  · obtain ⟨b, σ', α', rfl, x, r, v, m⟩ := hp
    refine wpAny_mono (N b σ' α' y s' rfl x r v m hc) (fun y' s'' hp' => ?_) fun e s'' hx => ?_
    · obtain ⟨b', σ'', α'', e', x', r', v', m'⟩ := hp'
      exact ⟨b', σ'', α'', e', x.trans x', r', v', m.trans m'⟩
    · obtain ⟨i, σ'', e', fx⟩ := hx
      exact ⟨i, σ'', e', fx.lift x m⟩
  · obtain ⟨i, σ', rfl, fx⟩ := hx
    exact ⟨i, σ', rfl, fx⟩

theorem Runs.pure {y : γ} {b : β} {σ : Sto} (r : R K.hb s.heap σ α) (v : Rel s.heap α b y) : Runs K Rel A (pure y) (.ok b σ) s α :=
  fun _ => wpAny_pure ⟨b, σ, α, rfl, .refl, r, v, .refl s⟩

theorem Runs.standAt {pos : Pos} {t : Sem γ} {c : Out β} (H : Runs K Rel A t c s α) : Runs K Rel A (do standAt pos; t) c s α :=
  fun h => wpAny_bind (wpAny_standAt (H h))
theorem Runs.holding {vs : List Value} {t : Sem γ} {c : Out β} (H : Runs K Rel A t c s α) : Runs K Rel A (holding vs t) c s α :=
  fun h => wpAny_holding (H h)

/-- one step of the library's rules: the tree gives a value, the heap only grows -/
theorem Runs.step {t : Sem γ} {b : β} {σ : Sto} (r : R K.hb s.heap σ α)
    (H : ∀ (Q : γ → Shared → Prop) (E : Value → Shared → Prop), (∀ y s', (∀ b o, s.heap.get? b = some o → s'.heap.get? b = some o) → R K.hb s'.heap σ α → Rel s'.heap α b y → Sm s s' → Q y s') → wpAny (model K.prog K.w) A t Q E s) :
    Runs K Rel A t (.ok b σ) s α :=
  fun _ => H _ _ fun y s' k r' v m => ⟨b, σ, α, rfl, .keeps k, r', v, m⟩
end

theorem R.live {hb h σ α} (r : R hb h σ α) {a : Addr} (ha : a ∈ α.ix) : ∃ o, h.get? a = some o := by
  obtain ⟨i, hi, rfl⟩ := List.mem_iff_getElem.mp ha
  have hs : i < σ.length := by rw [r.len]; exact hi
  have := r.obj i σ[i] α.ix[i] (by simp [hs]) (by simp [hi])
  revert this
  cases σ[i] with
  | lst xs => rintro ⟨items, n, e, _⟩; exact ⟨_, e⟩
  | _ => intro f; exact f.elim

/-- the relation stays where the heap only grows -/
theorem OR.keeps {h h' : Heap} {α : AL} {m : MO} {a : Addr} (x : Ext [] α h α h') (k : h.get? a = h'.get? a) (o : OR h α m a) : OR h' α m a := by
  cases m with
  | lst xs =>
    obtain ⟨items, n, e, v⟩ := o
    exact ⟨items, n, k ▸ e, v.ext x⟩
  | _ => exact o.elim
theorem R.keeps {hb h h' σ α} (r : R hb h σ α) (k : ∀ b o, h.get? b = some o → h'.get? b = some o) : R hb h' σ α :=
  ⟨fun b o e => k b o (r.base b o e), r.fresh, r.nodup, r.len, fun a ha => ⟨(r.hidden a ha).1, let ⟨o, e⟩ := (r.hidden a ha).2; ⟨o, k a o e⟩⟩, fun i m a e1 e2 => OR.keeps (.keeps k) (by
    obtain ⟨o, e⟩ := r.live (List.mem_of_getElem? e2)
    rw [e, k a o e]) (r.obj i m a e1 e2), r.hfr⟩
theorem R.liveAll {hb h σ α} (r : R hb h σ α) {a : Addr} (ha : a ∈ α.all) : ∃ o, h.get? a = some o := by
  rcases List.mem_append.mp ha with q | q
  · exact r.live q
  · exact (r.hidden a q).2
end Mine

namespace Mine
open PySem PyProof.Rows

noncomputable def AL.add (α : AL) (D : Addr) : AL := ⟨α.ix ++ [D], α.hid⟩
theorem Ext.add {α : AL} {h h' : Heap} {D : Addr} (k : ∀ b o, h.get? b = some o → h'.get? b = some o) (hD : h.get? D = none) : Ext [] α h (α.add D) h' :=
  ⟨rfl, ⟨[D], rfl, fun y hy => by simp at hy; rw [hy]; exact ⟨hD, by simp⟩⟩, fun b o _ e _ => k b o e, fun b o _ _ e => k b o e, fun b o _ e => ⟨o, k b o e⟩⟩
theorem R.add {hb h h' σ α} {D : Addr} {m : MO} (r : R hb h σ α) (k : ∀ b o, h.get? b = some o → h'.get? b = some o) (hD : h.get? D = none)
    (o : OR h' (α.add D) m D) : R hb h' (σ ++ [m]) (α.add D) ∧ Ext [] α h (α.add D) h' := by
  have x : Ext [] α h (α.add D) h' := .add k hD
  have hDa : D ∉ α.all := fun hm => by obtain ⟨o, e⟩ := r.liveAll hm; rw [hD] at e; cases e
  refine ⟨⟨fun b o e => k b o (r.base b o e), fun a ha => ?_, ?_, by simp [AL.add, r.len], fun a ha => ?_, fun i m' a e1 e2 => ?_, r.hfr⟩, x⟩
  · rcases List.mem_append.mp ha with q | q
    · exact r.fresh a q
    · simp at q; subst q
      cases hq : hb.get? a with
      | none => rfl
      | some o => rw [r.base _ _ hq] at hD; cases hD
  · show (α.ix ++ [D]).Nodup
    rw [List.nodup_append]
    exact ⟨r.nodup, by simp, fun a ha b hb => by simp at hb; subst hb; rintro rfl; exact AL.not_ix hDa ha⟩
  · have ha' : a ∈ α.hid := ha
    refine ⟨fun q => ?_, let ⟨o, e⟩ := (r.hidden a ha').2; ⟨o, k a o e⟩⟩
    rcases List.mem_append.mp q with q | q
    · exact (r.hidden a ha').1 q
    · simp at q; subst q; exact hDa (List.mem_append_right _ ha')
  · have e2' : (α.ix ++ [D])[i]? = some a := e2
    by_cases hi : i < σ.length
    · rw [List.getElem?_append_left hi] at e1
      rw [List.getElem?_append_left (by rw [← r.len]; exact hi)] at e2'
      have := r.obj i m' a e1 e2'
      have hk : h.get? a = h'.get? a := by
        obtain ⟨o, e⟩ := r.live (List.mem_of_getElem? e2')
        rw [e, k a o e]
      cases m' with
      | lst xs =>
        obtain ⟨items, n, e, v⟩ := this
        exact ⟨items, n, hk ▸ e, v.ext x⟩
      | _ => exact this.elim
    · have e3 : i = σ.length := by
        have := (List.getElem?_eq_some_iff.mp e1).1
        simp at this; omega
      subst e3
      rw [List.getElem?_append_right (Nat.le_refl _)] at e1
      rw [List.getElem?_append_right (by rw [r.len]; exact Nat.le_refl _)] at e2'
      simp [r.len] at e1 e2'
      subst e1 e2'
      exact o

section
variable {K : Kt} {A : Around} {s : Shared} {α : AL} {σ : Sto}

theorem lim_line {n : Nat} (h : n ≤ lim) : n ≤ sizeLine := Nat.le_trans h (by decide)

/-- a new list -/
theorem newList_sound {xs : List PV} {vs : List Value} {fz : Bool} (r : R K.hb s.heap σ α) (v : VRs s.heap α xs vs) :
    Runs K VR A (newList vs) (mkLst fz xs σ) s α := by
  intro hc
  unfold mkLst at hc ⊢
  by_cases hl : xs.length ≤ lim
  · rw [if_pos hl]
    have hD : s.heap.get? s.heap.objs.size = none := by
      cases hq : s.heap.get? s.heap.objs.size with
      | none => rfl
      | some o => exact absurd (Heap.lt_size hq) (Nat.lt_irrefl _)
    have k : ∀ b o, s.heap.get? b = some o → (s.heap.push { cls := .type "list", data := .seq vs.toArray }).get? b = some o := fun b o e => Heap.get?_push_of_some _ e
    refine wpAny_newObj_type ?_ (by show vs.toArray.size ≤ sizeLine; rw [List.size_toArray, ← v.1]; exact lim_line hl)
    cases fz with
    | true =>
      refine ⟨_, _, _, rfl, .keeps k, r.keeps k, ?_, ⟨rfl, rfl⟩⟩
      refine VR.flI (n := 0) (Heap.get?_push_size _ rfl) (fun hm => ?_) (v.ext (.keeps (F := []) k))
      obtain ⟨o, e⟩ := r.liveAll hm; rw [hD] at e; cases e
    | false =>
      obtain ⟨r', x⟩ := r.add (D := s.heap.objs.size) (m := .lst xs) k hD ⟨vs, 0, Heap.get?_push_size _ rfl, v.ext (.add k hD)⟩
      refine ⟨_, _, _, rfl, x, r', .ref ?_, ⟨rfl, rfl⟩⟩
      rw [r.len]; simp [AL.add]
  · rw [if_neg hl] at hc; exact absurd rfl hc

theorem newTuple_sound {xs : List PV} {vs : List Value} (r : R K.hb s.heap σ α) (v : VRs s.heap α xs vs) :
    Runs K VR A (newTuple vs) (if xs.length ≤ lim then .ok (.tup xs) σ else .stuck) s α := by
  intro hc
  by_cases hl : xs.length ≤ lim
  · rw [if_pos hl]
    have hD : s.heap.get? s.heap.objs.size = none := by
      cases hq : s.heap.get? s.heap.objs.size with
      | none => rfl
      | some o => exact absurd (Heap.lt_size hq) (Nat.lt_irrefl _)
    have k : ∀ b o, s.heap.get? b = some o → (s.heap.push { cls := .type "tuple", data := .seq vs.toArray }).get? b = some o := fun b o e => Heap.get?_push_of_some _ e
    refine wpAny_newObj_type ?_ (by show vs.toArray.size ≤ sizeLine; rw [List.size_toArray, ← v.1]; exact lim_line hl)
    refine ⟨_, _, _, rfl, .keeps k, r.keeps k, ?_, ⟨rfl, rfl⟩⟩
    refine VR.tupI (n := 0) (Heap.get?_push_size _ rfl) (fun hm => ?_) (v.ext (.keeps (F := []) k))
    obtain ⟨o, e⟩ := r.liveAll hm; rw [hD] at e; cases e
  · rw [if_neg hl] at hc; exact absurd rfl hc
end
end Mine

namespace Mine
open PySem PyProof.Rows

/-! plain data -/
theorem mapM_reads {h : Heap} {n : Nat} {f : PV → Option PyData} : ∀ {xs : List PV} {vs : List Value} {ds : List PyData}, xs.mapM f = some ds → xs.length = vs.length →
    (∀ (i : Nat) (x : PV) (v : Value) (d : PyData), xs[i]? = some x → vs[i]? = some v → f x = some d → ∃ as, Reads h v d as ∧ d.canLay0 = true ∧ d.depth ≤ n) →
    ∃ as, ReadsAll h vs ds as ∧ PyData.canLayAll0 ds = true ∧ PyData.depthAll ds ≤ n
  | [], vs, ds, e, hl, _ => by
    cases vs with
    | nil => simp at e; subst e; exact ⟨[], .nil, rfl, Nat.zero_le _⟩
    | cons => simp at hl
  | x :: xs, vs, ds, e, hl, H => by
    cases vs with
    | nil => simp at hl
    | cons v vs =>
      rw [List.mapM_cons] at e
      cases hx : f x with
      | none => rw [hx] at e; cases e
      | some d =>
        rw [hx] at e
        cases hr : xs.mapM f with
        | none => rw [hr] at e; cases e
        | some ds' =>
          rw [hr] at e
          cases e
          obtain ⟨as, r1, c1, d1⟩ := H 0 x v d (by simp) (by simp) hx
          obtain ⟨bs, r2, c2, d2⟩ := mapM_reads hr (by simpa using hl) fun i y w d' e1 e2 e3 => H (i + 1) y w d' (by simpa using e1) (by simpa using e2) e3
          exact ⟨as ++ bs, .cons r1 r2, by simp [PyData.canLayAll0, c1, c2], by simp only [PyData.depthAll]; omega⟩

theorem reads_of {hb h : Heap} {σ : Sto} {α : AL} (r : R hb h σ α) : ∀ (n : Nat) (p : PV) (v : Value) (d : PyData), VR h α p v → toD n σ p = some d → ∃ as, Reads h v d as ∧ d.canLay0 = true ∧ d.depth ≤ n := by
  intro n
  induction n with
  | zero => intro p v d _ e; simp [toD] at e
  | succ n ih =>
    intro p v d hv e
    cases p with
    | none => cases hv; simp [toD] at e; subst e; exact ⟨[], .none, rfl, by simp [PyData.depth]⟩
    | bool b => cases hv; simp [toD] at e; subst e; exact ⟨[], .bool _, rfl, by simp [PyData.depth]⟩
    | int i => cases hv; simp [toD] at e; subst e; exact ⟨[], .int _ _, rfl, by simp [PyData.depth]⟩
    | str x => cases hv with | str _ _ hs => simp [toD] at e; subst e; exact ⟨[], .str _ _, hs, by simp [PyData.depth]⟩
    | tup xs =>
      obtain ⟨a, items, k, rfl, e1, _, vs⟩ := hv.tupE
      simp only [toD] at e
      cases hm : xs.mapM (toD n σ) with
      | none => rw [hm] at e; cases e
      | some ds =>
        rw [hm] at e; cases e
        obtain ⟨as, r1, c1, d1⟩ := mapM_reads (n := n) hm vs.1 fun i x v d e1 e2 e3 => ih x v d (vs.2 i x v e1 e2) e3
        exact ⟨as, .tuple e1 rfl rfl (by simpa using r1), by simpa [PyData.canLay0] using c1, by simp only [PyData.depth]; omega⟩
    | fl xs =>
      obtain ⟨a, items, k, rfl, e1, _, vs⟩ := hv.flE
      simp only [toD] at e
      cases hm : xs.mapM (toD n σ) with
      | none => rw [hm] at e; cases e
      | some ds =>
        rw [hm] at e; cases e
        obtain ⟨as, r1, c1, d1⟩ := mapM_reads (n := n) hm vs.1 fun i x v d e1 e2 e3 => ih x v d (vs.2 i x v e1 e2) e3
        exact ⟨a :: as, .list e1 rfl rfl (by simpa using r1), by simpa [PyData.canLay0] using c1, by simp only [PyData.depth]; omega⟩
    | ref i =>
      cases hv with
      | @ref _ a ea =>
        simp only [toD] at e
        cases hs : σ[i]? with
        | none => rw [hs] at e; cases e
        | some m =>
          rw [hs] at e
          cases m with
          | lst xs =>
            simp only at e
            cases hm : xs.mapM (toD n σ) with
            | none => rw [hm] at e; cases e
            | some ds =>
              rw [hm] at e; cases e
              obtain ⟨items, k, e1, vs⟩ := r.obj i _ a hs ea
              obtain ⟨as, r1, c1, d1⟩ := mapM_reads (n := n) hm vs.1 fun i x v d e1 e2 e3 => ih x v d (vs.2 i x v e1 e2) e3
              exact ⟨a :: as, .list e1 rfl rfl (by simpa using r1), by simpa [PyData.canLay0] using c1, by simp only [PyData.depth]; omega⟩
          | _ => simp at e

theorem shaped_of {d : PyData} (c : d.canLay0 = true) (h : d.depth ≤ 16) : SeqAt.shaped d = true := by
  unfold SeqAt.shaped
  rw [c]; simp; omega

/-- a truth value -/
noncomputable def RelB (_h : Heap) (_α : AL) (b : Bool) (y : Value) : Prop := y = .bool b

structure AOk (A : Around) : Prop where
  handled : A.handled = none
  depth : A.depth + 200 < recursionLimit
  units : A.units + 200 < cLine

section
variable {K : Kt} {A : Around} {s : Shared} {α : AL} {σ : Sto}

theorem cmpEq_sound {a b : PV} {x y : Value} (hA : AOk A) (r : R K.hb s.heap σ α) (va : VR s.heap α a x) (vb : VR s.heap α b y) :
    Runs K RelB A (compareOp .Eq x y) (Out.ofOpt (eqv σ a b) σ) s α := by
  intro hc
  unfold eqv at hc ⊢
  cases h1 : toD 16 σ a with
  | none => rw [h1] at hc; exact absurd rfl hc
  | some d1 =>
    cases h2 : toD 16 σ b with
    | none => rw [h1, h2] at hc; exact absurd rfl hc
    | some d2 =>
      obtain ⟨as, r1, c1, p1⟩ := reads_of r 16 a x d1 va h1
      obtain ⟨bs, r2, c2, p2⟩ := reads_of r 16 b y d2 vb h2
      exact eq_dataH r1 r2 (shaped_of c1 p1) (shaped_of c2 p2) (by have := hA.units; omega) ⟨_, σ, α, rfl, .refl, r, rfl, .refl s⟩

theorem cmpNe_sound {a b : PV} {x y : Value} (hA : AOk A) (r : R K.hb s.heap σ α) (va : VR s.heap α a x) (vb : VR s.heap α b y) :
    Runs K RelB A (compareOp .NotEq x y) (Out.ofOpt ((eqv σ a b).map (!·)) σ) s α := by
  intro hc
  unfold eqv at hc ⊢
  cases h1 : toD 16 σ a with
  | none => rw [h1] at hc; exact absurd rfl hc
  | some d1 =>
    cases h2 : toD 16 σ b with
    | none => rw [h1, h2] at hc; exact absurd rfl hc
    | some d2 =>
      obtain ⟨as, r1, c1, p1⟩ := reads_of r 16 a x d1 va h1
      obtain ⟨bs, r2, c2, p2⟩ := reads_of r 16 b y d2 vb h2
      exact ne_dataH r1 r2 (shaped_of c1 p1) (shaped_of c2 p2) (by have := hA.units; omega) ⟨_, σ, α, rfl, .refl, r, rfl, .refl s⟩
end
end Mine

namespace Mine
open PySem PyProof.Rows

noncomputable def opOf : Op → Operator
  | .add => .Add | .sub => .Sub | .mul => .Mult | .mod => .Mod | .fdiv => .FloorDiv | .pow => .Pow
noncomputable def cmOf : Cm → CmpOp
  | .eq => .Eq | .ne => .NotEq | .lt => .Lt | .le => .LtE | .gt => .Gt | .ge => .GtE | .is => .Is | .isNot => .IsNot | .isin => .In | .notin => .NotIn

theorem strOk_append {x y : Str} (a : PyData.strOk x = true) (b : PyData.strOk y = true) : PyData.strOk (x ++ y) = true := by
  unfold PyData.strOk at *
  rw [Str.cps_append]
  simp only [Array.all_eq_true', Array.mem_append] at *
  rintro c (h | h)
  · exact a c h
  · exact b c h

theorem strOk_mul {x : Str} {n : Int} (h : PyData.strOk x = true) : PyData.strOk (Txt.mul x n) = true := by
  unfold Txt.mul
  split
  · simp [PyData.strOk, Str.empty]
  · split
    · exact h
    · have key : ∀ (k : Nat) (acc : Array Nat), PyData.strOk ⟨acc⟩ = true → PyData.strOk ⟨(List.replicate k x.cps).foldl (· ++ ·) acc⟩ = true := by
        intro k
        induction k with
        | zero => intro acc h2; exact h2
        | succ k ih =>
          intro acc h2
          rw [List.replicate_succ, List.foldl_cons]
          exact ih _ (strOk_append (x := ⟨acc⟩) (y := x) h2 h)
      exact key _ _ (by simp [PyData.strOk])
theorem mulOk_small {x : Str} {n : Int} (h : x.length ≤ 100 ∧ 0 ≤ n ∧ n ≤ 100) : MulOk x n :=
  mulOk_of 100 100 h.1 h.2.2 (by omega) (by decide) (by decide)
theorem bits_small {a : Int} (h : a.natAbs < 2 ^ 60) : Builtin.Int.intBits a ≤ 64 := by
  unfold Builtin.Int.intBits
  by_cases h0 : a.natAbs = 0
  · have : a = 0 := by omega
    subst this; decide
  · have := (Nat.log2_lt h0).mpr h
    split <;> omega

theorem asLst_is {h : Heap} {hb : Heap} {σ : Sto} {α : AL} {a : PV} {x : Value} {xs : List PV} (r : R hb h σ α) (v : VR h α a x) (e : asLst σ a = some xs) :
    ∃ l items n, x = .ref l ∧ h.get? l = some { cls := .type "list", data := .seq (List.toArray items) n } ∧ VRs h α xs items := by
  cases a with
  | fl ys => cases e; obtain ⟨l, items, n, rfl, e1, _, vs⟩ := v.flE; exact ⟨l, items, n, rfl, e1, vs⟩
  | ref i =>
    cases v with
    | @ref _ l el =>
      simp only [asLst] at e
      cases hs : σ[i]? with
      | none => rw [hs] at e; cases e
      | some m =>
        rw [hs] at e
        cases m with
        | lst ys => cases e; obtain ⟨items, n, e1, vs⟩ := r.obj i _ l hs el; exact ⟨l, items, n, rfl, e1, vs⟩
        | _ => cases e
  | _ => cases e

section
variable {K : Kt} {A : Around} {s : Shared} {α : AL} {σ : Sto}

theorem none_at (s : Shared) : s.heap.get? s.heap.objs.size = none := by
  cases hq : s.heap.get? s.heap.objs.size with
  | none => rfl
  | some o => exact absurd (Heap.lt_size hq) (Nat.lt_irrefl _)

/-- the end of a step that makes a new list that stays as it is -/
theorem Post.fl {xs : List PV} {vs : List Value} (r : R K.hb s.heap σ α) (v : VRs s.heap α xs vs) :
    Post K VR (.ok (.fl xs) σ) s α (.ref s.heap.objs.size) { s with heap := s.heap.push { cls := .type "list", data := .seq vs.toArray } } := by
  have k : ∀ b o, s.heap.get? b = some o → (s.heap.push { cls := .type "list", data := .seq vs.toArray }).get? b = some o := fun b o e => Heap.get?_push_of_some _ e
  refine ⟨_, _, _, rfl, .keeps k, r.keeps k, ?_, ⟨rfl, rfl⟩⟩
  refine VR.flI (n := 0) (Heap.get?_push_size _ rfl) (fun hm => ?_) (v.ext (.keeps (F := []) k))
  obtain ⟨o, e⟩ := r.liveAll hm; rw [none_at] at e; cases e
theorem Post.tup {xs : List PV} {vs : List Value} (r : R K.hb s.heap σ α) (v : VRs s.heap α xs vs) :
    Post K VR (.ok (.tup xs) σ) s α (.ref s.heap.objs.size) { s with heap := s.heap.push { cls := .type "tuple", data := .seq vs.toArray } } := by
  have k : ∀ b o, s.heap.get? b = some o → (s.heap.push { cls := .type "tuple", data := .seq vs.toArray }).get? b = some o := fun b o e => Heap.get?_push_of_some _ e
  refine ⟨_, _, _, rfl, .keeps k, r.keeps k, ?_, ⟨rfl, rfl⟩⟩
  refine VR.tupI (n := 0) (Heap.get?_push_size _ rfl) (fun hm => ?_) (v.ext (.keeps (F := []) k))
  obtain ⟨o, e⟩ := r.liveAll hm; rw [none_at] at e; cases e
theorem Post.here {β γ : Type} {Rel : Heap → AL → β → γ → Prop} {b : β} {y : γ} {tk : Nat} (r : R K.hb s.heap σ α) (v : Rel s.heap α b y) : Post K Rel (.ok b σ) s α y { s with toks := tk } :=
  ⟨_, _, _, rfl, .refl, r, v, ⟨rfl, rfl⟩⟩

theorem addLists_raw {l b : Addr} {vs ws : List Value} {n n2 : Nat} {Q : Value → Shared → Prop} {E : Value → Shared → Prop} (ho : s.heap.get? l = some { cls := .type "list", data := .seq vs.toArray n })
    (ho2 : s.heap.get? b = some { cls := .type "list", data := .seq ws.toArray n2 }) (hsz : vs.length + ws.length ≤ sizeLine)
    (h : Q (.ref s.heap.objs.size) { s with heap := s.heap.push { cls := .type "list", data := .seq (vs ++ ws).toArray } }) : wpAny (model K.prog K.w) A (binaryOp .Add (.ref l) (.ref b)) Q E s := by
  have e : vs.toArray ++ ws.toArray = (vs ++ ws).toArray := by simp
  refine concat_meets ⟨_, ho, rfl⟩ ⟨_, ho2, rfl⟩ noFill_list_add seq_list_add PySem.F.slot_list_add PySem.F.entry_list_add (PySem.F.args_list_add_2 _ _) (list_addW l b vs.toArray ws.toArray n n2 none none #[] #[] (by simpa using hsz)) ⟨ho, ho2, ?_⟩
  rw [e]; exact h

theorem addTuples_raw {t b : Addr} {vs ws : List Value} {n n2 : Nat} {Q : Value → Shared → Prop} {E : Value → Shared → Prop} (ho : s.heap.get? t = some { cls := .type "tuple", data := .seq vs.toArray n })
    (ho2 : s.heap.get? b = some { cls := .type "tuple", data := .seq ws.toArray n2 }) (hsz : vs.length + ws.length ≤ sizeLine)
    (h0 : vs = [] → Q (.ref b) s) (h1 : vs ≠ [] → ws = [] → Q (.ref t) s)
    (h2 : Q (.ref s.heap.objs.size) { s with heap := s.heap.push { cls := .type "tuple", data := .seq (vs ++ ws).toArray } }) : wpAny (model K.prog K.w) A (binaryOp .Add (.ref t) (.ref b)) Q E s := by
  have e : vs.toArray ++ ws.toArray = (vs ++ ws).toArray := by simp
  by_cases hv : vs = []
  · exact concat_meets ⟨_, ho, rfl⟩ ⟨_, ho2, rfl⟩ noFill_tuple_add seq_tuple_add PySem.F.slot_tuple_add PySem.F.entry_tuple_add (PySem.F.args_tuple_add_2 _ _)
      (tuple_addW0 t b vs.toArray ws.toArray n n2 none none #[] #[] (by simp [hv])) ⟨ho, ho2, h0 hv⟩
  · by_cases hw : ws = []
    · exact concat_meets ⟨_, ho, rfl⟩ ⟨_, ho2, rfl⟩ noFill_tuple_add seq_tuple_add PySem.F.slot_tuple_add PySem.F.entry_tuple_add (PySem.F.args_tuple_add_2 _ _)
        (tuple_addW1 t b vs.toArray ws.toArray n n2 none none #[] #[] (by simpa using hv) (by simp [hw])) ⟨ho, ho2, h1 hv hw⟩
    · refine concat_meets ⟨_, ho, rfl⟩ ⟨_, ho2, rfl⟩ noFill_tuple_add seq_tuple_add PySem.F.slot_tuple_add PySem.F.entry_tuple_add (PySem.F.args_tuple_add_2 _ _)
        (tuple_addW2 t b vs.toArray ws.toArray n n2 none none #[] #[] (by simpa using hv) (by simpa using hw) (by rw [List.size_toArray, List.size_toArray]; exact hsz)) ⟨ho, ho2, ?_⟩
      rw [e]; exact h2

theorem arith_sound {f : Int → Int → Out PV} {o : Operator} {a b : PV} {x y : Value} (va : VR s.heap α a x) (vb : VR s.heap α b y)
    (H : ∀ i j t u, f i j ≠ .stuck → wpAny (model K.prog K.w) A (binaryOp o (.int i t) (.int j u)) (Post K VR (f i j) s α) (PostX K A (f i j) s α) s) : Runs K VR A (binaryOp o x y) (arith f a b) s α := by
  intro hc
  cases a with
  | int i =>
    cases b with
    | int j => cases va; cases vb; exact H i j _ _ hc
    | _ => exact absurd rfl hc
  | _ => exact absurd rfl hc
theorem addL_sound {a b : PV} {x y : Value} (r : R K.hb s.heap σ α) (va : VR s.heap α a x) (vb : VR s.heap α b y) (he : addv a b σ = (match asLst σ a with
    | some x => match asLst σ b with
      | some y => if x.length + y.length ≤ lim then .ok (.fl (x ++ y)) σ else .stuck
      | none => .stuck
    | none => .stuck)) : Runs K VR A (binaryOp .Add x y) (addv a b σ) s α := by
  intro hc
  rw [he] at hc ⊢
  cases h1 : asLst σ a with
  | none => rw [h1] at hc; exact absurd rfl hc
  | some xs =>
    cases h2 : asLst σ b with
    | none => rw [h1, h2] at hc; exact absurd rfl hc
    | some ys =>
      rw [h1, h2] at hc
      dsimp only at hc ⊢
      by_cases hl : xs.length + ys.length ≤ lim
      · rw [if_pos hl]
        obtain ⟨l, vs, n, rfl, e1, v1⟩ := asLst_is r va h1
        obtain ⟨l2, ws, m, rfl, e2, v2⟩ := asLst_is r vb h2
        exact addLists_raw e1 e2 (by rw [← v1.1, ← v2.1]; exact lim_line hl) (.fl r (v1.append v2))
      · rw [if_neg hl] at hc; exact absurd rfl hc
theorem addv_sound {a b : PV} {x y : Value} (r : R K.hb s.heap σ α) (va : VR s.heap α a x) (vb : VR s.heap α b y) : Runs K VR A (binaryOp .Add x y) (addv a b σ) s α := by
  cases a with
  | int i =>
    intro hc
    cases b with
    | int j => cases va; cases vb; exact P.add_int (.here r (.int _ _))
    | _ => exact absurd rfl hc
  | str p =>
    intro hc
    cases b with
    | str q =>
      cases va with | str _ _ h1 => cases vb with | str _ _ h2 =>
      change (if p.length + q.length ≤ lim then Out.ok (PV.str (p ++ q)) σ else .stuck) ≠ .stuck at hc
      show wpAny _ _ _ (Post K VR (if p.length + q.length ≤ lim then Out.ok (PV.str (p ++ q)) σ else .stuck) s α) (PostX K A (if p.length + q.length ≤ lim then Out.ok (PV.str (p ++ q)) σ else .stuck) s α) s
      by_cases hl : p.length + q.length ≤ lim
      · rw [if_pos hl]; exact PyProof.Rows.add_str (fun t' tk => .here r (.str _ _ (strOk_append h1 h2))) (lim_line hl)
      · rw [if_neg hl] at hc; exact absurd rfl hc
    | _ => exact absurd rfl hc
  | tup p =>
    intro hc
    cases b with
    | tup q =>
      change (if p.length + q.length ≤ lim then Out.ok (PV.tup (p ++ q)) σ else .stuck) ≠ .stuck at hc
      show wpAny _ _ _ (Post K VR (if p.length + q.length ≤ lim then Out.ok (PV.tup (p ++ q)) σ else .stuck) s α) (PostX K A (if p.length + q.length ≤ lim then Out.ok (PV.tup (p ++ q)) σ else .stuck) s α) s
      by_cases hl : p.length + q.length ≤ lim
      · rw [if_pos hl]
        obtain ⟨t, vs, n, rfl, e1, n1, v1⟩ := va.tupE
        obtain ⟨u, ws, m, rfl, e2, n2, v2⟩ := vb.tupE
        refine addTuples_raw e1 e2 (by rw [← v1.1, ← v2.1]; exact lim_line hl) (fun h => ?_) (fun _ h => ?_) (.tup r (v1.append v2))
        · refine ⟨_, _, _, rfl, .refl, r, ?_, .refl _⟩
          have : _ = 0 := v1.1.trans (by rw [h]; rfl)
          rw [List.eq_nil_of_length_eq_zero this]; exact vb
        · refine ⟨_, _, _, rfl, .refl, r, ?_, .refl _⟩
          have : _ = 0 := v2.1.trans (by rw [h]; rfl)
          rw [List.eq_nil_of_length_eq_zero this, List.append_nil]; exact va
      · rw [if_neg hl] at hc; exact absurd rfl hc
    | _ => exact absurd rfl hc
  | none => exact addL_sound r va vb rfl
  | bool _ => exact addL_sound r va vb rfl
  | fl _ => exact addL_sound r va vb rfl
  | ref _ => exact addL_sound r va vb rfl
theorem mulv_sound {a b : PV} {x y : Value} (r : R K.hb s.heap σ α) (va : VR s.heap α a x) (vb : VR s.heap α b y) : Runs K VR A (binaryOp .Mult x y) (mulv a b σ) s α := by
  intro hc
  cases b with
  | int j =>
    cases vb
    cases a with
    | int i =>
      cases va
      change (if mulOk i j = true then Out.ok (PV.int (i * j)) σ else .stuck) ≠ .stuck at hc
      show wpAny _ _ _ (Post K VR (if mulOk i j = true then Out.ok (PV.int (i * j)) σ else .stuck) s α) (PostX K A (if mulOk i j = true then Out.ok (PV.int (i * j)) σ else .stuck) s α) s
      by_cases hm : mulOk i j = true
      · rw [if_pos hm]
        refine P.mul_int (.here r (.int _ _)) ?_
        exact (of_decide_eq_true hm).elim (fun h => .of_left (bits_small h)) fun h => .of_right (bits_small h)
      · rw [if_neg hm] at hc; exact absurd rfl hc
    | str p =>
      cases va with | str _ _ hx =>
      change (if p.length ≤ 100 ∧ 0 ≤ j ∧ j ≤ 100 then Out.ok (PV.str (Txt.mul p j)) σ else .stuck) ≠ .stuck at hc
      show wpAny _ _ _ (Post K VR (if p.length ≤ 100 ∧ 0 ≤ j ∧ j ≤ 100 then Out.ok (PV.str (Txt.mul p j)) σ else .stuck) s α) (PostX K A (if p.length ≤ 100 ∧ 0 ≤ j ∧ j ≤ 100 then Out.ok (PV.str (Txt.mul p j)) σ else .stuck) s α) s
      by_cases h0 : p.length ≤ 100 ∧ 0 ≤ j ∧ j ≤ 100
      · rw [if_pos h0]; exact SB.mul (mulOk_small h0) fun t' tk => .here r (.str _ _ (strOk_mul hx))
      · rw [if_neg h0] at hc; exact absurd rfl hc
    | _ => exact absurd rfl hc
  | _ => exact absurd rfl hc
theorem binop_sound {o : Op} {a b : PV} {x y : Value} (hA : AOk A) (r : R K.hb s.heap σ α) (va : VR s.heap α a x) (vb : VR s.heap α b y) :
    Runs K VR A (binaryOp (opOf o) x y) (binop o a b σ) s α := by
  cases o with
  | add => exact addv_sound r va vb
  | mul => exact mulv_sound r va vb
  | sub => exact arith_sound va vb fun i j t u _ => P.sub_int (.here r (.int _ _))
  | mod =>
    refine arith_sound va vb fun i j t u hc => ?_
    by_cases h0 : j = 0
    · rw [if_pos h0] at hc; exact absurd rfl hc
    · rw [if_neg h0]; exact mod_int' h0 (.here r (.int _ _))
  | fdiv =>
    refine arith_sound va vb fun i j t u hc => ?_
    by_cases h0 : j ≠ 0 ∧ j.natAbs < 1073741824
    · rw [if_pos h0]; exact floordiv_int h0.1 (.here r (.int _ _)) (.inl (PyProof.noPylong_small h0.2))
    · rw [if_neg h0] at hc; exact absurd rfl hc
  | pow =>
    refine arith_sound va vb fun i j t u hc => ?_
    by_cases h0 : 0 ≤ j ∧ j ≤ 100 ∧ i = 10
    · rw [if_pos h0]
      obtain ⟨h1, h2, rfl⟩ := h0
      refine pow_int h1 ?_ (.here r (.int _ _))
      have : Builtin.Int.intBits 10 = 4 := by decide +kernel
      rw [this]; omega
    · rw [if_neg h0] at hc; exact absurd rfl hc
end
end Mine

namespace Mine
open PySem PyProof.Rows

section
variable {K : Kt} {A : Around} {s : Shared} {α : AL} {σ : Sto}

theorem VR.ne_none {h : Heap} {a : PV} {x : Value} (v : VR h α a x) (hn : a ≠ .none) : x ≠ .none := by
  cases v <;> first | exact absurd rfl hn | (intro e; cases e)

/-- `x in xs` over a list or tuple -/
theorem memv_sound {a : PV} {x : Value} {xs : List PV} {l : Addr} {items : List Value} {n : Nat} {T : String} (hT : T = "list" ∨ T = "tuple") (hA : AOk A) (r : R K.hb s.heap σ α) (va : VR s.heap α a x)
    (e1 : s.heap.get? l = some { cls := .type T, data := .seq items.toArray n }) (vs : VRs s.heap α xs items) :
    Runs K RelB A (compareOp .In x (.ref l)) (Out.ofOpt (memv σ a xs) σ) s α ∧
    Runs K RelB A (compareOp .NotIn x (.ref l)) (Out.ofOpt ((memv σ a xs).map (!·)) σ) s α := by
  unfold memv
  cases h1 : toD 16 σ a with
  | none => exact ⟨fun hc => absurd rfl hc, fun hc => absurd rfl hc⟩
  | some d =>
    cases h2 : xs.mapM (toD 16 σ) with
    | none => exact ⟨fun hc => absurd rfl hc, fun hc => absurd rfl hc⟩
    | some ds =>
      obtain ⟨as, r1, c1, p1⟩ := reads_of r 16 a x d va h1
      obtain ⟨bs, r2, c2, p2⟩ := mapM_reads (n := 16) h2 vs.1 fun i x v d e1 e2 e3 => reads_of r 16 x v d (vs.2 i x v e1 e2) e3
      have hu : A.units + 1 + min (PyData.depthAll ds) d.depth < cLine := by have := hA.units; omega
      rcases hT with rfl | rfl
      · have rc : Reads s.heap (.ref l) (.list ds) (l :: bs) := .list e1 rfl rfl (by simpa using r2)
        exact ⟨fun _ => SeqAt.in_list_reads rc r1 (by simpa [PyData.canLay0] using c2) c1 hu ⟨_, σ, α, rfl, .refl, r, rfl, .refl s⟩,
          fun _ => SeqAt.notIn_list_reads rc r1 (by simpa [PyData.canLay0] using c2) c1 hu ⟨_, σ, α, rfl, .refl, r, rfl, .refl s⟩⟩
      · have rc : Reads s.heap (.ref l) (.tuple ds) bs := .tuple e1 rfl rfl (by simpa using r2)
        exact ⟨fun _ => SeqAt.in_tuple_reads rc r1 (by simpa [PyData.canLay0] using c2) c1 hu ⟨_, σ, α, rfl, .refl, r, rfl, .refl s⟩,
          fun _ => SeqAt.notIn_tuple_reads rc r1 (by simpa [PyData.canLay0] using c2) c1 hu ⟨_, σ, α, rfl, .refl, r, rfl, .refl s⟩⟩

theorem lst_at {i : Nat} {a : Addr} {xs : List PV} (r : R K.hb s.heap σ α) (hs : σ[i]? = some (.lst xs)) (ea : α.ix[i]? = some a) :
    ∃ items n, s.heap.get? a = some { cls := .type "list", data := .seq (List.toArray items) n } ∧ VRs s.heap α xs items := r.obj i _ a hs ea

theorem occ_one (x : Str) (c : Nat) : (!(Builtin.Str.occurrences x ⟨#[c]⟩ 0 x.length 1).isEmpty) = x.cps.toList.contains c := by
  rw [StrLaws.found_one]; simp

theorem ord_sound {f : Int → Int → Bool} {o : CmpOp} {a b : PV} {x y : Value} (r : R K.hb s.heap σ α) (va : VR s.heap α a x) (vb : VR s.heap α b y)
    (H : ∀ i j t u (Q : Value → Shared → Prop) (E : Value → Shared → Prop), Q (.bool (f i j)) s → wpAny (model K.prog K.w) A (compareOp o (.int i t) (.int j u)) Q E s) : Runs K RelB A (compareOp o x y) (ordv f a b σ) s α := by
  intro hc
  cases a with
  | int i =>
    cases b with
    | int j => cases va; cases vb; exact H i j _ _ _ _ ⟨_, σ, α, rfl, .refl, r, rfl, .refl s⟩
    | _ => exact absurd rfl hc
  | _ => exact absurd rfl hc
theorem isv_sound {f : Bool → Bool} {o : CmpOp} {a b : PV} {x y : Value} (r : R K.hb s.heap σ α) (va : VR s.heap α a x) (vb : VR s.heap α b y)
    (H1 : ∀ (Q : Value → Shared → Prop) (E : Value → Shared → Prop), Q (.bool (f true)) s → wpAny (model K.prog K.w) A (compareOp o .none .none) Q E s)
    (H2 : ∀ (x : Value) (Q : Value → Shared → Prop) (E : Value → Shared → Prop), x ≠ .none → Q (.bool (f false)) s → wpAny (model K.prog K.w) A (compareOp o x .none) Q E s)
    (H3 : ∀ (p q : Bool) (Q : Value → Shared → Prop) (E : Value → Shared → Prop), Q (.bool (f (decide (p = q)))) s → wpAny (model K.prog K.w) A (compareOp o (.bool p) (.bool q)) Q E s) : Runs K RelB A (compareOp o x y) (isv f a b σ) s α := by
  intro hc
  cases b with
  | none =>
    cases vb
    show wpAny _ _ _ (Post K RelB (.ok (f (isNoneV a)) σ) s α) _ _
    by_cases hn : a = .none
    · subst hn; cases va; exact H1 _ _ ⟨_, σ, α, rfl, .refl, r, rfl, .refl s⟩
    · have : isNoneV a = false := by cases a <;> first | rfl | exact absurd rfl hn
      rw [this]
      exact H2 _ _ _ (va.ne_none hn) ⟨_, σ, α, rfl, .refl, r, rfl, .refl s⟩
  | bool q =>
    cases a with
    | bool p => cases va; cases vb; exact H3 _ _ _ _ ⟨_, σ, α, rfl, .refl, r, rfl, .refl s⟩
    | _ => exact absurd rfl hc
  | _ => exact absurd rfl hc
theorem isinL_sound {a b : PV} {x y : Value} (hA : AOk A) (r : R K.hb s.heap σ α) (va : VR s.heap α a x) (vb : VR s.heap α b y) (he : isinv a b σ = match asLst σ b with
    | some xs => memv σ a xs
    | none => none) : Runs K RelB A (compareOp .In x y) (Out.ofOpt (isinv a b σ) σ) s α ∧ Runs K RelB A (compareOp .NotIn x y) (Out.ofOpt ((isinv a b σ).map (!·)) σ) s α := by
  rw [he]
  cases h1 : asLst σ b with
  | none => exact ⟨fun hc => absurd rfl hc, fun hc => absurd rfl hc⟩
  | some xs =>
    obtain ⟨l, vs, n, rfl, e1, v1⟩ := asLst_is r vb h1
    exact memv_sound (.inl rfl) hA r va e1 v1
theorem isin_sound {a b : PV} {x y : Value} (hA : AOk A) (r : R K.hb s.heap σ α) (va : VR s.heap α a x) (vb : VR s.heap α b y) : Runs K RelB A (compareOp .In x y) (Out.ofOpt (isinv a b σ) σ) s α ∧ Runs K RelB A (compareOp .NotIn x y) (Out.ofOpt ((isinv a b σ).map (!·)) σ) s α := by
  cases b with
  | tup xs => obtain ⟨l, items, n, rfl, e1, _, vs⟩ := vb.tupE; exact memv_sound (.inr rfl) hA r va e1 vs
  | str z =>
    cases vb
    cases a with
    | str w =>
      cases va
      have e : isinv (.str w) (.str z) σ = match w.cps.toList with
        | [c] => some (z.cps.toList.contains c)
        | _ => none := rfl
      rw [e]
      cases hcs : w.cps.toList with
      | nil => exact ⟨fun hc => absurd rfl hc, fun hc => absurd rfl hc⟩
      | cons c rr =>
        cases rr with
        | cons _ _ => exact ⟨fun hc => absurd rfl hc, fun hc => absurd rfl hc⟩
        | nil =>
          have hw : w = ⟨#[c]⟩ := by cases w; simp at hcs; simp [← hcs]
          subst hw
          exact ⟨fun _ => PyProof.Rows.in_str (by rw [occ_one]; exact ⟨_, σ, α, rfl, .refl, r, rfl, .refl s⟩), fun _ => PyProof.Rows.notIn_str (by rw [occ_one]; exact ⟨_, σ, α, rfl, .refl, r, rfl, .refl s⟩)⟩
    | _ => exact ⟨fun hc => absurd rfl hc, fun hc => absurd rfl hc⟩
  | none => exact isinL_sound hA r va vb rfl
  | bool _ => exact isinL_sound hA r va vb rfl
  | int _ => exact isinL_sound hA r va vb rfl
  | fl _ => exact isinL_sound hA r va vb rfl
  | ref _ => exact isinL_sound hA r va vb rfl
theorem cmpop_sound {o : Cm} {a b : PV} {x y : Value} (hA : AOk A) (r : R K.hb s.heap σ α) (va : VR s.heap α a x) (vb : VR s.heap α b y) :
    Runs K RelB A (compareOp (cmOf o) x y) (cmpop o a b σ) s α := by
  cases o with
  | eq => exact cmpEq_sound hA r va vb
  | ne => exact cmpNe_sound hA r va vb
  | lt => exact ord_sound r va vb fun i j t u Q E h => P.lt_int h
  | le => exact ord_sound r va vb fun i j t u Q E h => P.le_int h
  | gt => exact ord_sound r va vb fun i j t u Q E h => P.gt_int h
  | ge => exact ord_sound r va vb fun i j t u Q E h => P.ge_int h
  | is => exact isv_sound (f := id) r va vb (fun Q E h => is_none_none h) (fun x Q E hn h => is_none_ne hn h) fun p q Q E h => is_bool h
  | isNot => exact isv_sound (f := (!·)) r va vb (fun Q E h => isnot_none_none h) (fun x Q E hn h => isnot_none_ne hn h) fun p q Q E h => isnot_bool h
  | isin => exact (isin_sound hA r va vb).1
  | notin => exact (isin_sound hA r va vb).2
end
end Mine

namespace Mine
open PySem PyProof.Rows

/-! the set of some texts -/
noncomputable def metS (ys : List Str) (i : Nat) : List Str := dedupS (ys.take i)
noncomputable def putS (a : List Str) (x : Str) : List Str := if a.any (· == x) then a else a ++ [x]
theorem metS_succ {ys : List Str} {i : Nat} {y : Str} (h : ys[i]? = some y) : metS ys (i + 1) = putS (metS ys i) y := by
  unfold metS dedupS
  rw [List.take_add_one, h, Option.toList_some, List.foldl_append]; rfl
theorem putS_any (a : List Str) (v k : Str) : (putS a v).any (· == k) = (a.any (· == k) || decide (k = v)) := by
  unfold putS
  by_cases h : a.any (· == v) = true
  · rw [if_pos h]
    by_cases e : k = v
    · subst e; rw [h]; rfl
    · simp [e]
  · rw [if_neg h, List.any_append]
    congr 1
    by_cases e : k = v
    · subst e; simp
    · have : (v == k) = false := by simpa using fun q : v = k => e q.symm
      simp [e, this]
theorem putS_length (a : List Str) (v : Str) : (putS a v).length = if a.any (· == v) then a.length else a.length + 1 := by
  unfold putS; split <;> simp
theorem dedupS_le (l : List Str) : (dedupS l).length ≤ l.length := by
  unfold dedupS
  have : ∀ (l a : List Str), (l.foldl putS a).length ≤ a.length + l.length := by
    intro l
    induction l with
    | nil => intro a; simp
    | cons x l ih =>
      intro a
      have h1 := ih (putS a x)
      have h2 := putS_length a x
      rw [List.foldl_cons, List.length_cons]
      split at h2 <;> omega
  have h := this l []
  rw [List.length_nil, Nat.zero_add] at h
  exact h
theorem metS_le (ys : List Str) (i : Nat) : (metS ys i).length ≤ i := Nat.le_trans (dedupS_le _) (by rw [List.length_take]; exact Nat.min_le_left _ _)

theorem strs_at : ∀ {vs : List Value} {ys : List Str}, StrsAre vs ys → ∀ (i : Nat) (v : Value), vs[i]? = some v → ∃ y t, ys[i]? = some y ∧ v = .str y t
  | _, _, .nil, i, v, h => by simp at h
  | _, _, .cons y t r, 0, v, h => by simp at h; exact ⟨y, t, rfl, h.symm⟩
  | _, _, .cons y t r, i + 1, v, h => by simpa using strs_at r i v (by simpa using h)
theorem strs_len : ∀ {vs : List Value} {ys : List Str}, StrsAre vs ys → vs.length = ys.length
  | _, _, .nil => rfl
  | _, _, .cons _ _ r => by simp [strs_len r]

section
variable {prog : Program} {w : World} {A : Around} {R : Result → Shared → Prop} {I : Addr} {fp wr : List Addr} {G : Array GenState → Array GenState → Prop} {n : Nat} {P : Nat → Value → Prop} {St : Nat → Shared → Prop}

theorem set_fill (W : WalksS prog w A.in1 I fp wr G n P St) (S : Addr) (hSf : S ∉ fp) (ys : List Str) (hval : ∀ i v, P i v → ∃ y t, ys[i]? = some y ∧ v = .str y t) (hb : n + 1 < scanBound) :
    ∀ (k i : Nat) (s : Shared), n - i = k → i ≤ n → St i s → s.heap.SetOf (strKind prog w) S (fun z => (metS ys i).any (· == z)) (metS ys i).length →
      (∀ s', Moved (S :: wr) G s s' → s'.heap.SetOf (strKind prog w) S (fun z => (metS ys n).any (· == z)) (metS ys n).length → R (.ok (.ret .none)) s') →
      codeAny (model prog w) A (.builtin "set.update.loop" ⟨[.ref S, .ref I], []⟩) R s := by
  have hSw : S ∉ wr := fun h => hSf (W.sub _ h)
  have hsub : ∀ b ∈ wr, b ∈ S :: wr := fun b hb => List.mem_cons_of_mem _ hb
  have stay : ∀ {s s' : Shared} {i : Nat}, Moved wr G s s' → s.heap.SetOf (strKind prog w) S (fun z => (metS ys i).any (· == z)) (metS ys i).length → s'.heap.SetOf (strKind prog w) S (fun z => (metS ys i).any (· == z)) (metS ys i).length := by
    intro s s' i hm hS
    obtain ⟨o, es, ep, t, ho, rest⟩ := hS
    exact ⟨o, es, ep, t, hm.heap S _ hSw ho, rest⟩
  intro k
  induction k with
  | zero =>
    intro i s hk hi hst hS hR
    have : i = n := by omega
    subst this
    refine codeAny_builtin F.entry_set_update_loop ?_
    rw [Around.under_plainId F.plain_set_update_loop _]
    show wpAny _ A.in1 (pyNext (.ref I) >>= _) _ _ s
    refine wpAny_bind (W.done s _ _ hst fun s' hm => ?_)
    exact wpAny_pure (hR s' (hm.mono hsub) (stay hm hS))
  | succ k ih =>
    intro i s hk hi hst hS hR
    have hlt : i < n := by omega
    refine codeAny_builtin F.entry_set_update_loop ?_
    rw [Around.under_plainId F.plain_set_update_loop _]
    show wpAny _ A.in1 (pyNext (.ref I) >>= _) _ _ s
    refine wpAny_bind (W.item i s _ _ hlt hst fun v s' hP hst' hm => ?_)
    obtain ⟨y, t, hy, rfl⟩ := hval i v hP
    show wpAny _ A.in1 (holding [Value.str y t] (setAdd S (.str y t)) >>= _) _ _ s'
    refine wpAny_bind (wpAny_holding ?_)
    unfold setAdd
    refine wpAny_holding (wpAny_bind ((strKind prog w).pyHash (k := y) (strKind_is _ _ _ _) ?_))
    have hS' : s'.heap.SetOf (strKind prog w) S (fun z => (metS ys i).any (· == z)) (metS ys i).length := stay hm hS
    refine wpAny_setAddHashed_of (knd := strKind prog w) (s := { s' with toks := s'.toks + 1 }) (strKind_is _ _ _ _) rfl hS' (by have := metS_le ys i; omega) fun h' hsb hS2 => ?_
    have hSi : h'.SetOf (strKind prog w) S (fun z => (metS ys (i + 1)).any (· == z)) (metS ys (i + 1)).length :=
      SetOf_congr hS2 (fun z => by rw [metS_succ hy, putS_any]) (by rw [metS_succ hy, putS_length])
    refine wpAny_pure ⟨plainId_quiet F.plain_set_update_loop _, ih (i + 1) _ (by omega) hlt (W.frame _ s' _ _ hst' (Nat.le_succ _) fun b hb o e => ?_) hSi fun s'' hm'' hS'' => ?_⟩
    · rw [hsb.2 b (fun h : b = S => hSf (h ▸ hb))]; exact e
    · refine hR s'' (Moved.trans W.gtrans ((hm.mono hsub).then_heap (Nat.le_succ _) fun b o hb e => ?_) hm'') hS''
      rw [hsb.2 b (fun h : b = S => hb (by rw [h]; exact List.mem_cons_self))]; exact e
end

theorem sub_tuple_set : isSubtype (.type "tuple") (.type "set") = pure false := by rw [isSubtype_type]; kernel_rfl
theorem sub_tuple_frozenset : isSubtype (.type "tuple") (.type "frozenset") = pure false := by rw [isSubtype_type]; kernel_rfl

section
variable {prog : Program} {w : World} {A : Around} {E : Value → Shared → Prop} {s : Shared}

set_option maxHeartbeats 1600000 in
/-- the middle of `set(x)`: from the new empty set on -/
theorem set_init {l : Addr} {T : String} {items : Array Value} {n : Nat} {ys : List Str} {led : Bool} {Q : Value → Shared → Prop} (hh : A.handled = none) (hT : T = "list" ∨ T = "tuple")
    (ho : s.heap.get? l = some { cls := .type T, data := .seq items n }) (hi : StrsAre items.toList ys) (hb : items.size + 1 < scanBound)
    (h : ∀ (h' : Heap) (tk : Nat), h'.SetOf (strKind prog w) s.heap.objs.size (fun z => (dedupS ys).any (· == z)) (dedupS ys).length → (∀ b o, b < s.heap.objs.size → s.heap.get? b = some o → h'.get? b = some o) → Q .none { s with heap := h', toks := tk }) :
    codeAny (model prog w) A (.call (.builtin "set.__init__") ⟨[.ref s.heap.objs.size, .ref l], []⟩) (wants Q E) { s with heap := s.heap.push { cls := .type "set", dict := none, data := .set #[] 0 (.fresh 0 0 led) } } := by
  have hS : (s.heap.push { cls := .type "set", dict := none, data := .set #[] 0 (.fresh 0 0 led) }).get? s.heap.objs.size = some { cls := .type "set", dict := none, data := .set #[] 0 (.fresh 0 0 led) } := Heap.get?_push_size _ rfl
  have hTs : Shared.TypeIs { s with heap := s.heap.push { cls := .type "set", dict := none, data := .set #[] 0 (.fresh 0 0 led) } } (.ref s.heap.objs.size) "set" := ⟨_, hS, rfl⟩
  have hlS : l < s.heap.objs.size := Heap.lt_size ho
  have hol : (s.heap.push { cls := .type "set", dict := none, data := .set #[] 0 (.fresh 0 0 led) }).get? l = some { cls := .type T, data := .seq items n } := Heap.get?_push_of_some _ ho
  have hlen : (ys.take items.size) = ys := List.take_of_length_le (by rw [← strs_len hi]; simp)
  have hmet : metS ys items.size = dedupS ys := by unfold metS; rw [hlen]
  have hh3 : A.in1.in1.handled = none := by simp [hh]
  have hneI : l ≠ (s.heap.push { cls := .type "set", dict := none, data := .set #[] 0 (.fresh 0 0 led) }).objs.size := by
    rw [Heap.size_push]; exact Nat.ne_of_lt (Nat.lt_succ_of_lt hlS)
  have hSf : s.heap.objs.size ∉ [(s.heap.push { cls := .type "set", dict := none, data := .set #[] 0 (.fresh 0 0 led) }).objs.size, l] := by
    rw [Heap.size_push]; simp only [List.mem_cons, List.not_mem_nil, or_false, not_or]
    exact ⟨Nat.ne_of_lt (Nat.lt_succ_self _), Nat.ne_of_gt hlS⟩
  have hval : ∀ (i : Nat) (v : Value), items[i]? = some v → ∃ y t, ys[i]? = some y ∧ v = .str y t := fun i v hv => strs_at hi i v (by rw [Array.getElem?_toList]; exact hv)
  have fin : ∀ (s' : Shared) (wr : List Addr), (∀ b ∈ wr, b = s.heap.objs.size ∨ b = (s.heap.push { cls := .type "set", dict := none, data := .set #[] 0 (.fresh 0 0 led) }).objs.size) → ∀ (h1 : Heap), (∀ b o, s.heap.get? b = some o → h1.get? b = some o) →
      Moved wr (fun a b => b = a) { s with heap := h1 } s' → s'.heap.SetOf (strKind prog w) s.heap.objs.size (fun z => (metS ys items.size).any (· == z)) (metS ys items.size).length → Q .none s' := by
    intro s' wr hwr h1 hk hm hS'
    obtain ⟨h', g', d', tk', os'⟩ := s'
    have eg : g' = s.gens := hm.gens
    have ed : d' = s.drawn := hm.drawn
    have eo : os' = s.os := hm.os
    subst eg; subst ed; subst eo
    refine h h' tk' (hmet ▸ hS') fun b o hb e => hm.heap b o (fun q => ?_) (hk b o e)
    rcases hwr b q with q | q
    · exact absurd q (Nat.ne_of_lt hb)
    · rw [Heap.size_push] at q
      exact absurd q (Nat.ne_of_lt (Nat.lt_succ_of_lt hb))
  have start : ∀ (c : String), Heap.SetOf (strKind prog w) ((s.heap.push { cls := .type "set", dict := none, data := .set #[] 0 (.fresh 0 0 led) }).push { cls := .type c, data := .fields #[.ref l, .int 0 0] }) s.heap.objs.size (fun z => (metS ys 0).any (· == z)) (metS ys 0).length := fun c =>
    SetOf_congr ((setObjOf_fresh (knd := strKind prog w) led).setOf (Heap.get?_push_of_some _ hS) (by unfold scanBound; omega)) (fun _ => rfl) rfl
  refine codeAny_call_builtin F.called_set.init.plain F.entry_set_init (check_set_init_1 hTs ?_)
  rcases hT with rfl | rfl
  · have hsls := F.sub_list_set
    have hslf := F.sub_list_frozenset
    have hne : (Value.type "list" == Value.type "dict") = false := by decide
    have hl1 : (s.heap.push { cls := .type "set", dict := none, data := .set #[] 0 (.fresh 0 0 led) }).IsList l items := ⟨_, hol, rfl, n, rfl⟩
    unfold Builtin.«set.__init__» noKeywords Builtin.Frozenset.updateFrom
    generalize hPI : pyIter = PI
    wp_walk
    subst hPI
    refine wpAny_pyIter_list hl1 (wpAny_bind (wpAny_runValue ?_))
    refine set_fill ((Walks.list hh3 _ l hneI items).toS) s.heap.objs.size hSf ys hval hb (items.size - 0) 0 _ (by omega) (Nat.zero_le _) ?hst ?hS0 ?hR
    case hst => exact ⟨⟨_, Heap.get?_push_size _ rfl, rfl, rfl⟩, hl1.push _⟩
    case hS0 => exact start _
    case hR =>
    intro s' hm hS'
    show wpAny _ _ _ _ _ _
    refine wpAny_pure ?_
    show wpAny _ _ (ret Value.none) _ _ _
    refine wpAny_pure ?_
    refine fin s' _ ?_ _ (fun b o e => Heap.get?_push_of_some _ (Heap.get?_push_of_some _ e)) hm hS'
    intro b hb
    rcases List.mem_cons.mp hb with q | q
    · exact .inl q
    · exact .inr (List.mem_singleton.mp q)
  · have hsls := sub_tuple_set
    have hslf := sub_tuple_frozenset
    have hne : (Value.type "tuple" == Value.type "dict") = false := by decide
    have hl1 : (s.heap.push { cls := .type "set", dict := none, data := .set #[] 0 (.fresh 0 0 led) }).IsTuple l items := ⟨_, hol, rfl, n, rfl⟩
    unfold Builtin.«set.__init__» noKeywords Builtin.Frozenset.updateFrom
    generalize hPI : pyIter = PI
    wp_walk
    subst hPI
    refine wpAny_pyIter_tuple hl1 (wpAny_bind (wpAny_runValue ?_))
    refine set_fill ((Walks.tuple hh3 _ l hneI items).toS) s.heap.objs.size hSf ys hval hb (items.size - 0) 0 _ (by omega) (Nat.zero_le _) ?hst2 ?hS2 ?hR2
    case hst2 => exact ⟨⟨_, Heap.get?_push_size _ rfl, rfl, rfl⟩, ⟨_, Heap.get?_push_of_some _ hol, rfl, n, rfl⟩⟩
    case hS2 => exact start _
    case hR2 =>
    intro s' hm hS'
    show wpAny _ _ _ _ _ _
    refine wpAny_pure ?_
    show wpAny _ _ (ret Value.none) _ _ _
    refine wpAny_pure ?_
    refine fin s' _ ?_ _ (fun b o e => Heap.get?_push_of_some _ (Heap.get?_push_of_some _ e)) hm hS'
    intro b hb
    rcases List.mem_cons.mp hb with q | q
    · exact .inl q
    · exact .inr (List.mem_singleton.mp q)

set_option maxRecDepth 100000 in
set_option maxHeartbeats 3200000 in
theorem call_set_strs {l : Addr} {T : String} {items : Array Value} {n : Nat} {ys : List Str} {Q : Value → Shared → Prop} (hh : A.handled = none) (hT : T = "list" ∨ T = "tuple")
    (ho : s.heap.get? l = some { cls := .type T, data := .seq items n }) (hi : StrsAre items.toList ys) (hb : items.size + 1 < scanBound)
    (h : ∀ (h' : Heap) (tk : Nat), h'.SetOf (strKind prog w) s.heap.objs.size (fun z => (dedupS ys).any (· == z)) (dedupS ys).length → (∀ b o, b < s.heap.objs.size → s.heap.get? b = some o → h'.get? b = some o) → Q (.ref s.heap.objs.size) { s with heap := h', toks := tk }) :
    wpAny (model prog w) A (call (.type "set") [.ref l]) Q E s := by
  obtain ⟨c, tl, hmro⟩ := F.called_set.mro
  have hmade := F.called_set.made
  have hsub := F.called_set.sub
  refine wpAny_call (codeAny_of_tree ?_)
  show wpAny _ _ (callAny (.type "set") _) _ _ _
  refine wpAny_pure ⟨Code.quiet_builtin _ (by decide +kernel), codeAny_builtin F.entry_type_call ?_⟩
  rw [Around.under_plain (weight_type_call_type "set" [.ref l] []) rfl]
  have h1 := F.called_set.notType
  have h2 := F.called_set.canCreate
  have hct := F.typeCall_set_1 (.ref l)
  repeat (any_goals (first | assumption | wp_step))
  refine codeAny_mono (code_set_new_1 (.ref l) (E := E) (Q₁ := fun obj s₁ => ∃ led : Bool, obj = .ref s.heap.objs.size ∧ s₁ = { s with heap := s.heap.push { cls := .type "set", dict := none, data := .set #[] 0 (.fresh 0 0 led) } }) fun led => ⟨led, rfl, rfl⟩) fun r s₁ hr => ?_
  cases r with
  | error e => exact hr
  | ok fl =>
    cases fl with
    | ret obj =>
      obtain ⟨led, rfl, rfl⟩ := hr
      have hS : (s.heap.push { cls := .type "set", dict := none, data := .set #[] 0 (.fresh 0 0 led) }).get? s.heap.objs.size = some { cls := .type "set", dict := none, data := .set #[] 0 (.fresh 0 0 led) } := Heap.get?_push_size _ rfl
      have hTy : Shared.TypeIs { s with heap := s.heap.push { cls := .type "set", dict := none, data := .set #[] 0 (.fresh 0 0 led) } } (.ref s.heap.objs.size) "set" := ⟨_, hS, rfl⟩
      have hli := F.called_set.init.lookup
      have hbi := F.called_set.init.bind (.ref s.heap.objs.size)
      repeat (any_goals (first | assumption | wp_step))
      refine codeAny_mono (set_init (led := led) (E := E) (Q := fun r s₂ => r = .none ∧ ∃ h' tk, s₂ = { s with heap := h', toks := tk } ∧
          h'.SetOf (strKind prog w) s.heap.objs.size (fun z => (dedupS ys).any (· == z)) (dedupS ys).length ∧ (∀ b o, b < s.heap.objs.size → s.heap.get? b = some o → h'.get? b = some o)) (by simp [hh]) hT ho hi hb fun h' tk hS' hk => ⟨rfl, h', tk, rfl, hS', hk⟩) fun r₂ s₂ hr₂ => ?_
      cases r₂ with
      | error e => exact hr₂
      | ok fl₂ =>
        cases fl₂ with
        | ret r =>
          obtain ⟨rfl, h', tk, rfl, hS', hk'⟩ := hr₂
          repeat (any_goals (first | assumption | wp_step))
          exact h _ _ hS' hk'
        | _ => exact hr₂.elim
    | _ => exact hr.elim
end
end Mine

namespace Mine
open PySem PyProof.Rows

theorem allInts_are {h : Heap} {α : AL} : ∀ {xs : List PV} {l : List Int} {items : List Value}, allInts xs = some l → VRs h α xs items → IntsAre items l
  | [], l, items, e, v => by
    cases e
    have : items = [] := List.eq_nil_of_length_eq_zero v.1.symm
    rw [this]; exact .nil
  | x :: xs, l, items, e, v => by
    obtain ⟨u, us, rfl, v1, v2⟩ := v.inv_cons
    cases x with
    | int i =>
      cases v1
      simp only [allInts] at e
      cases hr : allInts xs with
      | none => rw [hr] at e; cases e
      | some l' => rw [hr] at e; cases e; exact .cons _ _ (allInts_are hr v2)
    | _ => simp [allInts] at e

theorem allStrs_are {h : Heap} {α : AL} : ∀ {xs : List PV} {l : List Str} {items : List Value}, allStrs xs = some l → VRs h α xs items → StrsAre items l
  | [], l, items, e, v => by
    cases e
    have : items = [] := List.eq_nil_of_length_eq_zero v.1.symm
    rw [this]; exact .nil
  | x :: xs, l, items, e, v => by
    obtain ⟨u, us, rfl, v1, v2⟩ := v.inv_cons
    cases x with
    | str i =>
      cases v1
      simp only [allStrs] at e
      cases hr : allStrs xs with
      | none => rw [hr] at e; cases e
      | some l' => rw [hr] at e; cases e; exact .cons _ _ (allStrs_are hr v2)
    | _ => simp [allStrs] at e
theorem strOk_ofString (x : String) : PyData.strOk (Str.ofString x) = true := by
  rw [Str.ofString_eq_toList]
  unfold PyData.strOk
  rw [Array.all_eq_true']
  intro c hc
  simp at hc
  obtain ⟨d, _, rfl⟩ := hc
  have := d.valid
  simp only [decide_eq_true_eq]
  rcases this with h | ⟨_, h⟩
  · exact Nat.lt_trans h (by decide)
  · exact h
theorem small_log {i : Int} (h : 0 ≤ i ∧ i < 1000000000) : i.natAbs.log2 < 1920 := by
  by_cases h0 : i.natAbs = 0
  · rw [h0]; decide
  · rw [Nat.log2_lt h0]
    exact Nat.lt_of_lt_of_le (show i.natAbs < 1000000000 by omega) (Nat.le_trans (show 1000000000 ≤ 2 ^ 30 by decide) (Nat.pow_le_pow_right (by decide) (by decide)))

theorem intsAre_items : ∀ {items : List Value} {l : List Int}, IntsAre items l → ∃ xs : Array (Int × Tok), items.toArray = intItems xs ∧ xs.toList.map (·.1) = l
  | _, _, .nil => ⟨#[], by simp [intItems], rfl⟩
  | _, _, .cons n t r => by
    obtain ⟨xs, e1, e2⟩ := intsAre_items r
    refine ⟨⟨(n, t) :: xs.toList⟩, ?_, by simp [e2]⟩
    have : intItems xs = ⟨_⟩ := e1.symm
    simp only [intItems] at e1 ⊢
    rw [← Array.toList_inj] at e1 ⊢
    simp at e1 ⊢
    exact e1

section
variable {K : Kt} {A : Around} {s : Shared} {α : AL} {σ : Sto}

theorem isL {a : Addr} {items : List Value} {n : Nat} (e : s.heap.get? a = some { cls := .type "list", data := .seq items.toArray n }) : s.heap.IsList a items.toArray := ⟨_, e, rfl, n, rfl⟩
theorem isT {a : Addr} {items : List Value} {n : Nat} (e : s.heap.get? a = some { cls := .type "tuple", data := .seq items.toArray n }) : IsTup s.heap a items.toArray := ⟨_, e, rfl, n, rfl⟩

noncomputable def b1Val : B1 → Value
  | .len => .builtin "len" | .list _ => .type "list" | .tuple => .type "tuple" | .sum => .builtin "sum" | .min => .builtin "min" | .max => .builtin "max"
  | .sorted => .builtin "sorted" | .all => .builtin "all" | .any => .builtin "any" | .int => .type "int" | .str => .type "str" | .lenset => .none

theorem foldl_min_le : ∀ (l : List Int) (x : Int), (∀ a ∈ x :: l, l.foldl min x ≤ a) ∧ l.foldl min x ∈ x :: l
  | [], x => by simp
  | y :: l, x => by
    obtain ⟨h1, h2⟩ := foldl_min_le l (min x y)
    simp only [List.foldl_cons]
    constructor
    · intro a ha
      simp only [List.mem_cons] at ha h1
      rcases ha with rfl | rfl | ha
      · have := h1 _ (.inl rfl); omega
      · have := h1 _ (.inl rfl); omega
      · exact h1 _ (.inr ha)
    · simp only [List.mem_cons] at h2 ⊢
      rcases h2 with h2 | h2
      · rw [h2]; omega
      · exact .inr (.inr h2)
theorem foldl_max_ge : ∀ (l : List Int) (x : Int), (∀ a ∈ x :: l, a ≤ l.foldl max x) ∧ l.foldl max x ∈ x :: l
  | [], x => by simp
  | y :: l, x => by
    obtain ⟨h1, h2⟩ := foldl_max_ge l (max x y)
    simp only [List.foldl_cons]
    constructor
    · intro a ha
      simp only [List.mem_cons] at ha h1
      rcases ha with rfl | rfl | ha
      · have := h1 _ (.inl rfl); omega
      · have := h1 _ (.inl rfl); omega
      · exact h1 _ (.inr ha)
    · simp only [List.mem_cons] at h2 ⊢
      rcases h2 with h2 | h2
      · rw [h2]; omega
      · exact .inr (.inr h2)
theorem min_unique {l : List Int} {a b : Int} (h1 : a ∈ l) (h2 : ∀ x ∈ l, a ≤ x) (h3 : b ∈ l) (h4 : ∀ x ∈ l, b ≤ x) : a = b := by
  have := h2 b h3; have := h4 a h1; omega
theorem max_unique {l : List Int} {a b : Int} (h1 : a ∈ l) (h2 : ∀ x ∈ l, x ≤ a) (h3 : b ∈ l) (h4 : ∀ x ∈ l, x ≤ b) : a = b := by
  have := h2 b h3; have := h4 a h1; omega

theorem len_fit {n : Nat} (h : n ≤ 2 ^ 40) : ((n : Nat) : Int) < 2 ^ 63 := by omega

theorem sumFits_of {l : List Int} (h1 : l.length ≤ 1000) (h2 : l.all (fun x => decide (x.natAbs < 2 ^ 40)) = true) : ∀ j, j < l.length → InLong (l.getD j 0) ∧ InLong ((l.take (j + 1)).sum) := by
  have key : ∀ (m : List Int), (∀ x ∈ m, x.natAbs < 2 ^ 40) → m.sum.natAbs ≤ m.length * 2 ^ 40 := by
    intro m
    induction m with
    | nil => intro _; simp
    | cons x m ih =>
      intro h
      have h3 := h x (by simp)
      have h4 := ih fun y hy => h y (by simp [hy])
      rw [List.sum_cons, List.length_cons, Nat.add_mul]
      omega
  intro j hj
  have hall : ∀ x ∈ l, x.natAbs < 2 ^ 40 := fun x hx => by simpa using List.all_eq_true.mp h2 x hx
  constructor
  · have := hall _ (getD_mem hj)
    unfold InLong; omega
  · have h5 := key (l.take (j + 1)) fun x hx => hall x (List.mem_of_mem_take hx)
    have h6 : (l.take (j + 1)).length ≤ 1000 := by rw [List.length_take]; omega
    have h7 : (l.take (j + 1)).length * 2 ^ 40 ≤ 1000 * 2 ^ 40 := Nat.mul_le_mul_right _ h6
    unfold InLong; omega

theorem seq_is {a : PV} {x : Value} {xs : List PV} (r : R K.hb s.heap σ α) (va : VR s.heap α a x) (e : seqItems σ a = some xs) :
    ∃ l T vs n, x = .ref l ∧ (T = "list" ∨ T = "tuple") ∧ s.heap.get? l = some { cls := .type T, data := .seq (List.toArray vs) n } ∧ VRs s.heap α xs vs ∧ (T = "tuple" → a = .tup xs) := by
  cases a with
  | fl ys => cases e; obtain ⟨l, vs, n, rfl, e1, _, v⟩ := va.flE; exact ⟨l, _, vs, n, rfl, .inl rfl, e1, v, fun h => by simp at h⟩
  | tup ys => cases e; obtain ⟨l, vs, n, rfl, e1, _, v⟩ := va.tupE; exact ⟨l, _, vs, n, rfl, .inr rfl, e1, v, fun _ => rfl⟩
  | ref i =>
    cases va with
    | @ref _ l el =>
      simp only [seqItems] at e
      cases hs : σ[i]? with
      | none => rw [hs] at e; cases e
      | some m =>
        rw [hs] at e
        cases m with
        | lst ys => cases e; obtain ⟨vs, n, e1, v⟩ := r.obj i _ l hs el; exact ⟨l, _, vs, n, rfl, .inl rfl, e1, v, fun h => by simp at h⟩
        | _ => cases e
  | _ => cases e

theorem Post.list {fz : Bool} {xs : List PV} {vs : List Value} {D : Addr} {h' : Heap} {n tk : Nat} (hl : xs.length ≤ lim) (r : R K.hb s.heap σ α) (v : VRs s.heap α xs vs) (k : ∀ b o, s.heap.get? b = some o → h'.get? b = some o)
    (hD : s.heap.get? D = none) (e : h'.get? D = some { cls := .type "list", data := .seq vs.toArray n }) : Post K VR (mkLst fz xs σ) s α (.ref D) { s with heap := h', toks := tk } := by
  unfold mkLst
  rw [if_pos hl]
  cases fz with
  | true =>
    refine ⟨_, _, _, rfl, .keeps k, r.keeps k, ?_, ⟨rfl, rfl⟩⟩
    refine VR.flI e (fun hm => ?_) (v.ext (.keeps (F := []) k))
    obtain ⟨o, e⟩ := r.liveAll hm; rw [hD] at e; cases e
  | false =>
    obtain ⟨r', x⟩ := r.add (D := D) (m := .lst xs) k hD ⟨vs, n, e, v.ext (.add k hD)⟩
    refine ⟨_, _, _, rfl, x, r', .ref ?_, ⟨rfl, rfl⟩⟩
    rw [r.len]; simp [AL.add]
theorem mkLst_lim {fz : Bool} {xs : List PV} (h : mkLst fz xs σ ≠ .stuck) : xs.length ≤ lim := by
  unfold mkLst at h
  by_cases hl : xs.length ≤ lim
  · exact hl
  · rw [if_neg hl] at h; exact absurd rfl h

theorem list_call_sound {fz : Bool} {a : PV} {x : Value} (r : R K.hb s.heap σ α) (va : VR s.heap α a x) :
    Runs K VR A (call (.type "list") [x]) (b1v (.list fz) a σ) s α := by
  intro hc
  cases he : seqItems σ a with
  | none => exact absurd (show (match seqItems σ a with | some xs => mkLst fz xs σ | none => .stuck) = .stuck by rw [he]) hc
  | some xs =>
    have e0 : b1v (.list fz) a σ = mkLst fz xs σ := show (match seqItems σ a with | some xs => mkLst fz xs σ | none => .stuck) = _ by rw [he]
    rw [e0] at hc ⊢
    have hl := mkLst_lim hc
    obtain ⟨l, T, vs, n, rfl, hT, e1, v, _⟩ := seq_is r va he
    refine call_list_seq l hT e1 rfl rfl (fun h' c' k e => ?_) (by simpa [← v.1] using lim_line hl)
    exact Post.list (tk := s.toks) hl r v k (none_at s) e

theorem sort_unique {l m : List Int} (h1 : m.Perm l) (h2 : m.Pairwise (· ≤ ·)) : m = sortInts l := by
  unfold sortInts
  refine List.Perm.eq_of_pairwise (le := fun a b => decide (a ≤ b)) (fun a b _ _ h1 h2 => ?_) (h2.imp fun h => by simpa using h) (List.pairwise_mergeSort (fun a b c h1 h2 => ?_) (fun a b => ?_) l) (h1.trans (List.mergeSort_perm l _).symm)
  · simp at h1 h2; omega
  · simp at h1 h2 ⊢; omega
  · simp; omega

theorem intsAre_vrs {h : Heap} : ∀ {vs : List Value} {l : List Int}, IntsAre vs l → VRs h α (l.map .int) vs
  | _, _, .nil => .nil
  | _, _, .cons n t r => .cons (.int n t) (intsAre_vrs r)

theorem lim63 {n : Nat} (h : n ≤ lim) : ((n : Nat) : Int) < 2 ^ 63 := by
  have : lim = 1000000 := rfl
  omega

theorem allBools_at {h : Heap} : ∀ {xs : List PV} {l : List Bool} {vs : List Value}, allBools xs = some l → VRs h α xs vs → vs = l.map .bool
  | [], l, vs, e, v => by cases e; exact List.eq_nil_of_length_eq_zero v.1.symm
  | x :: xs, l, vs, e, v => by
    obtain ⟨u, us, rfl, v1, v2⟩ := v.inv_cons
    cases x with
    | bool b =>
      cases v1
      simp only [allBools] at e
      cases hr : allBools xs with
      | none => rw [hr] at e; cases e
      | some l' => rw [hr] at e; cases e; rw [allBools_at hr v2]; rfl
    | _ => simp [allBools] at e

theorem range_all (l : List Bool) : (List.range l.length).all (fun i => l.getD i false) = l.all id := by
  induction l with
  | nil => rfl
  | cons b l ih => rw [List.length_cons, List.range_succ_eq_map, List.all_cons, List.all_map, List.all_cons, ← ih]; rfl
theorem range_any (l : List Bool) : (List.range l.length).any (fun i => l.getD i false) = l.any id := by
  induction l with
  | nil => rfl
  | cons b l ih => rw [List.length_cons, List.range_succ_eq_map, List.any_cons, List.any_map, List.any_cons, ← ih]; rfl

theorem keeps_push {o : Obj} {h' : Heap} (hk : ∀ b o', b ∉ [s.heap.objs.size] → (s.heap.push o).get? b = some o' → h'.get? b = some o') : ∀ b o', s.heap.get? b = some o' → h'.get? b = some o' :=
  fun b o' e => hk b o' (by simp; exact Nat.ne_of_lt (Heap.lt_size e)) (Heap.get?_push_of_some _ e)

theorem bools_truth (bs : List Bool) : TruthOf K.prog K.w A.in1 (fun i v => (bs.map Value.bool).toArray[i]? = some v) (fun i => bs.getD i false) := fun i v s' Q' E' hP hQ => by
  simp only [List.getElem?_toArray, List.getElem?_map] at hP
  obtain ⟨b, hb, rfl⟩ := Option.map_eq_some_iff.mp hP
  refine wpAny_truthy_bool ?_
  have : bs.getD i false = b := by simp [List.getD, hb]
  rw [← this]; exact hQ
theorem bools_start {l : Addr} {bs : List Bool} {n : Nat} (e1 : s.heap.get? l = some { cls := .type "list", data := .seq (bs.map Value.bool).toArray n }) :
    (s.heap.push { cls := .type "list_iterator", data := .fields #[.ref l, .int 0 0] }).IsListIter s.heap.objs.size l 0 ∧ (s.heap.push { cls := .type "list_iterator", data := .fields #[.ref l, .int 0 0] }).IsList l (bs.map Value.bool).toArray :=
  ⟨⟨_, Heap.get?_push_size _ rfl, rfl, rfl⟩, ⟨_, Heap.get?_push_of_some _ e1, rfl, n, rfl⟩⟩
theorem all_raw {l : Addr} {bs : List Bool} {n : Nat} {Q : Value → Shared → Prop} {E : Value → Shared → Prop} (hA : AOk A) (e1 : s.heap.get? l = some { cls := .type "list", data := .seq (bs.map Value.bool).toArray n })
    (h : ∀ h' tk, (∀ b o', s.heap.get? b = some o' → h'.get? b = some o') → Q (.bool (bs.all id)) { s with heap := h', toks := tk }) : wpAny (model K.prog K.w) A (call (.builtin "all") [.ref l]) Q E s := by
  refine call_all_walk (wpAny_pyIter_list (isL e1) ⟨_, _, _, _, _, _, _, rfl, Walks.list (A := A.in1) hA.handled _ l (Nat.ne_of_lt (Heap.lt_size e1)) (bs.map Value.bool).toArray, bools_start e1, bools_truth bs, fun h' tk hk => ?_⟩)
  have := h h' tk (keeps_push hk)
  rw [show (bs.map Value.bool).toArray.size = bs.length by simp, range_all]; exact this
theorem any_raw {l : Addr} {bs : List Bool} {n : Nat} {Q : Value → Shared → Prop} {E : Value → Shared → Prop} (hA : AOk A) (e1 : s.heap.get? l = some { cls := .type "list", data := .seq (bs.map Value.bool).toArray n })
    (h : ∀ h' tk, (∀ b o', s.heap.get? b = some o' → h'.get? b = some o') → Q (.bool (bs.any id)) { s with heap := h', toks := tk }) : wpAny (model K.prog K.w) A (call (.builtin "any") [.ref l]) Q E s := by
  refine call_any_walk (wpAny_pyIter_list (isL e1) ⟨_, _, _, _, _, _, _, rfl, Walks.list (A := A.in1) hA.handled _ l (Nat.ne_of_lt (Heap.lt_size e1)) (bs.map Value.bool).toArray, bools_start e1, bools_truth bs, fun h' tk hk => ?_⟩)
  have := h h' tk (keeps_push hk)
  rw [show (bs.map Value.bool).toArray.size = bs.length by simp, range_any]; exact this

/-- how many unlike texts -/
theorem lenset_raw {a : PV} {x : Value} {l : List Str} {Q : Value → Shared → Prop} {E : Value → Shared → Prop} (hA : AOk A) (r : R K.hb s.heap σ α) (va : VR s.heap α a x) (hl : (seqItems σ a).bind allStrs = some l) (hn : l.length ≤ 1000)
    (h : ∀ D h' tk, (∀ b o, s.heap.get? b = some o → h'.get? b = some o) → (∀ (Q' : Value → Shared → Prop) (E' : Value → Shared → Prop), (∀ t tk', Q' (.int (dedupS l).length t) { s with heap := h', toks := tk' }) → wpAny (model K.prog K.w) A (call (.builtin "len") [.ref D]) Q' E' { s with heap := h', toks := tk }) → Q (.ref D) { s with heap := h', toks := tk }) :
    wpAny (model K.prog K.w) A (call (.type "set") [x]) Q E s := by
  obtain ⟨xs, h1, h2⟩ := Option.bind_eq_some_iff.mp hl
  obtain ⟨ad, T, vs, n, rfl, hT, e1, v, _⟩ := seq_is r va h1
  have hS := allStrs_are h2 v
  have hlen : vs.length = l.length := strs_len hS
  refine call_set_strs hA.handled hT e1 (by simpa using hS) (by rw [List.size_toArray, hlen]; unfold scanBound; omega) fun h' tk hset hk => ?_
  refine h _ h' tk (fun b o e => hk b o (Heap.lt_size e) e) fun Q' E' hq => ?_
  obtain ⟨o, es, ep, t, ho, hex, hd, hel, hmem, hb, hf, hn'⟩ := hset
  refine call_len_set (s := { s with heap := h', toks := tk }) ho hex hd hf (by unfold scanBound at hb; omega) ?_
  rw [hn']; exact hq _ _

theorem b1v_sound {b : B1} {a : PV} {x : Value} (hb : b ≠ .lenset) (hA : AOk A) (r : R K.hb s.heap σ α) (va : VR s.heap α a x) :
    Runs K VR A (call (b1Val b) [x]) (b1v b a σ) s α := by
  cases b with
  | len =>
    intro hc
    by_cases hz : ∃ z, a = .str z
    · obtain ⟨z, rfl⟩ := hz
      cases va
      have e0 : b1v .len (.str z) σ = if z.length ≤ lim then .ok (.int z.length) σ else .stuck := rfl
      rw [e0] at hc ⊢
      by_cases hl : z.length ≤ lim
      · rw [if_pos hl]
        exact P.len_str (by have := lim63 hl; omega) (.here r (.int _ _))
      · rw [if_neg hl] at hc; exact absurd rfl hc
    · have e0 : b1v .len a σ = match seqItems σ a with
          | some xs => if xs.length ≤ lim then .ok (.int xs.length) σ else .stuck
          | none => .stuck := by
        cases a <;> first | rfl | exact absurd ⟨_, rfl⟩ hz
      rw [e0] at hc ⊢
      cases he : seqItems σ a with
      | none => rw [he] at hc; exact absurd rfl hc
      | some xs =>
        rw [he] at hc
        dsimp only at hc ⊢
        split at hc
        · rename_i hl; rw [if_pos hl]
          obtain ⟨l, T, vs, n, rfl, hT, e1, v, _⟩ := seq_is r va he
          have hs : (vs.toArray.size : Int) < 2 ^ 63 := by rw [List.size_toArray, ← v.1]; exact lim63 hl
          rcases hT with rfl | rfl
          · refine PyProof.Rows.len_list (isL e1) hs ?_
            simp only [List.size_toArray, ← v.1]; exact .here r (.int _ _)
          · refine PyProof.Rows.len_tuple (isT e1) hs ?_
            simp only [List.size_toArray, ← v.1]; exact .here r (.int _ _)
        · exact absurd rfl hc
  | list fz => exact list_call_sound r va
  | tuple =>
    intro hc
    have e0 : b1v .tuple a σ = match seqItems σ a with
        | some xs => if xs.length ≤ lim then .ok (.tup xs) σ else .stuck
        | none => .stuck := rfl
    rw [e0] at hc ⊢
    cases he : seqItems σ a with
    | none => rw [he] at hc; exact absurd rfl hc
    | some xs =>
      rw [he] at hc
      dsimp only at hc ⊢
      split at hc
      · rename_i hl; rw [if_pos hl]
        obtain ⟨l, T, vs, n, rfl, hT, e1, v, ht⟩ := seq_is r va he
        rcases hT with rfl | rfl
        · refine call_tuple_list (isL e1) (fun h' k => ?_) (by simpa [← v.1] using lim_line hl)
          have k' : ∀ b o, s.heap.get? b = some o → (h'.push { cls := .type "tuple", data := .seq vs.toArray }).get? b = some o := fun b o e => Heap.get?_push_of_some _ (k b o e)
          refine ⟨_, _, _, rfl, .keeps k', r.keeps k', ?_, ⟨rfl, rfl⟩⟩
          refine VR.tupI (n := 0) (Heap.get?_push_size _ rfl) (fun hm => ?_) (v.ext (.keeps (F := []) k'))
          obtain ⟨o, e⟩ := r.liveAll hm
          exact absurd (Heap.lt_size (k _ _ e)) (Nat.lt_irrefl _)
        · rw [ht rfl] at va
          exact call_tuple_tup (isT e1) ⟨_, _, _, rfl, .refl, r, va, .refl s⟩
      · exact absurd rfl hc
  | sum =>
    intro hc
    have e0 : b1v .sum a σ = match (asLst σ a).bind allInts with
        | some l => if l.length ≤ 1000 ∧ l.all (fun x => decide (x.natAbs < 2 ^ 40)) then .ok (.int l.sum) σ else .stuck
        | none => .stuck := by
      show onAll allInts _ a σ = _
      unfold onAll
      cases (asLst σ a).bind allInts with
      | none => rfl
      | some l => cases l <;> rfl
    rw [e0] at hc ⊢
    cases he : (asLst σ a).bind allInts with
    | none => rw [he] at hc; exact absurd rfl hc
    | some l =>
      rw [he] at hc
      dsimp only at hc ⊢
      split at hc
      · rename_i hl; rw [if_pos hl]
        obtain ⟨xs, h1, h2⟩ := Option.bind_eq_some_iff.mp he
        obtain ⟨ad, vs, n, rfl, e1, v⟩ := asLst_is r va h1
        obtain ⟨ys, h3, h4⟩ := intsAre_items (allInts_are h2 v)
        have hL := isL e1
        rw [h3] at hL
        refine sum_intList hA.handled hL (fun j hj => ?_) fun h' tk t' k => ?_
        · rw [numAt_eq, preSum_eq, h4]
          exact sumFits_of hl.1 hl.2 j (by rw [← h4]; simpa using hj)
        · rw [preSum_eq, h4, List.take_of_length_le (by rw [← h4]; simp)]
          exact ⟨_, _, _, rfl, .keeps k, r.keeps k, .int _ _, ⟨rfl, rfl⟩⟩
      · exact absurd rfl hc
  | min =>
    intro hc
    have e0 : b1v .min a σ = match (asLst σ a).bind allInts with
        | some l => (match l with
          | x :: l => .ok (.int (l.foldl min x)) σ
          | [] => .stuck)
        | none => .stuck := by
      show onAll allInts _ a σ = _
      unfold onAll
      cases (asLst σ a).bind allInts with
      | none => rfl
      | some l => cases l <;> rfl
    rw [e0] at hc ⊢
    cases he : (asLst σ a).bind allInts with
    | none => rw [he] at hc; exact absurd rfl hc
    | some l =>
      rw [he] at hc
      cases l with
      | nil => exact absurd rfl hc
      | cons x0 l =>
        dsimp only at hc ⊢
        obtain ⟨xs, h1, h2⟩ := Option.bind_eq_some_iff.mp he
        obtain ⟨ad, vs, n, rfl, e1, v⟩ := asLst_is r va h1
        obtain ⟨ys, h3, h4⟩ := intsAre_items (allInts_are h2 v)
        have hL := isL e1
        rw [h3] at hL
        have hlen : ys.size = l.length + 1 := by have := congrArg List.length h4; simpa using this
        refine min_intList hA.handled hL (by omega) fun u h' tk hv k => ?_
        obtain ⟨t, rfl⟩ := intItems_at hv
        obtain ⟨q1, q2⟩ := argBest_lt (numAt ys) (ys.size - 1)
        have hm : numAt ys (argBest (fun i j => decide (numAt ys i < numAt ys j)) (ys.size - 1)) = l.foldl min x0 := by
          refine min_unique (l := x0 :: l) ?_ (fun z hz => ?_) (foldl_min_le l x0).2 (foldl_min_le l x0).1
          · rw [numAt_eq, h4]; exact getD_mem (Nat.lt_of_le_of_lt q1 (by simp only [List.length_cons]; omega))
          · obtain ⟨j, hj, rfl⟩ := mem_getD hz
            have := q2 j (by simp at hj; omega)
            rw [numAt_eq ys j, h4] at this; exact this
        rw [hm]
        exact ⟨_, _, _, rfl, .keeps k, r.keeps k, .int _ _, ⟨rfl, rfl⟩⟩
  | max =>
    intro hc
    have e0 : b1v .max a σ = match (asLst σ a).bind allInts with
        | some l => (match l with
          | x :: l => .ok (.int (l.foldl max x)) σ
          | [] => .stuck)
        | none => .stuck := by
      show onAll allInts _ a σ = _
      unfold onAll
      cases (asLst σ a).bind allInts with
      | none => rfl
      | some l => cases l <;> rfl
    rw [e0] at hc ⊢
    cases he : (asLst σ a).bind allInts with
    | none => rw [he] at hc; exact absurd rfl hc
    | some l =>
      rw [he] at hc
      cases l with
      | nil => exact absurd rfl hc
      | cons x0 l =>
        dsimp only at hc ⊢
        obtain ⟨xs, h1, h2⟩ := Option.bind_eq_some_iff.mp he
        obtain ⟨ad, vs, n, rfl, e1, v⟩ := asLst_is r va h1
        obtain ⟨ys, h3, h4⟩ := intsAre_items (allInts_are h2 v)
        have hL := isL e1
        rw [h3] at hL
        have hlen : ys.size = l.length + 1 := by have := congrArg List.length h4; simpa using this
        refine max_intList hA.handled hL (by omega) fun u h' tk hv k => ?_
        obtain ⟨t, rfl⟩ := intItems_at hv
        obtain ⟨q1, q2⟩ := argBest_gt (numAt ys) (ys.size - 1)
        have hm : numAt ys (argBest (fun i j => decide (numAt ys i > numAt ys j)) (ys.size - 1)) = l.foldl max x0 := by
          refine max_unique (l := x0 :: l) ?_ (fun z hz => ?_) (foldl_max_ge l x0).2 (foldl_max_ge l x0).1
          · rw [numAt_eq, h4]; exact getD_mem (Nat.lt_of_le_of_lt q1 (by simp only [List.length_cons]; omega))
          · obtain ⟨j, hj, rfl⟩ := mem_getD hz
            have := q2 j (by simp at hj; omega)
            rw [numAt_eq ys j, h4] at this; exact this
        rw [hm]
        exact ⟨_, _, _, rfl, .keeps k, r.keeps k, .int _ _, ⟨rfl, rfl⟩⟩
  | sorted =>
    intro hc
    have e0 : b1v .sorted a σ = match (asLst σ a).bind sortP with
        | some l => .ok (.fl l) σ
        | none => .stuck := by
      show onAll sortP _ a σ = _
      unfold onAll
      cases (asLst σ a).bind sortP <;> rfl
    rw [e0] at hc ⊢
    cases he : (asLst σ a).bind sortP with
    | none => rw [he] at hc; exact absurd rfl hc
    | some l =>
      dsimp only
      obtain ⟨xs, h1, h2⟩ := Option.bind_eq_some_iff.mp he
      obtain ⟨ad, vs, n, rfl, e1, v⟩ := asLst_is r va h1
      unfold sortP at h2
      cases h5 : allInts xs with
      | none => rw [h5] at h2; cases h2
      | some m =>
        rw [h5] at h2
        dsimp only at h2
        split at h2
        · rename_i h64
          cases h2
          have hI := allInts_are h5 v
          refine sorted_ints (isL e1) hI (by rw [hI.length]; exact h64) fun out ns' a1 a2 a3 => ?_
          obtain ⟨e, he'⟩ := sortedAll_at s.heap vs out
          have k : ∀ b o, s.heap.get? b = some o → (sortedAll s.heap vs out).get? b = some o := fun b o q => sortedAll_old q
          rw [sort_unique a2 a3] at a1
          refine ⟨_, _, _, rfl, .keeps k, r.keeps k, ?_, ⟨rfl, rfl⟩⟩
          refine VR.flI (items := out.toList) (n := e) (by simpa using he') (fun hm => ?_) (intsAre_vrs a1)
          obtain ⟨o, q⟩ := r.liveAll hm
          exact absurd (Heap.lt_size q) (Nat.not_lt.mpr (Nat.le_succ _))
        · cases h2
  | all =>
    intro hc
    have e0 : b1v .all a σ = match (asLst σ a).bind allBools with
        | some l => .ok (.bool (l.all id)) σ
        | none => .stuck := by
      show onAll allBools _ a σ = _
      unfold onAll
      cases (asLst σ a).bind allBools <;> rfl
    rw [e0] at hc ⊢
    cases he : (asLst σ a).bind allBools with
    | none => rw [he] at hc; exact absurd rfl hc
    | some l =>
      dsimp only
      obtain ⟨xs, h1, h2⟩ := Option.bind_eq_some_iff.mp he
      obtain ⟨ad, vs, n, rfl, e1, v⟩ := asLst_is r va h1
      rw [allBools_at h2 v] at e1
      exact all_raw hA e1 fun h' tk k => ⟨_, _, _, rfl, .keeps k, r.keeps k, .bool _, ⟨rfl, rfl⟩⟩
  | any =>
    intro hc
    have e0 : b1v .any a σ = match (asLst σ a).bind allBools with
        | some l => .ok (.bool (l.any id)) σ
        | none => .stuck := by
      show onAll allBools _ a σ = _
      unfold onAll
      cases (asLst σ a).bind allBools <;> rfl
    rw [e0] at hc ⊢
    cases he : (asLst σ a).bind allBools with
    | none => rw [he] at hc; exact absurd rfl hc
    | some l =>
      dsimp only
      obtain ⟨xs, h1, h2⟩ := Option.bind_eq_some_iff.mp he
      obtain ⟨ad, vs, n, rfl, e1, v⟩ := asLst_is r va h1
      rw [allBools_at h2 v] at e1
      exact any_raw hA e1 fun h' tk k => ⟨_, _, _, rfl, .keeps k, r.keeps k, .bool _, ⟨rfl, rfl⟩⟩
  | int =>
    intro hc
    cases a with
    | bool b => cases va; exact call_int_bool (.here r (.int _ _))
    | str z =>
      cases va
      have e0 : b1v .int (.str z) σ = if z.length ≤ 640 then (match intText? z with | some n => .ok (.int n) σ | none => .stuck) else .stuck := rfl
      rw [e0] at hc ⊢
      by_cases hl : z.length ≤ 640
      · rw [if_pos hl] at hc ⊢
        cases hn : intText? z with
        | none => rw [hn] at hc; exact absurd rfl hc
        | some n => exact PySem.W.KIN.call_text hn hl (.here r (.int _ _))
      · rw [if_neg hl] at hc; exact absurd rfl hc
    | _ => exact absurd rfl hc
  | str =>
    intro hc
    cases a with
    | str z => cases va with | str _ _ hz => exact P.str_of_str ⟨_, _, _, rfl, .refl, r, .str _ _ hz, .refl s⟩
    | int i =>
      cases va
      have e0 : b1v .str (.int i) σ = if 0 ≤ i ∧ i < 1000000000 then .ok (.str (Str.ofString (toString i))) σ else .stuck := rfl
      rw [e0] at hc ⊢
      by_cases hl : 0 ≤ i ∧ i < 1000000000
      · rw [if_pos hl]
        exact P.str_of_int (small_log hl) (.here r (.str _ _ (strOk_ofString _)))
      · rw [if_neg hl] at hc; exact absurd rfl hc
    | _ => exact absurd rfl hc
  | lenset => exact absurd rfl hb
end
end Mine

namespace Mine
open PySem PyProof.Rows

theorem OR.ext {F α h α' h'} {m : MO} {a : Addr} (x : Ext F α h α' h') (k : h'.get? a = h.get? a) (o : OR h α m a) : OR h' α' m a := by
  cases m with
  | lst xs =>
    obtain ⟨items, n, e, v⟩ := o
    exact ⟨items, n, k.trans e, v.ext x⟩
  | _ => exact o.elim

theorem R.set {hb h h' σ α} {i : Nat} {a : Addr} {m : MO} {oa : Obj} (r : R hb h σ α) (ea : α.ix[i]? = some a) (k : ∀ b o, b ≠ a → h.get? b = some o → h'.get? b = some o) (al : h'.get? a = some oa)
    (o : Ext [] α h α h' → OR h' α m a) : R hb h' (σ.set i m) α ∧ Ext [] α h α h' := by
  have ha : a ∈ α.ix := List.mem_of_getElem? ea
  have x : Ext [] α h α h' := ⟨rfl, ⟨[], by simp, fun _ hx => by simp at hx⟩, fun b o hb e _ => k b o (fun q => hb (q ▸ ha)) e, fun b o hb _ e => k b o (fun q => hb (q ▸ ha)) e,
    fun b o _ e => by
      by_cases q : b = a
      · subst q; exact ⟨oa, al⟩
      · exact ⟨o, k b o q e⟩⟩
  refine ⟨⟨fun b o e => k b o (fun q => ?_) (r.base b o e), r.fresh, r.nodup, by simp [r.len], fun b hb => ⟨(r.hidden b hb).1, let ⟨o, e⟩ := (r.hidden b hb).2; ⟨o, k b o (fun q => (r.hidden b hb).1 (q ▸ ha)) e⟩⟩, fun j m' a' e1 e2 => ?_, r.hfr⟩, x⟩
  · rw [q, r.fresh a ha] at e; cases e
  · by_cases hj : j = i
    · subst hj
      rw [ea] at e2; cases e2
      rw [List.getElem?_set_self (by rw [r.len]; exact (List.getElem?_eq_some_iff.mp ea).1)] at e1
      cases e1; exact o x
    · rw [List.getElem?_set_ne (Ne.symm hj)] at e1
      have hne : a' ≠ a := fun q => by
        subst q
        exact hj ((List.getElem?_inj (List.getElem?_eq_some_iff.mp e2).1 r.nodup).mp (e2.trans ea.symm))
      obtain ⟨o', e'⟩ := r.live (List.mem_of_getElem? e2)
      exact (r.obj j m' a' e1 e2).ext x (by rw [e', k a' o' hne e'])

section
variable {K : Kt} {A : Around} {s : Shared} {α : AL} {σ : Sto}

theorem neg_sound {a : PV} {x : Value} (r : R K.hb s.heap σ α) (va : VR s.heap α a x) : Runs K VR A (unaryOp .USub x) (negv a σ) s α := by
  intro hc
  cases a with
  | int i => cases va; exact P.neg_int (.here r (.int _ _))
  | _ => exact absurd rfl hc

theorem truth_sound {a : PV} {x : Value} (r : R K.hb s.heap σ α) (va : VR s.heap α a x) : Runs K RelEq A (truthy x) (truthv a σ) s α := by
  intro hc
  cases a with
  | bool b => cases va; exact wpAny_truthy_bool ⟨_, _, _, rfl, .refl, r, rfl, .refl s⟩
  | _ => exact absurd rfl hc

noncomputable def tyVal : Ty → Option Value
  | .int => some (.type "int") | .str => some (.type "str") | .bool => some (.type "bool") | .tuple => some (.type "tuple") | .list => some (.type "list")

theorem isinst_sound {t : Ty} {tv : Value} {a : PV} {x : Value} (ht : tyVal t = some tv) (r : R K.hb s.heap σ α) (va : VR s.heap α a x) :
    Runs K RelB A (call (.builtin "isinstance") [x, tv]) (isinstv a t σ) s α := by
  intro hc
  have ok : ∀ {b : Bool} {tk : Nat}, Post K RelB (.ok b σ) s α (.bool b) { s with toks := tk } := ⟨_, _, _, rfl, .refl, r, rfl, ⟨rfl, rfl⟩⟩
  cases t with
  | int =>
    cases ht
    cases a with
    | int i => cases va; exact IsiPair.int_int (ok (tk := s.toks))
    | bool b => cases va; exact IsiPair.bool_int (ok (tk := s.toks))
    | none => cases va; exact IsiPair.NoneType_int ok
    | str z => cases va; exact IsiPair.str_int ok
    | _ => exact absurd rfl hc
  | bool =>
    cases ht
    cases a with
    | int i => cases va; exact IsiPair.int_bool ok
    | bool b => cases va; exact IsiPair.bool_bool (ok (tk := s.toks))
    | none => cases va; exact IsiPair.NoneType_bool ok
    | str z => cases va; exact IsiPair.str_bool ok
    | _ => exact absurd rfl hc
  | str =>
    cases ht
    cases a with
    | int i => cases va; exact IsiPair.int_str ok
    | bool b => cases va; exact IsiPair.bool_str ok
    | none => cases va; exact IsiPair.NoneType_str ok
    | str z => cases va; exact IsiPair.str_str (ok (tk := s.toks))
    | tup xs => obtain ⟨l, vs, n, rfl, e1, _, v⟩ := va.tupE; exact IsiPair.tuple_str e1 rfl ok
    | _ => exact absurd rfl hc
  | tuple =>
    cases ht
    cases a with
    | int i => cases va; exact IsiPair.int_tuple ok
    | str z => cases va; exact IsiPair.str_tuple ok
    | tup xs => obtain ⟨l, vs, n, rfl, e1, _, v⟩ := va.tupE; exact IsiPair.tuple_tuple e1 rfl (ok (tk := s.toks))
    | _ => exact absurd rfl hc
  | list =>
    cases ht
    have gen : ∀ (e : isinstv a .list σ = match asLst σ a with | some _ => .ok true σ | none => .stuck), wpAny (model K.prog K.w) A (call (.builtin "isinstance") [x, .type "list"]) (Post K RelB (isinstv a .list σ) s α) (PostX K A (isinstv a .list σ) s α) s := fun e => by
      rw [e] at hc ⊢
      cases h1 : asLst σ a with
      | none => rw [h1] at hc; exact absurd rfl hc
      | some xs => obtain ⟨l, vs, n, rfl, e1, v⟩ := asLst_is r va h1; exact IsiPair.list_list e1 rfl (ok (tk := s.toks))
    cases a with
    | tup xs => obtain ⟨l, vs, n, rfl, e1, _, v⟩ := va.tupE; exact IsiPair.tuple_list e1 rfl ok
    | none => exact gen rfl
    | bool _ => exact gen rfl
    | int _ => exact gen rfl
    | str _ => exact gen rfl
    | fl _ => exact gen rfl
    | ref _ => exact gen rfl

theorem seqIdx_eq (i : Int) (n : Nat) : seqIdx i n = seqIndex? i n := by
  unfold seqIdx seqIndex?
  by_cases h : 0 ≤ i
  · have h' : ¬ i < 0 := by omega
    rw [if_pos h, if_neg h']
    by_cases h2 : i.toNat < n
    · rw [if_pos h2, if_pos (by simp; omega)]
    · rw [if_neg h2, if_neg (by simp; omega)]
  · have h' : i < 0 := by omega
    rw [if_neg h, if_pos h']
    by_cases h2 : 0 ≤ i + n
    · rw [if_pos h2, if_pos (by simp; omega)]
    · rw [if_neg h2, if_neg (by simp; omega)]

theorem seqIdx_range {i : Int} {n j : Nat} (h : seqIdx i n = some j) : -(n : Int) ≤ i ∧ i < n := by
  unfold seqIdx at h
  split at h
  · split at h
    · omega
    · cases h
  · split at h
    · omega
    · cases h
/-- an item of a list -/
theorem getItem_list_raw {l : Addr} {vs : List Value} {n j : Nat} {i : Int} {t : Tok} {u : Value} {Q : Value → Shared → Prop} {E : Value → Shared → Prop} (e1 : s.heap.get? l = some { cls := .type "list", data := .seq vs.toArray n })
    (hsz : vs.length ≤ lim) (hj : seqIdx i vs.length = some j) (hu : vs[j]? = some u) (h : Q u s) : wpAny (model K.prog K.w) A (getItem (.ref l) (.int i t)) Q E s := by
  have hl := lim63 hsz
  unfold seqIdx at hj
  by_cases h0 : 0 ≤ i
  · rw [if_pos h0] at hj
    split at hj
    · cases hj; exact wpAny_getItem_list (isL e1) h0 (by omega) (by simpa using hu) h
    · cases hj
  · rw [if_neg h0] at hj
    split at hj
    · cases hj; exact wpAny_getItem_list_neg (isL e1) (by omega) (by simp; omega) (by omega) (by simpa using hu) h
    · cases hj

theorem VRs.get {h : Heap} {xs : List PV} {vs : List Value} {j : Nat} {p : PV} (v : VRs h α xs vs) (e : xs[j]? = some p) : ∃ u, vs[j]? = some u ∧ VR h α p u := by
  have hj := (List.getElem?_eq_some_iff.mp e).1
  have hv : j < vs.length := by rw [← v.1]; exact hj
  exact ⟨vs[j], by simp [hv], v.2 j p vs[j] e (by simp [hv])⟩

theorem itemAt_sound {value slice : Expr} {xs : List PV} {l : Addr} {vs : List Value} {n : Nat} {i : Int} {t : Tok} {T : String} (hT : T = "list" ∨ T = "tuple") (hs : ∀ o i : Value, subscripted slice false o i = operate [o, i] (getItem o i))
    (r : R K.hb s.heap σ α) (e1 : s.heap.get? l = some { cls := .type T, data := .seq vs.toArray n }) (v : VRs s.heap α xs vs) : Runs K VR A (subscriptTail value slice (.ref l) (.int i t)) (itemAt xs i σ) s α := by
  intro hc
  unfold itemAt at hc ⊢
  by_cases hl : xs.length ≤ lim
  · rw [if_pos hl] at hc ⊢
    cases hj : (seqIdx i xs.length).bind (xs[·]?) with
    | none => rw [hj] at hc; exact absurd rfl hc
    | some p =>
      obtain ⟨j, h1, h2⟩ := Option.bind_eq_some_iff.mp hj
      obtain ⟨u, hu, hv⟩ := v.get h2
      have hl' : vs.length ≤ lim := by rw [← v.1]; exact hl
      rcases hT with rfl | rfl
      · refine tail_any (isL e1).typeIs slot_list_getitem.lookup ?_ (hs _ _)
        exact getItem_list_raw e1 hl' (by rw [← v.1]; exact h1) hu ⟨_, _, _, rfl, .refl, r, hv, .refl s⟩
      · have hl3 := lim63 hl'
        have hr := seqIdx_range h1
        have hlen := v.1
        exact item_tupleT (isT e1) (by omega) (by omega) (by rw [← seqIdx_eq, ← v.1]; exact h1) hu ⟨_, _, _, rfl, .refl, r, hv, .refl s⟩ (hs _ _)
  · rw [if_neg hl] at hc; exact absurd rfl hc
theorem subv_sound {value slice : Expr} {a b : PV} {x y : Value} (hns : ∀ l u p, slice ≠ .Slice l u none p) (r : R K.hb s.heap σ α) (va : VR s.heap α a x) (vb : VR s.heap α b y) :
    Runs K VR A (subscriptTail value slice x y) (subv a b σ) s α := by
  have hs : ∀ o i : Value, subscripted slice false o i = operate [o, i] (getItem o i) := fun o i => by
    unfold subscripted
    split
    · rename_i q; exact absurd rfl (hns _ _ _)
    · rename_i q; cases q
    · rfl
  cases b with
  | int i =>
    cases vb with | int _ t =>
    have gen : ∀ (e : subv a (.int i) σ = match asLst σ a with | some xs => itemAt xs i σ | none => .stuck), Runs K VR A (subscriptTail value slice x (.int i t)) (subv a (.int i) σ) s α := fun e => by
      rw [e]
      cases h1 : asLst σ a with
      | none => exact fun hc => absurd rfl hc
      | some xs => obtain ⟨l, vs, n, rfl, e1, v⟩ := asLst_is r va h1; exact itemAt_sound (.inl rfl) hs r e1 v
    cases a with
    | tup xs => obtain ⟨l, vs, n, rfl, e1, _, v⟩ := va.tupE; exact itemAt_sound (.inr rfl) hs r e1 v
    | str z =>
      cases va with | str _ _ hz =>
      have e : subv (.str z) (.int i) σ = if z.cps.size ≤ lim then (match (seqIdx i z.cps.size).bind (z.cps[·]?) with | some c => Out.ok (.str ⟨#[c]⟩) σ | none => .stuck) else .stuck := rfl
      rw [e]
      intro hc
      by_cases hl : z.cps.size ≤ lim
      · rw [if_pos hl] at hc ⊢
        cases hj : (seqIdx i z.cps.size).bind (z.cps[·]?) with
        | none => rw [hj] at hc; exact absurd rfl hc
        | some c =>
          have hl3 := lim63 hl
          obtain ⟨j, h1, h2⟩ := Option.bind_eq_some_iff.mp hj
          have hr := seqIdx_range h1
          refine tail_any (typeIs_str s z _) F.slot_str_getitem.lookup ?_ (hs _ _)
          refine P.getItem_str (c := c) (by simp; omega) (by rw [← seqIdx_eq]; exact hj) (.here r (.str _ _ ?_))
          unfold PyData.strOk at hz ⊢
          simp only [Array.all_eq_true'] at hz ⊢
          intro d hd
          simp at hd
          subst hd
          exact hz _ (Array.mem_of_getElem? h2)
      · rw [if_neg hl] at hc; exact absurd rfl hc
    | none => exact gen rfl
    | bool _ => exact gen rfl
    | int _ => exact gen rfl
    | fl _ => exact gen rfl
    | ref _ => exact gen rfl
  | _ => exact fun hc => absurd rfl hc
end
end Mine

namespace Mine
open PySem PyProof.Rows

structure EnvOk (env : Env) : Prop where
  kind : env.scope.kind = .function
  glob : env.globals = mainGlobals
  bins : env.builtins = builtinsNs
  ws : ∀ (i : Nat) (x : Str) (k : NameKind), env.scope.names[i]? = some (x, k) → env.kindOf x = some k
  nodbg : ∀ (i : Nat) (x : Str) (k : NameKind), env.scope.names[i]? = some (x, k) → (x == ("__debug__" : Str)) = false

structure EnvRel (env : Env) (ρ : Loc) (h : Heap) (α : AL) : Prop where
  ok : EnvOk env
  la : env.locals ∉ α.all
  ns : ∃ m, h.Ns env.locals m ∧ ∀ (i : Nat) (x : Str) (v : PV), env.scope.names[i]? = some (x, .local) → ρ[i]? = some (some v) → ∃ u, m x = some u ∧ VR h α v u
  ca : ∀ x c, env.cells.lookup x = some c → c ∉ α.all ∧ c ≠ env.locals ∧ ∃ v, h.IsCell c v
  cd : ∀ x y c, env.cells.lookup x = some c → env.cells.lookup y = some c → x = y
  cv : ∀ (i : Nat) (x : Str), env.scope.names[i]? = some (x, .cell) → ∃ c, env.cells.lookup x = some c ∧ ∀ v, ρ[i]? = some (some v) → ∃ u, h.IsCell c (some u) ∧ VR h α v u
  inb : ∀ (i : Nat) (v : PV), ρ[i]? = some (some v) → ∃ x k, env.scope.names[i]? = some (x, k) ∧ (k = .local ∨ k = .cell)

theorem cell_stays {h h' : Heap} {c : Addr} {o : Obj} {v : Option Value} (_e : h.get? c = some o) (_d : o.data = .cell v) (x : Stays h h' c o) : h'.get? c = some o := x

theorem isCell_ext {F α h α' h'} {c : Addr} {v : Option Value} (x : Ext F α h α' h') (hc : c ∉ α.ix) (hF : c ∉ F) (i : h.IsCell c v) : h'.IsCell c v := by
  obtain ⟨o, e, d⟩ := i
  exact ⟨o, cell_stays e d (x.rest c o hc hF e), d⟩

theorem ns_ext {F α h α' h'} {a : Addr} {m : Str → Option Value} (x : Ext F α h α' h') (ha : a ∉ α.ix) (hF : a ∉ F) (n : h.Ns a m) : h'.Ns a m := by
  obtain ⟨o, es, ep, e, r⟩ := id n
  exact (x.rest a o ha hF e).ns n e

/-- the frame's own objects are not touched -/
noncomputable def Apart (env : Env) (F : List Addr) : Prop := env.locals ∉ F ∧ ∀ x c, env.cells.lookup x = some c → c ∉ F
theorem Apart.nil {env : Env} : Apart env [] := ⟨by simp, fun _ _ _ => by simp⟩

theorem EnvRel.ext {F α h α' h'} {env : Env} {ρ : Loc} (x : Ext F α h α' h') (ap : Apart env F) (E : EnvRel env ρ h α) : EnvRel env ρ h' α' := by
  obtain ⟨m, n, hm⟩ := E.ns
  obtain ⟨oL, _, _, eL, _⟩ := id n
  refine ⟨E.ok, x.notAll E.la eL, ⟨m, ns_ext x (AL.not_ix E.la) ap.1 n, fun i y v e1 e2 => ?_⟩, fun y c hc => ?_, E.cd, fun i y e1 => ?_, E.inb⟩
  · obtain ⟨u, h1, h2⟩ := hm i y v e1 e2
    exact ⟨u, h1, h2.ext x⟩
  · obtain ⟨h1, h2, v, h3⟩ := E.ca y c hc
    obtain ⟨o, e, d⟩ := id h3
    exact ⟨x.notAll h1 e, h2, v, isCell_ext x (AL.not_ix h1) (ap.2 y c hc) h3⟩
  · obtain ⟨c, hc, hv⟩ := E.cv i y e1
    refine ⟨c, hc, fun v e2 => ?_⟩
    obtain ⟨u, h1, h2⟩ := hv v e2
    exact ⟨u, isCell_ext x (AL.not_ix (E.ca y c hc).1) (ap.2 y c hc) h1, h2.ext x⟩

section
variable {K : Kt} {A : Around} {s : Shared} {α : AL} {σ : Sto} {env : Env} {ρ : Loc}

theorem name_sound {C : Cfg} {i : Nat} {x : Str} {k : NameKind} {p : Pos} (r : R K.hb s.heap σ α) (E : EnvRel env ρ s.heap α) (hn : env.scope.names[i]? = some (x, k)) :
    Runs K VR A (eval (.Name x p) env) (ev C (.v i) ρ σ) s α := by
  intro hc
  simp only [ev_v, valAt] at hc ⊢
  split at hc
  · rename_i v hv
    obtain ⟨x', k', h1, h2⟩ := E.inb i v hv
    rw [hn] at h1; cases h1
    have hk := E.ok.ws i x k hn
    refine wpAny_Name ?_ (E.ok.nodbg i x k hn)
    rcases h2 with rfl | rfl
    · obtain ⟨m, n, hm⟩ := E.ns
      obtain ⟨u, h3, h4⟩ := hm i x v hn hv
      exact wpAny_loadName_local E.ok.kind hk n h3 ⟨_, _, _, rfl, .refl, r, h4, .refl s⟩
    · obtain ⟨c, h3, h4⟩ := E.cv i x hn
      obtain ⟨u, h5, h6⟩ := h4 v hv
      exact wpAny_loadName_cell E.ok.kind hk h3 h5 ⟨_, _, _, rfl, .refl, r, h6, .refl s⟩
  · exact absurd rfl hc

theorem name_glob {i : Nat} {x : Str} {p : Pos} {v : Value} {Q : Value → Shared → Prop} {X : Value → Shared → Prop} (hK : K.Ok) (r : R K.hb s.heap σ α) (E : EnvOk env) (hn : env.scope.names[i]? = some (x, .globalImplicit))
    (hv : K.mg x = some v) (h : Q v s) : wpAny (model K.prog K.w) A (eval (.Name x p) env) Q X s :=
  Calls.Name_function_global E.kind (E.ws i x _ hn) (Calls.loadGlobal_global (by rw [E.glob]; exact hK.g.keeps r.base) hv h) (E.nodbg i x _ hn)

theorem name_bin {i : Nat} {x : Str} {p : Pos} {v : Value} {Q : Value → Shared → Prop} {X : Value → Shared → Prop} (hK : K.Ok) (r : R K.hb s.heap σ α) (E : EnvOk env) (hn : env.scope.names[i]? = some (x, .globalImplicit))
    (hm : K.mg x = none) (hv : K.mb x = some v) (h : Q v s) : wpAny (model K.prog K.w) A (eval (.Name x p) env) Q X s :=
  Calls.Name_function_global E.kind (E.ws i x _ hn) (Calls.loadGlobal_builtin (by rw [E.glob]; exact hK.g.keeps r.base) hm (by rw [E.bins]; exact hK.b.keeps r.base) hv h) (E.nodbg i x _ hn)
end
end Mine

namespace Mine
open PySem PyProof.Rows

theorem VR.re {h : Heap} {α α' : AL} (h1 : ∀ (i : Nat) (a : Addr), α.ix[i]? = some a → α'.ix[i]? = some a) (h2 : ∀ a, a ∈ α'.all → a ∈ α.all) {p : PV} {v : Value} (r : VR h α p v) : VR h α' p v := by
  induction r with
  | none => exact .none
  | bool b => exact .bool b
  | int i t => exact .int i t
  | str s t hs => exact .str s t hs
  | tup e hn hl _ ih => exact .tup e (fun q => hn (h2 _ q)) hl ih
  | fl e hn hl _ ih => exact .fl e (fun q => hn (h2 _ q)) hl ih
  | ref e => exact .ref (h1 _ _ e)
theorem VR.hide {h : Heap} {α : AL} {D : Addr} (hD : h.get? D = Option.none) {p : PV} {v : Value} (r : VR h α p v) : VR h ⟨α.ix, D :: α.hid⟩ p v := by
  have key : ∀ {a : Addr} {o : Obj}, h.get? a = some o → a ∉ α.all → a ∉ (⟨α.ix, D :: α.hid⟩ : AL).all := fun {a o} e hn q => by
    rcases List.mem_append.mp q with q | q
    · exact hn (List.mem_append_left _ q)
    · rcases List.mem_cons.mp q with q | q
      · subst q; rw [hD] at e; cases e
      · exact hn (List.mem_append_right _ q)
  induction r with
  | none => exact .none
  | bool b => exact .bool b
  | int i t => exact .int i t
  | str s t hs => exact .str s t hs
  | tup e hn hl _ ih => exact .tup e (key e hn) hl ih
  | fl e hn hl _ ih => exact .fl e (key e hn) hl ih
  | ref e => exact .ref e
theorem VRs.re {h : Heap} {α α' : AL} (h1 : ∀ (i : Nat) (a : Addr), α.ix[i]? = some a → α'.ix[i]? = some a) (h2 : ∀ a, a ∈ α'.all → a ∈ α.all) {p : List PV} {v : List Value} (r : VRs h α p v) : VRs h α' p v :=
  ⟨r.1, fun i x y e1 e2 => (r.2 i x y e1 e2).re h1 h2⟩
theorem VRs.hide {h : Heap} {α : AL} {D : Addr} (hD : h.get? D = none) {p : List PV} {v : List Value} (r : VRs h α p v) : VRs h ⟨α.ix, D :: α.hid⟩ p v :=
  ⟨r.1, fun i x y e1 e2 => (r.2 i x y e1 e2).hide hD⟩
theorem AL.not_hide {h : Heap} {α : AL} {D a : Addr} {o : Obj} (hD : h.get? D = none) (e : h.get? a = some o) (hn : a ∉ α.all) : a ∉ (⟨α.ix, D :: α.hid⟩ : AL).all := fun q => by
  rcases List.mem_append.mp q with q | q
  · exact hn (List.mem_append_left _ q)
  · rcases List.mem_cons.mp q with q | q
    · subst q; rw [hD] at e; cases e
    · exact hn (List.mem_append_right _ q)
theorem VR.sameBut {h h' : Heap} {α : AL} {D : Addr} (hD : D ∈ α.all) (k : ∀ b, b ≠ D → h'.get? b = h.get? b) {p : PV} {v : Value} (r : VR h α p v) : VR h' α p v := by
  induction r with
  | none => exact .none
  | bool b => exact .bool b
  | int i t => exact .int i t
  | str s t hs => exact .str s t hs
  | tup e hn hl _ ih => exact .tup ((k _ (by rintro rfl; exact hn hD)).trans e) hn hl ih
  | fl e hn hl _ ih => exact .fl ((k _ (by rintro rfl; exact hn hD)).trans e) hn hl ih
  | ref e => exact .ref e
theorem VRs.sameBut {h h' : Heap} {α : AL} {D : Addr} (hD : D ∈ α.all) (k : ∀ b, b ≠ D → h'.get? b = h.get? b) {p : List PV} {v : List Value} (r : VRs h α p v) : VRs h' α p v :=
  ⟨r.1, fun i x y e1 e2 => (r.2 i x y e1 e2).sameBut hD k⟩

/-- an iterator that gives these items -/
structure Iter (K : Kt) (A : Around) (own : List Addr) (it : Value) (xs : List PV) (wt : Option (Nat × List PV)) (St : Nat → Heap → AL → Prop) : Prop where
  live : ∀ i h α, St i h α → ∀ b ∈ own, ∃ o, h.get? b = some o
  apart : ∀ i h α, St i h α → ∀ b ∈ own, b ∉ α.all
  frame : ∀ i F α h α' h', St i h α → Ext F α h α' h' → (∀ b ∈ own, b ∉ F) → St i h' α'
  but : ∀ i D α h h', St i h α → D ∈ α.all → (∀ b, b ≠ D → h'.get? b = h.get? b) → St i h' α
  hide : ∀ i D α h, St i h α → h.get? D = none → St i h ⟨α.ix, D :: α.hid⟩
  item : ∀ (i : Nat) (s : Shared) (σ : Sto) (α : AL) (p : PV), xs[i]? = some p → St i s.heap α → R K.hb s.heap σ α → watchOk wt σ → ∀ (Q : Option Value → Shared → Prop) (E : Value → Shared → Prop),
    (∀ v s', VR s'.heap α p v → St (i + 1) s'.heap α → Ext own α s.heap α s'.heap → R K.hb s'.heap σ α → Sm s s' → Q (some v) s') → wpAny (model K.prog K.w) A (pyNext it) Q E s
  done : ∀ (s : Shared) (σ : Sto) (α : AL), St xs.length s.heap α → R K.hb s.heap σ α → watchOk wt σ → ∀ (Q : Option Value → Shared → Prop) (E : Value → Shared → Prop),
    (∀ s', Ext own α s.heap α s'.heap → R K.hb s'.heap σ α → Sm s s' → Q none s') → wpAny (model K.prog K.w) A (pyNext it) Q E s
  self : ∀ (i : Nat) (s : Shared) (α : AL), St i s.heap α → ∀ (Q : Value → Shared → Prop) (E : Value → Shared → Prop), Q it s → wpAny (model K.prog K.w) A (pyIter it) Q E s

theorem R.but {hb h h' σ α} {I : Addr} (r : R hb h σ α) (hI' : I ∉ α.all) (hbI : hb.get? I = none) (k : ∀ b o, b ≠ I → h.get? b = some o → h'.get? b = some o)
    (hs : ∀ o, h.get? I = some o → ¬ ∃ xs n, o.data = .seq xs n) : R hb h' σ α ∧ Ext [I] α h α h' := by
  have hI : I ∉ α.ix := AL.not_ix hI'
  have hI2 : I ∉ α.hid := fun q => hI' (List.mem_append_right _ q)
  have x : Ext [I] α h α h' := ⟨rfl, ⟨[], by simp, fun _ hx => by simp at hx⟩, fun b o hb e q => k b o (fun z => by subst z; exact hs o e q) e, fun b o hb hF e => k b o (by simpa using hF) e, fun b o hF e => ⟨o, k b o (by simpa using hF) e⟩⟩
  refine ⟨⟨fun b o e => k b o (fun q => by rw [q, hbI] at e; cases e) (r.base b o e), r.fresh, r.nodup, r.len, fun b hb => ⟨(r.hidden b hb).1, ?_⟩, fun j m a e1 e2 => ?_, r.hfr⟩, x⟩
  · obtain ⟨o, e⟩ := (r.hidden b hb).2
    exact ⟨o, k b o (fun q => hI2 (q ▸ hb)) e⟩
  obtain ⟨o', e'⟩ := r.live (List.mem_of_getElem? e2)
  exact (r.obj j m a e1 e2).ext x (by rw [e', k a o' (fun q => hI (q ▸ List.mem_of_getElem? e2)) e'])

theorem fields_stays {h h' : Heap} {c : Addr} {o : Obj} {v : Array Value} (_e : h.get? c = some o) (_d : o.data = .fields v) (x : Stays h h' c o) : h'.get? c = some o := x

theorem fields_no_seq {o : Obj} {v : Array Value} (d : o.data = .fields v) : ¬ ∃ xs n, o.data = .seq xs n := by
  rintro ⟨xs, n, e⟩; rw [d] at e; cases e

section
variable {K : Kt} {A : Around}

theorem Iter.list (hA : AOk A) {I : Addr} {l : Addr} {xs : List PV} (hbI : K.hb.get? I = none) :
    Iter K A [I] (.ref I) xs none (fun i h α => h.IsListIter I l i ∧ I ∉ α.all ∧ VR h α (.fl xs) (.ref l)) where
  live := fun i h α st b hb => by simp at hb; subst hb; obtain ⟨⟨o, e, _⟩, _⟩ := st; exact ⟨o, e⟩
  apart := fun i h α st b hb => by simp at hb; subst hb; exact st.2.1
  frame := fun i F α h α' h' st x hF => by
    obtain ⟨⟨o, e, hc, hd⟩, hI, v⟩ := st
    exact ⟨⟨o, fields_stays e hd (x.rest I o (AL.not_ix hI) (hF I (by simp)) e), hc, hd⟩, x.notAll hI e, v.ext x⟩
  but := fun i D α h h' st hD k => by
    obtain ⟨⟨o, e, hc, hd⟩, hI, v⟩ := st
    exact ⟨⟨o, (k I (fun q => hI (q ▸ hD))).trans e, hc, hd⟩, hI, v.sameBut hD k⟩
  hide := fun i D α h st hD => by
    obtain ⟨⟨o, e, hc, hd⟩, hI, v⟩ := st
    exact ⟨⟨o, e, hc, hd⟩, AL.not_hide hD e hI, v.hide hD⟩
  item := fun i s σ α p hp st r _ Q E hQ => by
    obtain ⟨hit, hI, v⟩ := st
    obtain ⟨l', vs, n, hl, e1, hn, w⟩ := v.flE
    cases hl
    obtain ⟨u, hu, hv⟩ := w.get hp
    obtain ⟨o, e, hc, hd⟩ := id hit
    refine wpAny_pyNext_list_item hit (isL e1) (by simpa using hu) fun h' hit' hs' => ?_
    obtain ⟨r', x⟩ := r.but hI hbI (fun b o hb e => (hs'.2 b hb).trans e) fun o' e' => by rw [e] at e'; cases e'; exact fields_no_seq hd
    exact hQ u _ (hv.ext x) ⟨hit', hI, v.ext x⟩ x r' ⟨rfl, rfl⟩
  done := fun s σ α st r _ Q E hQ => by
    obtain ⟨hit, hI, v⟩ := st
    obtain ⟨l', vs, n, hl, e1, hn, w⟩ := v.flE
    cases hl
    obtain ⟨o, e, hc, hd⟩ := id hit
    refine wpAny_pyNext_list_end hA.handled hit (isL e1) (by simp [w.1]) fun h' he' => ?_
    obtain ⟨r', x⟩ := r.but hI hbI (fun b o hb e => he' b o hb e) fun o' e' => by rw [e] at e'; cases e'; exact fields_no_seq hd
    exact hQ _ x r' ⟨rfl, rfl⟩
  self := fun i s α st Q E hQ => wpAny_pyIter_listiter st.1 hQ

theorem Iter.mlist (hA : AOk A) {I : Addr} {l : Addr} {j : Nat} {xs : List PV} (hbI : K.hb.get? I = none) :
    Iter K A [I] (.ref I) xs (some (j, xs)) (fun i h α => h.IsListIter I l i ∧ I ∉ α.all ∧ α.ix[j]? = some l) where
  live := fun i h α st b hb => by simp at hb; subst hb; obtain ⟨⟨o, e, _⟩, _⟩ := st; exact ⟨o, e⟩
  apart := fun i h α st b hb => by simp at hb; subst hb; exact st.2.1
  frame := fun i F α h α' h' st x hF => by
    obtain ⟨⟨o, e, hc, hd⟩, hI, v⟩ := st
    exact ⟨⟨o, fields_stays e hd (x.rest I o (AL.not_ix hI) (hF I (by simp)) e), hc, hd⟩, x.notAll hI e, x.get v⟩
  but := fun i D α h h' st hD k => by
    obtain ⟨⟨o, e, hc, hd⟩, hI, v⟩ := st
    exact ⟨⟨o, (k I (fun q => hI (q ▸ hD))).trans e, hc, hd⟩, hI, v⟩
  hide := fun i D α h st hD => by
    obtain ⟨⟨o, e, hc, hd⟩, hI, v⟩ := st
    exact ⟨⟨o, e, hc, hd⟩, AL.not_hide hD e hI, v⟩
  item := fun i s σ α p hp st r wt Q E hQ => by
    obtain ⟨hit, hI, v⟩ := st
    obtain ⟨vs, n, e1, w⟩ := r.obj j _ l wt v
    obtain ⟨u, hu, hv⟩ := w.get hp
    obtain ⟨o, e, hc, hd⟩ := id hit
    refine wpAny_pyNext_list_item hit (isL e1) (by simpa using hu) fun h' hit' hs' => ?_
    obtain ⟨r', x⟩ := r.but hI hbI (fun b o hb e => (hs'.2 b hb).trans e) fun o' e' => by rw [e] at e'; cases e'; exact fields_no_seq hd
    exact hQ u _ (hv.ext x) ⟨hit', hI, v⟩ x r' ⟨rfl, rfl⟩
  done := fun s σ α st r wt Q E hQ => by
    obtain ⟨hit, hI, v⟩ := st
    obtain ⟨vs, n, e1, w⟩ := r.obj j _ l wt v
    obtain ⟨o, e, hc, hd⟩ := id hit
    refine wpAny_pyNext_list_end hA.handled hit (isL e1) (by simp [w.1]) fun h' he' => ?_
    obtain ⟨r', x⟩ := r.but hI hbI (fun b o hb e => he' b o hb e) fun o' e' => by rw [e] at e'; cases e'; exact fields_no_seq hd
    exact hQ _ x r' ⟨rfl, rfl⟩
  self := fun i s α st Q E hQ => wpAny_pyIter_listiter st.1 hQ

theorem Iter.signs {I : Addr} {x : Str} {t : Tok} {ty : String} (hbI : K.hb.get? I = none) (hx : PyData.strOk x = true)
    (it1 : ∀ (s : Shared) (i c : Nat) (Q : Option Value → Shared → Prop) (E : Value → Shared → Prop), s.heap.IsStrIter I ty x t i → x.cps[i]? = some c →
      (∀ h', h'.IsStrIter I ty x t (i + 1) → Heap.SameBut I s.heap h' → Q (some (.str ⟨#[c]⟩ s.toks)) { s with heap := h', toks := s.toks + 1 }) → wpAny (model K.prog K.w) A (pyNext (.ref I)) Q E s)
    (it2 : ∀ (s : Shared) (i : Nat) (Q : Option Value → Shared → Prop) (E : Value → Shared → Prop), s.heap.IsStrIter I ty x t i → x.cps[i]? = none → (∀ h', Heap.ExtBut I s.heap h' → Q none { s with heap := h' }) → wpAny (model K.prog K.w) A (pyNext (.ref I)) Q E s)
    (it3 : ∀ (s : Shared) (i : Nat) (Q : Value → Shared → Prop) (E : Value → Shared → Prop), s.heap.IsStrIter I ty x t i → Q (.ref I) s → wpAny (model K.prog K.w) A (pyIter (.ref I)) Q E s) :
    Iter K A [I] (.ref I) (signsV x) none (fun i h α => h.IsStrIter I ty x t i ∧ I ∉ α.all) where
  live := fun i h α st b hb => by simp at hb; subst hb; obtain ⟨⟨o, e, _⟩, _⟩ := st; exact ⟨o, e⟩
  apart := fun i h α st b hb => by simp at hb; subst hb; exact st.2
  frame := fun i F α h α' h' st x hF => by
    obtain ⟨⟨o, e, hc, hd⟩, hI⟩ := st
    exact ⟨⟨o, fields_stays e hd (x.rest I o (AL.not_ix hI) (hF I (by simp)) e), hc, hd⟩, x.notAll hI e⟩
  but := fun i D α h h' st hD k => by
    obtain ⟨⟨o, e, hc, hd⟩, hI⟩ := st
    exact ⟨⟨o, (k I (fun q => hI (q ▸ hD))).trans e, hc, hd⟩, hI⟩
  hide := fun i D α h st hD => by
    obtain ⟨⟨o, e, hc, hd⟩, hI⟩ := st
    exact ⟨⟨o, e, hc, hd⟩, AL.not_hide hD e hI⟩
  item := fun i s σ α p hp st r _ Q E hQ => by
    obtain ⟨hit, hI⟩ := st
    obtain ⟨o, e, hc, hd⟩ := id hit
    simp only [signsV, List.getElem?_map] at hp
    obtain ⟨c, hcq, rfl⟩ := Option.map_eq_some_iff.mp hp
    have hcx : x.cps[i]? = some c := by rw [← Array.getElem?_toList]; exact hcq
    refine it1 s i c Q E hit hcx fun h' hit' hs' => ?_
    obtain ⟨r', x'⟩ := r.but hI hbI (fun b o hb e => (hs'.2 b hb).trans e) fun o' e' => by rw [e] at e'; cases e'; exact fields_no_seq hd
    refine hQ _ _ (.str _ _ ?_) ⟨hit', hI⟩ x' r' ⟨rfl, rfl⟩
    unfold PyData.strOk at hx ⊢
    simp only [Array.all_eq_true'] at hx ⊢
    intro d hd'
    simp at hd'
    subst hd'
    exact hx _ (Array.mem_of_getElem? hcx)
  done := fun s σ α st r _ Q E hQ => by
    obtain ⟨hit, hI⟩ := st
    obtain ⟨o, e, hc, hd⟩ := id hit
    refine it2 s _ Q E hit (by simp [signsV]) fun h' he' => ?_
    obtain ⟨r', x'⟩ := r.but hI hbI (fun b o hb e => he' b o hb e) fun o' e' => by rw [e] at e'; cases e'; exact fields_no_seq hd
    exact hQ _ x' r' ⟨rfl, rfl⟩
  self := fun i s α st Q E hQ => it3 s i Q E st.1 hQ

theorem isTu {s : Shared} {a : Addr} {items : List Value} {n : Nat} (e : s.heap.get? a = some { cls := .type "tuple", data := .seq items.toArray n }) : s.heap.IsTuple a items.toArray := ⟨_, e, rfl, n, rfl⟩

theorem Iter.tuple (hA : AOk A) {I : Addr} {l : Addr} {xs : List PV} (hbI : K.hb.get? I = none) :
    Iter K A [I] (.ref I) xs none (fun i h α => h.IsTupleIter I l i ∧ I ∉ α.all ∧ VR h α (.tup xs) (.ref l)) where
  live := fun i h α st b hb => by simp at hb; subst hb; obtain ⟨⟨o, e, _⟩, _⟩ := st; exact ⟨o, e⟩
  apart := fun i h α st b hb => by simp at hb; subst hb; exact st.2.1
  frame := fun i F α h α' h' st x hF => by
    obtain ⟨⟨o, e, hc, hd⟩, hI, v⟩ := st
    exact ⟨⟨o, fields_stays e hd (x.rest I o (AL.not_ix hI) (hF I (by simp)) e), hc, hd⟩, x.notAll hI e, v.ext x⟩
  but := fun i D α h h' st hD k => by
    obtain ⟨⟨o, e, hc, hd⟩, hI, v⟩ := st
    exact ⟨⟨o, (k I (fun q => hI (q ▸ hD))).trans e, hc, hd⟩, hI, v.sameBut hD k⟩
  hide := fun i D α h st hD => by
    obtain ⟨⟨o, e, hc, hd⟩, hI, v⟩ := st
    exact ⟨⟨o, e, hc, hd⟩, AL.not_hide hD e hI, v.hide hD⟩
  item := fun i s σ α p hp st r _ Q E hQ => by
    obtain ⟨hit, hI, v⟩ := st
    obtain ⟨l', vs, n, hl, e1, hn, w⟩ := v.tupE
    cases hl
    obtain ⟨u, hu, hv⟩ := w.get hp
    obtain ⟨o, e, hc, hd⟩ := id hit
    refine wpAny_pyNext_tuple_item hit (isTu e1) (by simpa using hu) fun h' hit' hs' => ?_
    obtain ⟨r', x⟩ := r.but hI hbI (fun b o hb e => (hs'.2 b hb).trans e) fun o' e' => by rw [e] at e'; cases e'; exact fields_no_seq hd
    exact hQ u _ (hv.ext x) ⟨hit', hI, v.ext x⟩ x r' ⟨rfl, rfl⟩
  done := fun s σ α st r _ Q E hQ => by
    obtain ⟨hit, hI, v⟩ := st
    obtain ⟨l', vs, n, hl, e1, hn, w⟩ := v.tupE
    cases hl
    obtain ⟨o, e, hc, hd⟩ := id hit
    refine wpAny_pyNext_tuple_end hA.handled hit (isTu e1) (by simp [w.1]) fun h' he' => ?_
    obtain ⟨r', x⟩ := r.but hI hbI (fun b o hb e => he' b o hb e) fun o' e' => by rw [e] at e'; cases e'; exact fields_no_seq hd
    exact hQ _ x r' ⟨rfl, rfl⟩
  self := fun i s α st Q E hQ => wpAny_pyIter_tupleiter st.1 hQ

theorem Iter.range (hA : AOk A) {I : Addr} {a c : Int} {n : Nat} (hbI : K.hb.get? I = none) :
    Iter K A [I] (.ref I) (intRange a c n) none (fun i h α => IsRangeIter h I (a + (i : Nat) * c) ((n : Int) - (i : Nat)) c ∧ I ∉ α.all) where
  live := fun i h α st b hb => by simp at hb; subst hb; exact ⟨_, st.1⟩
  apart := fun i h α st b hb => by simp at hb; subst hb; exact st.2
  frame := fun i F α h α' h' st x hF => by
    obtain ⟨e, hI⟩ := st
    exact ⟨fields_stays e rfl (x.rest I _ (AL.not_ix hI) (hF I (by simp)) e), x.notAll hI e⟩
  but := fun i D α h h' st hD k => by
    obtain ⟨e, hI⟩ := st
    exact ⟨(k I (fun q => hI (q ▸ hD))).trans e, hI⟩
  hide := fun i D α h st hD => by
    obtain ⟨e, hI⟩ := st
    exact ⟨e, AL.not_hide hD e hI⟩
  item := fun i s σ α p hp st r _ Q E hQ => by
    obtain ⟨hit, hI⟩ := st
    have hi : i < n := by have := (List.getElem?_eq_some_iff.mp hp).1; simpa [intRange] using this
    have hp' : p = .int (a + (i : Int) * c) := by
      simp only [intRange, List.getElem?_map, List.getElem?_range hi, Option.map_some, Option.some.injEq] at hp
      exact hp.symm
    subst hp'
    refine wpAny_pyNext_range_item hit (by omega) fun h' hit' hs' => ?_
    obtain ⟨r', x⟩ := r.but hI hbI (fun b o hb e => (hs'.2 b hb).trans e) fun o' e' => by rw [show s.heap.get? I = _ from hit] at e'; cases e'; exact fields_no_seq rfl
    refine hQ _ _ (.int _ _) ⟨?_, hI⟩ x r' ⟨rfl, rfl⟩
    have e1 : a + ((i + 1 : Nat) : Int) * c = a + (i : Int) * c + c := by push_cast; rw [Int.add_mul, Int.one_mul, Int.add_assoc]
    have e2 : (n : Int) - ((i + 1 : Nat) : Int) = (n : Int) - (i : Int) - 1 := by push_cast; omega
    rw [e1, e2]; exact hit'
  done := fun s σ α st r _ Q E hQ => by
    obtain ⟨hit, hI⟩ := st
    refine wpAny_pyNext_range_end hA.handled hit (by simp [intRange]) fun h' he' => ?_
    obtain ⟨r', x⟩ := r.but hI hbI (fun b o hb e => he' b o hb e) fun o' e' => by rw [show s.heap.get? I = _ from hit] at e'; cases e'; exact fields_no_seq rfl
    exact hQ _ x r' ⟨rfl, rfl⟩
  self := fun i s α st Q E hQ => wpAny_pyIter_rangeiter st.1 hQ
end
end Mine

namespace Mine
open PySem PyProof.Rows

theorem OR.hide {h : Heap} {α : AL} {D : Addr} {m : MO} {a : Addr} (hD : h.get? D = none) (r : OR h α m a) : OR h ⟨α.ix, D :: α.hid⟩ m a := by
  cases m with
  | lst xs => obtain ⟨items, n, e, v⟩ := r; exact ⟨items, n, e, v.hide hD⟩
  | _ => exact r.elim
theorem OR.re {h : Heap} {α α' : AL} {m : MO} {a : Addr} (h1 : ∀ (i : Nat) (a : Addr), α.ix[i]? = some a → α'.ix[i]? = some a) (h2 : ∀ a, a ∈ α'.all → a ∈ α.all) (r : OR h α m a) : OR h α' m a := by
  cases m with
  | lst xs => obtain ⟨items, n, e, v⟩ := r; exact ⟨items, n, e, v.re h1 h2⟩
  | _ => exact r.elim
theorem EnvRel.hide {h : Heap} {α : AL} {D : Addr} {env : Env} {ρ : Loc} (hD : h.get? D = none) (E : EnvRel env ρ h α) : EnvRel env ρ h ⟨α.ix, D :: α.hid⟩ := by
  obtain ⟨m, n, hm⟩ := E.ns
  obtain ⟨oL, _, _, eL, _⟩ := id n
  refine ⟨E.ok, AL.not_hide hD eL E.la, ⟨m, n, fun i x v e1 e2 => let ⟨u, a, b⟩ := hm i x v e1 e2; ⟨u, a, b.hide hD⟩⟩, fun x c hc => ?_, E.cd, fun i x e1 => ?_, E.inb⟩
  · obtain ⟨h1, h2, v, h3⟩ := E.ca x c hc
    obtain ⟨o, e, d⟩ := id h3
    exact ⟨AL.not_hide hD e h1, h2, v, h3⟩
  · obtain ⟨c, hc, hv⟩ := E.cv i x e1
    exact ⟨c, hc, fun v e2 => let ⟨u, a, b⟩ := hv v e2; ⟨u, a, b.hide hD⟩⟩

theorem R.hide {hb h h' σ α} {D : Addr} {o : Obj} (r : R hb h σ α) (hD : h.get? D = none) (k : ∀ b o, h.get? b = some o → h'.get? b = some o) (e : h'.get? D = some o) : R hb h' σ ⟨α.ix, D :: α.hid⟩ := by
  have r' := r.keeps k
  have hDi : D ∉ α.ix := fun q => by obtain ⟨o, e⟩ := r.live q; rw [hD] at e; cases e
  refine ⟨r'.base, r'.fresh, r'.nodup, r'.len, fun a ha => ?_, fun i m a e1 e2 => ?_, fun a ha => ?_⟩
  · rcases List.mem_cons.mp ha with q | q
    · subst q; exact ⟨hDi, _, e⟩
    · exact r'.hidden a q
  · have x : Ext [] (⟨α.ix, D :: α.hid⟩ : AL) h ⟨α.ix, D :: α.hid⟩ h' := .keeps k
    obtain ⟨o', e'⟩ := r.live (List.mem_of_getElem? e2)
    exact ((r.obj i m a e1 e2).hide hD).ext x (by rw [e', k a o' e'])
  · rcases List.mem_cons.mp ha with q | q
    · subst q
      cases hq : hb.get? a with
      | none => rfl
      | some o => rw [r.base _ _ hq] at hD; cases hD
    · exact r.hfr a q

section
variable {K : Kt} {A : Around} {s : Shared} {α : AL} {σ : Sto}

noncomputable def IterPost (K : Kt) (A : Around) (c : Out (List PV × Option (Nat × List PV))) (s : Shared) (α : AL) (it : Value) (s' : Shared) : Prop :=
  ∃ xs wt σ' α' own St, c = .ok (xs, wt) σ' ∧ Ext [] α s.heap α' s'.heap ∧ R K.hb s'.heap σ' α' ∧ Sm s s' ∧ Iter K A own it xs wt St ∧ St 0 s'.heap α' ∧ (∀ b ∈ own, s.heap.get? b = none ∧ K.hb.get? b = none)
theorem IterPost.lift {c : Out (List PV × Option (Nat × List PV))} {s₁ : Shared} {α₁ : AL} {it : Value} {s' : Shared} (x : Ext [] α s.heap α₁ s₁.heap) (m : Sm s s₁) (p : IterPost K A c s₁ α₁ it s') : IterPost K A c s α it s' := by
  obtain ⟨xs, wt, σ', α', own, St, e, x', r, m', I, st, ho⟩ := p
  refine ⟨xs, wt, σ', α', own, St, e, x.trans x', r, m.trans m', I, st, fun b hb => ⟨?_, (ho b hb).2⟩⟩
  cases hq : s.heap.get? b with
  | none => rfl
  | some o => obtain ⟨o', e'⟩ := x.alive b o (by simp) hq; rw [(ho b hb).1] at e'; cases e'

noncomputable def RunsIt (K : Kt) (A : Around) (t : Sem Value) (c : Out (List PV × Option (Nat × List PV))) (s : Shared) (α : AL) : Prop :=
  c ≠ .stuck → wpAny (model K.prog K.w) A t (fun x s₁ => wpAny (model K.prog K.w) A (pyIter x) (IterPost K A c s α) (PostX K A c s α) s₁) (PostX K A c s α) s

theorem hb_none (r : R K.hb s.heap σ α) : K.hb.get? s.heap.objs.size = none := by
  cases hq : K.hb.get? s.heap.objs.size with
  | none => rfl
  | some o => exact absurd (Heap.lt_size (r.base _ _ hq)) (Nat.lt_irrefl _)

/-- an iterator newly made -/
theorem IterPost.new {I : Addr} {o : Obj} {xs : List PV} {wt : Option (Nat × List PV)} {St : Nat → Heap → AL → Prop} {tk : Nat} (hI : I = s.heap.objs.size) (r : R K.hb s.heap σ α) (it : Iter K A [I] (.ref I) xs wt St)
    (st : ∀ h', h' = s.heap.push o → (∀ b o', s.heap.get? b = some o' → h'.get? b = some o') → I ∉ α.all → St 0 h' α) : IterPost K A (.ok (xs, wt) σ) s α (.ref I) { s with heap := s.heap.push o, toks := tk } := by
  subst hI
  have k : ∀ b o', s.heap.get? b = some o' → (s.heap.push o).get? b = some o' := fun b o' e => Heap.get?_push_of_some _ e
  refine ⟨xs, wt, σ, α, _, St, rfl, .keeps k, r.keeps k, ⟨rfl, rfl⟩, it, st _ rfl k (fun hm => ?_), fun b hb => ?_⟩
  · obtain ⟨o, e⟩ := r.liveAll hm; rw [none_at] at e; cases e
  · simp at hb; subst hb; exact ⟨none_at s, hb_none r⟩

theorem iter_val {a : PV} {x : Value} (hA : AOk A) (r : R K.hb s.heap σ α) (va : VR s.heap α a x) {E : Value → Shared → Prop}
    (hc : itv a σ ≠ .stuck) :
    wpAny (model K.prog K.w) A (pyIter x) (IterPost K A (itv a σ) s α) E s := by
  unfold itv at hc ⊢
  cases a with
  | fl xs =>
    obtain ⟨l, vs, n, rfl, e1, hn, v⟩ := va.flE
    refine wpAny_pyIter_list (isL e1) (IterPost.new (tk := s.toks) rfl r (.list hA (l := l) (hb_none r)) fun h' hh k hI => ?_)
    exact ⟨⟨_, by rw [hh]; exact Heap.get?_push_size _ rfl, rfl, rfl⟩, hI, va.ext (.keeps (F := []) k)⟩
  | tup xs =>
    obtain ⟨l, vs, n, rfl, e1, hn, v⟩ := va.tupE
    refine wpAny_pyIter_tuple (isTu e1) (IterPost.new (tk := s.toks) rfl r (.tuple hA (l := l) (hb_none r)) fun h' hh k hI => ?_)
    exact ⟨⟨_, by rw [hh]; exact Heap.get?_push_size _ rfl, rfl, rfl⟩, hI, va.ext (.keeps (F := []) k)⟩
  | ref i =>
    cases va with
    | @ref _ l el =>
      simp only [items, watchOf] at hc ⊢
      cases hs : σ[i]? with
      | none => rw [hs] at hc; exact absurd rfl hc
      | some m =>
        cases m with
        | lst xs =>
          obtain ⟨vs, n, e1, v⟩ := r.obj i _ l hs el
          refine wpAny_pyIter_list (isL e1) (IterPost.new (tk := s.toks) rfl r (.mlist hA (l := l) (j := i) (hb_none r)) fun h' hh k hI => ?_)
          exact ⟨⟨_, by rw [hh]; exact Heap.get?_push_size _ rfl, rfl, rfl⟩, hI, el⟩
        | _ => exact (r.obj i _ l hs el).elim
  | str z =>
    cases va with | str _ t hz =>
    cases ha : z.cps.all (· < 128)
    · refine wpAny_pyIter_wide ha (IterPost.new (tk := s.toks) rfl r (.signs (t := t) (ty := "str_iterator") (hb_none r) hz (fun s i c Q E h1 h2 h3 => wpAny_pyNext_wide_item h1 h2 h3) (fun s i Q E h1 h2 h3 => wpAny_pyNext_wide_end hA.handled h1 h2 h3) fun s i Q E h1 h2 => wpAny_pyIter_striter_wide h1 h2) fun h' hh k hI => ?_)
      exact ⟨⟨_, by rw [hh]; exact Heap.get?_push_size _ rfl, rfl, rfl⟩, hI⟩
    · refine wpAny_pyIter_ascii ha (IterPost.new (tk := s.toks) rfl r (.signs (t := t) (ty := "str_ascii_iterator") (hb_none r) hz (fun s i c Q E h1 h2 h3 => wpAny_pyNext_ascii_item h1 h2 h3) (fun s i Q E h1 h2 h3 => wpAny_pyNext_ascii_end hA.handled h1 h2 h3) fun s i Q E h1 h2 => wpAny_pyIter_striter_ascii h1 h2) fun h' hh k hI => ?_)
      exact ⟨⟨_, by rw [hh]; exact Heap.get?_push_size _ rfl, rfl, rfl⟩, hI⟩
  | _ => exact absurd rfl hc

theorem size_1 {n : Int} (h0 : 0 ≤ n) : Builtin.Range.rangeSize 0 n 1 = n := by
  unfold Builtin.Range.rangeSize
  simp; omega
theorem small_1 {n : Int} (h0 : 0 ≤ n) (h1 : n ≤ (lim : Int)) : Builtin.Range.small 0 n 1 = true := by
  have hl2 : (lim : Int) = 1000000 := rfl
  rw [hl2] at h1
  unfold Builtin.Range.small
  rw [size_1 h0]
  simp only [Builtin.Range.rangeFitsLong, Bool.and_eq_true, Bool.or_eq_true, decide_eq_true_eq, beq_iff_eq, show ((1 : Int) > 0) by decide, if_true]
  omega
theorem iter_range1 {a : PV} {x : Value} (hA : AOk A) (r : R K.hb s.heap σ α) (va : VR s.heap α a x) {E : Value → Shared → Prop} (hc : range1v a σ ≠ .stuck) :
    wpAny (model K.prog K.w) A (call (.type "range") [x]) (fun y s₁ => wpAny (model K.prog K.w) A (pyIter y) (IterPost K A (range1v a σ) s α) E s₁) E s := by
  unfold range1v at hc ⊢
  cases a with
  | int n =>
    cases va with | int _ t =>
    dsimp only at hc ⊢
    split at hc
    · rename_i hl; rw [if_pos hl]
      have hl2 : (lim : Int) = 1000000 := rfl
      refine call_range_1 (wpAny_pyIter_range (IsRange.new _ _ _ _ _ _ _) (small_1 hl.1 hl.2) ?_)
      have k : ∀ b o', s.heap.get? b = some o' → (s.heap.push { cls := .type "range", data := .fields #[.int 0 s.toks, .int n t, .int 1 (s.toks + 1)] }).get? b = some o' := fun b o' e => Heap.get?_push_of_some _ e
      refine IterPost.lift (s₁ := { s with heap := s.heap.push { cls := .type "range", data := .fields #[.int 0 s.toks, .int n t, .int 1 (s.toks + 1)] }, toks := s.toks + 1 + 1 }) (.keeps k) ⟨rfl, rfl⟩ ?_
      have r' := r.keeps k
      refine IterPost.new (K := K) (A := A) (α := α) (σ := σ) (s := { s with heap := s.heap.push { cls := .type "range", data := .fields #[.int 0 s.toks, .int n t, .int 1 (s.toks + 1)] }, toks := s.toks + 1 + 1 }) (tk := s.toks + 1 + 1) rfl r' (.range hA (a := 0) (c := 1) (n := n.toNat) (hb_none (s := { s with heap := s.heap.push { cls := .type "range", data := .fields #[.int 0 s.toks, .int n t, .int 1 (s.toks + 1)] }, toks := s.toks + 1 + 1 }) r')) fun h' hh k' hI => ⟨?_, hI⟩
      rw [hh]
      have e : Builtin.Range.rangeSize 0 n 1 = n := size_1 hl.1
      unfold IsRangeIter
      rw [e]
      simp only [Int.ofNat_zero, Int.zero_mul, Int.add_zero, Int.sub_zero, Int.toNat_of_nonneg hl.1]
      exact Heap.get?_push_size _ rfl
    · exact absurd rfl hc
  | _ => exact absurd rfl hc
end
end Mine

namespace Mine
open PySem PyProof.Rows

/-- the frame's objects are made after the base heap -/
structure EnvNew (hb : Heap) (env : Env) : Prop where
  l : hb.get? env.locals = none
  c : ∀ x c, env.cells.lookup x = some c → hb.get? c = none

theorem OR.sameBut {h h' : Heap} {α : AL} {D : Addr} {m : MO} {a : Addr} (hD : D ∈ α.all) (hne : a ≠ D) (k : ∀ b, b ≠ D → h'.get? b = h.get? b) (r : OR h α m a) : OR h' α m a := by
  cases m with
  | lst xs => obtain ⟨items, n, e, v⟩ := r; exact ⟨items, n, (k _ hne).trans e, v.sameBut hD k⟩
  | _ => exact r.elim
theorem EnvRel.sameBut {h h' : Heap} {α : AL} {D : Addr} {env : Env} {ρ : Loc} (hD : D ∈ α.all) (k : ∀ b, b ≠ D → h'.get? b = h.get? b) (E : EnvRel env ρ h α) : EnvRel env ρ h' α := by
  obtain ⟨m, n, hm⟩ := E.ns
  have hL : env.locals ≠ D := by intro q; exact E.la (q ▸ hD)
  refine ⟨E.ok, E.la, ⟨m, ?_, fun i x v e1 e2 => let ⟨u, a, b⟩ := hm i x v e1 e2; ⟨u, a, b.sameBut hD k⟩⟩, fun x c hc => ?_, E.cd, fun i x e1 => ?_, E.inb⟩
  · obtain ⟨o, es, ep, e, r⟩ := n
    exact ⟨o, es, ep, (k _ hL).trans e, r⟩
  · obtain ⟨h1, h2, v, o, e, d⟩ := E.ca x c hc
    exact ⟨h1, h2, v, o, (k _ (by intro q; exact h1 (q ▸ hD))).trans e, d⟩
  · obtain ⟨c, hc, hv⟩ := E.cv i x e1
    refine ⟨c, hc, fun v e2 => ?_⟩
    obtain ⟨u, ⟨o, e, d⟩, b⟩ := hv v e2
    exact ⟨u, ⟨o, (k _ (by intro q; exact (E.ca x c hc).1 (q ▸ hD))).trans e, d⟩, b.sameBut hD k⟩
theorem R.sameHid {hb h h' σ α} {D : Addr} (r : R hb h σ α) (hD : D ∈ α.hid) (hbD : hb.get? D = none) (k : ∀ b, b ≠ D → h'.get? b = h.get? b) (al : ∃ o, h'.get? D = some o) : R hb h' σ α := by
  have hDi := (r.hidden D hD).1
  have hDa : D ∈ α.all := List.mem_append_right _ hD
  refine ⟨fun b o e => (k b (by rintro rfl; rw [hbD] at e; cases e)).trans (r.base b o e), r.fresh, r.nodup, r.len, fun b hb' => ⟨(r.hidden b hb').1, ?_⟩, fun j m a e1 e2 => ?_, r.hfr⟩
  · by_cases q : b = D
    · subst q; exact al
    · rw [k b q]; exact (r.hidden b hb').2
  · exact (r.obj j m a e1 e2).sameBut hDa (by rintro rfl; exact hDi (List.mem_of_getElem? e2)) k

/-- a change of an object that was not there before -/
theorem Ext.sameBut {F α h α' h' h''} {D : Addr} (x : Ext F α h α' h') (hD : h.get? D = none) (k : ∀ b, b ≠ D → h''.get? b = h'.get? b) : Ext F α h α' h'' := by
  have ne : ∀ b o, h.get? b = some o → b ≠ D := fun b o e q => by rw [q, hD] at e; cases e
  refine ⟨x.hid, x.pre, fun b o hb e hs => (k b (ne b o e)).trans (x.seqs b o hb e hs), fun b o hb hF e => ?_, fun b o hF e => ?_⟩
  · exact (k b (ne b o e)).trans (x.rest b o hb hF e)
  · obtain ⟨o', e'⟩ := x.alive b o hF e
    exact ⟨o', (k b (ne b o e)).trans e'⟩
theorem Ext.rehid {F α h α' h'} (x : Ext F α h α' h') (hid : List Addr) : Ext F ⟨α.ix, hid⟩ h ⟨α'.ix, hid⟩ h' :=
  ⟨rfl, x.pre, x.seqs, x.rest, x.alive⟩

theorem names_inj {env : Env} (E : EnvOk env) {i j : Nat} {x : Str} {k k' : NameKind} (h1 : env.scope.names[i]? = some (x, k)) (h2 : env.scope.names[j]? = some (x, k')) : k = k' := by
  have a := E.ws i x k h1
  have b := E.ws j x k' h2
  rw [a] at b; cases b; rfl

section
variable {K : Kt} {A : Around} {s : Shared} {α : AL} {σ : Sto} {env : Env} {ρ : Loc}

/-- slots of one name are one slot -/
noncomputable def Uniq (names : List (Str × NameKind)) : Prop := ∀ (i j : Nat) (x : Str) (k k' : NameKind), names[i]? = some (x, k) → names[j]? = some (x, k') → i = j

theorem get_set {ρ : Loc} {i j : Nat} {v w : PV} (e : (ρ.set i (some v))[j]? = some (some w)) : (j = i ∧ w = v) ∨ (j ≠ i ∧ ρ[j]? = some (some w)) := by
  by_cases q : j = i
  · subst q
    rw [List.getElem?_set_self'] at e
    cases hq : ρ[j]? with
    | none => rw [hq] at e; cases e
    | some o => rw [hq] at e; simp at e; exact .inl ⟨rfl, e.symm⟩
  · rw [List.getElem?_set_ne (Ne.symm q)] at e
    exact .inr ⟨q, e⟩

theorem store_local {i : Nat} {x : Str} {v : PV} {u : Value} {Q : Unit → Shared → Prop} {X : Value → Shared → Prop} (hU : Uniq env.scope.names) (r : R K.hb s.heap σ α) (E : EnvRel env ρ s.heap α) (hL : K.hb.get? env.locals = none)
    (hn : env.scope.names[i]? = some (x, .local)) (vu : VR s.heap α v u)
    (hQ : ∀ s', R K.hb s'.heap σ α → EnvRel env (ρ.set i (some v)) s'.heap α → Ext [env.locals] α s.heap α s'.heap → (∀ b, b ≠ env.locals → s'.heap.get? b = s.heap.get? b) → Sm s s' → Q () s') :
    wpAny (model K.prog K.w) A (storeName env x u) Q X s := by
  obtain ⟨m, n, hm⟩ := E.ns
  refine wpAny_storeName_local (E.ok.ws i x _ hn) n (fun h' hn' hs' => ?_) (by rw [E.ok.kind]; rfl)
  obtain ⟨r', x'⟩ := r.but E.la hL (fun b o hb e => (hs'.2 b hb).trans e) fun o e => by
    obtain ⟨o', es, ep, e', d, _⟩ := id n
    rw [e] at e'; cases e'
    rintro ⟨xs, n, q⟩; rw [d] at q; cases q
  refine hQ _ r' ⟨E.ok, E.la, ⟨_, hn', fun j y w e1 e2 => ?_⟩, fun y c hc => ?_, E.cd, fun j y e1 => ?_, fun j w e => ?_⟩ x' (fun b hb => hs'.2 b hb) ⟨rfl, rfl⟩
  · rcases get_set e2 with ⟨rfl, rfl⟩ | ⟨hne, e2⟩
    · rw [hn] at e1; cases e1
      exact ⟨u, by simp, vu.ext x'⟩
    · obtain ⟨u', h1, h2⟩ := hm j y w e1 e2
      have : y ≠ x := by rintro rfl; exact hne (hU j i _ _ _ e1 hn)
      exact ⟨u', by simp [this, h1], h2.ext x'⟩
  · obtain ⟨h1, h2, w, h3⟩ := E.ca y c hc
    exact ⟨h1, h2, w, isCell_ext x' (AL.not_ix h1) (by simpa using h2) h3⟩
  · obtain ⟨c, hc, hv⟩ := E.cv j y e1
    refine ⟨c, hc, fun w e2 => ?_⟩
    rcases get_set e2 with ⟨rfl, rfl⟩ | ⟨hne, e2⟩
    · rw [hn] at e1; cases e1
    · obtain ⟨u', h1, h2⟩ := hv w e2
      obtain ⟨q1, q2, _⟩ := E.ca y c hc
      exact ⟨u', isCell_ext x' (AL.not_ix q1) (by simpa using q2) h1, h2.ext x'⟩
  · rcases get_set e with ⟨rfl, rfl⟩ | ⟨hne, e2⟩
    · exact ⟨x, _, hn, .inl rfl⟩
    · exact E.inb j w e2

theorem store_cell {i : Nat} {x : Str} {v : PV} {u : Value} {Q : Unit → Shared → Prop} {X : Value → Shared → Prop} (hU : Uniq env.scope.names) (r : R K.hb s.heap σ α) (E : EnvRel env ρ s.heap α) (hN : EnvNew K.hb env)
    (hn : env.scope.names[i]? = some (x, .cell)) (vu : VR s.heap α v u)
    (hQ : ∀ c s', env.cells.lookup x = some c → R K.hb s'.heap σ α → EnvRel env (ρ.set i (some v)) s'.heap α → Ext [c] α s.heap α s'.heap → Sm s s' → Q () s') :
    wpAny (model K.prog K.w) A (storeName env x u) Q X s := by
  obtain ⟨m, n, hm⟩ := E.ns
  obtain ⟨c, hc, hv⟩ := E.cv i x hn
  obtain ⟨q1, q2, v0, q3⟩ := E.ca x c hc
  refine wpAny_storeName_cell E.ok.kind (E.ok.ws i x _ hn) hc q3 fun h' hc' hs' => ?_
  obtain ⟨r', x'⟩ := r.but q1 (hN.c x c hc) (fun b o hb e => (hs'.2 b hb).trans e) fun o e => by
    obtain ⟨o', e', d⟩ := q3
    rw [e] at e'; cases e'
    rintro ⟨xs, n, q⟩; rw [d] at q; cases q
  have hns : h'.Ns env.locals m := ns_ext x' (AL.not_ix E.la) (by simpa using (Ne.symm q2)) n
  refine hQ c _ hc r' ⟨E.ok, E.la, ⟨m, hns, fun j y w e1 e2 => ?_⟩, fun y c' hy => ?_, E.cd, fun j y e1 => ?_, fun j w e => ?_⟩ x' ⟨rfl, rfl⟩
  · rcases get_set e2 with ⟨rfl, rfl⟩ | ⟨hne, e2⟩
    · rw [hn] at e1; cases e1
    · obtain ⟨u', h1, h2⟩ := hm j y w e1 e2
      exact ⟨u', h1, h2.ext x'⟩
  · obtain ⟨h1, h2, w, h3⟩ := E.ca y c' hy
    by_cases q : c' = c
    · subst q; exact ⟨h1, h2, _, hc'⟩
    · exact ⟨h1, h2, w, isCell_ext x' (AL.not_ix h1) (by simpa using q) h3⟩
  · obtain ⟨c', hy, hv'⟩ := E.cv j y e1
    refine ⟨c', hy, fun w e2 => ?_⟩
    rcases get_set e2 with ⟨rfl, rfl⟩ | ⟨hne, e2⟩
    · rw [hn] at e1; cases e1
      rw [hc] at hy; cases hy
      exact ⟨u, hc', vu.ext x'⟩
    · obtain ⟨u', h1, h2⟩ := hv' w e2
      have : c' ≠ c := by
        rintro rfl
        have := E.cd _ _ _ hy hc
        subst this
        exact hne (hU j i _ _ _ e1 hn)
      exact ⟨u', isCell_ext x' (AL.not_ix (E.ca y c' hy).1) (by simpa using this) h1, h2.ext x'⟩
  · rcases get_set e with ⟨rfl, rfl⟩ | ⟨hne, e2⟩
    · exact ⟨x, _, hn, .inr rfl⟩
    · exact E.inb j w e2
end

/-! closures of comprehensions -/
noncomputable def clOf (cells : List (Str × Addr)) : List (Str × NameKind) → List (Str × Addr) → List (Str × Addr)
  | [], acc => acc
  | (n, k) :: r, acc => if k == .free then clOf cells r ((n, (cells.lookup n).getD 0) :: acc) else clOf cells r acc

theorem closureFor_go {env : Env} (f : Str × NameKind → List (Str × Addr) → Sem (ForInStep (List (Str × Addr))))
    (hf : ∀ n k cs, f (n, k) cs = if k == .free then (do let c ← cellOf env n; pure (.yield ((n, c) :: cs))) else pure (.yield cs)) :
    ∀ (names : List (Str × NameKind)) (acc : List (Str × Addr)), (∀ n, (n, NameKind.free) ∈ names → (env.cells.lookup n).isSome) → (forIn names acc f) = pure (clOf env.cells names acc)
  | [], acc, _ => by rw [List.forIn_nil]; rfl
  | (n, k) :: r, acc, h => by
    rw [List.forIn_cons, hf]
    unfold clOf
    cases hk : k == .free with
    | true =>
      have hk' : k = .free := by simpa using hk
      subst hk'
      obtain ⟨c, hc⟩ := Option.isSome_iff_exists.mp (h n List.mem_cons_self)
      simp only [if_true]
      unfold cellOf
      rw [hc]
      simp only [Option.getD_some, pure_bind]
      exact closureFor_go f hf r _ fun n hn => h n (List.mem_cons_of_mem _ hn)
    | false =>
      simp only [Bool.false_eq_true, if_false, pure_bind]
      exact closureFor_go f hf r _ fun n hn => h n (List.mem_cons_of_mem _ hn)
theorem closureFor_eq {scope : Scope} {env : Env} (h : ∀ n, (n, NameKind.free) ∈ scope.names → (env.cells.lookup n).isSome) : closureFor scope env = pure (clOf env.cells scope.names []) := by
  unfold closureFor
  refine (congrArg (· >>= fun cs => pure cs) (closureFor_go (env := env) _ (fun n k cs => ?_) scope.names [] h)).trans (pure_bind _ _)
  cases hk : k == NameKind.free <;> simp [hk]
theorem clOf_sub {cells : List (Str × Addr)} : ∀ (names : List (Str × NameKind)) (acc : List (Str × Addr)), (∀ n, (n, NameKind.free) ∈ names → (cells.lookup n).isSome) → (∀ n c, (n, c) ∈ acc → cells.lookup n = some c) →
    ∀ n c, (n, c) ∈ clOf cells names acc → cells.lookup n = some c
  | [], _, _, h2, n, c, h => h2 n c h
  | (n', k) :: r, acc, h1, h2, n, c, h => by
    unfold clOf at h
    split at h
    · rename_i hk
      have hk' : k = .free := by simpa using hk
      subst hk'
      refine clOf_sub r _ (fun n hn => h1 n (List.mem_cons_of_mem _ hn)) (fun m d hm => ?_) n c h
      rcases List.mem_cons.mp hm with e | hm
      · cases e
        obtain ⟨c', hc'⟩ := Option.isSome_iff_exists.mp (h1 n' List.mem_cons_self)
        rw [hc']; rfl
      · exact h2 m d hm
    · exact clOf_sub r _ (fun n hn => h1 n (List.mem_cons_of_mem _ hn)) h2 n c h
theorem clOf_acc {cells : List (Str × Addr)} : ∀ (names : List (Str × NameKind)) (acc : List (Str × Addr)) (n : Str) (c : Addr), (n, c) ∈ acc → (n, c) ∈ clOf cells names acc
  | [], _, _, _, h => h
  | (_, k) :: r, acc, n, c, h => by
    unfold clOf
    split
    · exact clOf_acc r _ n c (List.mem_cons_of_mem _ h)
    · exact clOf_acc r _ n c h
theorem clOf_has {cells : List (Str × Addr)} : ∀ (names : List (Str × NameKind)) (acc : List (Str × Addr)) (n : Str), (n, NameKind.free) ∈ names → ∃ c, (n, c) ∈ clOf cells names acc
  | (n', k) :: r, acc, n, h => by
    unfold clOf
    rcases List.mem_cons.mp h with e | h
    · cases e; exact ⟨_, clOf_acc r _ _ _ List.mem_cons_self⟩
    · split
      · exact clOf_has r _ n h
      · exact clOf_has r _ n h
theorem lookup_of_mem {l : List (Str × Addr)} {n : Str} {c : Addr} (h : (n, c) ∈ l) : ∃ c', l.lookup n = some c' := by
  induction l with
  | nil => simp at h
  | cons p r ih =>
    obtain ⟨k, v⟩ := p
    rw [List.lookup_cons]
    cases hb : n == k with
    | true => exact ⟨v, rfl⟩
    | false =>
      rcases List.mem_cons.mp h with e | h
      · cases e; simp at hb
      · exact ih h
theorem clOf_lookup {cells : List (Str × Addr)} {names : List (Str × NameKind)} (h : ∀ n, (n, NameKind.free) ∈ names → (cells.lookup n).isSome) {n : Str} {c : Addr} (e : (clOf cells names []).lookup n = some c) : cells.lookup n = some c :=
  clOf_sub names [] h (fun _ _ h => by simp at h) n c (mem_of_lookup e)
theorem clOf_free {cells : List (Str × Addr)} {names : List (Str × NameKind)} (h : ∀ n, (n, NameKind.free) ∈ names → (cells.lookup n).isSome) {n : Str} (hn : (n, NameKind.free) ∈ names) : (clOf cells names []).lookup n = cells.lookup n := by
  obtain ⟨c, hc⟩ := clOf_has (cells := cells) names [] n hn
  obtain ⟨c', hc'⟩ := lookup_of_mem hc
  rw [hc', clOf_lookup h hc']
end Mine

namespace Mine
open PySem PyProof.Rows

/-- what a list of names must be -/
structure ScOk (names : List (Str × NameKind)) : Prop where
  uniq : Uniq names
  nodbg : ∀ (i : Nat) (x : Str) (k : NameKind), names[i]? = some (x, k) → (x == ("__debug__" : Str)) = false
  kinds : ∀ (i : Nat) (x : Str) (k : NameKind), names[i]? = some (x, k) → k = .local ∨ k = .cell ∨ k = .globalImplicit
theorem lookup_of_uniq : ∀ {names : List (Str × NameKind)}, Uniq names → ∀ {i : Nat} {x : Str} {k : NameKind}, names[i]? = some (x, k) → names.lookup x = some k
  | [], _, i, x, k, h => by simp at h
  | (y, k') :: r, hU, i, x, k, h => by
    rw [List.lookup_cons]
    cases i with
    | zero => simp at h; obtain ⟨rfl, rfl⟩ := h; simp
    | succ i =>
      have h' : r[i]? = some (x, k) := by simpa using h
      have hne : (x == y) = false := by
        cases hb : x == y with
        | false => rfl
        | true =>
          have : x = y := by simpa using hb
          subst this
          exact absurd (hU 0 (i + 1) x k' k (by simp) h) (by omega)
      rw [hne]
      exact lookup_of_uniq (fun i j x k k' h1 h2 => by have := hU (i + 1) (j + 1) x k k' (by simpa using h1) (by simpa using h2); omega) h'
theorem idx_of_lookup : ∀ {names : List (Str × NameKind)} {x : Str} {k : NameKind}, names.lookup x = some k → ∃ i, names.findIdx? (·.1 == x) = some i ∧ names[i]? = some (x, k)
  | [], _, _, h => by simp at h
  | (y, k') :: r, x, k, h => by
    rw [List.lookup_cons] at h
    rw [List.findIdx?_cons]
    cases hb : x == y with
    | true =>
      rw [hb] at h; cases h
      have : x = y := by simpa using hb
      subst this
      exact ⟨0, by simp, by simp⟩
    | false =>
      rw [hb] at h
      obtain ⟨i, h1, h2⟩ := idx_of_lookup h
      have : (y == x) = false := by
        cases hq : y == x with
        | false => rfl
        | true => have : y = x := by simpa using hq
                  subst this; simp at hb
      exact ⟨i + 1, by simp [this, h1], by simpa using h2⟩

theorem relabel_names {scope : Scope} {env : Env} (hk : env.scope.kind = .function) : (relabel scope env).names = relab env.scope.names scope.names := by
  unfold relabel relab Env.kindOf
  simp [hk]

/-- what the scope of a comprehension must be -/
structure CompOk (N : List (Str × NameKind)) (scope : Scope) (t : Nat) (x : Str) : Prop where
  kind : scope.kind = .function
  sc : ScOk (relab N scope.names)
  nocell : ∀ y ∈ scope.names, y.2 ≠ .cell
  tgt : (relab N scope.names)[t]? = some (x, .local)

section
variable {N : List (Str × NameKind)} {scope : Scope} {t : Nat} {x : Str}

theorem CompOk.free (c : CompOk N scope t x) {n : Str} (h : (n, NameKind.free) ∈ scope.names) : N.lookup n = some .cell := by
  obtain ⟨i, hi⟩ := List.mem_iff_getElem?.mp h
  by_cases hq : N.lookup n = some .cell
  · exact hq
  · have : (relab N scope.names)[i]? = some (n, .free) := by simp [relab, hi, hq]
    rcases c.sc.kinds i n _ this with q | q | q <;> cases q
theorem CompOk.local_ (c : CompOk N scope t x) {i : Nat} {y : Str} (h : (relab N scope.names)[i]? = some (y, .local)) : scope.names[i]? = some (y, .local) := by
  simp only [relab, List.getElem?_map] at h
  cases hq : scope.names[i]? with
  | none => rw [hq] at h; cases h
  | some p =>
    obtain ⟨n, k⟩ := p
    rw [hq] at h
    simp only [Option.map_some, Option.some.injEq] at h
    split at h
    · cases h
    · rw [h]
theorem CompOk.cell_ (c : CompOk N scope t x) {i : Nat} {y : Str} (h : (relab N scope.names)[i]? = some (y, .cell)) : (y, NameKind.free) ∈ scope.names ∧ N.lookup y = some .cell := by
  simp only [relab, List.getElem?_map] at h
  cases hq : scope.names[i]? with
  | none => rw [hq] at h; cases h
  | some p =>
    obtain ⟨n, k⟩ := p
    rw [hq] at h
    simp only [Option.map_some, Option.some.injEq] at h
    split at h
    · rename_i hc
      cases h
      simp at hc
      exact ⟨hc.1 ▸ List.mem_of_getElem? hq, hc.2⟩
    · cases h
      exact absurd rfl (c.nocell _ (List.mem_of_getElem? hq))
theorem CompOk.names (c : CompOk N scope t x) : ∀ y ∈ scope.names, y.2 = .local → scope.names.lookup y.1 = some .local := by
  rintro ⟨y, k⟩ hy rfl
  obtain ⟨i, hi⟩ := List.mem_iff_getElem?.mp hy
  refine lookup_of_uniq (i := i) (fun i j z k k' h1 h2 => ?_) hi
  have e1 : ∃ q, (relab N scope.names)[i]? = some (z, q) := by
    simp only [relab, List.getElem?_map, h1]; simp only [Option.map_some, Option.some.injEq]; split <;> exact ⟨_, rfl⟩
  have e2 : ∃ q, (relab N scope.names)[j]? = some (z, q) := by
    simp only [relab, List.getElem?_map, h2]; simp only [Option.map_some, Option.some.injEq]; split <;> exact ⟨_, rfl⟩
  obtain ⟨_, e1⟩ := e1
  obtain ⟨_, e2⟩ := e2
  exact c.sc.uniq i j z _ _ e1 e2
end

theorem mem_idx {cells : List (Str × Addr)} {N : List (Str × NameKind)} : True := trivial

section
variable {K : Kt} {A : Around} {s : Shared} {α : AL} {σ : Sto} {env : Env} {ρ : Loc} {scope : Scope} {t : Nat} {x : Str}

theorem comp_clos {h : Heap} (c : CompOk env.scope.names scope t x) (E : EnvRel env ρ h α) : ∀ n, (n, NameKind.free) ∈ scope.names → (env.cells.lookup n).isSome := fun n hn => by
  obtain ⟨i, _, hi⟩ := idx_of_lookup (c.free hn)
  obtain ⟨a, ha, _⟩ := E.cv i n hi
  rw [ha]; rfl

theorem comp_env {h : Heap} {C : Addr} {m : Str → Option Value} (c : CompOk env.scope.names scope t x) (E : EnvRel env ρ h α) (hC : h.Ns C m) (hCa : C ∉ α.all) (hne : ∀ y a, env.cells.lookup y = some a → a ≠ C) :
    EnvRel (compEnvC scope (clOf env.cells scope.names []) C env) (capLoc (capOf env.scope.names (relab env.scope.names scope.names)) ρ) h α := by
  have hcl := comp_clos c E
  have hnm : (compEnvC scope (clOf env.cells scope.names []) C env).scope.names = relab env.scope.names scope.names := relabel_names E.ok.kind
  refine ⟨⟨?_, E.ok.glob, E.ok.bins, ?_, ?_⟩, hCa, ⟨m, hC, fun i y v e1 e2 => ?_⟩, fun y a ha => ?_, fun y z a h1 h2 => ?_, fun i y e1 => ?_, fun i v e => ?_⟩
  · exact c.kind
  · intro i y k hi
    rw [hnm] at hi
    show (compEnvC scope (clOf env.cells scope.names []) C env).scope.names.lookup y = some k
    rw [hnm]; exact lookup_of_uniq c.sc.uniq hi
  · intro i y k hi
    rw [hnm] at hi
    exact c.sc.nodbg i y k hi
  · rw [hnm] at e1
    exfalso
    simp only [capLoc, capOf, List.getElem?_map, e1] at e2
    simp at e2
  · have ha' := clOf_lookup hcl ha
    obtain ⟨h1, h2, h3⟩ := E.ca y a ha'
    exact ⟨h1, hne y a ha', h3⟩
  · exact E.cd y z a (clOf_lookup hcl h1) (clOf_lookup hcl h2)
  · rw [hnm] at e1
    obtain ⟨h1, h2⟩ := c.cell_ e1
    obtain ⟨j, hj, hj'⟩ := idx_of_lookup h2
    obtain ⟨a, ha, hv⟩ := E.cv j y hj'
    refine ⟨a, (clOf_free hcl h1).trans ha, fun v e2 => hv v ?_⟩
    simp only [capLoc, capOf, List.getElem?_map, e1] at e2
    simp [hj] at e2
    cases hq : ρ[j]? with
    | none => rw [hq] at e2; cases e2
    | some o => rw [hq] at e2; simp at e2; rw [e2]
  · rw [hnm]
    simp only [capLoc, capOf, List.getElem?_map] at e
    cases hq : (relab env.scope.names scope.names)[i]? with
    | none => rw [hq] at e; cases e
    | some p =>
      obtain ⟨y, k⟩ := p
      rw [hq] at e
      by_cases hk : k = .cell
      · exact ⟨y, k, rfl, .inr hk⟩
      · simp [hk] at e

end
end Mine

namespace Mine
open PySem PyProof.Rows

theorem compGo_no_exc {w : Option (Nat × List PV)} {f : PV → Sto → Out (Option PV)} : ∀ (xs : List PV) (σ : Sto) (i : Nat) (σ' : Sto), compGo w f xs σ ≠ .exc i σ'
  | [], σ, i, σ', h => by unfold compGo at h; split at h <;> cases h
  | x :: xs, σ, i, σ', h => by
    unfold compGo at h
    split at h
    · split at h
      · rename_i y σ₁ _
        cases hq : compGo w f xs σ₁ with
        | ok ys σ₂ => rw [hq] at h; cases h
        | exc j σ₂ => exact compGo_no_exc xs σ₁ j σ₂ hq
        | stuck => rw [hq] at h; cases h
      · cases h
    · cases h

noncomputable def compF (tC : PV → Sto → Out Bool) (eC : PV → Sto → Out PV) (x : PV) (σ : Sto) : Out (Option PV) :=
  (tC x σ).bind fun b σ => if b then (eC x σ).bind fun v σ => .ok (some v) σ else .ok none σ

theorem VRs.snoc {h : Heap} {α : AL} {xs : List PV} {vs : List Value} {p : PV} {v : Value} (a : VRs h α xs vs) (b : VR h α p v) : VRs h α (xs ++ [p]) (vs ++ [v]) :=
  a.append (.cons b .nil)

section
variable {K : Kt} {A : Around} {s : Shared} {α : AL} {env : Env} {ρ : Loc} {scope : Scope} {t : Nat} {x : Str}

/-- a comprehension's loop is over -/
noncomputable def CompDone (K : Kt) (s : Shared) (α : AL) (c : Out PV) (acc : Value) (C : Addr) (r : Result) (s' : Shared) : Prop :=
  r = .ok .next ∧ ∃ v σ' α' m, c = .ok v σ' ∧ Ext [] α s.heap α' s'.heap ∧ R K.hb s'.heap σ' α' ∧ VR s'.heap α' v acc ∧ Sm s s' ∧ s'.heap.Ns C m ∧ C ∉ α'.all ∧ s.heap.get? C = none ∧ K.hb.get? C = none

noncomputable def goOn (fz : Bool) (w : Option (Nat × List PV)) (tC : PV → Sto → Out Bool) (eC : PV → Sto → Out PV) (ys xs : List PV) (σ : Sto) : Out PV :=
  (compGo w (compF tC eC) xs σ).bind fun zs σ => mkLst fz (ys ++ zs) σ

theorem goOn_cons {fz w tC eC ys p xs σ} (h : goOn fz w tC eC ys (p :: xs) σ ≠ .stuck) : watchOk w σ ∧ tC p σ ≠ .stuck ∧ (∀ i σ', tC p σ ≠ .exc i σ') ∧
    (∀ σ', tC p σ = .ok false σ' → goOn fz w tC eC ys (p :: xs) σ = goOn fz w tC eC ys xs σ') ∧
    (∀ σ', tC p σ = .ok true σ' → eC p σ' ≠ .stuck ∧ (∀ i σ'', eC p σ' ≠ .exc i σ'') ∧ ∀ v σ'', eC p σ' = .ok v σ'' → goOn fz w tC eC ys (p :: xs) σ = goOn fz w tC eC (ys ++ [v]) xs σ'') := by
  by_cases hw : watchOk w σ
  · refine ⟨hw, fun e => ?_, fun i σ' e => ?_, fun σ' e => ?_, fun σ' e => ⟨fun e' => ?_, fun i σ'' e' => ?_, fun v σ'' e' => ?_⟩⟩
    · exact h (by simp [goOn, compGo, hw, compF, e, Out.bind])
    · exact h (by simp [goOn, compGo, hw, compF, e, Out.bind])
    · simp only [goOn, compGo, hw, compF, e, Out.bind, if_true, Bool.false_eq_true, if_false]
      cases compGo w (compF tC eC) xs σ' <;> rfl
    · exact h (by simp [goOn, compGo, hw, compF, e, e', Out.bind])
    · exact h (by simp [goOn, compGo, hw, compF, e, e', Out.bind])
    · simp only [goOn, compGo, hw, compF, e, e', Out.bind, if_true]
      cases compGo w (compF tC eC) xs σ'' <;> simp
  · exact absurd (by simp [goOn, compGo, hw, Out.bind]) h
theorem goOn_len {fz w tC eC ys xs σ} (h : goOn fz w tC eC ys xs σ ≠ .stuck) : ys.length ≤ lim := by
  unfold goOn at h
  cases hq : compGo w (compF tC eC) xs σ with
  | ok zs σ' =>
    rw [hq] at h
    simp only [Out.bind, mkLst] at h
    split at h
    · rename_i hl; simp at hl; omega
    · exact absurd rfl h
  | exc i σ' => exact absurd hq (compGo_no_exc _ _ _ _)
  | stuck => rw [hq] at h; exact absurd rfl h

theorem comp_loop {elt iter : Expr} {px : Pos} {ifs : List Expr} {pos : Pos} {it : Value} {own : List Addr} {xs : List PV} {w : Option (Nat × List PV)} {St : Nat → Heap → AL → Prop} {D C : Addr}
    {tC : PV → Sto → Out Bool} {eC : PV → Sto → Out PV} {fz : Bool} {c : Out PV} {cenv : Env} {ρc : Loc}
    (I : Iter K A own it xs w St) (hx : cenv.scope.names[t]? = some (x, .local)) (hU : Uniq cenv.scope.names) (hCl : cenv.locals = C)
    (hown : ∀ b ∈ own, s.heap.get? b = none) (hD : s.heap.get? D = none) (hC : s.heap.get? C = none) (hbD : K.hb.get? D = none) (hbC : K.hb.get? C = none)
    (hDx : D ∉ α.hid) (apart : Apart cenv own) (hc : c ≠ .stuck)
    (htest : ∀ v s σ α, EnvRel cenv (ρc.set t (some v)) s.heap α → R K.hb s.heap σ α →
      Runs K RelEq A (forIn ifs true fun c r => if r = true then do let ok ← isTrue c cenv (eval c cenv); pure (ForInStep.yield ok) else pure (ForInStep.yield r)) (tC v σ) s α)
    (helt : ∀ v s σ α, EnvRel cenv (ρc.set t (some v)) s.heap α → R K.hb s.heap σ α → Runs K VR A (eval elt cenv) (eC v σ) s α)
    {i : Nat} {σ₁ : Sto} {α₁ : AL} {s₁ : Shared} {ys : List PV} {us : List Value} {ρ₁ : Loc} {n : Nat}
    (hi : i ≤ xs.length) (hid : α₁.hid = D :: α.hid) (x₁ : Ext [] α s.heap ⟨α₁.ix, α.hid⟩ s₁.heap) (r₁ : R K.hb s₁.heap σ₁ α₁) (st : St i s₁.heap α₁) (E₁ : EnvRel cenv ρ₁ s₁.heap α₁)
    (hρ : ∀ v, ρ₁.set t (some v) = ρc.set t (some v)) (hl : s₁.heap.get? D = some { cls := .type "list", data := .seq us.toArray n }) (vs : VRs s₁.heap α₁ ys us) (m₁ : Sm s s₁)
    (hgo : goOn fz w tC eC ys (xs.drop i) σ₁ = c) :
    codeAny (model K.prog K.w) A (.compLoop (.ListComp elt [⟨.Name x px, iter, ifs, 0⟩] scope pos) 0 it (.ref D) cenv) (CompDone K s α c (.ref D) C) s₁ := by
  refine codeAny_compLoop_tests (fun n s₁ => ∃ i σ₁ α₁ ys us ρ₁ nn, n = xs.length - i ∧ i ≤ xs.length ∧ α₁.hid = D :: α.hid ∧ Ext [] α s.heap ⟨α₁.ix, α.hid⟩ s₁.heap ∧ R K.hb s₁.heap σ₁ α₁ ∧ St i s₁.heap α₁ ∧ EnvRel cenv ρ₁ s₁.heap α₁ ∧
      (∀ v, ρ₁.set t (some v) = ρc.set t (some v)) ∧ s₁.heap.get? D = some { cls := .type "list", data := .seq (List.toArray us) nn } ∧ VRs s₁.heap α₁ ys us ∧ Sm s s₁ ∧ goOn fz w tC eC ys (xs.drop i) σ₁ = c)
    (fun n s₁ inv => ?_) _ ⟨i, σ₁, α₁, ys, us, ρ₁, n, rfl, hi, hid, x₁, r₁, st, E₁, hρ, hl, vs, m₁, hgo⟩
  clear hgo m₁ vs hl hρ E₁ st r₁ x₁ hid hi
  obtain ⟨i, σ₁, α₁, ys, us, ρ₁, nn, rfl, hi, hid, x₁, r₁, st, E₁, hρ, hl, vs, m₁, hgo⟩ := inv
  have hDh : D ∈ α₁.hid := by rw [hid]; exact List.mem_cons_self
  have hDa : D ∈ α₁.all := List.mem_append_right _ hDh
  by_cases hlt : i < xs.length
  · -- one more item
    have hdrop : xs.drop i = xs[i] :: xs.drop (i + 1) := List.drop_eq_getElem_cons hlt
    rw [hdrop] at hgo
    obtain ⟨hw, ht1, ht2, ht3, ht4⟩ := goOn_cons (by rw [hgo]; exact hc)
    refine I.item i s₁ σ₁ α₁ xs[i] (by simp [hlt]) st r₁ hw _ _ fun v s₂ vr st₂ xo r₂ m₂ => ?_
    have x₂ : Ext [] α s.heap ⟨α₁.ix, α.hid⟩ s₂.heap := Ext.drop x₁ hown (by simp) (by simpa using xo.rehid α.hid)
    have E₂ := E₁.ext xo apart
    have hl₂ := xo.seqs D _ (r₁.hidden D hDh).1 hl ⟨_, _, rfl⟩
    have vs₂ := vs.ext xo
    refine wpAny_assign_Name (store_local hU r₂ E₂ (by rw [hCl]; exact hbC) hx vr fun s₃ r₃ E₃ xc sb m₃ => ?_)
    rw [hρ] at E₃
    rw [hCl] at xc sb
    have hCD : D ≠ C := by rintro rfl; exact E₁.la (by rw [hCl]; exact hDa)
    have x₃ : Ext [] α s.heap ⟨α₁.ix, α.hid⟩ s₃.heap := x₂.sameBut hC sb
    have hl₃ : s₃.heap.get? D = _ := (sb D hCD).trans hl₂
    have vs₃ := vs₂.ext xc
    have st₃ := I.frame _ _ _ _ _ _ st₂ xc (fun b hb q => by simp at q; subst q; exact apart.1 (hCl ▸ hb))
    refine wpAny_mono (htest xs[i] s₃ σ₁ α₁ E₃ r₃ ht1) (fun ok s₄ hp => ?_) fun e s₄ hx => ?_
    · obtain ⟨b, σ₄, α₄, hb, x4, r₄, e4, m₄⟩ := hp
      have e4' : ok = b := e4
      subst e4'
      have hid₄ : α₄.hid = D :: α.hid := x4.hid.trans hid
      have x₄ : Ext [] α s.heap ⟨α₄.ix, α.hid⟩ s₄.heap := x₃.trans (x4.rehid α.hid)
      have E₄ := E₃.ext x4 .nil
      have hl₄ := x4.seqs D _ (r₃.hidden D hDh).1 hl₃ ⟨_, _, rfl⟩
      have vs₄ := vs₃.ext x4
      have st₄ := I.frame _ _ _ _ _ _ st₃ x4 (by simp)
      cases ok with
      | false =>
        rw [if_neg (by simp)]
        refine ⟨xs.length - (i + 1), by omega, i + 1, σ₄, α₄, ys, us, _, nn, rfl, hlt, hid₄, x₄, r₄, st₄, E₄, fun v => by rw [List.set_set], hl₄, vs₄, ((m₁.trans m₂).trans m₃).trans m₄, ?_⟩
        rw [← ht3 _ hb]; exact hgo
      | true =>
        rw [if_pos rfl]
        obtain ⟨he1, he2, he3⟩ := ht4 _ hb
        refine wpAny_mono (helt xs[i] s₄ σ₄ α₄ E₄ r₄ he1) (fun u s₅ hp => ?_) fun e s₅ hx => ?_
        · obtain ⟨v5, σ₅, α₅, hv5, x5, r₅, vr5, m₅⟩ := hp
          have hid₅ : α₅.hid = D :: α.hid := x5.hid.trans hid₄
          have hDh₅ : D ∈ α₅.hid := by rw [hid₅]; exact List.mem_cons_self
          have hDa₅ : D ∈ α₅.all := List.mem_append_right _ hDh₅
          have x₅ : Ext [] α s.heap ⟨α₅.ix, α.hid⟩ s₅.heap := x₄.trans (x5.rehid α.hid)
          have E₅ := E₄.ext x5 .nil
          have hl₅ := x5.seqs D _ (r₄.hidden D (by rw [hid₄]; exact List.mem_cons_self)).1 hl₄ ⟨_, _, rfl⟩
          have vs₅ := vs₄.ext x5
          have st₅ := I.frame _ _ _ _ _ _ st₄ x5 (by simp)
          refine wpAny_list_append_plain ⟨_, hl₅⟩ (fun h₆ hl₆ sb₆ => ?_) ?_
          · obtain ⟨n6, hl₆⟩ := hl₆
            have kb : ∀ b, b ≠ D → h₆.get? b = s₅.heap.get? b := fun b hb => sb₆.2 b hb
            refine ⟨xs.length - (i + 1), by omega, i + 1, σ₅, α₅, ys ++ [v5], us ++ [u], _, n6, rfl, hlt, hid₅, x₅.sameBut hD kb, r₅.sameHid hDh₅ hbD kb ⟨_, hl₆⟩, I.but _ _ _ _ _ st₅ hDa₅ kb, E₅.sameBut hDa₅ kb, fun v => by rw [List.set_set], ?_, (vs₅.snoc vr5).sameBut hDa₅ kb, (((m₁.trans m₂).trans m₃).trans m₄).trans (m₅.trans ⟨rfl, rfl⟩), ?_⟩
            · rw [hl₆]; simp
            · rw [← he3 _ _ hv5]; exact hgo
          · have := goOn_len (by rw [hgo]; exact hc)
            have h2 := vs.1
            simp
            rw [← h2]
            exact lim_line this
        · obtain ⟨j, σ₅, e5, _⟩ := hx
          exact absurd e5 (he2 _ _)
    · obtain ⟨j, σ₅, e5, _⟩ := hx
      exact absurd e5 (ht2 _ _)
  · -- the end
    have hie : i = xs.length := by omega
    subst hie
    rw [List.drop_length] at hgo
    have hw : watchOk w σ₁ := by
      by_cases hw : watchOk w σ₁
      · exact hw
      · exact absurd (by rw [← hgo]; simp [goOn, compGo, hw, Out.bind]) hc
    have hlim := goOn_len (by rw [hgo]; exact hc)
    have hgo' : mkLst fz ys σ₁ = c := by rw [← hgo]; simp [goOn, compGo, hw, Out.bind]
    refine I.done s₁ σ₁ α₁ st r₁ hw _ _ fun s₂ xo r₂ m₂ => ?_
    have x₂ : Ext [] α s.heap ⟨α₁.ix, α.hid⟩ s₂.heap := Ext.drop x₁ hown (by simp) (by simpa using xo.rehid α.hid)
    have E₂ := E₁.ext xo apart
    have hDi := (r₂.hidden D hDh).1
    have hl₂ := xo.seqs D _ (r₁.hidden D hDh).1 hl ⟨_, _, rfl⟩
    have vs₂ := vs.ext xo
    obtain ⟨mC, nC, _⟩ := E₂.ns
    rw [hCl] at nC
    have hCa : C ∉ α₁.all := by rw [← hCl]; exact E₁.la
    have sub1 : ∀ a, a ∈ (⟨α₁.ix, α.hid⟩ : AL).all → a ∈ α₁.all := fun a ha => by
      rcases List.mem_append.mp ha with q | q
      · exact List.mem_append_left _ q
      · exact List.mem_append_right _ (by rw [hid]; exact List.mem_cons_of_mem _ q)
    unfold mkLst at hgo'
    rw [if_pos hlim] at hgo'
    cases fz with
    | true =>
      refine ⟨rfl, _, _, ⟨α₁.ix, α.hid⟩, mC, hgo'.symm, x₂, ⟨r₂.base, r₂.fresh, r₂.nodup, r₂.len, fun a ha => r₂.hidden a (by rw [hid]; exact List.mem_cons_of_mem _ ha), fun j m a e1 e2 => (r₂.obj j m a e1 e2).re (α := α₁) (α' := ⟨α₁.ix, α.hid⟩) (fun _ _ e => e) sub1, fun a ha => r₂.hfr a (by rw [hid]; exact List.mem_cons_of_mem _ ha)⟩, ?_, m₁.trans m₂, nC, fun q => hCa (sub1 _ q), hC, hbC⟩
      refine VR.flI hl₂ (fun q => ?_) (vs₂.re (α := α₁) (α' := ⟨α₁.ix, α.hid⟩) (fun _ _ e => e) sub1)
      rcases List.mem_append.mp q with q | q
      · exact hDi q
      · exact hDx q
    | false =>
      have get1 : ∀ (j : Nat) (a : Addr), α₁.ix[j]? = some a → (α₁.ix ++ [D])[j]? = some a := fun j a e => by
        rw [List.getElem?_append_left (List.getElem?_eq_some_iff.mp e).1]; exact e
      have sub2 : ∀ a, a ∈ (⟨α₁.ix ++ [D], α.hid⟩ : AL).all → a ∈ α₁.all := fun a ha => by
        rcases List.mem_append.mp ha with q | q
        · rcases List.mem_append.mp q with q | q
          · exact List.mem_append_left _ q
          · simp at q; subst q; exact hDa
        · exact List.mem_append_right _ (by rw [hid]; exact List.mem_cons_of_mem _ q)
      refine ⟨rfl, _, _, ⟨α₁.ix ++ [D], α.hid⟩, mC, hgo'.symm, ?_, ⟨r₂.base, ?_, ?_, ?_, fun a ha => ⟨?_, (r₂.hidden a (by rw [hid]; exact List.mem_cons_of_mem _ ha)).2⟩, fun j m a e1 e2 => ?_, fun a ha => r₂.hfr a (by rw [hid]; exact List.mem_cons_of_mem _ ha)⟩, .ref ?_, m₁.trans m₂, nC, fun q => hCa (sub2 _ q), hC, hbC⟩
      · obtain ⟨β, q1, q2⟩ := x₂.pre
        refine ⟨rfl, ⟨β ++ [D], by show α₁.ix ++ [D] = _; rw [show α₁.ix = α.ix ++ β from q1, List.append_assoc], fun a ha => ?_⟩, x₂.seqs, x₂.rest, x₂.alive⟩
        rcases List.mem_append.mp ha with q | q
        · exact q2 a q
        · simp at q; subst q; exact ⟨hD, by simp⟩
      · intro a ha
        rcases List.mem_append.mp ha with q | q
        · exact r₂.fresh a q
        · simp at q; subst q; exact hbD
      · show (α₁.ix ++ [D]).Nodup
        rw [List.nodup_append]
        exact ⟨r₂.nodup, by simp, fun a ha b hb => by simp at hb; subst hb; rintro rfl; exact hDi ha⟩
      · simp [r₂.len]
      · intro q
        rcases List.mem_append.mp q with q | q
        · exact (r₂.hidden a (by rw [hid]; exact List.mem_cons_of_mem _ ha)).1 q
        · simp at q; subst q; exact hDx ha
      · by_cases hj : j < σ₁.length
        · rw [List.getElem?_append_left hj] at e1
          have e2' : (α₁.ix ++ [D])[j]? = some a := e2
          rw [List.getElem?_append_left (by rw [← r₂.len]; exact hj)] at e2'
          exact (r₂.obj j m a e1 e2').re get1 sub2
        · have e3 : j = σ₁.length := by
            have := (List.getElem?_eq_some_iff.mp e1).1
            simp at this; omega
          subst e3
          have e2' : (α₁.ix ++ [D])[σ₁.length]? = some a := e2
          rw [List.getElem?_append_right (Nat.le_refl _)] at e1
          rw [List.getElem?_append_right (by rw [r₂.len]; exact Nat.le_refl _)] at e2'
          simp [r₂.len] at e1 e2'
          subst e1 e2'
          exact ⟨us, nn, hl₂, vs₂.re get1 sub2⟩
      · rw [r₂.len]; simp
end
end Mine

namespace Mine
open PySem PyProof.Rows

section
variable {K : Kt} {A : Around} {s : Shared} {α : AL} {env : Env} {ρ : Loc} {scope : Scope} {t : Nat} {x : Str}

noncomputable abbrev compCenv (scope : Scope) (C : Addr) (env : Env) : Env := compEnvC scope (clOf env.cells scope.names []) C env
noncomputable abbrev compRho (scope : Scope) (env : Env) (ρ : Loc) : Loc := capLoc (capOf env.scope.names (relab env.scope.names scope.names)) ρ
noncomputable def compOut (fz : Bool) (tC : PV → Sto → Out Bool) (eC : PV → Sto → Out PV) (ci : Out (List PV × Option (Nat × List PV))) : Out PV :=
  ci.bind fun p σ => goOn fz p.2 tC eC [] p.1 σ

theorem comp_block {elt iter : Expr} {px : Pos} {ifs : List Expr} {pos : Pos} {ci : Out (List PV × Option (Nat × List PV))}
    {tC : PV → Sto → Out Bool} {eC : PV → Sto → Out PV} {fz : Bool} {RR : Value → Addr → Result → Shared → Prop} {E : Value → Shared → Prop}
    (c : CompOk env.scope.names scope t x) (E₀ : EnvRel env ρ s.heap α) (hit : RunsIt K A (eval iter env) ci s α) (hc : compOut fz tC eC ci ≠ .stuck)
    (htest : ∀ C v s σ α, EnvNew K.hb (compCenv scope C env) → EnvRel (compCenv scope C env) ((compRho scope env ρ).set t (some v)) s.heap α → R K.hb s.heap σ α →
      Runs K RelEq A (forIn ifs true fun c r => if r = true then do let ok ← isTrue c (compCenv scope C env) (eval c (compCenv scope C env)); pure (ForInStep.yield ok) else pure (ForInStep.yield r)) (tC v σ) s α)
    (helt : ∀ C v s σ α, EnvNew K.hb (compCenv scope C env) → EnvRel (compCenv scope C env) ((compRho scope env ρ).set t (some v)) s.heap α → R K.hb s.heap σ α → Runs K VR A (eval elt (compCenv scope C env)) (eC v σ) s α)
    (hN : EnvNew K.hb env) (r₀ : ∃ σ, R K.hb s.heap σ α)
    (hE : ∀ e s', PostX K A ci s α e s' → E e s') (hRR : ∀ acc C r s', CompDone K s α (compOut fz tC eC ci) acc C r s' → RR acc C r s') :
    wpAny (model K.prog K.w) A (eval iter env) (fun xv s₁ => wpAny (model K.prog K.w) A (pyIter xv) (fun it s₂ => wpAny (model K.prog K.w) A (newList []) (fun acc s₃ =>
      wpAny (model K.prog K.w) A (newFunctionEnv scope env.globals (clOf env.cells scope.names []) [] env.qual none .none (some env)) (fun cenv s₄ =>
        codeAny (model K.prog K.w) A (.compStart (.ListComp elt [⟨.Name x px, iter, ifs, 0⟩] scope pos) 0 it acc { cenv with scope := relabel scope env }) (RR acc cenv.locals) s₄) E s₃) E s₂) E s₁) E s := by
  have hci : ci ≠ .stuck := by rintro rfl; exact hc rfl
  refine wpAny_mono (hit hci) (fun xv s₁ h₁ => wpAny_mono h₁ (fun it s₂ h₂ => ?_) hE) hE
  obtain ⟨xs, w, σ₂, α₂, own, St, hci2, x₂, r₂, m₂, I, st, ho⟩ := h₂
  have cell : ∀ y ∈ scope.names, y.2 ≠ .cell := c.nocell
  refine wpAny_newObj_type (wpAny_newFunctionEnv cell (by intro y hy; simp at hy) (fun h₁ hns₁ hsb₁ => ?_) c.kind)
  dsimp only at hns₁ hsb₁ ⊢
  generalize hH2 : s₂.heap.push { cls := .type "list", dict := none, data := .seq ([] : List Value).toArray } = H2 at hns₁ hsb₁ ⊢
  have hCs : H2.objs.size = s₂.heap.objs.size + 1 := by rw [← hH2, Heap.size_push]
  have hDC : s₂.heap.objs.size ≠ H2.objs.size := by rw [hCs]; exact Nat.ne_of_lt (Nat.lt_succ_self _)
  have old : ∀ b o, s₂.heap.get? b = some o → h₁.get? b = some o := fun b o e => hsb₁.extBut b o (by rw [hCs]; exact Nat.ne_of_lt (Nat.lt_succ_of_lt (Heap.lt_size e))) (Heap.get?_push_of_some _ (hH2 ▸ Heap.get?_push_of_some _ e))
  have hacc : h₁.get? s₂.heap.objs.size = some { cls := .type "list", data := .seq ([] : List Value).toArray } := hsb₁.extBut _ _ hDC (Heap.get?_push_of_some _ (hH2 ▸ Heap.get?_push_size _ rfl))
  have fresh : ∀ a, s₂.heap.objs.size ≤ a → s₂.heap.get? a = none := fun a ha => by
    cases e : s₂.heap.get? a with
    | none => rfl
    | some o' => exact absurd (Heap.lt_size e) (Nat.not_lt.mpr ha)
  have hD2 := fresh s₂.heap.objs.size (Nat.le_refl _)
  have hC2 : s₂.heap.get? H2.objs.size = none := fresh _ (by rw [hCs]; exact Nat.le_succ _)
  have back : ∀ a, s₂.heap.get? a = none → s.heap.get? a = none := fun a ha => by
    cases e : s.heap.get? a with
    | none => rfl
    | some o => obtain ⟨o', e'⟩ := x₂.alive a o (by simp) e; rw [ha] at e'; cases e'
  have base : ∀ a, s₂.heap.get? a = none → K.hb.get? a = none := fun a ha => by
    cases e : K.hb.get? a with
    | none => rfl
    | some o => rw [r₂.base a o e] at ha; cases ha
  have E₂ := E₀.ext x₂ .nil
  have r₃ : R K.hb h₁ σ₂ ⟨α₂.ix, s₂.heap.objs.size :: α₂.hid⟩ := r₂.hide hD2 old hacc
  have E₃ : EnvRel env ρ h₁ ⟨α₂.ix, s₂.heap.objs.size :: α₂.hid⟩ := (E₂.hide hD2).ext (.keeps (F := []) old) .nil
  have cells : ∀ y a, env.cells.lookup y = some a → ∃ o, s.heap.get? a = some o := fun y a ha => by
    obtain ⟨_, _, v, o, e, _⟩ := E₀.ca y a ha; exact ⟨o, e⟩
  have hCa : H2.objs.size ∉ (⟨α₂.ix, s₂.heap.objs.size :: α₂.hid⟩ : AL).all := fun q => by
    rcases List.mem_append.mp q with q | q
    · obtain ⟨o, e⟩ := r₂.live q; rw [hC2] at e; cases e
    · rcases List.mem_cons.mp q with q | q
      · exact hDC q.symm
      · obtain ⟨o, e⟩ := (r₂.hidden _ q).2; rw [hC2] at e; cases e
  have hne : ∀ y a, env.cells.lookup y = some a → a ≠ H2.objs.size := fun y a ha q => by
    obtain ⟨o, e⟩ := cells y a ha
    rw [q, back _ hC2] at e; cases e
  have E₄ := comp_env c E₃ hns₁ hCa hne
  have hcl := comp_clos c E₀
  have apart : Apart (compCenv scope H2.objs.size env) own := by
    refine ⟨fun q => ?_, fun y a ha q => ?_⟩
    · obtain ⟨o, e⟩ := I.live _ _ _ st _ q
      have e' : s₂.heap.get? H2.objs.size = some o := e
      rw [hC2] at e'; cases e'
    · obtain ⟨o, e⟩ := cells y a (clOf_lookup hcl ha)
      rw [(ho a q).1] at e; cases e
  have hN' : EnvNew K.hb (compCenv scope H2.objs.size env) := ⟨base _ hC2, fun y a ha => hN.c y a (clOf_lookup hcl ha)⟩
  have hnm : (compCenv scope H2.objs.size env).scope.names = relab env.scope.names scope.names := relabel_names E₀.ok.kind
  have st₃ : St 0 h₁ ⟨α₂.ix, s₂.heap.objs.size :: α₂.hid⟩ := I.frame _ [] _ _ _ _ (I.hide _ _ _ _ st hD2) (.keeps old) (by simp)
  have loop : ∀ s₃ : Shared, s₃ = { s₂ with heap := h₁, toks := s₂.toks + ([] : List (Str × Value)).length } →
      codeAny (model K.prog K.w) A (.compLoop (.ListComp elt [⟨.Name x px, iter, ifs, 0⟩] scope pos) 0 it (.ref s₂.heap.objs.size) (compEnvC scope (clOf env.cells scope.names []) H2.objs.size env))
        (RR (.ref s₂.heap.objs.size) H2.objs.size) s₃ := by
    rintro s₃ rfl
    refine codeAny_mono (comp_loop (s := s) (α := α) (D := s₂.heap.objs.size) (C := H2.objs.size) (fz := fz) (c := compOut fz tC eC ci) (cenv := compCenv scope H2.objs.size env) (ρc := compRho scope env ρ) (t := t) (tC := tC) (eC := eC)
      (i := 0) (σ₁ := σ₂) (α₁ := ⟨α₂.ix, s₂.heap.objs.size :: α₂.hid⟩) (ys := []) (us := []) (ρ₁ := compRho scope env ρ) (n := 0) I (by rw [hnm]; exact c.tgt) (by rw [hnm]; exact c.sc.uniq) rfl (fun b hb => (ho b hb).1) (back _ hD2) (back _ hC2) (base _ hD2) (base _ hC2) ?_ apart hc
      (fun v s σ α => htest _ v s σ α hN') (fun v s σ α => helt _ v s σ α hN') (Nat.zero_le _) (by show _ :: α₂.hid = _; rw [x₂.hid]) ?_ r₃ st₃ E₄ (fun v => rfl) hacc .nil ⟨m₂.gens, m₂.os⟩ ?_) (fun r s' => hRR _ _ r s')
    · obtain ⟨σ, r₀⟩ := r₀
      intro q
      obtain ⟨o, e⟩ := (r₀.hidden _ q).2
      rw [back _ hD2] at e; cases e
    · have h3 : Ext [] α s.heap ⟨α₂.ix, α.hid⟩ s₂.heap := by
        have := x₂.rehid α.hid
        exact this
      exact h3.trans (.keeps old)
    · rw [hci2]; rfl
  exact codeAny_compStart_list (loop _ rfl) (I.self 0 _ _ st₃ _ _ (loop _ rfl))

theorem names_ok (c : CompOk env.scope.names scope t x) : ∀ y ∈ scope.names, y.2 = .local → scope.names.lookup y.1 = some .local := c.names

theorem listComp_sound {elt iter : Expr} {px : Pos} {ifs : List Expr} {pos : Pos} {ci : Out (List PV × Option (Nat × List PV))} {σ : Sto}
    {tC : PV → Sto → Out Bool} {eC : PV → Sto → Out PV} {fz : Bool}
    (c : CompOk env.scope.names scope t x) (E₀ : EnvRel env ρ s.heap α) (hit : RunsIt K A (eval iter env) ci s α)
    (htest : ∀ C v s σ α, EnvNew K.hb (compCenv scope C env) → EnvRel (compCenv scope C env) ((compRho scope env ρ).set t (some v)) s.heap α → R K.hb s.heap σ α →
      Runs K RelEq A (forIn ifs true fun c r => if r = true then do let ok ← isTrue c (compCenv scope C env) (eval c (compCenv scope C env)); pure (ForInStep.yield ok) else pure (ForInStep.yield r)) (tC v σ) s α)
    (helt : ∀ C v s σ α, EnvNew K.hb (compCenv scope C env) → EnvRel (compCenv scope C env) ((compRho scope env ρ).set t (some v)) s.heap α → R K.hb s.heap σ α → Runs K VR A (eval elt (compCenv scope C env)) (eC v σ) s α)
    (hN : EnvNew K.hb env) (r₀ : R K.hb s.heap σ α) (hs : ∀ x, foldedSetIterable iter env x = pure x) :
    Runs K VR A (eval (.ListComp elt [⟨.Name x px, iter, ifs, 0⟩] scope pos) env) (compOut fz tC eC ci) s α := by
  intro hc
  rw [eval_ListComp]
  refine wpAny_comprehension_free (use := none) rfl hs (closureFor_eq (comp_clos c E₀)) c.kind c.names (comp_block (fz := fz) (RR := fun acc C => compPost (model K.prog K.w) A _ none _ acc C) c E₀ hit hc htest helt hN ⟨_, r₀⟩ (fun e s' hx => ?_) ?_)
  · obtain ⟨i, σ', e1, fx⟩ := hx
    exact ⟨i, σ', by rw [e1]; rfl, fx⟩
  · rintro acc C r s' ⟨rfl, v, σ', α', m, e, x', r', vr, sm, ns, ha, hC, hbC⟩
    refine ⟨m, ns, fun h' hs' => ?_⟩
    obtain ⟨r'', x''⟩ := r'.but ha hbC (fun b o hb e => (hs'.2 b hb).trans e) fun o e => by
      obtain ⟨o', es, ep, e', d, _⟩ := id ns
      rw [e] at e'; cases e'
      rintro ⟨xs, n, q⟩; rw [d] at q; cases q
    exact ⟨v, σ', α', e, x'.sameBut hC (fun b hb => hs'.2 b hb), r'', vr.ext x'', sm.trans ⟨rfl, rfl⟩⟩
end
end Mine

namespace Mine
open PySem PyProof.Rows

noncomputable def plainE : Expr → Bool
  | .Set .. => false
  | .Starred .. => false
  | _ => true
theorem plain_marks {op : CmpOp} {e : Expr} (h : plainE e = true) : behindInMarks op e = false := by
  cases e <;> first | rfl | cases h
theorem plain_folded {e : Expr} {env : Env} (h : plainE e = true) (x : Value) : foldedSetIterable e env x = pure x := by
  cases e <;> first | rfl | cases h
theorem plain_star {e : Expr} {rest : List Expr} {env : Env} (h : plainE e = true) : starEach (e :: rest) env = (false, eval e env) :: starEach rest env := by
  cases e <;> first | rfl | cases h

structure Ctx (K : Kt) (A : Around) (T : Tab) (C : Cfg) : Prop where
  hK : K.Ok
  hA : AOk A
  cst : ∀ x v, T.cst.lookup x = some v → ∃ u, K.mg x = some u ∧ ∀ h σ α, R K.hb h σ α → VR h α v u
  fn : ∀ f x, T.fns[f]? = some x → ∃ a o fd, K.mg x = some (.ref a) ∧ K.hb.get? a = some o ∧ o.data = .func fd ∧ ∀ vs us s σ α, R K.hb s.heap σ α → VRs s.heap α vs us → Runs K VR A (call (.ref a) us) (C.call f vs σ) s α
  bin : ∀ x, x ∈ T.bins → K.mg x = none ∧ ∃ v, biVal x = some v ∧ K.mb x = some v

noncomputable def SE (K : Kt) (A : Around) (C : Cfg) (f : List (Str × NameKind) → Expr → Option X) : Prop :=
  ∀ N e x, f N e = some x → plainE e = true ∧ ∀ env ρ σ s α, env.scope.names = N → EnvNew K.hb env → EnvRel env ρ s.heap α → R K.hb s.heap σ α →
    Runs K VR A (eval e env) (ev C x ρ σ) s α ∧ Runs K RelEq A (isTrue e env (eval e env)) (tst C x ρ σ) s α

section
variable {K : Kt} {A : Around} {β γ β' γ' : Type} {Rel : Heap → AL → β → γ → Prop} {Rel' : Heap → AL → β' → γ' → Prop} {s : Shared} {α : AL} {σ : Sto}

theorem Runs.operate {vs : List Value} {t : Sem Value} {Rel : Heap → AL → β → Value → Prop} {c : Out β} (H : Runs K Rel A t c s α) : Runs K Rel A (operate vs t) c s α :=
  fun h => wpAny_operating (H h)
theorem Runs.of_eq {t t' : Sem γ} {c : Out β} (e : t = t') (H : Runs K Rel A t' c s α) : Runs K Rel A t c s α := e ▸ H
theorem truthB {b : Bool} {y : Value} (r : R K.hb s.heap σ α) (v : y = .bool b) : Runs K RelEq A (truthy y) (.ok b σ) s α := by
  subst v
  exact fun _ => wpAny_truthy_bool ⟨b, σ, α, rfl, .refl, r, rfl, .refl s⟩

/-- the truth of a value -/
theorem gen_tst {t : Sem Value} {c : Out PV} {p : Pos} (H : Runs K VR A t c s α) : Runs K RelEq A (do let v ← t; standAt p; holding [v] (truthy v)) (c.bind truthv) s α :=
  Runs.bind H fun b σ' α' y s' _ x r v m => Runs.standAt (Runs.holding (truth_sound r v))

theorem RelB.vr {h : Heap} {α : AL} {b : Bool} {y : Value} (v : RelB h α b y) : VR h α (.bool b) y := by
  have : y = .bool b := v
  subst this; exact .bool b
end

section
variable {K : Kt} {A : Around} {T : Tab} {C : Cfg} {f : List (Str × NameKind) → Expr → Option X} {N : List (Str × NameKind)} {env : Env} {ρ : Loc} {σ : Sto} {s : Shared} {α : AL}

theorem const_sound {c : Const} {v : PV} {k : Nat} {p : Pos} (h : trConst c = some v) (r : R K.hb s.heap σ α) : Runs K VR A (eval (.Constant c k p) env) (.ok v σ) s α := by
  intro _
  cases c with
  | none => cases h; exact wpAny_Constant_none (Post.here (tk := s.toks) r .none)
  | bool b => cases h; exact wpAny_Constant_bool (Post.here (tk := s.toks) r (.bool b))
  | int i => cases h; exact wpAny_Constant_int (Post.here r (.int i _))
  | str x =>
    simp only [trConst] at h
    split at h
    · rename_i hx; cases h; exact wpAny_Constant_str (Post.here r (.str x _ hx))
    · cases h
  | _ => cases h

theorem trName_sound {x : Str} {y : X} {p : Pos} (c : Ctx K A T C) (h : trName T N x = some y) (hN : env.scope.names = N) (E : EnvRel env ρ s.heap α) (r : R K.hb s.heap σ α) :
    Runs K VR A (eval (.Name x p) env) (ev C y ρ σ) s α ∧ ((∃ i, y = .v i) ∨ ∃ v, y = .k v) := by
  unfold trName at h
  split at h
  · rename_i i hi
    have hx : ∀ q, N[i]? = some q → q.1 = x := fun q hq => by
      have := List.findIdx?_eq_some_iff_getElem.mp hi
      obtain ⟨h1, h2, _⟩ := this
      have : N[i] = q := by simpa [h1] using hq
      subst this; simpa using h2
    split at h
    · rename_i z hz
      have := hx _ hz; dsimp at this; subst this
      cases h
      exact ⟨name_sound r E (by rw [hN]; exact hz), .inl ⟨i, rfl⟩⟩
    · rename_i z hz
      have := hx _ hz; dsimp at this; subst this
      cases h
      exact ⟨name_sound r E (by rw [hN]; exact hz), .inl ⟨i, rfl⟩⟩
    · rename_i z hz
      have := hx _ hz; dsimp at this; subst this
      cases hq : T.cst.lookup z with
      | none => rw [hq] at h; cases h
      | some v =>
        rw [hq] at h; cases h
        obtain ⟨u, h1, h2⟩ := c.cst z v hq
        refine ⟨fun _ => ?_, .inr ⟨v, rfl⟩⟩
        refine name_glob c.hK r E.ok (by rw [hN]; exact hz) h1 ?_
        exact ⟨v, σ, α, rfl, .refl, r, h2 _ _ _ r, .refl s⟩
    · cases h
  · cases h

theorem evs_sound {es : List Expr} {xs : X} {pos : Pos} (S : SE K A C f) (h : trL (f N) es = some xs) (hN : env.scope.names = N) (hn : EnvNew K.hb env) :
    ∀ {σ s α}, EnvRel env ρ s.heap α → R K.hb s.heap σ α → Runs K VRs A (spliced (backTo pos (starEach es env))) (evs C xs ρ σ) s α := by
  induction es generalizing xs with
  | nil =>
    cases h
    intro σ s α E r
    simp only [evs_nil, evs_cons]
    exact fun _ => wpAny_items_nil ⟨[], σ, α, rfl, .refl, r, .nil, .refl s⟩
  | cons e es ih =>
    simp only [trL] at h
    split at h
    · rename_i a b ha hb
      cases h
      intro σ s α E r
      obtain ⟨hp, H⟩ := S N e a ha
      have H := (H env ρ σ s α hN hn E r).1
      simp only [evs_nil, evs_cons]
      intro hc
      refine wpAny_items_cons ?_ (plain_star hp)
      have h1 : ev C a ρ σ ≠ .stuck := by intro q; rw [q] at hc; exact hc rfl
      refine wpAny_mono (H h1) (fun v s₁ hp => ?_) fun e s₁ hx => ?_
      · obtain ⟨pv, σ₁, α₁, e1, x1, r1, v1, m1⟩ := hp
        rw [e1] at hc ⊢
        have h2 : evs C b ρ σ₁ ≠ .stuck := by intro q; simp [Out.bind, q] at hc
        refine wpAny_mono (ih hb (E.ext x1 .nil) r1 h2) (fun vs s₂ hp => ?_) fun e s₂ hx => ?_
        · obtain ⟨pvs, σ₂, α₂, e2, x2, r2, v2, m2⟩ := hp
          refine ⟨pv :: pvs, σ₂, α₂, by simp [Out.bind, e2], x1.trans x2, r2, .cons (v1.ext x2) v2, m1.trans m2⟩
        · obtain ⟨i, σ₂, e2, fx⟩ := hx
          exact ⟨i, σ₂, by simp [Out.bind, e2], fx.lift x1 m1⟩
      · obtain ⟨i, σ₁, e1, fx⟩ := hx
        exact ⟨i, σ₁, by rw [e1]; rfl, fx⟩
    · cases h

theorem and_sound {es : List Expr} {xs : X} {pos : Pos} (S : SE K A C f) (h : trL (f N) es = some xs) (hN : env.scope.names = N) (hn : EnvNew K.hb env) :
    ∀ {σ s α}, EnvRel env ρ s.heap α → R K.hb s.heap σ α → Runs K VR A (boolOp pos .And (evalEach es env)) (evAnd C xs ρ σ) s α ∧ Runs K RelEq A (allTrue .And es env) (tstAnd C xs ρ σ) s α := by
  induction es generalizing xs with
  | nil =>
    cases h
    intro σ s α E r
    refine ⟨fun hc => absurd (by simp only [evAnd_nil, evAnd_one, evAnd_cons]) hc, ?_⟩
    simp only [tstAnd_nil, tstAnd_cons]
    exact fun _ => wpAny_allTrue_And_nil ⟨true, σ, α, rfl, .refl, r, rfl, .refl s⟩
  | cons e es ih =>
    simp only [trL] at h
    split at h
    · rename_i a b ha hb
      cases h
      intro σ s α E r
      obtain ⟨hp, H⟩ := S N e a ha
      have H := H env ρ σ s α hN hn E r
      constructor
      · cases es with
        | nil =>
          cases hb
          simp only [evAnd_nil, evAnd_one, evAnd_cons]
          exact H.1
        | cons e2 es2 =>
          have hbc : ∃ b1 b2, b = .cons b1 b2 := by
            simp only [trL] at hb
            split at hb
            · cases hb; exact ⟨_, _, rfl⟩
            · cases hb
          obtain ⟨b1, b2, rfl⟩ := hbc
          simp only [evAnd_nil, evAnd_one, evAnd_cons]
          refine Runs.bind H.1 fun v σ₁ α₁ y s₁ e1 x1 r1 v1 m1 => Runs.standAt ?_
          refine Runs.bind (Runs.holding (truth_sound r1 v1)) fun t σ₂ α₂ y2 s₂ e2 x2 r2 v2 m2 => ?_
          have : y2 = t := v2
          subst this
          cases y2 with
          | false => simp only [Bool.false_eq_true, if_false]; exact Runs.pure r2 (v1.ext x2)
          | true => simp only [if_true]; exact (ih hb ((E.ext x1 .nil).ext x2 .nil) r2).1
      · simp only [tstAnd_nil, tstAnd_cons]
        refine Runs.bind H.2 fun t σ₁ α₁ y s₁ e1 x1 r1 v1 m1 => ?_
        have : y = t := v1
        subst this
        cases y with
        | false => simp only [Bool.false_eq_true, if_false]; exact Runs.pure r1 rfl
        | true => simp only [if_true]; exact (ih hb (E.ext x1 .nil) r1).2
    · cases h

theorem or_sound {es : List Expr} {xs : X} {pos : Pos} (S : SE K A C f) (h : trL (f N) es = some xs) (hN : env.scope.names = N) (hn : EnvNew K.hb env) :
    ∀ {σ s α}, EnvRel env ρ s.heap α → R K.hb s.heap σ α → Runs K VR A (boolOp pos .Or (evalEach es env)) (evOr C xs ρ σ) s α ∧ Runs K RelEq A (allTrue .Or es env) (tstOr C xs ρ σ) s α := by
  induction es generalizing xs with
  | nil =>
    cases h
    intro σ s α E r
    refine ⟨fun hc => absurd (by simp only [evOr_nil, evOr_one, evOr_cons]) hc, ?_⟩
    simp only [tstOr_nil, tstOr_cons]
    exact fun _ => wpAny_allTrue_Or_nil ⟨false, σ, α, rfl, .refl, r, rfl, .refl s⟩
  | cons e es ih =>
    simp only [trL] at h
    split at h
    · rename_i a b ha hb
      cases h
      intro σ s α E r
      obtain ⟨hp, H⟩ := S N e a ha
      have H := H env ρ σ s α hN hn E r
      constructor
      · cases es with
        | nil =>
          cases hb
          simp only [evOr_nil, evOr_one, evOr_cons]
          exact H.1
        | cons e2 es2 =>
          have hbc : ∃ b1 b2, b = .cons b1 b2 := by
            simp only [trL] at hb
            split at hb
            · cases hb; exact ⟨_, _, rfl⟩
            · cases hb
          obtain ⟨b1, b2, rfl⟩ := hbc
          simp only [evOr_nil, evOr_one, evOr_cons]
          refine Runs.bind H.1 fun v σ₁ α₁ y s₁ e1 x1 r1 v1 m1 => Runs.standAt ?_
          refine Runs.bind (Runs.holding (truth_sound r1 v1)) fun t σ₂ α₂ y2 s₂ e2 x2 r2 v2 m2 => ?_
          have : y2 = t := v2
          subst this
          cases y2 with
          | true => simp only [if_true]; exact Runs.pure r2 (v1.ext x2)
          | false => simp only [Bool.false_eq_true, if_false]; exact (ih hb ((E.ext x1 .nil).ext x2 .nil) r2).1
      · simp only [tstOr_nil, tstOr_cons]
        refine Runs.bind H.2 fun t σ₁ α₁ y s₁ e1 x1 r1 v1 m1 => ?_
        have : y = t := v1
        subst this
        cases y with
        | true => simp only [if_true]; exact Runs.pure r1 rfl
        | false => simp only [Bool.false_eq_true, if_false]; exact (ih hb (E.ext x1 .nil) r1).2
    · cases h
end
end Mine

namespace Mine
open PySem PyProof.Rows

section
variable {K : Kt} {A : Around} {β γ β' γ' : Type} {Rel : Heap → AL → β → γ → Prop} {Rel' : Heap → AL → β' → γ' → Prop} {s : Shared} {α : AL} {σ : Sto}

theorem Post.lift {c : Out β} {s₁ : Shared} {α₁ : AL} {y : γ} {s' : Shared} (x : Ext [] α s.heap α₁ s₁.heap) (m : Sm s s₁) (p : Post K Rel c s₁ α₁ y s') : Post K Rel c s α y s' := by
  obtain ⟨b, σ', α', e, x', r, v, m'⟩ := p
  exact ⟨b, σ', α', e, x.trans x', r, v, m.trans m'⟩
theorem PostX.lift {c : Out β} {s₁ : Shared} {α₁ : AL} {y : Value} {s' : Shared} (x : Ext [] α s.heap α₁ s₁.heap) (m : Sm s s₁) (p : PostX K A c s₁ α₁ y s') : PostX K A c s α y s' := by
  obtain ⟨i, σ', e, fx⟩ := p
  exact ⟨i, σ', e, fx.lift x m⟩
theorem PostX.bind {c : Out β} {f : β → Sto → Out β'} {y : Value} {s' : Shared} (p : PostX K A c s α y s') : PostX K A (c.bind f) s α y s' := by
  obtain ⟨i, σ', e, fx⟩ := p
  exact ⟨i, σ', by rw [e]; rfl, fx⟩

theorem Runs.use {t : Sem γ} {c : Out β} {f : β → Sto → Out β'} {W : γ → Shared → Prop} (H : Runs K Rel A t c s α) (hc : c.bind f ≠ .stuck)
    (N : ∀ b σ' α' y s', c = .ok b σ' → f b σ' ≠ .stuck → Ext [] α s.heap α' s'.heap → R K.hb s'.heap σ' α' → Rel s'.heap α' b y → Sm s s' → W y s') : wpAny (model K.prog K.w) A t W (PostX K A (c.bind f) s α) s := by
  have h1 : c ≠ .stuck := by rintro rfl; exact hc rfl
  refine wpAny_mono (H h1) (fun y s' hp => ?_) fun e s' hx => hx.bind
  obtain ⟨b, σ', α', rfl, x, r, v, m⟩ := hp
  exact N b σ' α' y s' rfl hc x r v m
end

section
variable {K : Kt} {A : Around} {T : Tab} {C : Cfg} {f : List (Str × NameKind) → Expr → Option X} {N : List (Str × NameKind)} {env : Env} {ρ : Loc} {σ : Sto} {s : Shared} {α : AL}

theorem isG_idx {g : Str} (h : isG N g = true) : ∃ i : Nat, N[i]? = some (g, NameKind.globalImplicit) := by
  unfold isG at h
  obtain ⟨i, _, hi⟩ := idx_of_lookup (by simpa using h)
  exact ⟨i, hi⟩

theorem trL_cons {g : Expr → Option X} {e : Expr} {es : List Expr} {xs : X} (h : trL g (e :: es) = some xs) : ∃ a b, g e = some a ∧ trL g es = some b ∧ xs = .cons a b := by
  simp only [trL] at h
  split at h
  · rename_i a b ha hb; cases h; exact ⟨a, b, ha, hb, rfl⟩
  · cases h

theorem callFn_sound {g : Str} {args : List Expr} {p pos : Pos} {i : Nat} {xs : X} (c : Ctx K A T C) (S : SE K A C f) (hi : T.fns[i]? = some g) (hg : isG N g = true) (hne : args ≠ []) (h : trL (f N) args = some xs)
    (hN : env.scope.names = N) (hn : EnvNew K.hb env) (E : EnvRel env ρ s.heap α) (r : R K.hb s.heap σ α) :
    Runs K VR A (eval (.Call (.Name g p) args [] pos) env) ((evs C xs ρ σ).bind fun vs σ => C.call i vs σ) s α := by
  intro hc
  obtain ⟨a, o, fd, hm, ho, hd, hcall⟩ := c.fn i g hi
  obtain ⟨j, hj⟩ := isG_idx hg
  refine wpAny_Call_Name_kw (name_glob c.hK r E.ok (by rw [hN]; exact hj) hm ?_)
  cases args with
  | nil => exact absurd rfl hne
  | cons e es =>
    have H := evs_sound (pos := pos) S h hN hn E r
    obtain ⟨a', b', ha', hb', _⟩ := trL_cons h
    rw [plain_star (S N e a' ha').1] at H ⊢
    refine Calls.callWith_function (o := o) (fd := fd) (Calls.evalArgs_plain (Runs.use H hc fun vs σ' α' us s' e1 hc' x' r' v' m' => ?_))
    refine ⟨⟨r'.base _ _ ho, hd⟩, ?_⟩
    rw [e1]
    refine wpAny_mono (hcall vs us s' σ' α' r' v' hc') (fun y s'' hp => hp.lift x' m') fun e s'' hx => hx.lift x' m'

theorem biVal_b1 {fz : Bool} {g : Str} {b : B1} (h : b1Name fz g = some b) : biVal g = some (b1Val b) := by
  unfold b1Name at h
  repeat' split at h
  all_goals (first | (rename_i e; have e := beq_iff_eq.mp e; subst e; cases h; rfl) | cases h)
theorem biVal_ty {g : Str} {t : Ty} (h : tyName g = some t) : biVal g = tyVal t := by
  unfold tyName at h
  repeat' split at h
  all_goals (first | (rename_i e; have e := beq_iff_eq.mp e; subst e; cases h; rfl) | cases h)

theorem b1Name_ne {fz : Bool} {g : Str} {b : B1} (h : b1Name fz g = some b) : b ≠ .lenset := by
  rintro rfl
  unfold b1Name at h
  repeat' split at h
  all_goals cases h
theorem b1_sound {g : Str} {a : Expr} {p pos : Pos} {fz : Bool} {b : B1} {x : X} (c : Ctx K A T C) (S : SE K A C f) (hb : b1Name fz g = some b) (hg : isG N g = true) (hbin : g ∈ T.bins) (h : f N a = some x)
    (hN : env.scope.names = N) (hn : EnvNew K.hb env) (E : EnvRel env ρ s.heap α) (r : R K.hb s.heap σ α) :
    Runs K VR A (eval (.Call (.Name g p) [a] [] pos) env) ((ev C x ρ σ).bind fun v σ => b1v b v σ) s α := by
  intro hc
  obtain ⟨hm, v, hv, hmb⟩ := c.bin g hbin
  obtain ⟨j, hj⟩ := isG_idx hg
  rw [biVal_b1 hb] at hv; cases hv
  obtain ⟨hp, H⟩ := S N a x h
  have H := (H env ρ σ s α hN hn E r).1
  refine wpAny_Call_Name_kw (name_bin c.hK r E.ok (by rw [hN]; exact hj) hm hmb ?_)
  rw [plain_star hp]
  have fin : wpAny (model K.prog K.w) A (eval a env) (fun y s' => wpAny (model K.prog K.w) A (call (b1Val b) [y]) (Post K VR ((ev C x ρ σ).bind fun v σ => b1v b v σ) s α) (PostX K A ((ev C x ρ σ).bind fun v σ => b1v b v σ) s α) s') (PostX K A ((ev C x ρ σ).bind fun v σ => b1v b v σ) s α) s := by
    refine Runs.use H hc fun v σ' α' y s' e1 hc' x' r' v' m' => ?_
    rw [e1]
    exact wpAny_mono (b1v_sound (b1Name_ne hb) c.hA r' v' hc') (fun y s'' hp => hp.lift x' m') fun e s'' hx => hx.lift x' m'
  cases b with
  | lenset => exact absurd rfl (b1Name_ne hb)
  | len => exact PySem.callWith_builtin1 fin
  | sum => exact PySem.callWith_builtin1 fin
  | min => exact PySem.callWith_builtin1 fin
  | max => exact PySem.callWith_builtin1 fin
  | sorted => exact PySem.callWith_builtin1 fin
  | all => exact PySem.callWith_builtin1 fin
  | any => exact PySem.callWith_builtin1 fin
  | list _ => exact PySem.callWith_type1 fin
  | tuple => exact PySem.callWith_type1 fin
  | int => exact PySem.callWith_type1 fin
  | str => exact PySem.callWith_type1 fin

theorem isinstE_sound {t : Str} {ty : Ty} {a : Expr} {p p2 pos : Pos} {x : X} (c : Ctx K A T C) (S : SE K A C f) (hb : tyName t = some ty) (hg : isG N "isinstance" = true) (hbin : ("isinstance" : Str) ∈ T.bins)
    (hgt : isG N t = true) (hbt : t ∈ T.bins) (h : f N a = some x)
    (hN : env.scope.names = N) (hn : EnvNew K.hb env) (E : EnvRel env ρ s.heap α) (r : R K.hb s.heap σ α) :
    Runs K VR A (eval (.Call (.Name "isinstance" p) [a, .Name t p2] [] pos) env) ((ev C x ρ σ).bind fun v σ => (isinstv v ty σ).bind fun b σ => .ok (.bool b) σ) s α := by
  intro hc
  obtain ⟨hm, v, hv, hmb⟩ := c.bin _ hbin
  obtain ⟨j, hj⟩ := isG_idx hg
  obtain ⟨hm2, v2, hv2, hmb2⟩ := c.bin _ hbt
  obtain ⟨j2, hj2⟩ := isG_idx hgt
  rw [biVal_ty hb] at hv2
  have hv' : v = .builtin "isinstance" := by
    have : biVal "isinstance" = some (.builtin "isinstance") := rfl
    rw [this] at hv; cases hv; rfl
  subst hv'
  obtain ⟨hp, H⟩ := S N a x h
  have H := (H env ρ σ s α hN hn E r).1
  refine wpAny_Call_Name_kw (name_bin c.hK r E.ok (by rw [hN]; exact hj) hm hmb ?_)
  rw [plain_star hp]
  refine Calls.callWith_builtin rfl (Calls.evalArgs_plain (Calls.spliced_cons ?_))
  refine Runs.use H hc fun v σ' α' y s' e1 hc' x' r' v' m' => ?_
  rw [e1]
  refine Calls.spliced_cons (name_bin c.hK r' E.ok (by rw [hN]; exact hj2) hm2 hmb2 (Calls.spliced_nil ?_))
  show wpAny (model K.prog K.w) A (call (.builtin "isinstance") [y, v2]) _ _ _
  have h1 : isinstv v ty σ' ≠ .stuck := by intro q; rw [q] at hc'; exact hc' rfl
  refine wpAny_mono (isinst_sound hv2 r' v' h1) (fun y s'' hp => ?_) fun e s'' hx => (hx.lift x' m').bind
  obtain ⟨b, σ'', α'', e2, x2, r2, v2, m2⟩ := hp
  exact ⟨.bool b, σ'', α'', by simp [Out.bind, e2], x'.trans x2, r2, v2.vr, m'.trans m2⟩

theorem binE_sound {o : Op} {l r' : Expr} {op : Operator} {pos : Pos} {a b : X} (c : Ctx K A T C) (S : SE K A C f) (ho : trOp op = some o) (h1 : f N l = some a) (h2 : f N r' = some b)
    (hN : env.scope.names = N) (hn : EnvNew K.hb env) (E : EnvRel env ρ s.heap α) (r : R K.hb s.heap σ α) :
    Runs K VR A (eval (.BinOp l op r' pos) env) (ev C (.bin o a b) ρ σ) s α := by
  have hop : op = opOf o := by cases op <;> cases ho <;> rfl
  subst hop
  simp only [ev_k, ev_v, ev_and, ev_or, ev_not, ev_neg, ev_bin, ev_cmp, ev_cmp2, ev_ife, ev_lst, ev_tup, ev_fdget, ev_comp, ev_call, ev_b1, ev_min2, ev_isinst, ev_me, ev_sub, ev_slice]
  rw [arm_eval_BinOp]
  refine Runs.bind ((S N l a h1).2 env ρ σ s α hN hn E r).1 fun va σ₁ α₁ y s₁ e1 x1 r1 v1 m1 => ?_
  refine Runs.bind (Runs.holding ((S N r' b h2).2 env ρ σ₁ s₁ α₁ hN hn (E.ext x1 .nil) r1).1) fun vb σ₂ α₂ y2 s₂ e2 x2 r2 v2 m2 => ?_
  exact Runs.standAt (Runs.operate (binop_sound c.hA r2 (v1.ext x2) v2))

theorem cmpE_sound {o : Cm} {l r' : Expr} {op : CmpOp} {pos : Pos} {a b : X} (c : Ctx K A T C) (S : SE K A C f) (ho : trCm op = some o) (h1 : f N l = some a) (h2 : f N r' = some b)
    (hN : env.scope.names = N) (hn : EnvNew K.hb env) (E : EnvRel env ρ s.heap α) (r : R K.hb s.heap σ α) :
    Runs K VR A (eval (.Compare l [op] [r'] pos) env) (ev C (.cmp a o b) ρ σ) s α ∧ Runs K RelEq A (isTrue (.Compare l [op] [r'] pos) env (eval (.Compare l [op] [r'] pos) env)) (tst C (.cmp a o b) ρ σ) s α := by
  have hop : op = cmOf o := by cases op <;> cases ho <;> rfl
  subst hop
  obtain ⟨hp2, H2⟩ := S N r' b h2
  have hmk : markedBehindIn (cmOf o) r' (eval r' env) = eval r' env := by unfold markedBehindIn; rw [plain_marks hp2]
  constructor
  · simp only [ev_k, ev_v, ev_and, ev_or, ev_not, ev_neg, ev_bin, ev_cmp, ev_cmp2, ev_ife, ev_lst, ev_tup, ev_fdget, ev_comp, ev_call, ev_b1, ev_min2, ev_isinst, ev_me, ev_sub, ev_slice]
    rw [arm_eval_Compare]
    refine Runs.bind ((S N l a h1).2 env ρ σ s α hN hn E r).1 fun va σ₁ α₁ y s₁ e1 x1 r1 v1 m1 => ?_
    show Runs K VR A (do let rv ← holding [y] (markedBehindIn (cmOf o) r' (eval r' env)); standAt pos; operate [y, rv] (compareOp (cmOf o) y rv)) _ _ _
    rw [hmk]
    refine Runs.bind (Runs.holding (H2 env ρ σ₁ s₁ α₁ hN hn (E.ext x1 .nil) r1).1) fun vb σ₂ α₂ y2 s₂ e2 x2 r2 v2 m2 => Runs.standAt (Runs.operate ?_)
    intro hc
    have h3 : cmpop o va vb σ₂ ≠ .stuck := by intro q; rw [q] at hc; exact hc rfl
    refine wpAny_mono (cmpop_sound c.hA r2 (v1.ext x2) v2 h3) (fun y s'' hp => ?_) fun e s'' hx => hx.bind
    obtain ⟨bb, σ'', α'', e3, x3, r3, v3, m3⟩ := hp
    exact ⟨.bool bb, σ'', α'', by simp [Out.bind, e3], x3, r3, v3.vr, m3⟩
  · simp only [tst_and, tst_or, tst_not, tst_cmp, tst_cmp2, tst_ife, tst_call, tst_b1, tst_isinst, tst_v, tst_k]
    rw [arm_isTrue_Compare]
    refine Runs.bind ((S N l a h1).2 env ρ σ s α hN hn E r).1 fun va σ₁ α₁ y s₁ e1 x1 r1 v1 m1 => ?_
    show Runs K RelEq A (do let rv ← holding [y] (markedBehindIn (cmOf o) r' (eval r' env)); standAt pos; let c ← operate [y, rv] (compareOp (cmOf o) y rv); holding [c] (truthy c)) _ _ _
    rw [hmk]
    refine Runs.bind (Runs.holding (H2 env ρ σ₁ s₁ α₁ hN hn (E.ext x1 .nil) r1).1) fun vb σ₂ α₂ y2 s₂ e2 x2 r2 v2 m2 => Runs.standAt ?_
    intro hc
    refine wpAny_bind (wpAny_operating (wpAny_mono (cmpop_sound c.hA r2 (v1.ext x2) v2 hc) (fun y s'' hp => ?_) fun e s'' hx => hx))
    obtain ⟨bb, σ'', α'', e3, x3, r3, v3, m3⟩ := hp
    have : y = .bool bb := v3
    subst this
    exact wpAny_holding (wpAny_truthy_bool ⟨bb, σ'', α'', e3, x3, r3, rfl, m3⟩)

theorem Runs.release {vs ks : List Value} {β γ : Type} {Rel : Heap → AL → β → γ → Prop} {t : Sem γ} {c : Out β}
    (H : Runs K Rel A t c s α) : Runs K Rel A (do PySem.release vs ks; t) c s α :=
  fun h => wpAny_bind (wpAny_release' (H h))
end
end Mine

namespace Mine
open PySem PyProof.Rows

section
variable {K : Kt} {A : Around} {T : Tab} {C : Cfg} {f : List (Str × NameKind) → Expr → Option X} {N : List (Str × NameKind)} {env : Env} {ρ : Loc} {σ : Sto} {s : Shared} {α : AL}

theorem cmp2E_sound {o o2 : Cm} {l r' r2' : Expr} {op op2 : CmpOp} {pos : Pos} {a b b2 : X} (c : Ctx K A T C) (S : SE K A C f) (ho : trCm op = some o) (ho2 : trCm op2 = some o2) (h1 : f N l = some a) (h2 : f N r' = some b) (h3 : f N r2' = some b2)
    (hN : env.scope.names = N) (hn : EnvNew K.hb env) (E : EnvRel env ρ s.heap α) (r : R K.hb s.heap σ α) :
    Runs K VR A (eval (.Compare l [op, op2] [r', r2'] pos) env) (ev C (.cmp2 a o b o2 b2) ρ σ) s α ∧ Runs K RelEq A (isTrue (.Compare l [op, op2] [r', r2'] pos) env (eval (.Compare l [op, op2] [r', r2'] pos) env)) (tst C (.cmp2 a o b o2 b2) ρ σ) s α := by
  have hop : op = cmOf o := by cases op <;> cases ho <;> rfl
  subst hop
  have hop2 : op2 = cmOf o2 := by cases op2 <;> cases ho2 <;> rfl
  subst hop2
  obtain ⟨hp2, H2⟩ := S N r' b h2
  obtain ⟨hp3, H3⟩ := S N r2' b2 h3
  have hmk : markedBehindIn (cmOf o2) r2' (eval r2' env) = eval r2' env := by unfold markedBehindIn; rw [plain_marks hp3]
  constructor
  · simp only [ev_k, ev_v, ev_and, ev_or, ev_not, ev_neg, ev_bin, ev_cmp, ev_cmp2, ev_ife, ev_lst, ev_tup, ev_fdget, ev_comp, ev_call, ev_b1, ev_min2, ev_isinst, ev_me, ev_sub, ev_slice]
    rw [arm_eval_Compare]
    refine Runs.bind ((S N l a h1).2 env ρ σ s α hN hn E r).1 fun va σ₁ α₁ y s₁ e1 x1 r1 v1 m1 => ?_
    show Runs K VR A (do let rv ← holding [y] (eval r' env); standAt pos; let c ← holding [y, rv] (compareOp (cmOf o) y rv); release [y, rv] [c]; if ← holding [c, rv] (truthy c) then (do let rv' ← holding [rv] (markedBehindIn (cmOf o2) r2' (eval r2' env)); standAt pos; operate [rv, rv'] (compareOp (cmOf o2) rv rv')) else pure c) _ _ _
    rw [hmk]
    refine Runs.bind (Runs.holding (H2 env ρ σ₁ s₁ α₁ hN hn (E.ext x1 .nil) r1).1) fun vb σ₂ α₂ y2 s₂ e2 x2 r2 v2 m2 => Runs.standAt ?_
    refine Runs.bind (Runs.holding (cmpop_sound c.hA r2 (v1.ext x2) v2)) fun bb σ₃ α₃ y3 s₃ e3 x3 r3 v3 m3 => Runs.release ?_
    have : y3 = .bool bb := v3
    subst this
    intro hc
    refine wpAny_bind (wpAny_holding (wpAny_truthy_bool ?_))
    cases bb with
    | false => exact wpAny_pure ⟨_, _, _, rfl, .refl, r3, .bool _, .refl _⟩
    | true =>
      refine (Runs.bind (Runs.holding (H3 env ρ σ₃ s₃ α₃ hN hn (((E.ext x1 .nil).ext x2 .nil).ext x3 .nil) r3).1) fun vc σ₄ α₄ y4 s₄ e4 x4 r4 v4 m4 => Runs.standAt (Runs.operate ?_)) hc
      intro hc
      have h3 : cmpop o2 vb vc σ₄ ≠ .stuck := by intro q; rw [q] at hc; exact hc rfl
      refine wpAny_mono (cmpop_sound c.hA r4 ((v2.ext x3).ext x4) v4 h3) (fun y s'' hp => ?_) fun e s'' hx => hx.bind
      obtain ⟨bb, σ'', α'', e3, x3, r3, v3, m3⟩ := hp
      exact ⟨.bool bb, σ'', α'', by simp [Out.bind, e3], x3, r3, v3.vr, m3⟩
  · simp only [tst_and, tst_or, tst_not, tst_cmp, tst_cmp2, tst_ife, tst_call, tst_b1, tst_isinst, tst_v, tst_k]
    rw [arm_isTrue_Compare]
    refine Runs.bind ((S N l a h1).2 env ρ σ s α hN hn E r).1 fun va σ₁ α₁ y s₁ e1 x1 r1 v1 m1 => ?_
    show Runs K RelEq A (do let rv ← holding [y] (eval r' env); standAt pos; let c ← holding [y, rv] (compareOp (cmOf o) y rv); release [y, rv] [c]; if ← holding [c, rv] (truthy c) then (do let rv' ← holding [rv] (markedBehindIn (cmOf o2) r2' (eval r2' env)); standAt pos; let c ← operate [rv, rv'] (compareOp (cmOf o2) rv rv'); holding [c] (truthy c)) else pure false) _ _ _
    rw [hmk]
    refine Runs.bind (Runs.holding (H2 env ρ σ₁ s₁ α₁ hN hn (E.ext x1 .nil) r1).1) fun vb σ₂ α₂ y2 s₂ e2 x2 r2 v2 m2 => Runs.standAt ?_
    refine Runs.bind (Runs.holding (cmpop_sound c.hA r2 (v1.ext x2) v2)) fun bb σ₃ α₃ y3 s₃ e3 x3 r3 v3 m3 => Runs.release ?_
    have : y3 = .bool bb := v3
    subst this
    intro hc
    refine wpAny_bind (wpAny_holding (wpAny_truthy_bool ?_))
    cases bb with
    | false => exact wpAny_pure ⟨_, _, _, rfl, .refl, r3, rfl, .refl _⟩
    | true =>
      refine (Runs.bind (Runs.holding (H3 env ρ σ₃ s₃ α₃ hN hn (((E.ext x1 .nil).ext x2 .nil).ext x3 .nil) r3).1) fun vc σ₄ α₄ y4 s₄ e4 x4 r4 v4 m4 => Runs.standAt ?_) hc
      intro hc
      refine wpAny_bind (wpAny_operating (wpAny_mono (cmpop_sound c.hA r4 ((v2.ext x3).ext x4) v4 hc) (fun y s'' hp => ?_) fun e s'' hx => hx))
      obtain ⟨bb, σ'', α'', e3, x3, r3, v3, m3⟩ := hp
      have : y = .bool bb := v3
      subst this
      exact wpAny_holding (wpAny_truthy_bool ⟨bb, σ'', α'', e3, x3, r3, rfl, m3⟩)

theorem ifeE_sound {e a b : Expr} {pos : Pos} {x y z : X} (c : Ctx K A T C) (S : SE K A C f) (h1 : f N e = some x) (h2 : f N a = some y) (h3 : f N b = some z)
    (hN : env.scope.names = N) (hn : EnvNew K.hb env) (E : EnvRel env ρ s.heap α) (r : R K.hb s.heap σ α) :
    Runs K VR A (eval (.IfExp e a b pos) env) (ev C (.ife x y z) ρ σ) s α ∧ Runs K RelEq A (isTrue (.IfExp e a b pos) env (eval (.IfExp e a b pos) env)) (tst C (.ife x y z) ρ σ) s α := by
  constructor
  · simp only [ev_k, ev_v, ev_and, ev_or, ev_not, ev_neg, ev_bin, ev_cmp, ev_cmp2, ev_ife, ev_lst, ev_tup, ev_fdget, ev_comp, ev_call, ev_b1, ev_min2, ev_isinst, ev_me, ev_sub, ev_slice]
    rw [arm_eval_IfExp]
    refine Runs.bind ((S N e x h1).2 env ρ σ s α hN hn E r).2 fun t σ₁ α₁ y' s₁ e1 x1 r1 v1 m1 => ?_
    have : y' = t := v1
    subst this
    cases y' with
    | true => exact ((S N a y h2).2 env ρ σ₁ s₁ α₁ hN hn (E.ext x1 .nil) r1).1
    | false => exact ((S N b z h3).2 env ρ σ₁ s₁ α₁ hN hn (E.ext x1 .nil) r1).1
  · simp only [tst_and, tst_or, tst_not, tst_cmp, tst_cmp2, tst_ife, tst_call, tst_b1, tst_isinst, tst_v, tst_k]
    rw [arm_isTrue_IfExp]
    refine Runs.bind ((S N e x h1).2 env ρ σ s α hN hn E r).2 fun t σ₁ α₁ y' s₁ e1 x1 r1 v1 m1 => ?_
    have : y' = t := v1
    subst this
    cases y' with
    | true => exact ((S N a y h2).2 env ρ σ₁ s₁ α₁ hN hn (E.ext x1 .nil) r1).2
    | false => exact ((S N b z h3).2 env ρ σ₁ s₁ α₁ hN hn (E.ext x1 .nil) r1).2

theorem notE_sound {e : Expr} {pos : Pos} {x : X} (S : SE K A C f) (h1 : f N e = some x)
    (hN : env.scope.names = N) (hn : EnvNew K.hb env) (E : EnvRel env ρ s.heap α) (r : R K.hb s.heap σ α) :
    Runs K VR A (eval (.UnaryOp .Not e pos) env) (ev C (.not x) ρ σ) s α ∧ Runs K RelEq A (isTrue (.UnaryOp .Not e pos) env (eval (.UnaryOp .Not e pos) env)) (tst C (.not x) ρ σ) s α := by
  have H := (S N e x h1).2 env ρ σ s α hN hn E r
  constructor
  · simp only [ev_k, ev_v, ev_and, ev_or, ev_not, ev_neg, ev_bin, ev_cmp, ev_cmp2, ev_ife, ev_lst, ev_tup, ev_fdget, ev_comp, ev_call, ev_b1, ev_min2, ev_isinst, ev_me, ev_sub, ev_slice]
    rw [arm_eval_UnaryOp]
    refine Runs.bind H.1 fun v σ₁ α₁ y s₁ e1 x1 r1 v1 m1 => Runs.standAt (Runs.holding ?_)
    intro hc
    have h3 : truthv v σ₁ ≠ .stuck := by intro q; rw [q] at hc; exact hc rfl
    refine not_value (wpAny_mono (truth_sound r1 v1 h3) (fun b s'' hp => ?_) fun e s'' hx => hx.bind)
    obtain ⟨bb, σ'', α'', e3, x3, r3, v3, m3⟩ := hp
    have : b = bb := v3
    subst this
    exact ⟨.bool (!b), σ'', α'', by simp [Out.bind, e3], x3, r3, .bool _, m3⟩
  · simp only [tst_and, tst_or, tst_not, tst_cmp, tst_cmp2, tst_ife, tst_call, tst_b1, tst_isinst, tst_v, tst_k]
    rw [arm_isTrue_UnaryOp]
    refine Runs.bind H.2 fun b σ₁ α₁ y s₁ e1 x1 r1 v1 m1 => ?_
    have : y = b := v1
    subst this
    exact Runs.pure r1 rfl

theorem negE_sound {e : Expr} {pos : Pos} {x : X} (S : SE K A C f) (h1 : f N e = some x)
    (hN : env.scope.names = N) (hn : EnvNew K.hb env) (E : EnvRel env ρ s.heap α) (r : R K.hb s.heap σ α) :
    Runs K VR A (eval (.UnaryOp .USub e pos) env) (ev C (.neg x) ρ σ) s α := by
  simp only [ev_k, ev_v, ev_and, ev_or, ev_not, ev_neg, ev_bin, ev_cmp, ev_cmp2, ev_ife, ev_lst, ev_tup, ev_fdget, ev_comp, ev_call, ev_b1, ev_min2, ev_isinst, ev_me, ev_sub, ev_slice]
  rw [arm_eval_UnaryOp]
  exact Runs.bind ((S N e x h1).2 env ρ σ s α hN hn E r).1 fun v σ₁ α₁ y s₁ e1 x1 r1 v1 m1 => Runs.standAt (Runs.holding (neg_sound r1 v1))

theorem listE_sound {es : List Expr} {pos : Pos} {xs : X} {fz : Bool} (S : SE K A C f) (h : trL (f N) es = some xs)
    (hN : env.scope.names = N) (hn : EnvNew K.hb env) (E : EnvRel env ρ s.heap α) (r : R K.hb s.heap σ α) :
    Runs K VR A (eval (.List es pos) env) (ev C (.lst fz xs) ρ σ) s α := by
  simp only [ev_k, ev_v, ev_and, ev_or, ev_not, ev_neg, ev_bin, ev_cmp, ev_cmp2, ev_ife, ev_lst, ev_tup, ev_fdget, ev_comp, ev_call, ev_b1, ev_min2, ev_isinst, ev_me, ev_sub, ev_slice]
  rw [arm_eval_List]
  exact Runs.standAt (Runs.bind (evs_sound S h hN hn E r) fun vs σ₁ α₁ us s₁ e1 x1 r1 v1 m1 => newList_sound r1 v1)
theorem tupE_sound {es : List Expr} {k : Nat} {pos : Pos} {xs : X} (S : SE K A C f) (h : trL (f N) es = some xs)
    (hN : env.scope.names = N) (hn : EnvNew K.hb env) (E : EnvRel env ρ s.heap α) (r : R K.hb s.heap σ α) :
    Runs K VR A (eval (.Tuple es k pos) env) (ev C (.tup xs) ρ σ) s α := by
  simp only [ev_k, ev_v, ev_and, ev_or, ev_not, ev_neg, ev_bin, ev_cmp, ev_cmp2, ev_ife, ev_lst, ev_tup, ev_fdget, ev_comp, ev_call, ev_b1, ev_min2, ev_isinst, ev_me, ev_sub, ev_slice]
  rw [arm_eval_Tuple]
  exact Runs.standAt (Runs.bind (evs_sound S h hN hn E r) fun vs σ₁ α₁ us s₁ e1 x1 r1 v1 m1 => newTuple_sound r1 v1)

theorem subE_sound {o i : Expr} {pos : Pos} {x y : X} (S : SE K A C f) (hns : ∀ l u st p, i ≠ .Slice l u st p) (h1 : f N o = some x) (h2 : f N i = some y)
    (hN : env.scope.names = N) (hn : EnvNew K.hb env) (E : EnvRel env ρ s.heap α) (r : R K.hb s.heap σ α) :
    Runs K VR A (eval (.Subscript o i pos) env) (ev C (.sub x y) ρ σ) s α := by
  simp only [ev_k, ev_v, ev_and, ev_or, ev_not, ev_neg, ev_bin, ev_cmp, ev_cmp2, ev_ife, ev_lst, ev_tup, ev_fdget, ev_comp, ev_call, ev_b1, ev_min2, ev_isinst, ev_me, ev_sub, ev_slice]
  rw [arm_eval_Subscript]
  refine Runs.bind ((S N o x h1).2 env ρ σ s α hN hn E r).1 fun va σ₁ α₁ y1 s₁ e1 x1 r1 v1 m1 => ?_
  refine Runs.bind (Runs.holding ((S N i y h2).2 env ρ σ₁ s₁ α₁ hN hn (E.ext x1 .nil) r1).1) fun vb σ₂ α₂ y2 s₂ e2 x2 r2 v2 m2 => Runs.standAt ?_
  exact subv_sound (fun l u p => hns l u none p) r2 (v1.ext x2) v2

theorem base_plain {o : Expr} {m : Str} {whole : Sem Value} (h : notCall0 o = true) : attributeBase o m env whole = whole := by
  unfold attributeBase
  split
  · cases h
  · rfl

theorem append_raw {r : Nat} {a : Addr} {v : PV} {u : Value} {xs : List PV} (R₀ : R K.hb s.heap σ α) (ea : α.ix[r]? = some a) (hs : σ[r]? = some (.lst xs)) (hl : xs.length < lim) (vu : VR s.heap α v u) {X : Value → Shared → Prop} :
    wpAny (model K.prog K.w) A (call (.builtin "list.append") [.ref a, u]) (Post K VR (.ok .none (σ.set r (.lst (xs ++ [v])))) s α) X s := by
  obtain ⟨items, n, e1, w⟩ := R₀.obj r _ a hs ea
  refine wpAny_list_append_plain ⟨n, e1⟩ (fun h' hl' sb => ?_) (by simp; rw [← w.1]; exact lim_line (Nat.le_of_lt hl))
  obtain ⟨n', e'⟩ := hl'
  obtain ⟨r', x'⟩ := R₀.set (m := .lst (xs ++ [v])) ea (fun b o hb e => (sb.2 b hb).trans e) e' fun x' => ⟨items ++ [u], n', by rw [e']; simp, (w.snoc vu).ext x'⟩
  exact ⟨.none, _, α, rfl, x', r', .none, ⟨rfl, rfl⟩⟩

end
end Mine

namespace Mine
open PySem PyProof.Rows

/-! methods of lists and texts, with one argument -/
noncomputable def meT : Me → String
  | .join => "str" | .split => "str" | _ => "list"
noncomputable def meId : Me → String
  | .append => "list.append" | .extend => "list.extend" | .pop => "list.pop" | .count => "list.count" | .index => "list.index" | .join => "str.join" | .split => "str.split"
noncomputable def meN : Me → Str
  | .append => "append" | .extend => "extend" | .pop => "pop" | .count => "count" | .index => "index" | .join => "join" | .split => "split"
theorem meName_is {x : Str} {m : Me} (h : meName x = some m) : x = meN m := by
  unfold meName at h
  repeat' split at h
  all_goals (first | (rename_i e; have e := beq_iff_eq.mp e; subst e; cases h; rfl) | cases h)

theorem strOk_take {c : Nat} {x : Str} (h : PyData.strOk x = true) {a : Str} (ha : ∀ d ∈ a.cps.toList, d ∈ x.cps.toList) : PyData.strOk a = true := by
  unfold PyData.strOk at h ⊢
  simp only [Array.all_eq_true'] at h ⊢
  intro d hd
  exact h d (by simpa using ha d (by simpa using hd))
theorem mem_join_of (y : Str) (d : Nat) : ∀ {ts : List Str} {t : Str}, t ∈ ts → d ∈ t.cps.toList → d ∈ (Str.join y ts).cps.toList
  | [x], t, h, hd => by simp at h; subst h; exact hd
  | x :: z :: r, t, h, hd => by
    show d ∈ (x ++ y ++ Str.join y (z :: r)).cps.toList
    rw [Str.cps_append, Str.cps_append]
    simp only [Array.toList_append, List.mem_append]
    rcases List.mem_cons.mp h with q | q
    · subst q; exact .inl (.inl hd)
    · exact .inr (mem_join_of y d q hd)
theorem split_ok {x y : Str} (h : PyData.strOk x = true) {a : Str} (ha : a ∈ Txt.split x y) : PyData.strOk a = true := by
  refine strOk_take (c := 0) h fun d hd => ?_
  have := mem_join_of y d ha hd
  rwa [StrLaws.join_split] at this
theorem join_ok {x : Str} {ys : List Str} (hx : PyData.strOk x = true) (hy : ∀ y ∈ ys, PyData.strOk y = true) : PyData.strOk (Txt.join x ys) = true := by
  show PyData.strOk (Builtin.Str.glued x ys) = true
  rw [StrLaws.glued_eq_join]
  have : ∀ (ys : List Str), (∀ y ∈ ys, PyData.strOk y = true) → PyData.strOk (Str.join x ys) = true := by
    intro ys
    induction ys with
    | nil => intro _; show PyData.strOk Str.empty = true; simp [PyData.strOk, Str.empty]
    | cons a r ih =>
      intro h
      cases r with
      | nil => exact h a (by simp)
      | cons b r => exact strOk_append (strOk_append (h a (by simp)) hx) (ih fun y hy => h y (List.mem_cons_of_mem _ hy))
  exact this ys hy

theorem strs_ok {h : Heap} {α : AL} : ∀ {xs : List PV} {l : List Str} {items : List Value}, allStrs xs = some l → VRs h α xs items → ∀ y ∈ l, PyData.strOk y = true
  | [], l, items, e, v => by cases e; simp
  | x :: xs, l, items, e, v => by
    obtain ⟨u, us, rfl, v1, v2⟩ := v.inv_cons
    cases x with
    | str i =>
      cases v1 with | str _ _ hi =>
      simp only [allStrs] at e
      cases hr : allStrs xs with
      | none => rw [hr] at e; cases e
      | some l' =>
        rw [hr] at e; cases e
        intro y hy
        rcases List.mem_cons.mp hy with q | q
        · subst q; exact hi
        · exact strs_ok hr v2 y q
    | _ => simp [allStrs] at e
theorem numbered_vrs {h : Heap} {α : AL} : ∀ (tk : Nat) (ys : List Str), (∀ y ∈ ys, PyData.strOk y = true) → VRs h α (ys.map .str) (strsFrom tk ys)
  | _, [], _ => .nil
  | tk, y :: ys, h => .cons (.str _ _ (h y (by simp))) (numbered_vrs (tk + 1) ys fun z hz => h z (List.mem_cons_of_mem _ hz))

section
variable {K : Kt} {A : Around} {s : Shared} {α : AL} {σ : Sto}

theorem split_raw {x y : Str} {t u : Tok} {Q : Value → Shared → Prop} {E : Value → Shared → Prop} (hx : PyData.strOk x = true) (hy : (y.length == 0) = false) (hl : x.length ≤ 100000)
    (hq : ∀ vs tk, VRs s.heap α ((Txt.split x y).map .str) vs → Q (.ref s.heap.objs.size) { s with heap := s.heap.push { cls := .type "list", data := .seq (List.toArray vs) }, toks := tk }) :
    wpAny (model K.prog K.w) A (call (.builtin "str.split") [.str x t, .str y u]) Q E s := by
  have hsz : x.length ≤ sizeLine := Nat.le_trans hl (by decide)
  have ok : ∀ a ∈ Txt.split x y, PyData.strOk a = true := fun a ha => split_ok hx ha
  cases h1 : (decide (x.length < y.length) || decide (Builtin.Str.strKind x < Builtin.Str.strKind y))
  · cases hf : (Builtin.Str.occurrences x y 0 x.length (x.length + 1)).isEmpty
    · have e : Txt.split x y = Builtin.Str.partsBetween x (Builtin.Str.occurrences x y 0 x.length (x.length + 1)) y.length := by
        unfold Txt.split; rw [if_neg (by rw [h1]; simp), if_neg (by rw [hf]; simp)]
      have hn : (Builtin.Str.partsBetween x (Builtin.Str.occurrences x y 0 x.length (x.length + 1)) y.length).length ≤ sizeLine := by
        rw [← e]; exact Nat.le_trans (split_le x y) (Nat.le_trans (Nat.add_le_add_right hl 2) (by decide))
      refine call_meets F.slot_str_split (typeIs_str _ _ _) F.entry_str_split (F.args_str_split_2 _ _) (meets_str_split_sep x y t u h1 hy hf hsz hn) ?_
      rw [← e]
      exact hq _ _ (numbered_vrs _ _ ok)
    · have e : Txt.split x y = [x] := by unfold Txt.split; rw [if_neg (by rw [h1]; simp), if_pos hf]
      refine call_meets F.slot_str_split (typeIs_str _ _ _) F.entry_str_split (F.args_str_split_2 _ _) (meets_str_split_not_found x y t u h1 hy hf) ?_
      exact hq [.str x t] s.toks (by rw [e]; exact .cons (.str _ _ hx) .nil)
  · have e : Txt.split x y = [x] := by unfold Txt.split; rw [if_pos h1]
    refine call_meets F.slot_str_split (typeIs_str _ _ _) F.entry_str_split (F.args_str_split_2 _ _) (meets_str_split_cannot_occur x y t u h1) ?_
    exact hq [.str x t] s.toks (by rw [e]; exact .cons (.str _ _ hx) .nil)

theorem VRs.eraseIdx {h : Heap} : ∀ {xs : List PV} {vs : List Value} (k : Nat), VRs h α xs vs → VRs h α (xs.eraseIdx k) (vs.eraseIdx k)
  | [], vs, k, v => by
    have : vs = [] := List.eq_nil_of_length_eq_zero v.1.symm
    subst this; simpa using v
  | x :: xs, vs, 0, v => by
    obtain ⟨u, us, rfl, v1, v2⟩ := v.inv_cons
    exact v2
  | x :: xs, vs, k + 1, v => by
    obtain ⟨u, us, rfl, v1, v2⟩ := v.inv_cons
    exact .cons v1 (v2.eraseIdx k)

theorem upd_at {h : Heap} {a : Addr} {items : Array Value} {n : Nat} {g : Array Value → Array Value} (e : h.get? a = some { cls := .type "list", data := .seq items n }) :
    ∃ n', (h.update a (Obj.mapSeq g)).get? a = some { cls := .type "list", data := .seq (g items) n' } := by
  exact ⟨_, Heap.get?_update_self (Obj.mapSeq g) e rfl⟩
theorem upd_ne {h : Heap} {a b : Addr} {g : Obj → Obj} (hb : b ≠ a) : (h.update a g).get? b = h.get? b := Heap.get?_update_ne h b a g hb

theorem pop_raw {r : Nat} {a : Addr} {i : Int} {t : Tok} {v : PV} {xs : List PV} (R₀ : R K.hb s.heap σ α) (ea : α.ix[r]? = some a) (hs : σ[r]? = some (.lst xs)) (h0 : 0 ≤ i) (hl : xs.length ≤ lim) (hv : xs[i.toNat]? = some v) {X : Value → Shared → Prop} :
    wpAny (model K.prog K.w) A (call (.builtin "list.pop") [.ref a, .int i t]) (Post K VR (.ok v (σ.set r (.lst (xs.eraseIdx i.toNat)))) s α) X s := by
  obtain ⟨items, n, e1, w⟩ := R₀.obj r _ a hs ea
  obtain ⟨u, hu, vu⟩ := w.get hv
  have hi := (List.getElem?_eq_some_iff.mp hv).1
  have hl63 := lim63 hl
  have hlen := w.1
  refine call_meets F.slot_list_pop ⟨_, e1, rfl⟩ F.entry_list_pop (F.args_list_pop_2 _ _) (MeetsSeq.list_pop_at a items.toArray n i t i.toNat u ?_ ?_ (by simpa using hu) (by rw [List.size_toArray, ← w.1]; exact lim_line hl)) ⟨e1, ?_⟩
  · unfold Builtin.List.listFitsIndex; simp; omega
  · rw [← seqIdx_eq]; unfold seqIdx; rw [if_pos h0, if_pos (by simp; omega)]
  · obtain ⟨n', e'⟩ := upd_at (g := fun xs => xs.eraseIdxIfInBounds i.toNat) e1
    have e2 : (items.toArray.eraseIdxIfInBounds i.toNat) = (items.eraseIdx i.toNat).toArray := by
      simp
    rw [e2] at e'
    obtain ⟨r', x'⟩ := R₀.set (m := .lst (xs.eraseIdx i.toNat)) ea (fun b o hb e => (upd_ne hb).trans e) e' fun x' => ⟨_, n', e', (w.eraseIdx _).ext x'⟩
    exact ⟨v, _, α, rfl, x', r', vu.ext x', ⟨rfl, rfl⟩⟩

theorem extend_raw {r : Nat} {a b : Addr} {xs ys : List PV} {vs : List Value} {m : Nat} (R₀ : R K.hb s.heap σ α) (ea : α.ix[r]? = some a) (hs : σ[r]? = some (.lst xs)) (hl : xs.length + ys.length ≤ lim)
    (e2 : s.heap.get? b = some { cls := .type "tuple", data := .seq vs.toArray m }) (w2 : VRs s.heap α ys vs) {X : Value → Shared → Prop} :
    wpAny (model K.prog K.w) A (call (.builtin "list.extend") [.ref a, .ref b]) (Post K VR (.ok .none (σ.set r (.lst (xs ++ ys)))) s α) X s := by
  obtain ⟨items, n, e1, w⟩ := R₀.obj r _ a hs ea
  have hlen := w.1
  have hlen2 := w2.1
  have hln := lim_line hl
  have hll := lim63 hl
  refine call_meets F.slot_list_extend ⟨_, e1, rfl⟩ F.entry_list_extend (F.args_list_extend_2 _ _) (AutoSeq1.list_extend_list_tuple_0 a items.toArray n b vs.toArray m ?_ (by rw [List.size_toArray]; omega) (by rw [List.size_toArray, List.size_toArray]; omega)) ⟨e1, e2, ?_⟩
  · rw [List.size_toArray, List.size_toArray, ← hlen, ← hlen2]
    have : Builtin.List.listTooLong (xs.length + ys.length) = false := by unfold Builtin.List.listTooLong; simpa using hln
    rw [this]; simp
  · obtain ⟨n', e'⟩ := upd_at (g := fun x => x ++ vs.toArray) e1
    have e3 : items.toArray ++ vs.toArray = (items ++ vs).toArray := by simp
    simp only [e3] at e'
    obtain ⟨r', x'⟩ := R₀.set (m := .lst (xs ++ ys)) ea (fun b o hb e => (upd_ne hb).trans e) e' fun x' => ⟨_, n', e', (w.append w2).ext x'⟩
    exact ⟨.none, _, α, rfl, x', r', .none, ⟨rfl, rfl⟩⟩

theorem eqL {x y : Str} : (x.cps.toList == y.cps.toList) = (x == y) := by
  rw [Bool.eq_iff_iff, beq_iff_eq, beq_iff_eq]
  exact ⟨fun h => Str.ext' (Array.toList_inj.mp h), fun h => by rw [h]⟩
noncomputable def eqTo (y : Str) : Value → Bool
  | .str x _ => x.cps.toList == y.cps.toList
  | _ => false
theorem eqTo_all {vs : List Value} {ys : List Str} (h : StrsAre vs ys) (y : Str) (u : Tok) : ∀ v ∈ vs.toArray, MeetsSeq.EqGives v (.str y u) (eqTo y v) := by
  intro v hv
  obtain ⟨i, hi⟩ := List.getElem?_of_mem (by simpa using hv)
  obtain ⟨z, t, _, rfl⟩ := strs_at h i v hi
  exact SeqRoads2.EqGives.str z y t u
theorem count_is : ∀ {vs : List Value} {ys : List Str}, StrsAre vs ys → ∀ y, vs.countP (eqTo y) = ys.countP (· == y)
  | _, _, .nil, y => rfl
  | _, _, .cons z t r, y => by
    rw [List.countP_cons, List.countP_cons, count_is r y]
    show _ + (if (z.cps.toList == y.cps.toList) = true then 1 else 0) = _
    rw [eqL]
theorem idx_is : ∀ {vs : List Value} {ys : List Str}, StrsAre vs ys → ∀ y j, idxOf (· == y) ys = some j → ∃ h : j < vs.length, eqTo y vs[j] = true ∧ ∀ m (hm : m < vs.length), m < j → eqTo y vs[m] = false
  | _, _, .nil, y, j, e => by cases e
  | _, _, .cons z t r, y, j, e => by
    rename_i vs ys
    simp only [idxOf] at e
    split at e
    · rename_i hz
      cases e
      exact ⟨by simp, by show (z.cps.toList == y.cps.toList) = true; rw [eqL]; exact hz, fun m _ h => absurd h (Nat.not_lt_zero _)⟩
    · rename_i hz
      obtain ⟨k, hk, rfl⟩ := Option.map_eq_some_iff.mp e
      obtain ⟨h1, h2, h3⟩ := idx_is r y k hk
      refine ⟨by simp; omega, by simpa using h2, fun m hm h => ?_⟩
      cases m with
      | zero => show (z.cps.toList == y.cps.toList) = false; rw [eqL]; simpa using hz
      | succ m => simpa using h3 m (by simpa using hm) (by omega)

theorem count_raw {a : PV} {x : Value} {y : Str} {u : Tok} {ys : List Str} (r : R K.hb s.heap σ α) (va : VR s.heap α a x) (hl : (asLst σ a).bind allStrs = some ys) {X : Value → Shared → Prop} :
    wpAny (model K.prog K.w) A (call (.builtin "list.count") [x, .str y u]) (Post K VR (.ok (.int (ys.countP (· == y))) σ) s α) X s := by
  obtain ⟨xs, h1, h2⟩ := Option.bind_eq_some_iff.mp hl
  obtain ⟨l, vs, n, rfl, e1, v⟩ := asLst_is r va h1
  have hS := allStrs_are h2 v
  refine call_meets F.slot_list_count ⟨_, e1, rfl⟩ F.entry_list_count (F.args_list_count_2 _ _) (MeetsSeq.list_count l vs.toArray n (.str y u) (eqTo y) (eqTo_all hS y u)) ⟨e1, ?_⟩
  rw [show vs.toArray.toList.countP (eqTo y) = ys.countP (· == y) from count_is hS y]
  exact .here r (.int _ _)
theorem index_raw {a : PV} {x : Value} {y : Str} {u : Tok} {ys : List Str} {j : Nat} (r : R K.hb s.heap σ α) (va : VR s.heap α a x) (hl : (asLst σ a).bind allStrs = some ys) (hn : ys.length ≤ lim) (hj : idxOf (· == y) ys = some j) {X : Value → Shared → Prop} :
    wpAny (model K.prog K.w) A (call (.builtin "list.index") [x, .str y u]) (Post K VR (.ok (.int j) σ) s α) X s := by
  obtain ⟨xs, h1, h2⟩ := Option.bind_eq_some_iff.mp hl
  obtain ⟨l, vs, n, rfl, e1, v⟩ := asLst_is r va h1
  have hS := allStrs_are h2 v
  obtain ⟨q1, q2, q3⟩ := idx_is hS y j hj
  have hlen := strs_len hS
  have hlim : (lim : Int) = 1000000 := rfl
  refine call_meets F.slot_list_index ⟨_, e1, rfl⟩ F.entry_list_index (F.args_list_index_2 _ _) (MeetsSeq.list_index l vs.toArray n (.str y u) (eqTo y) (eqTo_all hS y u) j (by simpa using q1) (by omega) (by simpa using q2) (fun m hm h => by simpa using q3 m (by simpa using hm) h)) ⟨e1, ?_⟩
  exact .here r (.int _ _)

theorem mev_sound {m : Me} {o v : PV} {x u : Value} (r : R K.hb s.heap σ α) (va : VR s.heap α o x) (vv : VR s.heap α v u) : Runs K VR A (call (.builtin (meId m)) [x, u]) (mev m o [v] σ) s α := by
  intro hc
  cases m with
  | append =>
    change appendv o v σ ≠ .stuck at hc
    change wpAny _ _ _ (Post K VR (appendv o v σ) s α) (PostX K A (appendv o v σ) s α) s
    unfold appendv at hc ⊢
    split at hc
    · cases va with | @ref _ a ea =>
      split at hc
      · rename_i hs
        split at hc
        · rename_i hl; rw [if_pos hl]; exact append_raw r ea hs hl vv
        · exact absurd rfl hc
      · exact absurd rfl hc
    · exact absurd rfl hc
  | extend =>
    change extendv o v σ ≠ .stuck at hc
    change wpAny _ _ _ (Post K VR (extendv o v σ) s α) (PostX K A (extendv o v σ) s α) s
    unfold extendv at hc ⊢
    split at hc
    · cases va with | @ref _ a ea =>
      split at hc
      · rename_i hs
        split at hc
        · obtain ⟨b, vs, n, rfl, e1, _, w⟩ := vv.tupE
          split at hc
          · rename_i hl; rw [if_pos hl]; exact extend_raw r ea hs hl e1 w
          · exact absurd rfl hc
        · exact absurd rfl hc
      · exact absurd rfl hc
    · exact absurd rfl hc
  | pop =>
    change popv o v σ ≠ .stuck at hc
    change wpAny _ _ _ (Post K VR (popv o v σ) s α) (PostX K A (popv o v σ) s α) s
    unfold popv at hc ⊢
    split at hc
    · cases va with | @ref _ a ea =>
      split at hc
      · rename_i hs
        split at hc
        · cases vv
          split at hc
          · rename_i hl; rw [if_pos hl]
            split at hc
            · rename_i w hw; exact pop_raw r ea hs hl.1 hl.2 hw
            · exact absurd rfl hc
          · exact absurd rfl hc
        · exact absurd rfl hc
      · exact absurd rfl hc
    · exact absurd rfl hc
  | count =>
    change countv o v σ ≠ .stuck at hc
    change wpAny _ _ _ (Post K VR (countv o v σ) s α) (PostX K A (countv o v σ) s α) s
    unfold countv at hc ⊢
    split at hc
    · cases vv
      split at hc
      · rename_i hl; exact count_raw r va hl
      · exact absurd rfl hc
    · exact absurd rfl hc
  | index =>
    change indexv o v σ ≠ .stuck at hc
    change wpAny _ _ _ (Post K VR (indexv o v σ) s α) (PostX K A (indexv o v σ) s α) s
    unfold indexv at hc ⊢
    split at hc
    · cases vv
      split at hc
      · rename_i hl
        split at hc
        · rename_i hn; rw [if_pos hn]
          split at hc
          · rename_i j hj; exact index_raw r va hl hn hj
          · exact absurd rfl hc
        · exact absurd rfl hc
      · exact absurd rfl hc
    · exact absurd rfl hc
  | join =>
    change joinv o v σ ≠ .stuck at hc
    change wpAny _ _ _ (Post K VR (joinv o v σ) s α) (PostX K A (joinv o v σ) s α) s
    unfold joinv at hc ⊢
    split at hc
    · cases va with | str _ _ hx =>
      split at hc
      · rename_i ys hl
        split at hc
        · rename_i hn; rw [if_pos hn]
          obtain ⟨xs, h1, h2⟩ := Option.bind_eq_some_iff.mp hl
          obtain ⟨l, vs, n, rfl, e1, w⟩ := asLst_is r vv h1
          exact join_listW (isL e1) (by simpa using allStrs_are h2 w) hn.1 (Nat.le_trans hn.2 (by decide)) fun t' k => .here r (.str _ _ (join_ok hx (strs_ok h2 w)))
        · exact absurd rfl hc
      · exact absurd rfl hc
    · exact absurd rfl hc
  | split =>
    change splitv o v σ ≠ .stuck at hc
    change wpAny _ _ _ (Post K VR (splitv o v σ) s α) (PostX K A (splitv o v σ) s α) s
    unfold splitv at hc ⊢
    split at hc
    · cases va with | str _ _ hx =>
      cases vv
      split at hc
      · rename_i hn; rw [if_pos hn]
        refine split_raw (α := α) hx hn.1 hn.2 fun vs tk w => ?_
        obtain ⟨b, σ', α', e, x', r', v', m'⟩ := Post.fl (K := K) r w
        exact ⟨b, σ', α', e, x', r', v', ⟨rfl, rfl⟩⟩
      · exact absurd rfl hc
    · exact absurd rfl hc

theorem me_facts (m : Me) : PlainAttrs (meT m) ∧ Slot (meT m) (meN m) (meId m) ∧ typeOf (.builtin (meId m)) = pure (.type "method_descriptor") := by
  cases m
  · exact ⟨F.plainAttrs_list, F.slot_list_append, F.type_list_append⟩
  · exact ⟨F.plainAttrs_list, F.slot_list_extend, F.type_list_extend⟩
  · exact ⟨F.plainAttrs_list, F.slot_list_pop, F.type_list_pop⟩
  · exact ⟨F.plainAttrs_list, F.slot_list_count, F.type_list_count⟩
  · exact ⟨F.plainAttrs_list, F.slot_list_index, F.type_list_index⟩
  · exact ⟨F.plainAttrs_str, F.slot_str_join, F.type_str_join⟩
  · exact ⟨F.plainAttrs_str, F.slot_str_split, F.type_str_split⟩
/-- the object is of the method's kind -/
theorem meOk_is {m : Me} {o : PV} {x : Value} (r : R K.hb s.heap σ α) (va : VR s.heap α o x) (h : meOk m o σ = true) : s.TypeIs x (meT m) ∧ ∀ a, x = .ref a → ∃ ob, s.heap.get? a = some ob ∧ ob.dict = none := by
  have lst : ∀ xs, asLst σ o = some xs → s.TypeIs x "list" ∧ ∀ a, x = .ref a → ∃ ob, s.heap.get? a = some ob ∧ ob.dict = none := fun xs e => by
    obtain ⟨l, vs, n, rfl, e1, _⟩ := asLst_is r va e
    exact ⟨⟨_, e1, rfl⟩, fun a ha => by cases ha; exact ⟨_, e1, rfl⟩⟩
  have mutb : isMut o σ = true → ∃ xs, asLst σ o = some xs := fun h => by
    unfold isMut at h
    split at h
    · split at h
      · rename_i xs hs; exact ⟨xs, by simp [asLst, hs]⟩
      · cases h
    · cases h
  have txt : isTxt o = true → s.TypeIs x "str" ∧ ∀ a, x = .ref a → ∃ ob, s.heap.get? a = some ob ∧ ob.dict = none := fun h => by
    cases o with
    | str z => cases va; exact ⟨typeIs_str _ _ _, fun a ha => by cases ha⟩
    | _ => cases h
  cases m with
  | append => obtain ⟨xs, e⟩ := mutb h; exact lst xs e
  | extend => obtain ⟨xs, e⟩ := mutb h; exact lst xs e
  | pop => obtain ⟨xs, e⟩ := mutb h; exact lst xs e
  | count => obtain ⟨xs, e⟩ := Option.isSome_iff_exists.mp h; exact lst xs e
  | index => obtain ⟨xs, e⟩ := Option.isSome_iff_exists.mp h; exact lst xs e
  | join => exact txt h
  | split => exact txt h
end

section
variable {K : Kt} {A : Around} {T : Tab} {C : Cfg} {f : List (Str × NameKind) → Expr → Option X} {N : List (Str × NameKind)} {env : Env} {ρ : Loc} {σ : Sto} {s : Shared} {α : AL}

theorem meE_sound {m : Me} {mn : Str} {o a : Expr} {apos pos : Pos} {x y : X} (S : SE K A C f) (hm : meName mn = some m) (hline : (apos.endLine == pos.line) = true) (hn0 : notCall0 o = true) (h1 : f N o = some x) (h2 : f N a = some y)
    (hN : env.scope.names = N) (hn : EnvNew K.hb env) (E : EnvRel env ρ s.heap α) (r : R K.hb s.heap σ α) :
    Runs K VR A (eval (.Call (.Attribute o mn apos) [a] [] pos) env) (ev C (.me m x (.cons y .nil)) ρ σ) s α := by
  rw [meName_is hm, ev_me]
  intro hc
  obtain ⟨hp, H2⟩ := S N a y h2
  refine Call_method1 (base_plain hn0) (plain_star hp) hline ?_
  refine Runs.use ((S N o x h1).2 env ρ σ s α hN hn E r).1 hc fun va σ₁ α₁ y1 s₁ e1 hc1 x1 r1 v1 m1 => ?_
  rw [e1]
  split at hc1
  · rename_i hok
    obtain ⟨q1, q2, q3⟩ := me_facts m
    obtain ⟨q4, q5⟩ := meOk_is r1 v1 hok
    refine ⟨meT m, meId m, q1, q2, q3, q4, q5, ?_⟩
    refine Calls.callWith_builtin (by cases m <;> rfl) (Calls.evalArgs_plain (Calls.spliced_cons ?_))
    simp only [Out.bind, hok, if_true, evs_cons, evs_nil] at hc1 ⊢
    have H := (H2 env ρ σ₁ s₁ α₁ hN hn (E.ext x1 .nil) r1).1
    have h3 : ev C y ρ σ₁ ≠ .stuck := by intro q; rw [q] at hc1; exact hc1 rfl
    refine wpAny_mono (H h3) (fun u s₂ hp => ?_) fun e s₂ hx => ?_
    · obtain ⟨pv, σ₂, α₂, e2, x2, r2, v2, m2⟩ := hp
      rw [e2] at hc1 ⊢
      refine Calls.spliced_nil ?_
      exact wpAny_mono (mev_sound r2 (v1.ext x2) v2 hc1) (fun y s'' hp => hp.lift (x1.trans x2) (m1.trans m2)) fun _ _ e => e.lift (x1.trans x2) (m1.trans m2)
    · obtain ⟨i, σ₂, e2, fx⟩ := hx
      exact ⟨i, σ₂, by rw [e2], fx.lift x1 m1⟩
  · exact absurd rfl hc1
end
end Mine

namespace Mine
open PySem PyProof.Rows

/-! slices, min of two, how many unlike -/
theorem VRs.drop {h : Heap} {α : AL} : ∀ {xs : List PV} {vs : List Value} (k : Nat), VRs h α xs vs → VRs h α (xs.drop k) (vs.drop k)
  | _, _, 0, v => v
  | [], vs, k + 1, v => by
    have : vs = [] := List.eq_nil_of_length_eq_zero v.1.symm
    subst this; exact .nil
  | x :: xs, vs, k + 1, v => by
    obtain ⟨u, us, rfl, v1, v2⟩ := v.inv_cons
    exact v2.drop k
theorem VRs.take {h : Heap} {α : AL} : ∀ {xs : List PV} {vs : List Value} (k : Nat), VRs h α xs vs → VRs h α (xs.take k) (vs.take k)
  | _, _, 0, v => .nil
  | [], vs, k + 1, v => by
    have : vs = [] := List.eq_nil_of_length_eq_zero v.1.symm
    subst this; exact .nil
  | x :: xs, vs, k + 1, v => by
    obtain ⟨u, us, rfl, v1, v2⟩ := v.inv_cons
    exact .cons v1 (v2.take k)

section
variable {K : Kt} {A : Around} {s : Shared} {α : AL} {σ : Sto}

theorem part_is {p : PV} {v : Value} {k : Option Int} (h : optInt p = some k) (r : VR s.heap α p v) : IsPart v k := by
  cases p with
  | none => cases h; cases r; exact .none
  | int i => cases h; cases r; exact .int _ _
  | _ => cases h

/-- from the slice's parts on -/
theorem slicev_sound {value : Expr} {l u : Option Expr} {p : Pos} {a b c : PV} {x y z : Value} (r : R K.hb s.heap σ α) (va : VR s.heap α a x) (vb : VR s.heap α b y) (vc : VR s.heap α c z) :
    Runs K VR A (subscriptTail value (.Slice l u none p) x (.ref s.heap.objs.size)) (slicev a b c σ) { s with heap := s.heap.push { cls := .type "slice", data := .fields #[y, z, .none] } } α := by
  intro hc
  have k : ∀ b o, s.heap.get? b = some o → (s.heap.push { cls := .type "slice", data := .fields #[y, z, .none] }).get? b = some o := fun b o e => Heap.get?_push_of_some _ e
  have r' := r.keeps k
  have lst : ∀ xs lo hi, asLst σ a = some xs → optInt b = some lo → optInt c = some hi → xs.length ≤ lim → ∀ X : Value → Shared → Prop,
      wpAny (model K.prog K.w) A (subscriptTail value (.Slice l u none p) x (.ref s.heap.objs.size)) (Post K VR (.ok (PV.fl (sliceOf xs lo hi)) σ) { s with heap := s.heap.push { cls := .type "slice", data := .fields #[y, z, .none] } } α) X { s with heap := s.heap.push { cls := .type "slice", data := .fields #[y, z, .none] } } := by
    intro xs lo hi e h1 h2 hl X
    obtain ⟨ad, vs, n, rfl, e1, v⟩ := asLst_is r va e
    have e1' := k _ _ e1
    have hL : (s.heap.push { cls := .type "slice", data := .fields #[y, z, .none] }).IsList ad vs.toArray := ⟨_, e1', rfl, n, rfl⟩
    refine tail_any (s := { s with heap := s.heap.push { cls := .type "slice", data := .fields #[y, z, .none] } }) hL.typeIs slot_list_getitem.lookup
      (wpAny_getItem_list_slice hL (Heap.IsSliceOf.new ..) (part_is h1 vb) (part_is h2 vc) .none (by simp) ?_ (by rw [List.size_toArray, ← v.1]; exact lim_line hl)) rfl
    rw [slicePick_plain, show vs.toArray.size = xs.length by rw [List.size_toArray, v.1]]
    exact Post.fl (s := { s with heap := s.heap.push { cls := .type "slice", data := .fields #[y, z, .none] } }) r' (((v.ext (.keeps (F := []) k)).drop _).take _)
  have lst' : ∀ xs, asLst σ a = some xs → slicev a b c σ = (match optInt b, optInt c with
      | some lo, some hi => if xs.length ≤ lim then Out.ok (PV.fl (sliceOf xs lo hi)) σ else .stuck
      | _, _ => .stuck) → wpAny (model K.prog K.w) A (subscriptTail value (.Slice l u none p) x (.ref s.heap.objs.size)) (Post K VR (slicev a b c σ) { s with heap := s.heap.push { cls := .type "slice", data := .fields #[y, z, .none] } } α) (PostX K A (slicev a b c σ) { s with heap := s.heap.push { cls := .type "slice", data := .fields #[y, z, .none] } } α) { s with heap := s.heap.push { cls := .type "slice", data := .fields #[y, z, .none] } } := by
    intro xs e q
    rw [q] at hc ⊢
    cases h1 : optInt b with
    | none => rw [h1] at hc; exact absurd rfl hc
    | some lo =>
      cases h2 : optInt c with
      | none => rw [h1, h2] at hc; exact absurd rfl hc
      | some hi =>
        rw [h1, h2] at hc
        dsimp only at hc ⊢
        split at hc
        · rename_i hl
          rw [if_pos hl]
          exact lst xs lo hi e h1 h2 hl _
        · exact absurd rfl hc
  cases a with
  | tup xs =>
    obtain ⟨t, vs, n, rfl, e1, _, v⟩ := va.tupE
    simp only [slicev] at hc ⊢
    split at hc
    · rename_i i
      cases vb; cases vc
      split at hc
      · rename_i hl
        rw [if_pos hl]
        obtain ⟨h1, h2, h3⟩ := hl
        have hi : ((i.toNat : Nat) : Int) = i := by omega
        have hT : IsTup (s.heap.push { cls := .type "slice", data := .fields #[.int i ‹_›, .none, .none] }) t vs.toArray := ⟨_, k _ _ e1, rfl, n, rfl⟩
        refine tail_any (value := value) (slice := .Slice l u none p) (ops := [.ref s.heap.objs.size, .ref t]) (s := { s with heap := s.heap.push { cls := .type "slice", data := .fields #[.int i ‹_›, .none, .none] } }) hT.typeIs slot_tuple_getitem.lookup
          (getItem_tuple_from (a := i.toNat) hT (by rw [hi]; exact Heap.IsSliceOf.new ..) (by omega) (by rw [List.size_toArray, ← v.1]; exact h2) ?_ (by rw [List.size_toArray, ← v.1]; exact lim_line h3)) rfl
        exact .tup (s := { s with heap := s.heap.push { cls := .type "slice", data := .fields #[.int i ‹_›, .none, .none] } }) r' ((v.ext (.keeps (F := []) k)).drop _)
      · exact absurd rfl hc
    · exact absurd rfl hc
  | fl xs =>
    refine lst' xs rfl ?_
    show (match some xs, optInt b, optInt c with
      | some xs, some lo, some hi => if xs.length ≤ lim then Out.ok (PV.fl (sliceOf xs lo hi)) σ else .stuck
      | _, _, _ => .stuck) = _
    cases optInt b <;> cases optInt c <;> rfl
  | ref i =>
    cases e : asLst σ (.ref i) with
    | none =>
      refine absurd ?_ hc
      show (match asLst σ (.ref i), optInt b, optInt c with
        | some xs, some lo, some hi => if xs.length ≤ lim then Out.ok (PV.fl (sliceOf xs lo hi)) σ else .stuck
        | _, _, _ => .stuck) = _
      rw [e]
    | some xs =>
      refine lst' xs e ?_
      show (match asLst σ (.ref i), optInt b, optInt c with
        | some xs, some lo, some hi => if xs.length ≤ lim then Out.ok (PV.fl (sliceOf xs lo hi)) σ else .stuck
        | _, _, _ => .stuck) = _
      rw [e]
      cases optInt b <;> cases optInt c <;> rfl
  | _ => exact absurd rfl hc

theorem min2_sound {a b : PV} {x y : Value} (hA : AOk A) (r : R K.hb s.heap σ α) (va : VR s.heap α a x) (vb : VR s.heap α b y) : Runs K VR A (call (.builtin "min") [x, y]) (min2v a b σ) s α := by
  intro hc
  cases a with
  | int i =>
    cases b with
    | int j =>
      cases va; cases vb
      refine min_two_ints hA.handled fun h' tk k => ?_
      have : ∀ {q : PV} {w : Value}, q = .int (min i j) → VR h' α q w → Post K VR (min2v (.int i) (.int j) σ) s α w { s with heap := h', toks := tk } := fun {q w} e v => ⟨q, σ, α, by rw [e]; rfl, .keeps k, r.keeps k, v, ⟨rfl, rfl⟩⟩
      split
      · rename_i h; exact this (by congr 1; omega) (.int j _)
      · rename_i h; exact this (by congr 1; omega) (.int i _)
    | _ => exact absurd rfl hc
  | _ => exact absurd rfl hc
end

section
variable {K : Kt} {A : Around} {T : Tab} {C : Cfg} {f : List (Str × NameKind) → Expr → Option X} {N : List (Str × NameKind)} {env : Env} {ρ : Loc} {σ : Sto} {s : Shared} {α : AL}

theorem part_sound {o : Option Expr} {x : X} (S : SE K A C f) (h : trOpt (f N) o = some x) (hN : env.scope.names = N) (hn : EnvNew K.hb env) (E : EnvRel env ρ s.heap α) (r : R K.hb s.heap σ α) :
    Runs K VR A (valueOrNone (evalOpt o env)) (ev C x ρ σ) s α := by
  cases o with
  | none => cases h; exact Runs.pure r .none
  | some e => exact ((S N e x h).2 env ρ σ s α hN hn E r).1

theorem sliceE_sound {o : Expr} {lo hi : Option Expr} {p pos : Pos} {x y z : X} (S : SE K A C f) (h1 : f N o = some x) (h2 : trOpt (f N) lo = some y) (h3 : trOpt (f N) hi = some z)
    (hN : env.scope.names = N) (hn : EnvNew K.hb env) (E : EnvRel env ρ s.heap α) (r : R K.hb s.heap σ α) :
    Runs K VR A (eval (.Subscript o (.Slice lo hi none p) pos) env) (ev C (.slice x y z) ρ σ) s α := by
  rw [ev_slice, arm_eval_Subscript]
  refine Runs.bind ((S N o x h1).2 env ρ σ s α hN hn E r).1 fun va σ₁ α₁ u1 s₁ e1 x1 r1 v1 m1 => ?_
  rw [arm_eval_Slice]
  intro hc
  refine wpAny_bind (wpAny_holding (wpAny_bind ?_))
  refine Runs.use (part_sound S h2 hN hn (E.ext x1 .nil) r1) hc fun vb σ₂ α₂ u2 s₂ e2 hc2 x2 r2 v2 m2 => ?_
  refine wpAny_bind (wpAny_holding ?_)
  rw [e2]
  have hc2' : ((ev C z ρ σ₂).bind fun b σ => slicev va vb b σ) ≠ .stuck := hc2
  have H3 := part_sound S h3 hN hn ((E.ext x1 .nil).ext x2 .nil) r2
  have h4 : ev C z ρ σ₂ ≠ .stuck := by intro q; rw [q] at hc2'; exact hc2' rfl
  refine wpAny_mono (H3 h4) (fun u3 s₃ hp => ?_) fun e s₃ hx => ?_
  · obtain ⟨vc, σ₃, α₃, e3, x3, r3, v3, m3⟩ := hp
    refine wpAny_bind (wpAny_holding (wpAny_pure ?_))
    refine wpAny_newObj_type ?_ (by size_fits)
    refine wpAny_bind (wpAny_standAt ?_)
    have k : ∀ b o, s₃.heap.get? b = some o → (s₃.heap.push { cls := .type "slice", data := .fields #[u2, u3, .none] }).get? b = some o := fun b o e => Heap.get?_push_of_some _ e
    have q : ((Out.ok vb σ₂).bind fun a σ => (ev C z ρ σ).bind fun b σ => slicev va a b σ) = slicev va vb vc σ₃ := by simp only [Out.bind, e3]
    rw [q]
    rw [e3] at hc2'
    have lf : Ext [] α₁ s₁.heap α₃ (s₃.heap.push { cls := .type "slice", data := .fields #[u2, u3, .none] }) := (x2.trans x3).trans (.keeps k)
    exact wpAny_mono (slicev_sound (value := o) (l := lo) (u := hi) (p := p) r3 ((v1.ext x2).ext x3) (v2.ext x3) v3 hc2')
      (fun w s₄ hp => Post.lift (s₁ := { s₃ with heap := s₃.heap.push { cls := .type "slice", data := .fields #[u2, u3, .none] } }) lf ⟨(m2.trans m3).gens, (m2.trans m3).os⟩ hp)
      fun e s₄ hx => PostX.lift (s₁ := { s₃ with heap := s₃.heap.push { cls := .type "slice", data := .fields #[u2, u3, .none] } }) lf ⟨(m2.trans m3).gens, (m2.trans m3).os⟩ hx
  · obtain ⟨i, σ₃, e3, fx⟩ := hx
    exact ⟨i, σ₃, by simp only [Out.bind, e3], fx.lift x2 m2⟩

theorem min2E_sound {a b : Expr} {p pos : Pos} {x y : X} (c : Ctx K A T C) (S : SE K A C f) (hg : isG N "min" = true) (hbin : ("min" : Str) ∈ T.bins) (h1 : f N a = some x) (h2 : f N b = some y)
    (hN : env.scope.names = N) (hn : EnvNew K.hb env) (E : EnvRel env ρ s.heap α) (r : R K.hb s.heap σ α) :
    Runs K VR A (eval (.Call (.Name "min" p) [a, b] [] pos) env) (ev C (.min2 x y) ρ σ) s α := by
  rw [ev_min2]
  intro hc
  obtain ⟨hm, v, hv, hmb⟩ := c.bin _ hbin
  obtain ⟨j, hj⟩ := isG_idx hg
  have hv' : v = .builtin "min" := by
    have : biVal "min" = some (.builtin "min") := rfl
    rw [this] at hv; cases hv; rfl
  subst hv'
  obtain ⟨hp1, H1⟩ := S N a x h1
  obtain ⟨hp2, H2⟩ := S N b y h2
  refine wpAny_Call_Name_kw (name_bin c.hK r E.ok (by rw [hN]; exact hj) hm hmb ?_)
  rw [plain_star hp1, plain_star hp2]
  refine Calls.callWith_builtin rfl (Calls.evalArgs_plain (Calls.spliced_cons ?_))
  refine Runs.use (H1 env ρ σ s α hN hn E r).1 hc fun v1 σ₁ α₁ u1 s₁ e1 hc1 x1 r1 w1 m1 => ?_
  rw [e1]
  refine Calls.spliced_cons ?_
  have H := (H2 env ρ σ₁ s₁ α₁ hN hn (E.ext x1 .nil) r1).1
  have h3 : ev C y ρ σ₁ ≠ .stuck := by intro q; rw [q] at hc1; exact hc1 rfl
  refine wpAny_mono (H h3) (fun u2 s₂ hp => Calls.spliced_nil ?_) fun e s₂ hx => ?_
  · obtain ⟨v2, σ₂, α₂, e2, x2, r2, w2, m2⟩ := hp
    have q : ((Out.ok v1 σ₁).bind fun x σ => (ev C y ρ σ).bind fun y σ => min2v x y σ) = min2v v1 v2 σ₂ := by simp only [Out.bind, e2]
    rw [q]
    rw [e2] at hc1
    exact wpAny_mono (min2_sound c.hA r2 (w1.ext x2) w2 hc1) (fun w s₃ hp => hp.lift (x1.trans x2) (m1.trans m2)) fun e s₃ hx => hx.lift (x1.trans x2) (m1.trans m2)
  · obtain ⟨i, σ₂, e2, fx⟩ := hx
    exact ⟨i, σ₂, by simp only [Out.bind, e2], fx.lift x1 m1⟩

theorem lensetE_sound {a : Expr} {p p2 pos pos2 : Pos} {x : X} (c : Ctx K A T C) (S : SE K A C f) (hg : isG N "len" = true) (hbin : ("len" : Str) ∈ T.bins) (hg2 : isG N "set" = true) (hbin2 : ("set" : Str) ∈ T.bins) (h : f N a = some x)
    (hN : env.scope.names = N) (hn : EnvNew K.hb env) (E : EnvRel env ρ s.heap α) (r : R K.hb s.heap σ α) :
    Runs K VR A (eval (.Call (.Name "len" p) [.Call (.Name "set" p2) [a] [] pos2] [] pos) env) (ev C (.b1 .lenset x) ρ σ) s α := by
  rw [ev_b1]
  intro hc
  obtain ⟨hm, v, hv, hmb⟩ := c.bin _ hbin
  obtain ⟨j, hj⟩ := isG_idx hg
  have hv' : v = .builtin "len" := by
    have : biVal "len" = some (.builtin "len") := rfl
    rw [this] at hv; cases hv; rfl
  subst hv'
  obtain ⟨hm2, v2, hv2, hmb2⟩ := c.bin _ hbin2
  obtain ⟨j2, hj2⟩ := isG_idx hg2
  have hv2' : v2 = .type "set" := by
    have : biVal "set" = some (.type "set") := rfl
    rw [this] at hv2; cases hv2; rfl
  subst hv2'
  obtain ⟨hp, H⟩ := S N a x h
  refine wpAny_Call_Name_kw (name_bin c.hK r E.ok (by rw [hN]; exact hj) hm hmb ?_)
  rw [plain_star (e := .Call (.Name "set" p2) [a] [] pos2) rfl]
  refine PySem.callWith_builtin1 ?_
  refine wpAny_Call_Name_kw (name_bin c.hK r E.ok (by rw [hN]; exact hj2) hm2 hmb2 ?_)
  rw [plain_star hp]
  refine PySem.callWith_type1 ?_
  refine Runs.use (H env ρ σ s α hN hn E r).1 hc fun v1 σ₁ α₁ u1 s₁ e1 hc1 x1 r1 w1 m1 => ?_
  rw [e1]
  have q : b1v .lenset v1 σ₁ = match (seqItems σ₁ v1).bind allStrs with
      | some l => if l.length ≤ 1000 then .ok (.int (dedupS l).length) σ₁ else .stuck
      | none => .stuck := by cases v1 <;> rfl
  show wpAny _ _ _ (fun v s₁ => wpAny _ _ _ (Post K VR (b1v .lenset v1 σ₁) s α) (PostX K A (b1v .lenset v1 σ₁) s α) s₁) _ _
  rw [q] at hc1 ⊢
  split at hc1
  · rename_i l hl
    split at hc1
    · rename_i hn2
      rw [if_pos hn2]
      refine lenset_raw c.hA r1 w1 hl hn2 fun D h' tk k hlen => hlen _ _ fun t tk' => ?_
      exact ⟨_, σ₁, α₁, rfl, x1.trans (.keeps k), r1.keeps k, .int _ _, ⟨m1.gens, m1.os⟩⟩
    · exact absurd rfl hc1
  · exact absurd rfl hc1
end
end Mine

namespace Mine
open PySem PyProof.Rows

section
variable {K : Kt} {A : Around} {T : Tab} {C : Cfg} {f : List (Str × NameKind) → Expr → Option X} {N : List (Str × NameKind)} {env : Env} {ρ : Loc} {σ : Sto} {s : Shared} {α : AL}

/-- the pairs of a dict display of constants -/
theorem pairs_shape {pos : Pos} : ∀ {ks : List (Option Expr)} {vs : List Expr} {kk : List Str} {vv : List PV}, dictKeys ks = some kk → dictVals ks.length vs = some vv →
    ∃ pairs : List (Sem Value × Sem Value), (evalEachOpt ks env).zip ((evalEach vs env).map fun v => do let x ← v; standAt pos; pure x) = pairs.map (fun p => (some p.1, p.2)) ∧ pairs.length = kk.length ∧ vv.length = kk.length ∧
      ∀ {s : Shared} {Q : List (Value × Value) → Shared → Prop} {X : Value → Shared → Prop}, (∀ us tk, us.length = kk.length → (∀ (i : Nat) k v, kk[i]? = some k → vv[i]? = some v → ∃ t u, us[i]? = some (Value.str k t, u) ∧ ∀ h α, VR h α v u) → Q us { s with toks := tk }) → wpAny (model K.prog K.w) A (evalPairs pairs) Q X s
  | [], vs, kk, vv, h1, h2 => by
    cases h1
    cases vs with
    | nil =>
      cases h2
      refine ⟨[], rfl, rfl, rfl, fun hQ => evalPairs_nil ?_⟩
      exact hQ [] _ rfl (fun i k v e => by simp at e)
    | cons e es => cases h2
  | k :: ks, vs, kk, vv, h1, h2 => by
    unfold dictKeys at h1
    split at h1
    · rename_i h; cases h
    · rename_i q s1 kp p r hq
      cases hq
      split at h1
      · rename_i hok
        cases hr : dictKeys ks with
        | none => rw [hr] at h1; cases h1
        | some kk' =>
          rw [hr] at h1; cases h1
          cases vs with
          | nil => cases h2
          | cons e es =>
            cases e with
            | Constant c ck cp =>
              simp only [List.length_cons, dictVals] at h2
              cases hc : trConst c with
              | none => rw [hc] at h2; cases h2
              | some v =>
                cases hv : dictVals ks.length es with
                | none => rw [hc, hv] at h2; cases h2
                | some vv' =>
                  rw [hc, hv] at h2; cases h2
                  obtain ⟨pairs, e1, e2, e3, H⟩ := pairs_shape (pos := pos) hr hv
                  refine ⟨(eval (.Constant (.str s1) kp p) env, do let x ← eval (.Constant c ck cp) env; standAt pos; pure x) :: pairs, ?_, by simp [e2], by simp [e3], fun hQ => ?_⟩
                  · simp only [List.map_cons, ← e1]; rfl
                  · refine evalPairs_cons (wpAny_Constant_str (wpAny_bind ?_))
                    have fin : ∀ {s : Shared} {u : Value} {tk : Nat}, (∀ h α, VR h α v u) → ∀ {t0 : Tok} {Q : List (Value × Value) → Shared → Prop} {X : Value → Shared → Prop},
                        (∀ us tk, us.length = (s1 :: kk').length → (∀ (i : Nat) k v', (s1 :: kk')[i]? = some k → (v :: vv')[i]? = some v' → ∃ t u, us[i]? = some (Value.str k t, u) ∧ ∀ h α, VR h α v' u) → Q us { s with toks := tk }) →
                        wpAny (model K.prog K.w) A (do standAt pos; pure u) (fun vv s₂ => wpAny (model K.prog K.w) A (evalPairs pairs) (fun vs s₃ => Q ((Value.str s1 t0, vv) :: vs) s₃) X s₂) X { s with toks := tk } := by
                      intro s u tk hu t0 Q X hQ
                      refine wpAny_bind (wpAny_standAt (wpAny_pure (H fun us tk' hl hi => ?_)))
                      refine hQ _ tk' (by simp [hl]) fun i k v' e1 e2 => ?_
                      cases i with
                      | zero => simp at e1 e2; subst e1 e2; exact ⟨t0, u, by simp, hu⟩
                      | succ i =>
                        simp at e1 e2
                        obtain ⟨t, u', q1, q2⟩ := hi i k v' e1 e2
                        exact ⟨t, u', by simpa using q1, q2⟩
                    cases c with
                    | none => cases hc; exact wpAny_Constant_none (fin (fun h α => .none) hQ)
                    | bool b => cases hc; exact wpAny_Constant_bool (fin (fun h α => .bool b) hQ)
                    | int i => cases hc; exact wpAny_Constant_int (fin (fun h α => .int i _) hQ)
                    | str z =>
                      simp only [trConst] at hc
                      split at hc
                      · rename_i hz; cases hc; exact wpAny_Constant_str (fin (fun h α => .str z _ hz) hQ)
                      · cases hc
                    | _ => cases hc
            | _ => cases h2
      · cases h1
    · cases h1

theorem sget_find : ∀ {ks : List Str} {vals : List PV} {us : List (Value × Value)} {kvs : List (Str × Value)} {k : Str}, ks.length = us.length → vals.length = ks.length → kvs = (ks.zip us).map (fun p => (p.1, p.2.2)) →
    (∀ (i : Nat) k v, ks[i]? = some k → vals[i]? = some v → ∃ t u, us[i]? = some (Value.str k t, u) ∧ ∀ h α, VR h α v u) →
    (∀ v, sget k (ks.zip vals) = some v → ∃ u, valueAt kvs k = some u ∧ ∀ h α, VR h α v u) ∧ (sget k (ks.zip vals) = none → valueAt kvs k = none)
  | [], vals, us, kvs, k, h1, h2, h3, h4 => by
    subst h3
    simp [sget, valueAt]
  | a :: ks, vals, us, kvs, k, h1, h2, h3, h4 => by
    cases vals with
    | nil => cases h2
    | cons v vals =>
      cases us with
      | nil => cases h1
      | cons u us =>
        subst h3
        obtain ⟨t, u', q1, q2⟩ := h4 0 a v (by simp) (by simp)
        simp at q1
        subst q1
        have ih := @sget_find ks vals us _ k (by simpa using h1) (by simpa using h2) rfl (fun i k v e1 e2 => by
          have := h4 (i + 1) k v (by simpa using e1) (by simpa using e2); simpa using this)
        by_cases hk : a = k
        · subst hk
          simp only [List.zip_cons_cons, sget, if_true, valueAt, List.map_cons, List.find?_cons, decide_true]
          exact ⟨fun w hw => by cases hw; exact ⟨u', rfl, q2⟩, fun hw => by cases hw⟩
        · simp only [List.zip_cons_cons, sget, if_neg hk, valueAt, List.map_cons, List.find?_cons, hk, decide_false] at ih ⊢
          exact ih

theorem carries_of : ∀ {ks : List Str} {vals : List PV} {us : List (Value × Value)}, ks.length = us.length → vals.length = ks.length →
    (∀ (i : Nat) k v, ks[i]? = some k → vals[i]? = some v → ∃ t u, us[i]? = some (Value.str k t, u) ∧ ∀ h α, VR h α v u) → Carries (strKind K.prog K.w) us ((ks.zip us).map fun p => (p.1, p.2.2))
  | [], vals, us, h1, h2, h4 => by
    cases us with
    | nil => trivial
    | cons u us => cases h1
  | a :: ks, vals, us, h1, h2, h4 => by
    cases vals with
    | nil => cases h2
    | cons v vals =>
      cases us with
      | nil => cases h1
      | cons u us =>
        obtain ⟨t, u', q1, q2⟩ := h4 0 a v (by simp) (by simp)
        simp at q1
        subst q1
        refine ⟨?_, rfl, carries_of (vals := vals) (by simpa using h1) (by simpa using h2) fun i k v e1 e2 => by have := h4 (i + 1) k v (by simpa using e1) (by simpa using e2); simpa using this⟩
        show Value.isStrOf a (.str a t) = true
        simp [Value.isStrOf]
end
end Mine

namespace Mine
open PySem PyProof.Rows

section
variable {K : Kt} {A : Around} {T : Tab} {C : Cfg} {f : List (Str × NameKind) → Expr → Option X} {N : List (Str × NameKind)} {env : Env} {ρ : Loc} {σ : Sto} {s : Shared} {α : AL}

theorem not_modules (hK : K.Ok) (r : R K.hb s.heap σ α) : (s.heap.objs.size == sysModules) = false := by
  obtain ⟨o, es, ep, e, _⟩ := hK.g
  have h1 := Heap.lt_size (r.base _ _ e)
  have h2 : mainGlobals < s.heap.objs.size := h1
  have h3 : sysModules ≤ mainGlobals := by decide
  have : s.heap.objs.size ≠ sysModules := Nat.ne_of_gt (Nat.lt_of_le_of_lt h3 h2)
  simpa using this

theorem star2 {a b : Expr} (h1 : plainE a = true) (h2 : plainE b = true) : starEach [a, b] env = [(false, eval a env), (false, eval b env)] := by
  rw [plain_star h1, plain_star h2]; rfl

theorem fdgetE_sound {ks : List (Option Expr)} {vs : List Expr} {dpos apos pos : Pos} {k d : Expr} {kk : List Str} {vv : List PV} {x y : X} (c : Ctx K A T C) (S : SE K A C f) (hline : (apos.endLine == pos.line) = true)
    (hk : dictKeys ks = some kk) (hv : dictVals ks.length vs = some vv) (hnd : kk.Nodup) (hlen : kk.length ≤ 15) (hne : kk ≠ []) (h1 : f N k = some x) (h2 : f N d = some y)
    (hN : env.scope.names = N) (hn : EnvNew K.hb env) (E : EnvRel env ρ s.heap α) (r : R K.hb s.heap σ α) :
    Runs K VR A (eval (.Call (.Attribute (.Dict ks vs dpos) "get" apos) [k, d] [] pos) env) (ev C (.fdget kk vv x y) ρ σ) s α := by
  simp only [ev_k, ev_v, ev_and, ev_or, ev_not, ev_neg, ev_bin, ev_cmp, ev_cmp2, ev_ife, ev_lst, ev_tup, ev_fdget, ev_comp, ev_call, ev_b1, ev_min2, ev_isinst, ev_me, ev_sub, ev_slice]
  intro hc
  obtain ⟨hp1, H1⟩ := S N k x h1
  obtain ⟨hp2, H2⟩ := S N d y h2
  refine Call_method2 rfl (star2 hp1 hp2) hline ?_
  obtain ⟨pairs, sh, pl, vl, H⟩ := pairs_shape (K := K) (A := A) (env := env) (pos := dpos) hk hv
  refine wpAny_Dict_pairs (knd := strKind K.prog K.w) sh (fun q => hne (by cases kk with | nil => rfl | cons => rw [q] at pl; cases pl)) (by omega) (H fun us tk ul ui => ?_)
  have car := carries_of (K := K) ul.symm vl ui
  refine ⟨_, car, Heap.DictOf.new _, fun h' hd' sb => ?_⟩
  have hkeys : ((kk.zip us).map fun p => (p.1, p.2.2)).map (·.1) = kk := by
    rw [List.map_map]
    show (kk.zip us).map Prod.fst = kk
    rw [List.map_fst_zip (by omega)]
  rw [merged_nil_of_nodup _ (by rw [hkeys]; exact hnd)] at hd'
  obtain ⟨oD, es, ep, eD, dD⟩ := id hd'
  have kp : ∀ b o, s.heap.get? b = some o → h'.get? b = some o := fun b o e => (sb.2 b (Nat.ne_of_lt (Heap.lt_size e))).trans (Heap.get?_push_of_some _ e)
  have hDa : s.heap.objs.size ∉ α.all := fun q => by obtain ⟨o, e⟩ := r.liveAll q; rw [none_at] at e; cases e
  have x0 : Ext [] α s.heap α h' := .keeps kp
  have r0 := r.keeps kp
  refine ⟨"dict", "dict.get", F.plainAttrs_dict, F.slot_dict_get, F.type_dict_get, hd'.typeIs, hd'.mapOf.noDict, ?_⟩
  refine wpAny_dict_get2 (knd := strKind K.prog K.w) (not_modules c.hK r) ?_
  refine wpAny_mono ((H1 env ρ σ { s with heap := h', toks := tk + us.length } α hN hn (E.ext x0 .nil) r0).1 (by intro q; rw [q] at hc; exact hc rfl)) (fun uk s₁ hp => ?_) fun e s₁ hx => ?_
  · obtain ⟨pk, σ₁, α₁, e1, x1, r1, v1, m1⟩ := hp
    rw [e1] at hc ⊢
    simp only [Out.bind] at hc ⊢
    refine wpAny_mono ((H2 env ρ σ₁ s₁ α₁ hN hn ((E.ext x0 .nil).ext x1 .nil) r1).1 (by intro q; rw [q] at hc; exact hc rfl)) (fun ud s₂ hp => ?_) fun e s₂ hx => ?_
    · obtain ⟨pd, σ₂, α₂, e2, x2, r2, v2, m2⟩ := hp
      rw [e2] at hc ⊢
      simp only [Out.bind, fdgetv] at hc ⊢
      cases pk with
      | str kq =>
        cases v1 with
        | str _ tq hq =>
        have eD1 := x1.rest _ _ (AL.not_ix hDa) (by simp) eD
        have eD2 := x2.rest _ _ (x1.notMem (AL.not_ix hDa) eD) (by simp) eD1
        have hd2 : s₂.heap.DictOf (strKind K.prog K.w) s.heap.objs.size ((kk.zip us).map fun p => (p.1, p.2.2)) := ⟨oD, es, ep, eD2, dD⟩
        obtain ⟨g1, g2⟩ := sget_find (k := kq) ul.symm vl rfl ui
        refine ⟨kq, _, by show Value.isStrOf kq (.str kq tq) = true; simp [Value.isStrOf], hd2.mapOf, ?_⟩
        refine ⟨_, σ₂, α₂, rfl, (x0.trans x1).trans x2, r2, ?_, ⟨(m1.trans m2).gens, (m1.trans m2).os⟩⟩
        cases hq2 : sget kq (kk.zip vv) with
        | none => rw [g2 hq2]; exact v2
        | some w => obtain ⟨u, q1, q2⟩ := g1 w hq2; rw [q1]; exact q2 _ _
      | _ => exact absurd rfl hc
    · obtain ⟨i, σ₂, e2, fx⟩ := hx
      refine ⟨i, σ₂, by rw [e2], FX.lift (x0.trans x1) ⟨m1.gens, m1.os⟩ fx⟩
  · obtain ⟨i, σ₁, e1, fx⟩ := hx
    exact ⟨i, σ₁, by rw [e1]; rfl, FX.lift (s₁ := { s with heap := h', toks := tk + us.length }) x0 ⟨rfl, rfl⟩ fx⟩

/-! iterators -/
theorem isIt_ev {x : X} (h : isIt x = false) : evIt C x ρ σ = (ev C x ρ σ).bind itv := by
  cases x <;> first | (cases h; done) | (rfl)

theorem it_gen {e : Expr} {x : X} (c : Ctx K A T C) (S : SE K A C f) (h : f N e = some x) (hi : isIt x = false) (hN : env.scope.names = N) (hn : EnvNew K.hb env) (E : EnvRel env ρ s.heap α) (r : R K.hb s.heap σ α) :
    RunsIt K A (eval e env) (evIt C x ρ σ) s α := by
  rw [isIt_ev hi]
  intro hc
  refine Runs.use ((S N e x h).2 env ρ σ s α hN hn E r).1 hc fun v σ₁ α₁ y s₁ e1 hc1 x1 r1 v1 m1 => ?_
  rw [e1]
  exact wpAny_mono (iter_val c.hA r1 v1 hc1) (fun it s₂ hp => hp.lift x1 m1) fun _ _ e => e

theorem it_range {a : Expr} {p pos : Pos} {x : X} (c : Ctx K A T C) (S : SE K A C f) (h : f N a = some x) (hg : isG N "range" = true) (hbin : ("range" : Str) ∈ T.bins) (hN : env.scope.names = N) (hn : EnvNew K.hb env) (E : EnvRel env ρ s.heap α) (r : R K.hb s.heap σ α) :
    RunsIt K A (eval (.Call (.Name "range" p) [a] [] pos) env) (evIt C (.range1 x) ρ σ) s α := by
  simp only [evIt_range1]
  intro hc
  obtain ⟨hm, v, hv, hmb⟩ := c.bin _ hbin
  obtain ⟨j, hj⟩ := isG_idx hg
  have hv' : v = .type "range" := by
    have : biVal "range" = some (.type "range") := rfl
    rw [this] at hv; cases hv; rfl
  subst hv'
  obtain ⟨hp, H⟩ := S N a x h
  refine wpAny_Call_Name_kw (name_bin c.hK r E.ok (by rw [hN]; exact hj) hm hmb ?_)
  rw [plain_star hp]
  refine PySem.callWith_type1 (Runs.use (H env ρ σ s α hN hn E r).1 hc fun v σ₁ α₁ y s₁ e1 hc1 x1 r1 v1 m1 => ?_)
  rw [e1]
  exact wpAny_mono (iter_range1 c.hA r1 v1 hc1) (fun it s₂ hp => wpAny_mono hp (fun y s₃ hp => hp.lift x1 m1) fun _ _ e => e) fun _ _ e => e

theorem trIt_sound {e : Expr} {x : X} (c : Ctx K A T C) (S : SE K A C f) (h : trIt T N (f N) e = some x) (hN : env.scope.names = N) (hn : EnvNew K.hb env) (E : EnvRel env ρ s.heap α) (r : R K.hb s.heap σ α) :
    RunsIt K A (eval e env) (evIt C x ρ σ) s α ∧ plainE e = true := by
  have gen : ∀ {x}, (match f N e with | some x => if isIt x = true then none else some x | none => none) = some x → RunsIt K A (eval e env) (evIt C x ρ σ) s α ∧ plainE e = true := fun {x} h => by
    cases hq : f N e with
    | none => rw [hq] at h; cases h
    | some y =>
      rw [hq] at h
      simp only at h
      split at h
      · cases h
      · rename_i hi
        cases h
        exact ⟨it_gen c S hq (by simpa using hi) hN hn E r, (S N e _ hq).1⟩
  unfold trIt at h
  split at h
  · rename_i g p a pos
    split at h
    · rename_i hg
      simp only [Bool.and_eq_true, isB, beq_iff_eq] at hg
      obtain ⟨rfl, hg, hb⟩ := hg
      cases hq : f N a with
      | none => rw [hq] at h; cases h
      | some y =>
        rw [hq] at h; cases h
        exact ⟨it_range c S hq hg (by simpa using hb) hN hn E r, rfl⟩
    · exact gen h
  · exact gen h
end
end Mine

namespace Mine
open PySem PyProof.Rows

theorem scOk_of : ∀ {names : List (Str × NameKind)}, scOkB names = true → ScOk names
  | [], _ => ⟨fun i j x k k' h => by simp at h, fun i x k h => by simp at h, fun i x k h => by simp at h⟩
  | (y, k0) :: r, h => by
    simp only [scOkB, Bool.and_eq_true, Bool.not_eq_true', Bool.or_eq_true, beq_iff_eq] at h
    obtain ⟨⟨⟨h1, h2⟩, h3⟩, h4⟩ := h
    have ih := scOk_of h4
    have no : ∀ (i : Nat) (k : NameKind), r[i]? ≠ some (y, k) := fun i k e => by
      have hm := List.mem_of_getElem? e
      rw [List.any_eq_false] at h1
      exact h1 _ hm (by simp)
    refine ⟨fun i j x k k' e1 e2 => ?_, fun i x k e => ?_, fun i x k e => ?_⟩
    · cases i with
      | zero =>
        cases j with
        | zero => rfl
        | succ j =>
          simp at e1 e2
          obtain ⟨rfl, rfl⟩ := e1
          exact absurd e2 (no j k')
      | succ i =>
        cases j with
        | zero =>
          simp at e1 e2
          obtain ⟨rfl, rfl⟩ := e2
          exact absurd e1 (no i k)
        | succ j =>
          simp at e1 e2
          rw [ih.uniq i j x k k' e1 e2]
    · cases i with
      | zero => simp at e; obtain ⟨rfl, rfl⟩ := e; exact h2
      | succ i => simp at e; exact ih.nodbg i x k e
    · cases i with
      | zero =>
        simp at e; obtain ⟨rfl, rfl⟩ := e
        rcases h3 with (h3 | h3) | h3
        · exact .inl h3
        · exact .inr (.inl h3)
        · exact .inr (.inr h3)
      | succ i => simp at e; exact ih.kinds i x k e

section
variable {K : Kt} {A : Around} {T : Tab} {C : Cfg} {f : List (Str × NameKind) → Expr → Option X} {N : List (Str × NameKind)} {env : Env} {ρ : Loc} {σ : Sto} {s : Shared} {α : AL}

theorem compOut_ev {fz : Bool} {t : Nat} {cap : List (Option Nat)} {elt cond it : X} : ev C (.comp fz t cap elt cond it) ρ σ =
    compOut fz (fun v σ => tst C cond ((capLoc cap ρ).set t (some v)) σ) (fun v σ => ev C elt ((capLoc cap ρ).set t (some v)) σ) (evIt C it ρ σ) := by
  simp only [ev_k, ev_v, ev_and, ev_or, ev_not, ev_neg, ev_bin, ev_cmp, ev_cmp2, ev_ife, ev_lst, ev_tup, ev_fdget, ev_comp, ev_call, ev_b1, ev_min2, ev_isinst, ev_me, ev_sub, ev_slice]
  unfold compOut goOn
  congr 1

theorem compE_sound {elt iter : Expr} {x : Str} {px pos : Pos} {ifs : List Expr} {scope : Scope} {y : X} (c : Ctx K A T C) (S : SE K A C f) (h : trComp T N f elt x iter ifs scope pos = some y)
    (hN : env.scope.names = N) (hn : EnvNew K.hb env) (E : EnvRel env ρ s.heap α) (r : R K.hb s.heap σ α) :
    Runs K VR A (eval (.ListComp elt [⟨.Name x px, iter, ifs, 0⟩] scope pos) env) (ev C y ρ σ) s α ∧ ∃ fz t cap e c i, y = .comp fz t cap e c i := by
  unfold trComp at h
  dsimp only at h
  split at h
  · rename_i hk
    simp only [Bool.and_eq_true, beq_iff_eq, List.all_eq_true, bne_iff_ne] at hk
    obtain ⟨⟨hk1, hk2⟩, hk3⟩ := hk
    split at h
    · rename_i t it elt' cond ht hit helt hcond
      split at h
      · rename_i htt
        cases h
        refine ⟨?_, _, _, _, _, _, _, rfl⟩
        rw [compOut_ev]
        have co : CompOk env.scope.names scope t x := by
          refine ⟨hk1, by rw [hN]; exact scOk_of hk2, fun y hy => hk3 y hy, by rw [hN]; simpa using htt⟩
        obtain ⟨hit', hpl⟩ := trIt_sound c S hit hN hn E r
        have hnm : ∀ C', (compCenv scope C' env).scope.names = relab N scope.names := fun C' => by rw [← hN]; exact relabel_names E.ok.kind
        have hcap : compRho scope env ρ = capLoc (capOf N (relab N scope.names)) ρ := by rw [← hN]
        refine listComp_sound co E hit' (fun C' v s' σ' α' n' E' r' => ?_) (fun C' v s' σ' α' n' E' r' => ?_) hn r (plain_folded hpl)
        · rw [hcap] at E'
          cases ifs with
          | nil =>
            cases hcond
            simp only [tst_k, truthv]
            exact fun _ => wpAny_tests_nil ⟨true, σ', α', rfl, .refl, r', rfl, .refl _⟩
          | cons c1 cs =>
            cases cs with
            | nil => exact fun hc => wpAny_tests_one (((S _ c1 cond hcond).2 _ _ σ' s' α' (hnm C') n' E' r').2 hc)
            | cons _ _ => cases hcond
        · rw [hcap] at E'
          exact ((S _ elt elt' helt).2 _ _ σ' s' α' (hnm C') n' E' r').1
      · cases h
    · cases h
  · cases h

theorem gen_both {e : Expr} {y : X} (he : ∀ whole, isTrue e env whole = (do let v ← whole; standAt e.pos; holding [v] (truthy v))) (ht : tst C y ρ σ = (ev C y ρ σ).bind truthv) (H : Runs K VR A (eval e env) (ev C y ρ σ) s α) :
    Runs K VR A (eval e env) (ev C y ρ σ) s α ∧ Runs K RelEq A (isTrue e env (eval e env)) (tst C y ρ σ) s α := by
  refine ⟨H, ?_⟩
  rw [he, ht]
  exact gen_tst H

noncomputable def Both (K : Kt) (A : Around) (C : Cfg) (N : List (Str × NameKind)) (e : Expr) (x : X) : Prop :=
  ∀ env ρ σ s α, env.scope.names = N → EnvNew K.hb env → EnvRel env ρ s.heap α → R K.hb s.heap σ α →
    Runs K VR A (eval e env) (ev C x ρ σ) s α ∧ Runs K RelEq A (isTrue e env (eval e env)) (tst C x ρ σ) s α

theorem trCmp_sound {l : Expr} {os : List CmpOp} {rs : List Expr} {pos : Pos} {x : X} (c : Ctx K A T C) (S : SE K A C f) (h : trCmp (f N) l os rs = some x) : Both K A C N (.Compare l os rs pos) x := by
  intro env ρ σ s α hN hn E r
  unfold trCmp at h
  cases os with
  | nil => cases h
  | cons o os =>
    cases rs with
    | nil => cases h
    | cons r1 rs =>
      dsimp only at h
      cases h1 : trCm o with
      | none => rw [h1] at h; cases h
      | some o' =>
        cases h2 : f N l with
        | none => rw [h1, h2] at h; cases h
        | some a =>
          cases h3 : f N r1 with
          | none => rw [h1, h2, h3] at h; cases h
          | some b =>
            rw [h1, h2, h3] at h
            dsimp only at h
            cases os with
            | nil =>
              cases rs with
              | nil => cases h; exact cmpE_sound c S h1 h2 h3 hN hn E r
              | cons _ _ => cases h
            | cons o2 os =>
              cases rs with
              | nil => cases h
              | cons r2 rs =>
                dsimp only at h
                split at h
                · rename_i hcond
                  simp only [Bool.and_eq_true, List.isEmpty_iff] at hcond
                  obtain ⟨rfl, rfl⟩ := hcond
                  cases h4 : trCm o2 with
                  | none => rw [h4] at h; cases h
                  | some o2' =>
                    cases h5 : f N r2 with
                    | none => rw [h4, h5] at h; cases h
                    | some b2 => rw [h4, h5] at h; cases h; exact cmp2E_sound c S h1 h4 h2 h3 h5 hN hn E r
                · cases h

theorem trCall_sound {g : Str} {args : List Expr} {p pos : Pos} {x : X} (c : Ctx K A T C) (S : SE K A C f) (h : trCall T N (f N) pos g args = some x) : Both K A C N (.Call (.Name g p) args [] pos) x := by
  intro env ρ σ s α hN hn E r
  unfold trCall at h
  split at h
  · rename_i hg
    split at h
    · rename_i i hi
      have hi' : T.fns[i]? = some g := by
        obtain ⟨h1, h2, _⟩ := List.findIdx?_eq_some_iff_getElem.mp hi
        have : T.fns[i] = g := by simpa using h2
        simp [h1, this]
      split at h
      · cases h
      · rename_i hne
        cases hq : trL (f N) args with
        | none => rw [hq] at h; cases h
        | some xs =>
          rw [hq] at h; cases h
          refine gen_both (fun _ => rfl) rfl ?_
          rw [ev_call]
          exact callFn_sound c S hi' hg (fun q => hne q) hq hN hn E r
    · split at h
      · rename_i hb
        have hb' : g ∈ T.bins := by simpa using hb
        split at h
        · rename_i a
          split at h
          · rename_i xx hls
            unfold lenSet at hls
            split at hls
            · rename_i hh p2 y pos2
              split at hls
              · rename_i hcond
                simp only [Bool.and_eq_true, beq_iff_eq, isB] at hcond
                obtain ⟨⟨rfl, rfl⟩, hg2, hb2⟩ := hcond
                cases hls
                cases hq : f N xx with
                | none => rw [hq] at h; cases h
                | some z =>
                  rw [hq] at h; cases h
                  exact gen_both (fun _ => rfl) rfl (lensetE_sound c S hg hb' hg2 (by simpa using hb2) hq hN hn E r)
              · cases hls
            · cases hls
          · split at h
            · rename_i b1 x1 hb1 hx1
              cases h
              refine gen_both (fun _ => rfl) rfl ?_
              rw [ev_b1]
              exact b1_sound c S hb1 hg hb' hx1 hN hn E r
            · cases h
        · rename_i a t p2
          split at h
          · rename_i hcond
            simp only [Bool.and_eq_true, beq_iff_eq, isB] at hcond
            obtain ⟨rfl, hgt, hbt⟩ := hcond
            split at h
            · rename_i x1 ty hx1 hty
              cases h
              refine gen_both (fun _ => rfl) rfl ?_
              rw [ev_isinst]
              exact isinstE_sound c S hty hg hb' hgt (by simpa using hbt) hx1 hN hn E r
            · cases h
          · split at h
            · rename_i hcond
              have hcond := beq_iff_eq.mp hcond
              subst hcond
              split at h
              · rename_i x1 y1 hx1 hy1
                cases h
                exact gen_both (fun _ => rfl) rfl (min2E_sound c S hg hb' hx1 hy1 hN hn E r)
              · cases h
            · cases h
        · split at h
          · rename_i hcond
            have hcond := beq_iff_eq.mp hcond
            subst hcond
            split at h
            · rename_i x1 y1 hx1 hy1
              cases h
              exact gen_both (fun _ => rfl) rfl (min2E_sound c S hg hb' hx1 hy1 hN hn E r)
            · cases h
          · cases h
        · cases h
      · cases h
  · cases h

theorem isDict_is {e : Expr} {ks : List (Option Expr)} {vs : List Expr} {p : Pos} (h : isDict e = some (ks, vs, p)) : e = .Dict ks vs p := by
  cases e <;> first | (cases h; done) | (cases h; rfl)
theorem isName_is {e : Expr} {x : Str} {p : Pos} (h : isName e = some (x, p)) : e = .Name x p := by
  cases e <;> first | (cases h; done) | (cases h; rfl)

theorem trMeth_sound {o : Expr} {m : Str} {args : List Expr} {apos pos : Pos} {x : X} (c : Ctx K A T C) (S : SE K A C f) (hl : (apos.endLine == pos.line) = true) (h : trMeth (f N) o m args = some x) : Both K A C N (.Call (.Attribute o m apos) args [] pos) x := by
  intro env ρ σ s α hN hn E r
  unfold trMeth at h
  cases hd : isDict o with
  | some q =>
    obtain ⟨ks, vs, dp⟩ := q
    rw [hd] at h
    have := isDict_is hd
    subst this
    dsimp only at h
    unfold trGet at h
    cases args with
    | nil => cases h
    | cons k r1 =>
      cases r1 with
      | nil => cases h
      | cons d r1 =>
        dsimp only at h
        split at h
        · rename_i hcond
          simp only [Bool.and_eq_true, List.isEmpty_iff, beq_iff_eq] at hcond
          obtain ⟨rfl, rfl⟩ := hcond
          split at h
          · rename_i kk vv kx dx h1 h2 h3 h4
            split at h
            · rename_i hcond
              simp only [Bool.and_eq_true, decide_eq_true_eq, Bool.not_eq_true', List.isEmpty_eq_false_iff] at hcond
              obtain ⟨⟨q1, q2⟩, q3⟩ := hcond
              cases h
              exact gen_both (fun _ => rfl) rfl (fdgetE_sound c S hl h1 h2 q1 q2 q3 h3 h4 hN hn E r)
            · cases h
          · cases h
        · cases h
  | none =>
    rw [hd] at h
    cases args with
    | nil => cases h
    | cons a r1 =>
      dsimp only at h
      split at h
      · rename_i hcond
        simp only [Bool.and_eq_true, List.isEmpty_iff] at hcond
        obtain ⟨rfl, hnc⟩ := hcond
        split at h
        · rename_i mm ox ax h0 h1 h2
          cases h
          exact gen_both (fun _ => rfl) rfl (meE_sound S h0 hl hnc h1 h2 hN hn E r)
        · cases h
      · cases h

theorem trSubs_sound {o i : Expr} {pos : Pos} {x : X} (S : SE K A C f) (h : trSubs (f N) o i = some x) : Both K A C N (.Subscript o i pos) x := by
  intro env ρ σ s α hN hn E r
  have gen : (∀ l u st p, i ≠ .Slice l u st p) → (match f N o, f N i with | some o, some i => some (X.sub o i) | _, _ => none) = some x → Runs K VR A (eval (.Subscript o i pos) env) (ev C x ρ σ) s α ∧ Runs K RelEq A (isTrue (.Subscript o i pos) env (eval (.Subscript o i pos) env)) (tst C x ρ σ) s α := fun hns h => by
    cases h1 : f N o with
    | none => rw [h1] at h; cases h
    | some a =>
      cases h2 : f N i with
      | none => rw [h1, h2] at h; cases h
      | some b => rw [h1, h2] at h; cases h; exact gen_both (fun _ => rfl) rfl (subE_sound S hns h1 h2 hN hn E r)
  cases i with
  | Slice lo hi st p =>
    change (if st.isNone = true then _ else none) = some x at h
    split at h
    · rename_i hst
      rw [Option.isNone_iff_eq_none] at hst
      subst hst
      split at h
      · rename_i ox lx hx h1 h2 h3
        cases h
        exact gen_both (fun _ => rfl) rfl (sliceE_sound S h1 h2 h3 hN hn E r)
      · cases h
    · cases h
  | _ => exact gen (fun _ _ _ _ q => by cases q) h

theorem trCompE_is {elt : Expr} {gens : List Comprehension} {scope : Scope} {pos : Pos} {x : X} (h : trCompE T N f elt gens scope pos = some x) : ∃ z p iter ifs, gens = [⟨.Name z p, iter, ifs, 0⟩] ∧ trComp T N f elt z iter ifs scope pos = some x := by
  unfold trCompE at h
  cases gens with
  | nil => cases h
  | cons g r1 =>
    obtain ⟨tg, iter, ifs, asy⟩ := g
    dsimp only at h
    split at h
    · rename_i hcond
      simp only [Bool.and_eq_true, List.isEmpty_iff, beq_iff_eq] at hcond
      obtain ⟨rfl, rfl⟩ := hcond
      cases hx : isName tg with
      | none => rw [hx] at h; cases h
      | some q =>
        obtain ⟨z, p⟩ := q
        rw [hx] at h
        rw [isName_is hx]
        exact ⟨z, p, iter, ifs, rfl, h⟩
    · cases h
theorem trCompE_sound {elt : Expr} {gens : List Comprehension} {scope : Scope} {pos : Pos} {x : X} (c : Ctx K A T C) (S : SE K A C f) (h : trCompE T N f elt gens scope pos = some x) : Both K A C N (.ListComp elt gens scope pos) x := by
  intro env ρ σ s α hN hn E r
  obtain ⟨z, p, iter, ifs, rfl, h⟩ := trCompE_is h
  obtain ⟨H, fz, t, cap, e, cc, i, rfl⟩ := compE_sound c S h hN hn E r
  exact gen_both (fun _ => rfl) rfl H

theorem map_some {β γ : Type} {g : β → γ} {o : Option β} {y : γ} (h : o.map g = some y) : ∃ b, o = some b ∧ y = g b := by
  cases o with
  | none => cases h
  | some b => cases h; exact ⟨b, rfl, rfl⟩

theorem trStep_sound (c : Ctx K A T C) (S : SE K A C f) : SE K A C (trStep T f) := by
  intro N e x h
  cases e with
  | Constant cc _ _ =>
    obtain ⟨v, hq, rfl⟩ := map_some h
    exact ⟨rfl, fun env ρ σ s α hN hn E r => gen_both (fun _ => rfl) rfl (const_sound hq r)⟩
  | Name z p =>
    refine ⟨rfl, fun env ρ σ s α hN hn E r => ?_⟩
    obtain ⟨H, hy⟩ := trName_sound (A := A) c h hN E r
    refine gen_both (fun _ => rfl) ?_ H
    rcases hy with ⟨i, rfl⟩ | ⟨v, rfl⟩ <;> rfl
  | BoolOp o es pos =>
    cases o with
    | And => obtain ⟨v, hq, rfl⟩ := map_some h; exact ⟨rfl, fun env ρ σ s α hN hn E r => and_sound S hq hN hn E r⟩
    | Or => obtain ⟨v, hq, rfl⟩ := map_some h; exact ⟨rfl, fun env ρ σ s α hN hn E r => or_sound S hq hN hn E r⟩
  | UnaryOp o a pos =>
    cases o with
    | Not => obtain ⟨v, hq, rfl⟩ := map_some h; exact ⟨rfl, fun env ρ σ s α hN hn E r => notE_sound S hq hN hn E r⟩
    | USub => obtain ⟨v, hq, rfl⟩ := map_some h; exact ⟨rfl, fun env ρ σ s α hN hn E r => gen_both (fun _ => rfl) rfl (negE_sound S hq hN hn E r)⟩
    | _ => cases h
  | BinOp l o r' pos =>
    change (match trOp o, f N l, f N r' with | some o, some a, some b => some (X.bin o a b) | _, _, _ => none) = some x at h
    split at h
    · rename_i ho ha hb
      cases h
      exact ⟨rfl, fun env ρ σ s α hN hn E r => gen_both (fun _ => rfl) rfl (binE_sound c S ho ha hb hN hn E r)⟩
    · cases h
  | Compare l os rs pos => exact ⟨rfl, trCmp_sound c S h⟩
  | IfExp t a b pos =>
    change (match f N t, f N a, f N b with | some c, some a, some b => some (X.ife c a b) | _, _, _ => none) = some x at h
    split at h
    · rename_i h1 h2 h3
      cases h
      exact ⟨rfl, fun env ρ σ s α hN hn E r => ifeE_sound c S h1 h2 h3 hN hn E r⟩
    · cases h
  | List es pos =>
    obtain ⟨v, hq, rfl⟩ := map_some h
    exact ⟨rfl, fun env ρ σ s α hN hn E r => gen_both (fun _ => rfl) rfl (listE_sound S hq hN hn E r)⟩
  | Tuple es k pos =>
    obtain ⟨v, hq, rfl⟩ := map_some h
    exact ⟨rfl, fun env ρ σ s α hN hn E r => gen_both (fun _ => rfl) rfl (tupE_sound S hq hN hn E r)⟩
  | Call fn args kws pos =>
    refine ⟨rfl, ?_⟩
    change (if kws.isEmpty = true then trCallE T N (f N) fn args pos else none) = some x at h
    split at h
    · rename_i hk
      rw [List.isEmpty_iff] at hk
      subst hk
      cases fn with
      | Name g p => exact trCall_sound c S h
      | Attribute o m apos =>
        change (if (apos.endLine == pos.line) = true then trMeth (f N) o m args else none) = some x at h
        split at h
        · rename_i hl; exact trMeth_sound c S hl h
        · cases h
      | _ => cases h
    · cases h
  | Subscript o i pos => exact ⟨rfl, trSubs_sound S h⟩
  | ListComp elt gens scope pos => exact ⟨rfl, trCompE_sound c S h⟩
  | _ => cases h

theorem trE_sound (c : Ctx K A T C) : ∀ n, SE K A C (trE T n)
  | 0 => fun N e x h => by cases h
  | n + 1 => trStep_sound c (trE_sound c n)
end
end Mine

namespace Mine
open PySem PyProof.Rows

section
variable {K : Kt} {A : Around} {s : Shared} {α : AL} {σ : Sto}
theorem setItem_plain {l : Addr} {items : List Value} {n : Nat} {k : Int} {t : Tok} {v : Value} {Q : Unit → Shared → Prop} {E : Value → Shared → Prop} (ho : s.heap.get? l = some { cls := .type "list", data := .seq items.toArray n })
    (h0 : 0 ≤ k) (hfit : k < 2 ^ 63) (hn : k < items.length)
    (hQ : ∀ h' n', h'.get? l = some { cls := .type "list", data := .seq (items.set k.toNat v).toArray n' } → Heap.SameBut l s.heap h' → Q () { s with heap := h' }) :
    wpAny (model K.prog K.w) A (setItem (.ref l) (.int k t) v) Q E s := by
  have hl := isL ho
  unfold setItem
  try with_reducible refine wpAny_holding ?_
  first | refine wpAny_bind (wpAny_pure ?_) | skip
  refine wpAny_bind (wpAny_sequenceKey hl.typeIs (by decide) ?_)
  refine wpAny_bind (wpAny_callSpecial?_slot (name := Str.ofString "__setitem__") hl.typeIs slot_list_setitem
    (wpAny_call_entry slot_list_setitem hl.typeIs entry_list_setitem ?_ (args_list_setitem _ _ _)))
  show wpAny _ _ (Builtin.List.listSubscript? (.int k t) >>= _) _ _ s
  refine wpAny_bind (wpAny_listSubscript_int (fitsIndex_of h0 hfit) ?_)
  clear hfit
  obtain ⟨j, rfl⟩ := Int.eq_ofNat_of_zero_le h0
  have hj : j < items.length := by omega
  have hx' : items.toArray[j]? = some items[j] := by simp [hj]
  show wpAny _ _ ((seqItemAt l j >>= fun r => pure (r.map (j, ·))) >>= _) _ _ s
  refine wpAny_bind (wpAny_bind (wpAny_seqItemAt ho rfl (wpAny_pure ?_)))
  rw [hx']
  show wpAny _ _ (setSeqItemAt l j v >>= _) _ _ s
  have hfin : (s.heap.update l (Obj.mapSeq (·.setIfInBounds j v))).get? l = some { cls := .type "list", data := .seq (items.set j v).toArray n } := by
    rw [Heap.get?_update_self _ ho (by rfl)]
    simp [Obj.mapSeq]
  refine wpAny_bind (wpAny_setSeqItemAt ho rfl ?_)
  first
    | exact wpAny_bind (wpAny_pure (wpAny_pure ⟨.none, rfl, wpAny_pure (hQ _ _ hfin (Heap.SameBut.update ..))⟩))
    | exact wpAny_pure ⟨.none, rfl, wpAny_pure (hQ _ _ hfin (Heap.SameBut.update ..))⟩
end

/-- the frame's own objects -/
noncomputable def frm (env : Env) : List Addr := env.locals :: env.cells.map (·.2)
theorem frm_alive {env : Env} {ρ : Loc} {h : Heap} {α : AL} (E : EnvRel env ρ h α) (hd : ∀ p ∈ env.cells, env.cells.lookup p.1 = some p.2) : ∀ b ∈ frm env, ∃ o, h.get? b = some o := by
  intro b hb
  rcases List.mem_cons.mp hb with q | q
  · subst q
    obtain ⟨m, ⟨o, _, _, e, _⟩, _⟩ := E.ns
    exact ⟨o, e⟩
  · obtain ⟨p, hp, rfl⟩ := List.mem_map.mp q
    obtain ⟨_, _, v, o, e, _⟩ := E.ca p.1 p.2 (hd p hp)
    exact ⟨o, e⟩

/-- what a frame's names must be -/
structure FrOk (hb : Heap) (env : Env) : Prop where
  sc : ScOk env.scope.names
  new : EnvNew hb env
  cl : ∀ p ∈ env.cells, env.cells.lookup p.1 = some p.2
  inter : interactive env = false

noncomputable def FlowOk (c : OutS) (h : Heap) (α : AL) (fl : Flow) (ρ : Loc) (σ : Sto) : Prop :=
  match c with
  | .next ρ' σ' => fl = .next ∧ ρ' = ρ ∧ σ' = σ
  | .brk ρ' σ' => fl = .brk ∧ ρ' = ρ ∧ σ' = σ
  | .cont ρ' σ' => fl = .cont ∧ ρ' = ρ ∧ σ' = σ
  | .ret v ρ' σ' => (∃ u, fl = .ret u ∧ VR h α v u) ∧ ρ' = ρ ∧ σ' = σ
  | _ => False

noncomputable def PostS (K : Kt) (env : Env) (c : OutS) (s : Shared) (α : AL) (fl : Flow) (s' : Shared) : Prop :=
  ∃ ρ' σ' α', Ext (frm env) α s.heap α' s'.heap ∧ R K.hb s'.heap σ' α' ∧ EnvRel env ρ' s'.heap α' ∧ Sm s s' ∧ FlowOk c s'.heap α' fl ρ' σ'
noncomputable def PostXS (K : Kt) (A : Around) (env : Env) (c : OutS) (s : Shared) (α : AL) (e : Value) (s' : Shared) : Prop :=
  ∃ i ρ σ', c = .exc i ρ σ' ∧ FX K A s α i σ' e s'
noncomputable def RunsS (K : Kt) (env : Env) (A : Around) (t : Sem Flow) (c : OutS) (s : Shared) (α : AL) : Prop :=
  c ≠ .stuck → wpAny (model K.prog K.w) A t (PostS K env c s α) (PostXS K A env c s α) s

section
variable {K : Kt} {A : Around} {T : Tab} {C : Cfg} {N : List (Str × NameKind)} {env : Env} {ρ : Loc} {σ : Sto} {s : Shared} {α : AL}

theorem PostS.lift {c : OutS} {s₁ : Shared} {α₁ : AL} {fl : Flow} {s' : Shared} (x : Ext (frm env) α s.heap α₁ s₁.heap) (m : Sm s s₁) (p : PostS K env c s₁ α₁ fl s') : PostS K env c s α fl s' := by
  obtain ⟨ρ', σ', α', x', r, E, m', fo⟩ := p
  exact ⟨ρ', σ', α', x.trans x', r, E, m.trans m', fo⟩
theorem PostXS.lift {c : OutS} {s₁ : Shared} {α₁ : AL} {e : Value} {s' : Shared} (p : PostXS K A env c s₁ α₁ e s') : PostXS K A env c s α e s' := by
  obtain ⟨i, ρ, σ', h, fx⟩ := p
  exact fx.elim
theorem PostX.toS {β : Type} {c : Out β} {f : β → Sto → OutS} {e : Value} {s' : Shared} (p : PostX K A c s α e s') : PostXS K A env (c.toS ρ f) s α e s' := by
  obtain ⟨i, σ', h, fx⟩ := p
  exact fx.elim

theorem frExt (F : FrOk K.hb env) (E : EnvRel env ρ s.heap α) {α' : AL} {h' : Heap} (x : Ext [] α s.heap α' h') : Ext (frm env) α s.heap α' h' :=
  x.mono (by simp) (frm_alive E F.cl)

/-- an expression, then more -/
theorem Runs.useS {β γ : Type} {Rel : Heap → AL → β → γ → Prop} {t : Sem γ} {c : Out β} {f : β → Sto → OutS} {W : γ → Shared → Prop} (H : Runs K Rel A t c s α) (hc : c.toS ρ f ≠ .stuck)
    (N : ∀ b σ' α' y s', c = .ok b σ' → f b σ' ≠ .stuck → Ext [] α s.heap α' s'.heap → R K.hb s'.heap σ' α' → Rel s'.heap α' b y → Sm s s' → W y s') : wpAny (model K.prog K.w) A t W (PostXS K A env (c.toS ρ f) s α) s := by
  have h1 : c ≠ .stuck := by rintro rfl; exact hc rfl
  refine wpAny_mono (H h1) (fun y s' hp => ?_) fun e s' hx => hx.toS
  obtain ⟨b, σ', α', rfl, x, r, v, m⟩ := hp
  exact N b σ' α' y s' rfl hc x r v m

/-- storing a name -/
theorem store_any {i : Nat} {x : Str} {k : NameKind} {v : PV} {u : Value} {Q : Unit → Shared → Prop} {X : Value → Shared → Prop} (F : FrOk K.hb env) (r : R K.hb s.heap σ α) (E : EnvRel env ρ s.heap α)
    (hn : env.scope.names[i]? = some (x, k)) (hk : k = .local ∨ k = .cell) (vu : VR s.heap α v u)
    (hQ : ∀ s', R K.hb s'.heap σ α → EnvRel env (ρ.set i (some v)) s'.heap α → Ext (frm env) α s.heap α s'.heap → Sm s s' → Q () s') :
    wpAny (model K.prog K.w) A (storeName env x u) Q X s := by
  rcases hk with rfl | rfl
  · refine store_local F.sc.uniq r E F.new.l hn vu fun s' r' E' x' _ m' => hQ s' r' E' (x'.mono (by simp [frm]) (frm_alive E F.cl)) m'
  · refine store_cell F.sc.uniq r E F.new hn vu fun c s' hc r' E' x' m' => hQ s' r' E' (x'.mono ?_ (frm_alive E F.cl)) m'
    intro b hb
    simp at hb; subst hb
    exact List.mem_cons_of_mem _ (List.mem_map.mpr ⟨_, mem_of_lookup hc, rfl⟩)

theorem swaps_plain {e : Expr} {t : Option Expr} {line : Nat} (h : isComp e = false) : swapsWith e t line env = pure false := by
  cases e <;> first | rfl | cases h

theorem asg_sound {x : Str} {p pos : Pos} {e : Expr} {i : Nat} {k : NameKind} {y : X} (F : FrOk K.hb env) (hcp : isComp e = false) (hn : env.scope.names[i]? = some (x, k)) (hk : k = .local ∨ k = .cell)
    (H : Runs K VR A (eval e env) (ev C y ρ σ) s α) (E : EnvRel env ρ s.heap α) {n : Nat} :
    RunsS K env A (exec (.Assign [.Name x p] e pos) env) (ex C n (.asg i y) ρ σ) s α := by
  simp only [ex]
  intro hc
  refine wpAny_Assign_Name (Runs.useS H hc fun v σ₁ α₁ u s₁ e1 hc1 x1 r1 v1 m1 => ?_) (swaps_plain hcp)
  refine store_any F r1 (E.ext x1 .nil) hn hk v1 fun s₂ r2 E2 x2 m2 => ?_
  rw [e1]
  exact ⟨_, _, _, (frExt F E x1).trans x2, r2, E2, m1.trans m2, rfl, rfl, rfl⟩

theorem expr_sound {e : Expr} {pos : Pos} {y : X} (F : FrOk K.hb env) (hcp : isComp e = false)
    (H : Runs K VR A (eval e env) (ev C y ρ σ) s α) (E : EnvRel env ρ s.heap α) {n : Nat} :
    RunsS K env A (exec (.Expr e pos) env) (ex C n (.expr y) ρ σ) s α := by
  simp only [ex]
  intro hc
  refine wpAny_Expr (Runs.useS H hc fun v σ₁ α₁ u s₁ e1 hc1 x1 r1 v1 m1 => ?_) F.inter (swaps_plain hcp)
  cases v with
  | none =>
    cases v1
    show PostS K env _ s α .next s₁
    rw [e1]
    exact ⟨ρ, σ₁, α₁, frExt F E x1, r1, E.ext x1 .nil, m1, rfl, rfl, rfl⟩
  | _ => exact absurd rfl hc1

theorem ret_sound {e : Expr} {pos : Pos} {y : X} (F : FrOk K.hb env)
    (H : Runs K VR A (eval e env) (ev C y ρ σ) s α) (E : EnvRel env ρ s.heap α) {n : Nat} :
    RunsS K env A (exec (.Return (some e) pos) env) (ex C n (.ret y) ρ σ) s α := by
  simp only [ex]
  intro hc
  refine wpAny_Return_some (Runs.useS H hc fun v σ₁ α₁ u s₁ e1 hc1 x1 r1 v1 m1 => ?_)
  rw [e1]
  exact ⟨ρ, σ₁, α₁, frExt F E x1, r1, E.ext x1 .nil, m1, ⟨u, rfl, v1⟩, rfl, rfl⟩

theorem asgSub_sound {o i v : Expr} {p pos : Pos} {x y z : X} (F : FrOk K.hb env) (hcp : isComp v = false) {n : Nat}
    (H1 : ∀ {σ s α}, EnvRel env ρ s.heap α → R K.hb s.heap σ α → Runs K VR A (eval v env) (ev C z ρ σ) s α)
    (H2 : ∀ {σ s α}, EnvRel env ρ s.heap α → R K.hb s.heap σ α → Runs K VR A (eval o env) (ev C x ρ σ) s α)
    (H3 : ∀ {σ s α}, EnvRel env ρ s.heap α → R K.hb s.heap σ α → Runs K VR A (eval i env) (ev C y ρ σ) s α) (E : EnvRel env ρ s.heap α) (r : R K.hb s.heap σ α) :
    RunsS K env A (exec (.Assign [.Subscript o i p] v pos) env) (ex C n (.asgSub x y z) ρ σ) s α := by
  simp only [ex]
  intro hc
  refine wpAny_Assign_Subscript (Runs.useS (H1 E r) hc fun vv σ₁ α₁ u s₁ e1 hc1 x1 r1 v1 m1 => ?_) (swaps_plain hcp)
  rw [e1] at hc ⊢
  have E1 := E.ext x1 .nil
  refine wpAny_mono (Runs.useS (env := env) (s := s₁) (α := α₁) (H2 E1 r1) hc1 fun vo σ₂ α₂ uo s₂ e2 hc2 x2 r2 v2 m2 => ?_) (fun _ _ q => q) (fun _ _ q => PostXS.lift q)
  have E2 := E1.ext x2 .nil
  simp only [Out.toS, e2]
  refine wpAny_mono (Runs.useS (env := env) (s := s₂) (α := α₂) (H3 E2 r2) hc2 fun vi σ₃ α₃ ui s₃ e3 hc3 x3 r3 v3 m3 => ?_) (fun _ _ q => q) (fun _ _ q => PostXS.lift q)
  have E3 := E2.ext x3 .nil
  show wpAny (model K.prog K.w) A (setItem uo ui u) _ _ s₃
  have xx := (x1.trans x2).trans x3
  have mm := (m1.trans m2).trans m3
  simp only [Out.toS, e2, e3] at hc ⊢
  unfold storeSub at hc3 ⊢
  cases vo with
  | ref q =>
    cases v2 with
    | @ref _ l el =>
    have el3 := x3.get el
    cases hs : σ₃[q]? with
    | none => simp only [hs] at hc3; exact absurd rfl hc3
    | some mo =>
      cases mo with
      | lst xs =>
        obtain ⟨items, nn, q1, w⟩ := r3.obj q _ l hs el3
        cases vi with
        | int k =>
          simp only [hs] at hc3 ⊢
          split at hc3
          · rename_i hb
            rw [if_pos hb]
            cases v3 with
            | int _ t =>
            have hlen := w.1
            have hb2 : (items.length : Int) ≤ 1000000 := by have := hb.2.2; unfold lim at this; omega
            refine setItem_plain q1 hb.1 (by omega) (by omega) fun h' n' e' sb => ?_
            obtain ⟨r', x'⟩ := r3.set (m := .lst (xs.set k.toNat vv)) el3 (fun b o hb e => (sb.2 b hb).trans e) e' fun x' => ⟨items.set k.toNat u, n', e', by
              refine ⟨by simp [hlen], fun j pv uv e1 e2 => ?_⟩
              rw [List.getElem?_set] at e1 e2
              split at e1
              · rename_i hj
                rw [if_pos hj] at e2
                split at e1
                · rw [if_pos (by omega)] at e2
                  cases e1; cases e2
                  exact (((v1.ext x2).ext x3).ext x')
                · cases e1
              · rename_i hj
                rw [if_neg hj] at e2
                exact (w.2 j pv uv e1 e2).ext x'⟩
            exact ⟨ρ, _, α₃, frExt F E (xx.trans x'), r', E3.ext x' .nil, mm.trans ⟨rfl, rfl⟩, rfl, rfl, rfl⟩
          · exact absurd rfl hc3
        | _ => simp only [hs] at hc3; exact absurd rfl hc3
      | _ => exact (r3.obj q _ l hs el3).elim
  | _ => exact absurd rfl hc3
end
end Mine

namespace Mine
open PySem PyProof.Rows

theorem forGo_cons {w : Option (Nat × List PV)} {b : PV → Loc → Option Loc} {f : Loc → Sto → OutS} {x : PV} {xs : List PV} {ρ : Loc} {σ : Sto} (h : forGo w b f (x :: xs) ρ σ ≠ .stuck) :
    watchOk w σ ∧ ∃ ρ1, b x ρ = some ρ1 ∧ f ρ1 σ ≠ .stuck ∧ (∀ i ρ' σ', f ρ1 σ ≠ .exc i ρ' σ') ∧ (∀ ρ' σ', f ρ1 σ = .next ρ' σ' → forGo w b f (x :: xs) ρ σ = forGo w b f xs ρ' σ') ∧
      (∀ ρ' σ', f ρ1 σ = .cont ρ' σ' → forGo w b f (x :: xs) ρ σ = forGo w b f xs ρ' σ') ∧ (∀ ρ' σ', f ρ1 σ = .brk ρ' σ' → forGo w b f (x :: xs) ρ σ = .next ρ' σ') ∧
      (∀ v ρ' σ', f ρ1 σ = .ret v ρ' σ' → forGo w b f (x :: xs) ρ σ = .ret v ρ' σ') := by
  by_cases hw : watchOk w σ
  · refine ⟨hw, ?_⟩
    cases hb : b x ρ with
    | none => exact absurd (by simp [forGo, hw, hb]) h
    | some ρ1 =>
      refine ⟨ρ1, rfl, fun e => ?_, fun i ρ' σ' e => ?_, fun ρ' σ' e => ?_, fun ρ' σ' e => ?_, fun ρ' σ' e => ?_, fun v ρ' σ' e => ?_⟩
      · exact h (by simp [forGo, hw, hb, e])
      · exact h (by simp [forGo, hw, hb, e])
      · simp [forGo, hw, hb, e]
      · simp [forGo, hw, hb, e]
      · simp [forGo, hw, hb, e]
      · simp [forGo, hw, hb, e]
  · exact absurd (by simp [forGo, hw]) h

section
variable {K : Kt} {A : Around} {T : Tab} {C : Cfg} {N : List (Str × NameKind)} {env : Env} {ρ : Loc} {σ : Sto} {s : Shared} {α : AL}

theorem frm_apart {own : List Addr} {h : Heap} (E : EnvRel env ρ h α) (F : FrOk K.hb env) (ho : ∀ b ∈ own, h.get? b = none) : Apart env own ∧ ∀ b ∈ own, b ∉ frm env := by
  have al := frm_alive E F.cl
  refine ⟨⟨fun q => ?_, fun x c hc q => ?_⟩, fun b hb q => ?_⟩
  · obtain ⟨o, e⟩ := al env.locals List.mem_cons_self
    rw [ho _ q] at e; cases e
  · obtain ⟨_, _, v, o, e, _⟩ := E.ca x c hc
    rw [ho _ q] at e; cases e
  · obtain ⟨o, e⟩ := al b q
    rw [ho _ hb] at e; cases e

theorem EnvRel.cells_apart {h h' : Heap} {α' : AL} {own : List Addr} (E : EnvRel env ρ h α) (x : Ext own α h α' h') (ap : Apart env own) : EnvRel env ρ h' α' := E.ext x ap

/-- the way a loop's target takes an item -/
noncomputable def TgtOk (K : Kt) (A : Around) (env : Env) (target : Expr) (bind : PV → Loc → Option Loc) : Prop :=
  (∀ it v, letOwnedTupleGo target it v = pure ()) ∧ ∀ (s : Shared) (σ : Sto) (α : AL) (ρ ρ' : Loc) (p : PV) (u : Value), bind p ρ = some ρ' → EnvRel env ρ s.heap α → R K.hb s.heap σ α → VR s.heap α p u →
    ∀ (Q : Unit → Shared → Prop) (X : Value → Shared → Prop), (∀ s', R K.hb s'.heap σ α → EnvRel env ρ' s'.heap α → Ext (frm env) α s.heap α s'.heap → Sm s s' → Q () s') → wpAny (model K.prog K.w) A (assign target env u) Q X s

theorem tgt_name {i : Nat} {x : Str} {k : NameKind} {p : Pos} (F : FrOk K.hb env) (hn : env.scope.names[i]? = some (x, k)) (hk : k = .local ∨ k = .cell) : TgtOk K A env (.Name x p) (bind1 i) :=
  ⟨fun _ _ => rfl, fun s σ α ρ ρ' pv u hb E r v Q X hQ => by
    cases hb
    exact wpAny_assign_Name (store_any F r E hn hk v hQ)⟩

theorem for_sound {target it : Expr} {body : List Stmt} {pos : Pos} {bind : PV → Loc → Option Loc} {ix : X} {b : S} {n : Nat} {c : OutS} (F : FrOk K.hb env) (tg : TgtOk K A env target bind) (hpl : plainE it = true)
    (hit : RunsIt K A (eval it env) (evIt C ix ρ σ) s α) (hb : ∀ {ρ σ s α}, EnvRel env ρ s.heap α → R K.hb s.heap σ α → RunsS K env A (execs body env) (ex C n b ρ σ) s α) (E : EnvRel env ρ s.heap α)
    (hcc : c = (evIt C ix ρ σ).toS ρ fun p σ => forGo p.2 bind (fun ρ σ => ex C n b ρ σ) p.1 ρ σ) :
    RunsS K env A (exec (.For target it body [] pos) env) c s α := by
  subst hcc
  intro hc
  have hci : evIt C ix ρ σ ≠ .stuck := by intro q; rw [q] at hc; exact hc rfl
  refine wpAny_For (wpAny_mono (hit hci) (fun xv s₁ h₁ => wpAny_mono h₁ (fun itv s₂ h₂ => ?_) fun _ _ q => q.toS) fun _ _ q => q.toS) (plain_folded hpl)
  obtain ⟨xs, w, σ₂, α₂, own, St, hci2, x₂, r₂, m₂, I, st, ho⟩ := h₂
  obtain ⟨ap, apF⟩ := frm_apart E F fun b hb => (ho b hb).1
  rw [hci2] at hc ⊢
  generalize hcq : (Out.ok (xs, w) σ₂).toS ρ (fun p σ => forGo p.2 bind (fun ρ σ => ex C n b ρ σ) p.1 ρ σ) = c at hc ⊢
  have hgo : forGo w bind (fun ρ σ => ex C n b ρ σ) xs ρ σ₂ = c := hcq
  have E₂ := E.ext x₂ .nil
  have al2 : ∀ b ∈ own ++ frm env, ∃ o, s₂.heap.get? b = some o := fun b hb => by
    rcases List.mem_append.mp hb with q | q
    · exact I.live _ _ _ st b q
    · exact frm_alive E₂ F.cl b q
  refine codeAny_forLoop_any (fun k s₁ => ∃ i σ₁ α₁ ρ₁, k = xs.length - i ∧ i ≤ xs.length ∧ Ext (own ++ frm env) α₂ s₂.heap α₁ s₁.heap ∧ R K.hb s₁.heap σ₁ α₁ ∧ St i s₁.heap α₁ ∧ EnvRel env ρ₁ s₁.heap α₁ ∧ Sm s s₁ ∧
      forGo w bind (fun ρ σ => ex C n b ρ σ) (xs.drop i) ρ₁ σ₁ = c) (fun k s₁ inv => ?_) _ ⟨0, σ₂, α₂, ρ, rfl, Nat.zero_le _, .refl, r₂, st, E₂, m₂, by simpa using hgo⟩
  obtain ⟨i, σ₁, α₁, ρ₁, rfl, hi, x₁, r₁, st₁, E₁, m₁, hgo₁⟩ := inv
  have al1 : ∀ b ∈ own ++ frm env, ∃ o, s₁.heap.get? b = some o := fun b hb => by
    rcases List.mem_append.mp hb with q | q
    · exact I.live _ _ _ st₁ b q
    · exact frm_alive E₁ F.cl b q
  by_cases hlt : i < xs.length
  · have hdrop : xs.drop i = xs[i] :: xs.drop (i + 1) := List.drop_eq_getElem_cons hlt
    rw [hdrop] at hgo₁
    obtain ⟨hw, ρ1, hbi, hf1, hf2, hf3, hf4, hf5, hf6⟩ := forGo_cons (by rw [hgo₁]; exact hc)
    rw [hgo₁] at hf3 hf4 hf5 hf6
    refine I.item i s₁ σ₁ α₁ xs[i] (by simp [hlt]) st₁ r₁ hw _ _ fun v s₃ vr st₃ xo r₃ m₃ => ?_
    refine wpAny_of_eq (tg.1 itv v) ?_
    have E₃ := E₁.ext xo ap
    refine tg.2 s₃ σ₁ α₁ ρ₁ ρ1 xs[i] v hbi E₃ r₃ vr _ _ fun s₄ r₄ E₄ x4 m₄ => ?_
    have st₄ := I.frame _ _ _ _ _ _ st₃ x4 apF
    have al3 : ∀ b ∈ own ++ frm env, ∃ o, s₃.heap.get? b = some o := fun b hb => by
      rcases List.mem_append.mp hb with q | q
      · exact I.live _ _ _ st₃ b q
      · exact frm_alive E₃ F.cl b q
    have al4 : ∀ b ∈ own ++ frm env, ∃ o, s₄.heap.get? b = some o := fun b hb => by
      rcases List.mem_append.mp hb with q | q
      · exact I.live _ _ _ st₄ b q
      · exact frm_alive E₄ F.cl b q
    have x₄ : Ext (own ++ frm env) α₂ s₂.heap α₁ s₄.heap := (x₁.trans (xo.mono (fun b hb => List.mem_append_left _ hb) al1)).trans (x4.mono (fun b hb => List.mem_append_right _ hb) al3)
    refine wpAny_mono (hb E₄ r₄ hf1) (fun fl s₅ hp => ?_) fun e s₅ hx => ?_
    · obtain ⟨ρ₅, σ₅, α₅, x5, r₅, E₅, m₅, fo⟩ := hp
      have st₅ := I.frame _ _ _ _ _ _ st₄ x5 apF
      have x₅ := x₄.trans (x5.mono (fun b hb => List.mem_append_right _ hb) al4)
      have mm := ((m₁.trans m₃).trans m₄).trans m₅
      have out : Ext (frm env) α s.heap α₅ s₅.heap := Ext.drop x₂ (fun b hb => (ho b hb).1) (frm_alive E F.cl) x₅
      cases hq : ex C n b ρ1 σ₁ with
      | next ρ' σ' =>
        rw [hq] at fo
        obtain ⟨rfl, rfl, rfl⟩ := fo
        exact ⟨xs.length - (i + 1), by omega, i + 1, _, _, _, rfl, hlt, x₅, r₅, st₅, E₅, mm, (hf3 _ _ hq).symm⟩
      | cont ρ' σ' =>
        rw [hq] at fo
        obtain ⟨rfl, rfl, rfl⟩ := fo
        exact ⟨xs.length - (i + 1), by omega, i + 1, _, _, _, rfl, hlt, x₅, r₅, st₅, E₅, mm, (hf4 _ _ hq).symm⟩
      | brk ρ' σ' =>
        rw [hq] at fo
        obtain ⟨rfl, rfl, rfl⟩ := fo
        show PostS K env c s α .next s₅
        rw [hf5 _ _ hq]
        exact ⟨_, _, _, out, r₅, E₅, mm, rfl, rfl, rfl⟩
      | ret v ρ' σ' =>
        rw [hq] at fo
        obtain ⟨⟨u, rfl, vu⟩, rfl, rfl⟩ := fo
        show PostS K env c s α (.ret u) s₅
        rw [hf6 _ _ _ hq]
        exact ⟨_, _, _, out, r₅, E₅, mm, ⟨u, rfl, vu⟩, rfl, rfl⟩
      | exc i ρ' σ' => exact absurd hq (hf2 _ _ _)
      | stuck => exact absurd hq hf1
    · obtain ⟨j, ρ', σ', e5, _⟩ := hx
      exact absurd e5 (hf2 _ _ _)
  · have hie : i = xs.length := by omega
    subst hie
    rw [List.drop_length] at hgo₁
    have hw : watchOk w σ₁ := by
      by_cases hw : watchOk w σ₁
      · exact hw
      · exact absurd (by rw [← hgo₁]; simp [forGo, hw]) hc
    have hgo' : OutS.next ρ₁ σ₁ = c := by rw [← hgo₁]; simp [forGo, hw]
    refine I.done s₁ σ₁ α₁ st₁ r₁ hw _ _ fun s₃ xo r₃ m₃ => wpAny_execs_nil ?_
    show PostS K env c s α .next s₃
    rw [← hgo']
    exact ⟨_, _, _, Ext.drop x₂ (fun b hb => (ho b hb).1) (frm_alive E F.cl) (x₁.trans (xo.mono (fun b hb => List.mem_append_left _ hb) al1)), r₃, E₁.ext xo ap, m₁.trans m₃, rfl, rfl, rfl⟩
end
end Mine

namespace Mine
open PySem PyProof.Rows

section
variable {K : Kt} {A : Around} {T : Tab} {C : Cfg} {f : List (Str × NameKind) → Expr → Option X} {N : List (Str × NameKind)} {env : Env} {ρ : Loc} {σ : Sto} {s : Shared} {α : AL}

/-- `y = [.. for x in ..]`, where the interpreter stores before it lets the loop's names go -/
theorem asgComp_sound {elt iter : Expr} {x z : Str} {px pz pos spos : Pos} {ifs : List Expr} {scope : Scope} {y : X} {i n : Nat} {k : NameKind} (c : Ctx K A T C) (S : SE K A C f) (F : FrOk K.hb env) (h : trComp T N f elt x iter ifs scope pos = some y)
    (hn : env.scope.names[i]? = some (z, k)) (hk : k = .local ∨ k = .cell)
    (hN : env.scope.names = N) (E : EnvRel env ρ s.heap α) (r : R K.hb s.heap σ α) (hsw : swapsWith (.ListComp elt [⟨.Name x px, iter, ifs, 0⟩] scope pos) (some (.Name z pz)) spos.line env = pure true) :
    RunsS K env A (exec (.Assign [.Name z pz] (.ListComp elt [⟨.Name x px, iter, ifs, 0⟩] scope pos) spos) env) (ex C n (.asg i y) ρ σ) s α := by
  simp only [ex]
  intro hc
  unfold trComp at h
  dsimp only at h
  split at h
  · rename_i hkk
    simp only [Bool.and_eq_true, beq_iff_eq, List.all_eq_true, bne_iff_ne] at hkk
    obtain ⟨⟨hk1, hk2⟩, hk3⟩ := hkk
    split at h
    · rename_i t it elt' cond ht hit helt hcond
      split at h
      · rename_i htt
        cases h
        rw [compOut_ev] at hc ⊢
        have co : CompOk env.scope.names scope t x := by
          refine ⟨hk1, by rw [hN]; exact scOk_of hk2, fun y hy => hk3 y hy, by rw [hN]; simpa using htt⟩
        obtain ⟨hit', hpl⟩ := trIt_sound c S hit hN F.new E r
        have hnm : ∀ C', (compCenv scope C' env).scope.names = relab N scope.names := fun C' => by rw [← hN]; exact relabel_names E.ok.kind
        have hcap : compRho scope env ρ = capLoc (capOf N (relab N scope.names)) ρ := by rw [← hN]
        rw [exec_Assign_Name_used _ _ _ _ hsw]
        refine wpAny_bind (wpAny_standAt (wpAny_bind ?_))
        show wpAny _ A (do let _ ← comprehension (.ListComp elt [⟨.Name x px, iter, ifs, 0⟩] scope pos) scope env _ (newList []) false (eval iter env) (some (assign (.Name z pz) env))) _ _ s
        generalize hcq : compOut (!T.muts.contains (pos.line, pos.col)) (fun v σ => tst C cond ((capLoc (capOf N (relab N scope.names)) ρ).set t (some v)) σ) (fun v σ => ev C elt' ((capLoc (capOf N (relab N scope.names)) ρ).set t (some v)) σ) (evIt C it ρ σ) = cc at hc ⊢
        have hcc : cc ≠ .stuck := by intro q; rw [q] at hc; exact hc rfl
        refine wpAny_bind (wpAny_mono (wpAny_comprehension_free (use := some (assign (.Name z pz) env)) (Q := fun _ s' => PostS K env (cc.toS ρ fun v σ => .next (ρ.set i (some v)) σ) s α .next s')
          rfl (plain_folded hpl) (closureFor_eq (comp_clos co E)) co.kind co.names
          (comp_block (fz := !T.muts.contains (pos.line, pos.col)) (t := t) (ρ := ρ) (tC := fun v σ => tst C cond ((capLoc (capOf N (relab N scope.names)) ρ).set t (some v)) σ) (eC := fun v σ => ev C elt' ((capLoc (capOf N (relab N scope.names)) ρ).set t (some v)) σ) (RR := fun acc C' => compPost (model K.prog K.w) A _ (some (assign (.Name z pz) env)) _ acc C')
            co E hit' (by rw [hcq]; exact hcc) (fun C' v s' σ' α' n' E' r' => ?_) (fun C' v s' σ' α' n' E' r' => ?_) F.new ⟨_, r⟩ (fun e s' hx => ?_) ?_)) (fun _ s' hq => wpAny_pure (wpAny_pure hq)) fun _ _ e => e)
        · rw [hcap] at E'
          cases ifs with
          | nil =>
            cases hcond
            simp only [tst_k, truthv]
            exact fun _ => wpAny_tests_nil ⟨true, σ', α', rfl, .refl, r', rfl, .refl _⟩
          | cons c1 cs =>
            cases cs with
            | nil => exact fun hc => wpAny_tests_one (((S _ c1 cond hcond).2 _ _ σ' s' α' (hnm C') n' E' r').2 hc)
            | cons _ _ => cases hcond
        · rw [hcap] at E'
          exact ((S _ elt elt' helt).2 _ _ σ' s' α' (hnm C') n' E' r').1
        · obtain ⟨i', σ', e1, fx⟩ := hx
          exact fx.elim
        · rw [hcq]
          rintro acc C' rr s' ⟨rfl, v, σ', α', m, e, x', r', vr, sm, ns, ha, hC, hbC⟩
          subst e
          have E' := E.ext x' .nil
          show wpAny _ A (assign (.Name z pz) env acc) _ _ _
          refine wpAny_assign_Name (store_any F r' E' hn hk vr fun s₂ r₂ E₂ x₂ m₂ => ?_)
          have hCf : C' ∉ frm env := fun q => by
            obtain ⟨o, eo⟩ := frm_alive E F.cl C' q
            rw [hC] at eo; cases eo
          have ns₂ : s₂.heap.Ns C' m := ns_ext x₂ (AL.not_ix ha) hCf ns
          refine ⟨m, ns₂, fun h' hs' => ?_⟩
          obtain ⟨r'', x''⟩ := r₂.but ha hbC (fun b o hb e => (hs'.2 b hb).trans e) fun o e => by
            obtain ⟨o', es, ep, e', d, _⟩ := id ns₂
            rw [e] at e'; cases e'
            rintro ⟨xs, n, q⟩; rw [d] at q; cases q
          have ap : Apart env [C'] := ⟨fun q => by simp at q; exact hCf (q ▸ List.mem_cons_self), fun y c' hc' q => by
            simp at q; subst q
            exact hCf (List.mem_cons_of_mem _ (List.mem_map.mpr ⟨_, mem_of_lookup hc', rfl⟩))⟩
          exact ⟨_, _, _, ((frExt F E x').trans x₂).sameBut hC (fun b hb => hs'.2 b hb), r'', E₂.ext x'' ap, (sm.trans m₂).trans ⟨rfl, rfl⟩, rfl, rfl, rfl⟩
      · cases h
    · cases h
  · cases h
end

/-! the translation of statements -/
theorem asComp_is {e elt : Expr} {gens : List Comprehension} {scope : Scope} {pos : Pos} (h : asComp e = some (elt, gens, scope, pos)) : e = .ListComp elt gens scope pos := by
  cases e <;> first | (cases h; done) | (cases h; rfl)
theorem slotOf_is {N : List (Str × NameKind)} {x : Str} {i : Nat} (h : slotOf N x = some i) : ∃ k, N[i]? = some (x, k) ∧ (k = NameKind.local ∨ k = .cell) := by
  unfold slotOf at h
  split at h
  · rename_i j hj
    have hx : ∀ q, N[j]? = some q → q.1 = x := fun q hq => by
      obtain ⟨h1, h2, _⟩ := List.findIdx?_eq_some_iff_getElem.mp hj
      have : N[j] = q := by simpa [h1] using hq
      subst this; simpa using h2
    split at h
    · rename_i z hz
      have := hx _ hz; dsimp at this; subst this
      cases h; exact ⟨_, hz, .inl rfl⟩
    · rename_i z hz
      have := hx _ hz; dsimp at this; subst this
      cases h; exact ⟨_, hz, .inr rfl⟩
    · cases h
  · cases h

section
variable {K : Kt} {A : Around} {T : Tab} {C : Cfg} {N : List (Str × NameKind)} {env : Env} {n : Nat}

noncomputable def SS (K : Kt) (A : Around) (C : Cfg) (n : Nat) (env : Env) (g : Stmt → Option S) : Prop :=
  ∀ st b, g st = some b → ∀ {ρ σ s α}, EnvRel env ρ s.heap α → R K.hb s.heap σ α → RunsS K env A (exec st env) (ex C n b ρ σ) s α

theorem trSs_sound {g : Stmt → Option S} (H : SS K A C n env g) : ∀ {sts : List Stmt} {b : S}, trSs g sts = some b → ∀ {ρ σ s α}, EnvRel env ρ s.heap α → R K.hb s.heap σ α → RunsS K env A (execs sts env) (ex C n b ρ σ) s α
  | [], b, h, ρ, σ, s, α, E, r => by
    cases h
    simp only [ex]
    exact fun _ => wpAny_execs_nil ⟨ρ, σ, α, .refl, r, E, .refl s, rfl, rfl, rfl⟩
  | st :: sts, b, h, ρ, σ, s, α, E, r => by
    simp only [trSs] at h
    split at h
    · rename_i a b' ha hb
      cases h
      simp only [ex]
      intro hc
      refine wpAny_execs_cons ?_
      have h1 : ex C n a ρ σ ≠ .stuck := by intro q; rw [q] at hc; exact hc rfl
      refine wpAny_mono (H st a ha E r h1) (fun fl s₁ hp => ?_) fun e s₁ hx => ?_
      · obtain ⟨ρ₁, σ₁, α₁, x1, r1, E1, m1, fo⟩ := hp
        cases hq : ex C n a ρ σ with
        | next ρ' σ' =>
          rw [hq] at fo hc
          obtain ⟨rfl, rfl, rfl⟩ := fo
          exact wpAny_mono (trSs_sound H hb E1 r1 hc) (fun _ _ q => q.lift x1 m1) fun _ _ q => q.lift
        | cont ρ' σ' => rw [hq] at fo; have fo' := fo; obtain ⟨rfl, _⟩ := fo'; exact ⟨ρ₁, σ₁, α₁, x1, r1, E1, m1, fo⟩
        | brk ρ' σ' => rw [hq] at fo; have fo' := fo; obtain ⟨rfl, _⟩ := fo'; exact ⟨ρ₁, σ₁, α₁, x1, r1, E1, m1, fo⟩
        | ret v ρ' σ' => rw [hq] at fo; have fo' := fo; obtain ⟨⟨u, rfl, _⟩, _⟩ := fo'; exact ⟨ρ₁, σ₁, α₁, x1, r1, E1, m1, fo⟩
        | exc i ρ' σ' => rw [hq] at fo; exact fo.elim
        | stuck => exact absurd hq h1
      · obtain ⟨i, ρ', σ', e1, fx⟩ := hx
        exact fx.elim
    · cases h

theorem trSStep_sound {f : List (Str × NameKind) → Expr → Option X} {g : Stmt → Option S} (c : Ctx K A T C) (Sf : SE K A C f) (F : FrOk K.hb env) (hN : env.scope.names = N) (H : SS K A C n env g) : SS K A C n env (trSStep T N f (f N) g) := by
  intro st b h ρ σ s α E r
  have fE : ∀ {e x}, f N e = some x → ∀ {ρ σ s α}, EnvRel env ρ s.heap α → R K.hb s.heap σ α → Runs K VR A (eval e env) (ev C x ρ σ) s α := fun {e x} hx {ρ σ s α} E r => ((Sf N _ _ hx).2 env ρ σ s α hN F.new E r).1
  have fT : ∀ {e x}, f N e = some x → ∀ {ρ σ s α}, EnvRel env ρ s.heap α → R K.hb s.heap σ α → Runs K RelEq A (isTrue e env (eval e env)) (tst C x ρ σ) s α := fun {e x} hx {ρ σ s α} E r => ((Sf N _ _ hx).2 env ρ σ s α hN F.new E r).2
  cases st with
  | Assign ts v spos =>
    cases ts with
    | nil => cases h
    | cons t rs =>
      change (if rs.isEmpty = true then trAsg T N f (f N) t v else none) = some b at h
      split at h
      · rename_i hrs
        rw [List.isEmpty_iff] at hrs
        subst hrs
        cases t with
        | Name z pz =>
          change (match asComp v with
            | some (elt, gens, scope, pos) => (match slotOf N z, trCompE T N f elt gens scope pos with
              | some i, some y => some (S.asg i y)
              | _, _ => none)
            | none => if isComp v = true then none else (match slotOf N z, f N v with
              | some i, some y => some (S.asg i y)
              | _, _ => none)) = some b at h
          cases hac : asComp v with
          | some q =>
            obtain ⟨elt, gens, scope, pos⟩ := q
            rw [hac] at h
            have := asComp_is hac
            subst this
            cases hi : slotOf N z with
            | none => dsimp only at h; rw [hi] at h; cases h
            | some i =>
              cases hy : trCompE T N f elt gens scope pos with
              | none => dsimp only at h; rw [hi, hy] at h; cases h
              | some y =>
                dsimp only at h
                rw [hi, hy] at h
                cases h
                obtain ⟨x, px, iter, ifs, rfl, hy⟩ := trCompE_is hy
                obtain ⟨k, hk1, hk2⟩ := slotOf_is hi
                rw [← hN] at hk1
                have hsw : swapsWith (.ListComp elt [⟨.Name x px, iter, ifs, 0⟩] scope pos) (some (.Name z pz)) spos.line env = pure (env.blockKind == .function && env.kindOf z == some .local && pz.line == pos.line && !(scope.names.any fun (n, k) => n == z && (k == .local || k == .cell))) := rfl
                cases hq : (env.blockKind == .function && env.kindOf z == some .local && pz.line == pos.line && !(scope.names.any fun (n, k) => n == z && (k == .local || k == .cell))) with
                | true => exact asgComp_sound c Sf F hy hk1 hk2 hN E r (by rw [hsw, hq])
                | false =>
                  intro hc
                  refine wpAny_Assign_Name (Runs.useS (compE_sound c Sf hy hN F.new E r).1 hc fun v σ₁ α₁ u s₁ e1 hc1 x1 r1 v1 m1 => ?_) (by rw [hsw, hq])
                  refine store_any F r1 (E.ext x1 .nil) hk1 hk2 v1 fun s₂ r2 E2 x2 m2 => ?_
                  show PostS K env (Out.toS _ _ _) _ _ _ _
                  rw [e1]
                  exact ⟨_, _, _, (frExt F E x1).trans x2, r2, E2, m1.trans m2, rfl, rfl, rfl⟩
          | none =>
            rw [hac] at h
            dsimp only at h
            split at h
            · cases h
            · rename_i hcp
              split at h
              · rename_i i y hi hy
                cases h
                obtain ⟨k, hk1, hk2⟩ := slotOf_is hi
                rw [← hN] at hk1
                exact asg_sound F (by simpa using hcp) hk1 hk2 (fE hy E r) E
              · cases h
        | Subscript o i pp =>
          change (if isComp v = true then none else (match f N o, f N i, f N v with
            | some o, some i, some v => some (S.asgSub o i v)
            | _, _, _ => none)) = some b at h
          split at h
          · cases h
          · rename_i hcp
            split at h
            · rename_i o' i' v' h1 h2 h3
              cases h
              exact asgSub_sound F (by simpa using hcp) (fE h3) (fE h1) (fE h2) E r
            · cases h
        | _ => cases h
      · cases h
  | Expr e pos =>
    change (if isComp e = true then none else (f N e).map S.expr) = some b at h
    split at h
    · cases h
    · rename_i hcp
      obtain ⟨y, hq, rfl⟩ := map_some h
      exact expr_sound F (by simpa using hcp) (fE hq E r) E
  | Return v pos =>
    cases v with
    | some e => obtain ⟨y, hq, rfl⟩ := map_some h; exact ret_sound F (fE hq E r) E
    | none => cases h; exact fun _ => wpAny_Return_none ⟨ρ, σ, α, .refl, r, E, .refl s, ⟨.none, rfl, .none⟩, rfl, rfl⟩
  | If t b0 o0 pos =>
    change (match f N t, trSs g b0, trSs g o0 with | some t, some b, some o => some (S.ife t b o) | _, _, _ => none) = some b at h
    split at h
    · rename_i t' b' o' h1 h2 h3
      cases h
      intro hc
      have e0 : ex C n (.ife t' b' o') ρ σ = (tst C t' ρ σ).toS ρ fun t σ => if t then ex C n b' ρ σ else ex C n o' ρ σ := rfl
      rw [e0] at hc ⊢
      refine wpAny_If (Runs.useS (fT h1 E r) hc fun t σ₁ α₁ y s₁ e1 hc1 x1 r1 v1 m1 => ?_)
      have : y = t := v1
      subst this
      rw [e1]
      have E1 := E.ext x1 .nil
      cases y with
      | true => exact wpAny_mono (trSs_sound H h2 E1 r1 hc1) (fun _ _ q => q.lift (frExt F E x1) m1) fun _ _ q => q.lift
      | false => exact wpAny_mono (trSs_sound H h3 E1 r1 hc1) (fun _ _ q => q.lift (frExt F E x1) m1) fun _ _ q => q.lift
    · cases h
  | For t it b0 o pos =>
    change (if o.isEmpty = true then (match isName t with
      | some (x, _) => (match slotOf N x, trIt T N (f N) it, trSs g b0 with
        | some i, some it, some b => some (S.for1 i it b)
        | _, _, _ => none)
      | none => none) else none) = some b at h
    split at h
    · rename_i ho
      rw [List.isEmpty_iff] at ho
      subst ho
      cases hx : isName t with
      | none => rw [hx] at h; cases h
      | some q =>
        obtain ⟨x, px⟩ := q
        rw [hx] at h
        dsimp only at h
        have := isName_is hx
        subst this
        split at h
        · rename_i i' it' b' h1 h2 h3
          cases h
          obtain ⟨k, hk1, hk2⟩ := slotOf_is h1
          rw [← hN] at hk1
          obtain ⟨q1, q2⟩ := trIt_sound c Sf h2 hN F.new E r
          exact for_sound F (tgt_name F hk1 hk2) q2 q1 (trSs_sound H h3) E rfl
        · cases h
    · cases h
  | Break pos => cases h; exact fun _ => wpAny_Break ⟨ρ, σ, α, .refl, r, E, .refl s, rfl, rfl, rfl⟩
  | Continue pos => cases h; exact fun _ => wpAny_Continue ⟨ρ, σ, α, .refl, r, E, .refl s, rfl, rfl, rfl⟩
  | Pass pos => cases h; exact fun _ => wpAny_Pass ⟨ρ, σ, α, .refl, r, E, .refl s, rfl, rfl, rfl⟩
  | Raise e1 e2 pos => cases h; exact fun hc => absurd rfl hc
  | Try bd hs o fi pos =>
    change (if (!hs.isEmpty && o.isEmpty && fi.isEmpty) = true then (trSs g bd).map S.tryE else none) = some b at h
    split at h
    · rename_i hcond
      simp only [Bool.and_eq_true, List.isEmpty_iff, Bool.not_eq_true', List.isEmpty_eq_false_iff] at hcond
      obtain ⟨⟨hne, rfl⟩, rfl⟩ := hcond
      obtain ⟨b', hq, rfl⟩ := map_some h
      cases hs with
      | nil => exact absurd rfl hne
      | cons h0 hs =>
      intro hc
      have e0 : ex C n (.tryE b') ρ σ = (match ex C n b' ρ σ with | .exc _ _ _ => OutS.stuck | o => o) := rfl
      rw [e0] at hc ⊢
      have h1 : ex C n b' ρ σ ≠ .stuck := by intro q; rw [q] at hc; exact hc rfl
      refine wpAny_Try_except (wpAny_mono (trSs_sound H hq E r h1) (fun fl s₁ hp => ?_) fun e s₁ hx => ?_)
      · obtain ⟨ρ₁, σ₁, α₁, x1, r1, E1, m1, fo⟩ := hp
        cases hb : ex C n b' ρ σ with
        | next ρ' σ' => rw [hb] at fo; obtain ⟨rfl, rfl, rfl⟩ := fo; exact wpAny_execs_nil ⟨_, _, α₁, x1, r1, E1, m1, rfl, rfl, rfl⟩
        | cont ρ' σ' => rw [hb] at fo; have fo' := fo; obtain ⟨rfl, _⟩ := fo'; exact ⟨ρ₁, σ₁, α₁, x1, r1, E1, m1, fo⟩
        | brk ρ' σ' => rw [hb] at fo; have fo' := fo; obtain ⟨rfl, _⟩ := fo'; exact ⟨ρ₁, σ₁, α₁, x1, r1, E1, m1, fo⟩
        | ret v ρ' σ' => rw [hb] at fo; have fo' := fo; obtain ⟨⟨u, rfl, _⟩, _⟩ := fo'; exact ⟨ρ₁, σ₁, α₁, x1, r1, E1, m1, fo⟩
        | exc i ρ' σ' => rw [hb] at fo; exact fo.elim
        | stuck => exact absurd hb h1
      · obtain ⟨i, ρ', σ', e1, fx⟩ := hx
        exact fx.elim
    · cases h
  | _ => cases h

theorem trS_sound {f : List (Str × NameKind) → Expr → Option X} (c : Ctx K A T C) (Sf : SE K A C f) (F : FrOk K.hb env) (hN : env.scope.names = N) : ∀ m, SS K A C n env (trS T N f m)
  | 0 => fun st b h => by cases h
  | m + 1 => trSStep_sound c Sf F hN (trS_sound c Sf F hN m)
end
end Mine

namespace Mine
open PySem PyProof.Rows

structure AOkD (d : Nat) (A : Around) : Prop where
  handled : A.handled = none
  depth : A.depth + d + 200 < recursionLimit
  units : A.units + 3 * d + 200 < cLine
theorem AOkD.ok {d : Nat} {A : Around} (h : AOkD d A) : AOk A := ⟨h.handled, by have := h.depth; omega, by have := h.units; omega⟩
theorem AOkD.deeper {d : Nat} {A : Around} {env : Env} (h : AOkD (d + 1) A) : AOkD d (A.deeper env) := by
  refine ⟨h.handled, ?_, ?_⟩
  · have := h.depth
    show A.depth + 1 + d + 200 < recursionLimit
    omega
  · have := h.units
    show A.units + 3 + 3 * d + 200 < cLine
    omega

/-! cells of a call -/
theorem cellsFrom_has : ∀ {names : List (Str × NameKind)} {n : Nat} {acc : List (Str × Addr)} {x : Str}, (x, NameKind.cell) ∈ names → ∃ c, (x, c) ∈ cellsFrom n names acc
  | (y, k) :: r, n, acc, x, h => by
    have keep : ∀ {r : List (Str × NameKind)} {n : Nat} {acc : List (Str × Addr)} {p : Str × Addr}, p ∈ acc → p ∈ cellsFrom n r acc := by
      intro r
      induction r with
      | nil => intro n acc p hp; exact hp
      | cons q r ih =>
        intro n acc p hp
        obtain ⟨y, k⟩ := q
        unfold cellsFrom
        split
        · exact ih (List.mem_cons_of_mem _ hp)
        · exact ih hp
    unfold cellsFrom
    rcases List.mem_cons.mp h with e | h
    · cases e
      rw [if_pos (by rfl)]
      exact ⟨n, keep List.mem_cons_self⟩
    · split
      · exact cellsFrom_has h
      · exact cellsFrom_has h
theorem cellsFrom_names : ∀ {names : List (Str × NameKind)} {n : Nat} {acc : List (Str × Addr)}, Uniq names → (acc.map (·.1)).Nodup → (∀ p ∈ acc, ∀ k, (p.1, k) ∉ names) → ((cellsFrom n names acc).map (·.1)).Nodup
  | [], _, _, _, h, _ => h
  | (y, k) :: r, n, acc, hU, h, hd => by
    have hU' : Uniq r := fun i j x k k' h1 h2 => by have := hU (i + 1) (j + 1) x k k' (by simpa using h1) (by simpa using h2); omega
    have hy : ∀ k', (y, k') ∉ r := fun k' hm => by
      obtain ⟨i, hi⟩ := List.mem_iff_getElem?.mp hm
      have := hU 0 (i + 1) y k k' (by simp) (by simpa using hi)
      omega
    unfold cellsFrom
    split
    · refine cellsFrom_names hU' ?_ fun p hp k' hm => ?_
      · simp only [List.map_cons, List.nodup_cons]
        refine ⟨fun q => ?_, h⟩
        obtain ⟨p, hp, rfl⟩ := List.mem_map.mp q
        exact hd p hp k List.mem_cons_self
      · rcases List.mem_cons.mp hp with e | hp
        · subst e; exact hy k' hm
        · exact hd p hp k' (List.mem_cons_of_mem _ hm)
    · exact cellsFrom_names hU' h fun p hp k' hm => hd p hp k' (List.mem_cons_of_mem _ hm)
theorem lookup_nodup : ∀ {l : List (Str × Addr)}, (l.map (·.1)).Nodup → ∀ p ∈ l, l.lookup p.1 = some p.2
  | [], _, p, hp => by simp at hp
  | (k, v) :: r, h, p, hp => by
    simp only [List.map_cons, List.nodup_cons] at h
    rw [List.lookup_cons]
    rcases List.mem_cons.mp hp with e | hp
    · subst e; simp
    · have : (p.1 == k) = false := by
        cases hb : p.1 == k with
        | false => rfl
        | true =>
          have : p.1 = k := by simpa using hb
          exact absurd (List.mem_map.mpr ⟨p, hp, this⟩) h.1
      rw [this]
      exact lookup_nodup h.2 p hp

theorem bindL_other {kd : Str → Option NameKind} : ∀ {ps : List Str} {vals : List Value} {m : Str → Option Value} {y : Str}, y ∉ ps → bindL kd (ps.zip vals) m y = m y
  | [], vals, m, y, h => by simp [bindL]
  | p :: ps, [], m, y, h => by simp [bindL]
  | p :: ps, v :: vals, m, y, h => by
    simp only [List.mem_cons, not_or] at h
    simp only [List.zip_cons_cons, bindL]
    rw [bindL_other h.2]
    split
    · simp [h.1]
    · rfl
theorem bindC_other {kd : Str → Option NameKind} : ∀ {ps : List Str} {vals : List Value} {m : Str → Option Value} {y : Str}, y ∉ ps → bindC kd (ps.zip vals) m y = m y
  | [], vals, m, y, h => by simp [bindC]
  | p :: ps, [], m, y, h => by simp [bindC]
  | p :: ps, v :: vals, m, y, h => by
    simp only [List.mem_cons, not_or] at h
    simp only [List.zip_cons_cons, bindC]
    rw [bindC_other h.2]
    split
    · rfl
    · simp [h.1]
theorem bindL_get {kd : Str → Option NameKind} : ∀ {ps : List Str} {vals : List Value} {m : Str → Option Value} {i : Nat} {y : Str} {v : Value}, ps.Nodup → ps[i]? = some y → vals[i]? = some v → kd y = some .local → bindL kd (ps.zip vals) m y = some v
  | [], vals, m, i, y, v, _, h, _, _ => by simp at h
  | p :: ps, [], m, i, y, v, _, _, h, _ => by simp at h
  | p :: ps, w :: vals, m, i, y, v, hn, h1, h2, hk => by
    rw [List.nodup_cons] at hn
    simp only [List.zip_cons_cons, bindL]
    cases i with
    | zero =>
      simp at h1 h2
      subst h1 h2
      rw [bindL_other hn.1, if_pos hk]; simp
    | succ i => exact bindL_get hn.2 (by simpa using h1) (by simpa using h2) hk
theorem bindC_get {kd : Str → Option NameKind} : ∀ {ps : List Str} {vals : List Value} {m : Str → Option Value} {i : Nat} {y : Str} {v : Value}, ps.Nodup → ps[i]? = some y → vals[i]? = some v → kd y = some .cell → bindC kd (ps.zip vals) m y = some v
  | [], vals, m, i, y, v, _, h, _, _ => by simp at h
  | p :: ps, [], m, i, y, v, _, _, h, _ => by simp at h
  | p :: ps, w :: vals, m, i, y, v, hn, h1, h2, hk => by
    rw [List.nodup_cons] at hn
    simp only [List.zip_cons_cons, bindC]
    cases i with
    | zero =>
      simp at h1 h2
      subst h1 h2
      rw [bindC_other hn.1, if_neg (by rw [hk]; decide)]; simp
    | succ i => exact bindC_get hn.2 (by simpa using h1) (by simpa using h2) hk

/-- a function of the text -/
structure FnFacts (K : Kt) (T : Tab) (fn : Fn) (x : Str) (a : Addr) (o : Obj) (fd : FuncData) (body : List Stmt) (ps : List Str) (n1 n2 : Nat) : Prop where
  mg : K.mg x = some (.ref a)
  ho : K.hb.get? a = some o
  hd : o.data = .func fd
  code : K.hb.CodeRec fd.code fd.qualname
  hbody : fd.body = .stmts body
  glob : fd.globals = mainGlobals
  bins : fd.builtins = builtinsNs
  clo : fd.closure = []
  kind : fd.scope.kind = .function
  co : fd.scope.isCoroutine = false
  gen : fd.scope.isGenerator = false
  sc : scOkB fd.scope.names = true
  tr : trSs (trS T fd.scope.names (trE T n1) n2) body = some fn.body
  params : fn.params = ps.length
  slots : fn.slots = fd.scope.names.length
  pk : ∀ (i : Nat) (p : Str), ps[i]? = some p → ∃ k, fd.scope.names[i]? = some (p, k) ∧ (k = NameKind.local ∨ k = .cell)
  bind : ∀ vals : List Value, vals.length = ps.length → bindArgs fd ⟨vals, []⟩ = pure (ps.zip vals)

theorem FnFacts.nodup {K T fn x a o fd body ps n1 n2} (f : FnFacts K T fn x a o fd body ps n1 n2) : ps.Nodup := by
  rw [List.Nodup, List.pairwise_iff_getElem]
  intro i j hi hj hij e
  obtain ⟨k, h1, _⟩ := f.pk i ps[i] (by simp [hi])
  obtain ⟨k', h2, _⟩ := f.pk j ps[j] (by simp [hj])
  rw [e] at h1
  have := (scOk_of f.sc).uniq i j _ _ _ h1 h2
  omega

section
variable {K : Kt} {A : Around} {T : Tab} {C : Cfg} {s : Shared} {α : AL} {σ : Sto}

theorem call_env {fn : Fn} {x : Str} {a : Addr} {o : Obj} {fd : FuncData} {body : List Stmt} {ps : List Str} {n1 n2 : Nat} (f : FnFacts K T fn x a o fd body ps n1 n2) {vs : List PV} {us : List Value} {s₁ : Shared}
    (hl : vs.length = ps.length) (r : R K.hb s.heap σ α) (v : VRs s.heap α vs us)
    (I : InCallC s (callEnvC fd s.heap.objs.size a).locals (bindL (callEnvC fd s.heap.objs.size a).kindOf (ps.zip us) fun _ => none) (callEnvC fd s.heap.objs.size a).cells (bindC (callEnvC fd s.heap.objs.size a).kindOf (ps.zip us) fun _ => none) s₁) :
    EnvRel (callEnvC fd s.heap.objs.size a) (vs.map some ++ List.replicate (fn.slots - fn.params) none) s₁.heap α ∧ FrOk K.hb (callEnvC fd s.heap.objs.size a) ∧ R K.hb s₁.heap σ α ∧ Ext [] α s.heap α s₁.heap ∧ Sm s s₁ ∧ ∀ b ∈ frm (callEnvC fd s.heap.objs.size a), s.heap.get? b = none := by
  have sc := scOk_of f.sc
  have keep := I.toInCall.keep
  have hnm : (callEnvC fd s.heap.objs.size a).scope = fd.scope := rfl
  have hcells : (callEnvC fd s.heap.objs.size a).cells = cellsFrom (s.heap.objs.size + 1) fd.scope.names [] := rfl
  have hloc : (callEnvC fd s.heap.objs.size a).locals = s.heap.objs.size := rfl
  have fresh : ∀ b, s.heap.objs.size ≤ b → s.heap.get? b = none := fun b hb => by
    cases e : s.heap.get? b with
    | none => rfl
    | some o' => exact absurd (Heap.lt_size e) (Nat.not_lt.mpr hb)
  have notAll : ∀ b, s.heap.get? b = none → b ∉ α.all := fun b hb q => by obtain ⟨o, e⟩ := r.liveAll q; rw [hb] at e; cases e
  have base : ∀ b, s.heap.get? b = none → K.hb.get? b = none := fun b hb => by
    cases e : K.hb.get? b with
    | none => rfl
    | some o => rw [r.base b o e] at hb; cases hb
  have cfresh : ∀ n c, (n, c) ∈ (callEnvC fd s.heap.objs.size a).cells → s.heap.get? c = none := fun n c h => fresh c (Nat.le_of_lt (I.above n c h))
  have kd : ∀ (i : Nat) (y : Str) (k : NameKind), fd.scope.names[i]? = some (y, k) → (callEnvC fd s.heap.objs.size a).kindOf y = some k := fun i y k h => lookup_of_uniq sc.uniq h
  have hnd := cellsFrom_names (n := s.heap.objs.size + 1) (acc := []) sc.uniq (by simp) (by simp)
  have cl : ∀ p ∈ (callEnvC fd s.heap.objs.size a).cells, (callEnvC fd s.heap.objs.size a).cells.lookup p.1 = some p.2 := lookup_nodup hnd
  have xk : Ext [] α s.heap α s₁.heap := .keeps keep
  have hrho : ∀ (i : Nat) (w : PV), (vs.map some ++ List.replicate (fn.slots - fn.params) (none : Option PV))[i]? = some (some w) → vs[i]? = some w := fun i w e => by
    by_cases hi : i < vs.length
    · rw [List.getElem?_append_left (by simpa using hi)] at e
      simpa using e
    · rw [List.getElem?_append_right (by simpa using hi)] at e
      rw [List.getElem?_replicate] at e
      split at e <;> cases e
  have arg : ∀ (i : Nat) (w : PV), vs[i]? = some w → ∃ p k u, ps[i]? = some p ∧ fd.scope.names[i]? = some (p, k) ∧ (k = .local ∨ k = .cell) ∧ us[i]? = some u ∧ VR s.heap α w u := fun i w e => by
    have hi : i < vs.length := (List.getElem?_eq_some_iff.mp e).1
    have hp : i < ps.length := by omega
    obtain ⟨k, h1, h2⟩ := f.pk i ps[i] (by simp [hp])
    have hu : i < us.length := by rw [← v.1]; exact hi
    exact ⟨ps[i], k, us[i], by simp [hp], h1, h2, by simp [hu], v.2 i w us[i] e (by simp [hu])⟩
  refine ⟨⟨⟨f.kind, f.glob, f.bins, kd, sc.nodbg⟩, notAll _ (fresh _ (Nat.le_refl _)), ⟨_, I.toInCall.ns, fun i y w e1 e2 => ?_⟩, fun y c hc => ?_, fun y z c h1 h2 => ?_, fun i y e1 => ?_, fun i w e => ?_⟩,
    ⟨sc, ⟨base _ (fresh _ (Nat.le_refl _)), fun y c hc => base _ (cfresh y c (mem_of_lookup hc))⟩, cl, ?_⟩, r.keeps keep, xk, ?_, fun b hb => ?_⟩
  · obtain ⟨p, k, u, q1, q2, q3, q4, q5⟩ := arg i w (hrho i w e2)
    rw [hnm] at e1
    rw [q2] at e1
    cases e1
    exact ⟨u, bindL_get f.nodup q1 q4 (kd i _ _ q2), q5.ext xk⟩
  · have hm := mem_of_lookup hc
    exact ⟨notAll _ (cfresh y c hm), Nat.ne_of_gt (I.above y c hm), _, I.cell y c hc⟩
  · exact name_of_addr I.apart (mem_of_lookup h1) (mem_of_lookup h2)
  · rw [hnm] at e1
    obtain ⟨c, hc⟩ := cellsFrom_has (n := s.heap.objs.size + 1) (acc := []) (List.mem_of_getElem? e1)
    have hc' := cl (y, c) hc
    refine ⟨c, hc', fun w e2 => ?_⟩
    obtain ⟨p, k, u, q1, q2, q3, q4, q5⟩ := arg i w (hrho i w e2)
    rw [q2] at e1
    cases e1
    refine ⟨u, ?_, q5.ext xk⟩
    have := I.cell _ c hc'
    rw [bindC_get f.nodup q1 q4 (kd i _ _ q2)] at this
    exact this
  · obtain ⟨p, k, u, q1, q2, q3, q4, q5⟩ := arg i w (hrho i w e)
    exact ⟨p, k, q2, q3⟩
  · show (fd.scope.kind == .module && _) = false
    rw [f.kind]; rfl
  · obtain ⟨h', tk, rfl⟩ := I.toInCall.same
    exact ⟨rfl, rfl⟩
  · rcases List.mem_cons.mp hb with q | q
    · rw [q]; exact fresh _ (Nat.le_refl _)
    · obtain ⟨p, hp, rfl⟩ := List.mem_map.mp q
      exact cfresh p.1 p.2 hp

structure PrgOk (K : Kt) (T : Tab) (P : Prg) : Prop where
  hK : K.Ok
  cst : ∀ x v, T.cst.lookup x = some v → ∃ u, K.mg x = some u ∧ ∀ h σ α, R K.hb h σ α → VR h α v u
  bin : ∀ x, x ∈ T.bins → K.mg x = none ∧ ∃ v, biVal x = some v ∧ K.mb x = some v
  fns : ∀ (f : Nat) (x : Str), T.fns[f]? = some x → ∃ fn a o fd body ps n1 n2, P.fns[f]? = some fn ∧ FnFacts K T fn x a o fd body ps n1 n2

theorem callN_ctx {P : Prg} (p : PrgOk K T P) {N : Nat} : ∀ (d : Nat) (A : Around), AOkD d A → Ctx K A T ⟨callN P N d⟩
  | 0, A, hA => ⟨p.hK, hA.ok, p.cst, fun f x hx => by
      obtain ⟨fn, a, o, fd, body, ps, n1, n2, hf, F⟩ := p.fns f x hx
      refine ⟨a, o, fd, F.mg, F.ho, F.hd, fun vs us s σ α r v hc => absurd rfl hc⟩, p.bin⟩
  | d + 1, A, hA => ⟨p.hK, hA.ok, p.cst, fun f x hx => by
      obtain ⟨fn, a, o, fd, body, ps, n1, n2, hf, F⟩ := p.fns f x hx
      refine ⟨a, o, fd, F.mg, F.ho, F.hd, fun vs us s σ α r v => ?_⟩
      simp only [callN, hf]
      intro hc
      split at hc
      · rename_i hl
        rw [if_pos hl]
        rw [F.params] at hl
        have sc := scOk_of F.sc
        have hroom : A.depth < recursionLimit := by have := hA.depth; omega
        refine wpAny_call (codeAny_call_cells hroom (r.base _ _ F.ho) F.hd (p.hK.nolimit.keeps r.base) (F.code.keeps r.base) F.hbody (F.bind us (by rw [← v.1]; exact hl)) F.clo (fun q hq => ?_) (fun s₁ I => ?_) F.co F.gen F.kind)
        · obtain ⟨i, hi⟩ := List.mem_iff_getElem?.mp hq
          obtain ⟨h1, h2⟩ := List.getElem?_zip_eq_some.mp hi
          obtain ⟨k, h3, h4⟩ := F.pk i q.1 h1
          rcases h4 with rfl | rfl
          · exact .inl (lookup_of_uniq sc.uniq h3)
          · refine .inr ⟨lookup_of_uniq sc.uniq h3, ?_⟩
            obtain ⟨c, hc'⟩ := cellsFrom_has (n := s.heap.objs.size + 1) (acc := []) (List.mem_of_getElem? h3)
            obtain ⟨c', hc''⟩ := lookup_of_mem hc'
            rw [hc'']; rfl
        · obtain ⟨E, Fr, r1, x1, m1, fr⟩ := call_env F hl r v I
          have hA' : AOkD d (A.deeper (callEnvC fd s.heap.objs.size a)) := hA.deeper
          have ctx := callN_ctx p (N := N) d _ hA'
          have body_ok := trSs_sound (n := N) (trS_sound ctx (trE_sound ctx n1) Fr rfl n2) F.tr E r1
          generalize hcq : ex ⟨callN P N d⟩ N fn.body (vs.map some ++ List.replicate (fn.slots - fn.params) none) σ = cc at hc body_ok ⊢
          have hcc : cc ≠ .stuck := by rintro rfl; exact hc rfl
          refine wpAny_mono (body_ok hcc) (fun fl s₂ hp => ?_) fun e s₂ hx => ?_
          · obtain ⟨ρ₂, σ₂, α₂, x2, r2, E2, m2, fo⟩ := hp
            have xx : Ext [] α s.heap α₂ s₂.heap := Ext.drop (own := frm (callEnvC fd s.heap.objs.size a)) (F := []) x1 fr (by simp) (by simpa using x2)
            cases cc with
            | next ρ' σ' =>
              obtain ⟨rfl, rfl, rfl⟩ := fo
              exact ⟨.none, _, _, rfl, xx, r2, .none, m1.trans m2⟩
            | ret w ρ' σ' =>
              obtain ⟨⟨u, rfl, vu⟩, rfl, rfl⟩ := fo
              exact ⟨w, _, _, rfl, xx, r2, vu, m1.trans m2⟩
            | brk ρ' σ' => exact absurd rfl hc
            | cont ρ' σ' => exact absurd rfl hc
            | exc i ρ' σ' => exact fo.elim
            | stuck => exact absurd rfl hcc
          · obtain ⟨i, ρ', σ', e1, fx⟩ := hx
            exact fx.elim
      · exact absurd rfl hc, p.bin⟩
end
end Mine

namespace Mine
open PySem PySem.W PyProof.Rows

theorem lookup_zip : ∀ {ps : List Str} {vals : List Value} {i : Nat} {p : Str} {v : Value}, ps.Nodup → ps[i]? = some p → vals[i]? = some v → (ps.zip vals).lookup p = some v
  | [], _, _, _, _, _, h, _ => by simp at h
  | _ :: _, [], _, _, _, _, _, h => by simp at h
  | q :: ps, w :: vals, i, p, v, hn, h1, h2 => by
    rw [List.nodup_cons] at hn
    rw [List.zip_cons_cons, List.lookup_cons]
    cases i with
    | zero => simp at h1 h2; subst h1 h2; simp
    | succ i =>
      have h1' : ps[i]? = some p := by simpa using h1
      have : (p == q) = false := by
        cases hb : p == q with
        | false => rfl
        | true => have : p = q := by simpa using hb
                  subst this; exact absurd (List.mem_of_getElem? h1') hn.1
      rw [this]
      exact lookup_zip hn.2 h1' (by simpa using h2)

theorem filterMap_zip {ps : List Str} {vals : List Value} (hn : ps.Nodup) (hl : vals.length = ps.length) : (ps.filterMap fun n => ((ps.zip vals).lookup n).map (n, ·)) = ps.zip vals := by
  have key : ∀ (qs : List Str) (ws : List Value), qs.length = ws.length → (∀ (i : Nat) q w, qs[i]? = some q → ws[i]? = some w → (ps.zip vals).lookup q = some w) → (qs.filterMap fun n => ((ps.zip vals).lookup n).map (n, ·)) = qs.zip ws := by
    intro qs
    induction qs with
    | nil => intro ws _ _; simp
    | cons q qs ih =>
      intro ws hl h
      cases ws with
      | nil => cases hl
      | cons w ws =>
        have h0 := h 0 q w (by simp) (by simp)
        simp only [List.filterMap_cons, h0, Option.map_some, List.zip_cons_cons]
        rw [ih ws (by simpa using hl) fun i q w h1 h2 => h (i + 1) q w (by simpa using h1) (by simpa using h2)]
  exact key ps vals hl.symm fun i q w h1 h2 => lookup_zip hn h1 h2

theorem bind_gen {fd : FuncData} {ps : List Str} (hp : fd.params.posonlyargs = []) (ha : fd.params.args.map (·.arg) = ps) (hk : fd.params.kwonlyargs = []) (hv : fd.params.vararg = none) (hw : fd.params.kwarg = none) (hdf : fd.defaults = .none)
    (hn : ps.Nodup) {vals : List Value} (hl : vals.length = ps.length) : bindArgs fd ⟨vals, []⟩ = pure (ps.zip vals) := by
  have hm : ((ps.take ps.length).filter fun n => ((ps.zip vals).lookup n).isNone) = [] := by
    rw [List.take_length, List.filter_eq_nil_iff]
    intro a ha'
    obtain ⟨i, hi, rfl⟩ := List.mem_iff_getElem.mp ha'
    rw [lookup_zip hn (i := i) (v := vals[i]) (by simp [hi]) (by simp [hl, hi])]
    simp
  have hs : seqItems? Value.none = pure none := rfl
  have hf := filterMap_zip hn hl
  unfold bindArgs
  simp only [hp, ha, hk, hv, hw, hdf, hs, List.map_nil, List.nil_append, List.append_nil, List.forIn_nil, pure_bind, Option.getD_none, List.length_nil, List.drop_nil, Nat.sub_zero, List.zip_nil_right, hl, Nat.lt_irrefl, gt_iff_lt, decide_false, Bool.false_and, hm, List.isEmpty_nil, Bool.not_true]
  simp [hl, hm, hf]

/-! reading the functions out of the heap that the top leaves -/
noncomputable def fnAt (K : Frag) (x : Str) : Option (Addr × Obj × FuncData) :=
  match nsIn K mainGlobals x with
  | some (some (.ref a)) => match K.lookup a with
    | some ⟨c, d, .func fd, sl⟩ => some (a, ⟨c, d, .func fd, sl⟩, fd)
    | _ => none
  | _ => none
noncomputable def parOk : List Str → List (Str × NameKind) → Bool
  | [], _ => true
  | p :: ps, (n, k) :: r => p == n && (k == .local || k == .cell) && parOk ps r
  | _, _ => false
noncomputable def isNone : Value → Bool
  | .none => true
  | _ => false
noncomputable def fdOk (K : Frag) (fd : FuncData) : Bool :=
  codeIn K fd.code fd.qualname && fd.globals == mainGlobals && fd.builtins == builtinsNs && fd.closure.isEmpty && fd.scope.kind == .function && !fd.scope.isCoroutine && !fd.scope.isGenerator && scOkB fd.scope.names &&
    fd.params.posonlyargs.isEmpty && fd.params.kwonlyargs.isEmpty && fd.params.vararg.isNone && fd.params.kwarg.isNone && isNone fd.defaults && parOk (fd.params.args.map (·.arg)) fd.scope.names
noncomputable def mkFn (T : Tab) (n1 n2 : Nat) (K : Frag) (x : Str) : Option Fn :=
  match fnAt K x with
  | some (_, _, fd) => match fd.body with
    | .stmts body => if fdOk K fd then (trSs (trS T fd.scope.names (trE T n1) n2) body).map fun b => ⟨fd.params.args.length, fd.scope.names.length, b⟩ else none
    | _ => none
  | none => none

theorem fnAt_is {K : Frag} {x : Str} {a : Addr} {o : Obj} {fd : FuncData} (h : fnAt K x = some (a, o, fd)) : nsIn K mainGlobals x = some (some (.ref a)) ∧ K.lookup a = some o ∧ o.data = .func fd := by
  unfold fnAt at h
  split at h
  · rename_i a' h1
    split at h
    · rename_i c d fd' sl h2
      cases h
      exact ⟨h1, h2, rfl⟩
    · cases h
  · cases h
theorem parOk_is : ∀ {ps : List Str} {names : List (Str × NameKind)}, parOk ps names = true → ∀ (i : Nat) (p : Str), ps[i]? = some p → ∃ k, names[i]? = some (p, k) ∧ (k = NameKind.local ∨ k = .cell)
  | [], _, _, i, p, h => by simp at h
  | q :: ps, [], h, i, p, h2 => by cases h
  | q :: ps, (n, k) :: r, h, i, p, h2 => by
    simp only [parOk, Bool.and_eq_true, Bool.or_eq_true, beq_iff_eq] at h
    cases i with
    | zero => simp at h2; subst h2; exact ⟨k, by simp [h.1.1], h.1.2⟩
    | succ i =>
      obtain ⟨k', q1, q2⟩ := parOk_is h.2 i p (by simpa using h2)
      exact ⟨k', by simpa using q1, q2⟩

theorem mkFn_facts {K : Kt} {K' : Frag} {T : Tab} {n1 n2 : Nat} {x : Str} {fn : Fn} (hK : K.Ok) (X : K'.In K.hb) (h : mkFn T n1 n2 K' x = some fn) : ∃ a o fd body ps, FnFacts K T fn x a o fd body ps n1 n2 := by
  unfold mkFn at h
  split at h
  · rename_i a o fd hq
    obtain ⟨h1, h2, h3⟩ := fnAt_is hq
    split at h
    · rename_i body hb
      split at h
      · rename_i hok
        cases ht : trSs (trS T fd.scope.names (trE T n1) n2) body with
        | none => rw [ht] at h; cases h
        | some b =>
          rw [ht] at h; cases h
          simp only [fdOk, Bool.and_eq_true, beq_iff_eq, Bool.not_eq_true', List.isEmpty_iff, Option.isNone_iff_eq_none] at hok
          obtain ⟨⟨⟨⟨⟨⟨⟨⟨⟨⟨⟨⟨⟨q1, q2⟩, q3⟩, q4⟩, q5⟩, q6⟩, q7⟩, q8⟩, q9⟩, q10⟩, q11⟩, q12⟩, q13⟩, q14⟩ := hok
          have hdf : fd.defaults = .none := by
            cases hd : fd.defaults <;> rw [hd] at q13 <;> first | rfl | cases q13
          have F : FnFacts K T ⟨fd.params.args.length, fd.scope.names.length, b⟩ x a o fd body (fd.params.args.map (·.arg)) n1 n2 := by
            refine ⟨mg_of X hK.g h1, X _ _ h2, h3, codeRec_of X q1, hb, q2, q3, q4, q5, q6, q7, q8, ht, by simp, rfl, parOk_is q14, fun vals hl => ?_⟩
            refine bind_gen q9 rfl q10 q11 q12 hdf ?_ hl
            have sc := scOk_of q8
            rw [List.Nodup, List.pairwise_iff_getElem]
            intro i j hi hj hij e
            obtain ⟨k, h1, _⟩ := parOk_is q14 i (fd.params.args.map (·.arg))[i] (List.getElem?_eq_getElem hi)
            obtain ⟨k', h2, _⟩ := parOk_is q14 j (fd.params.args.map (·.arg))[j] (List.getElem?_eq_getElem hj)
            rw [e] at h1
            have := sc.uniq i j _ _ _ h1 h2
            omega
          exact ⟨_, _, _, _, _, F⟩
      · cases h
    · cases h
  · cases h

noncomputable def mkFns (T : Tab) (n1 n2 : Nat) (K : Frag) : List Str → Option (List Fn)
  | [] => some []
  | x :: r => match mkFn T n1 n2 K x, mkFns T n1 n2 K r with
    | some f, some fs => some (f :: fs)
    | _, _ => none
theorem mkFns_at {T : Tab} {n1 n2 : Nat} {K : Frag} : ∀ {xs : List Str} {fs : List Fn}, mkFns T n1 n2 K xs = some fs → ∀ (i : Nat) (x : Str), xs[i]? = some x → ∃ fn, fs[i]? = some fn ∧ mkFn T n1 n2 K x = some fn
  | [], _, _, i, x, h => by simp at h
  | y :: r, fs, h, i, x, h2 => by
    simp only [mkFns] at h
    split at h
    · rename_i f fs' h3 h4
      cases h
      cases i with
      | zero => simp at h2; subst h2; exact ⟨f, by simp, h3⟩
      | succ i =>
        obtain ⟨fn, q1, q2⟩ := mkFns_at h4 i x (by simpa using h2)
        exact ⟨fn, by simpa using q1, q2⟩
    · cases h

noncomputable def strsOk : List Value → List PV → Bool
  | [], [] => true
  | .str s _ :: vs, .str s' :: xs => s == s' && PyData.strOk s' && strsOk vs xs
  | _, _ => false
noncomputable def tupOk (o : Obj) (xs : List PV) : Bool :=
  match o with
  | ⟨.type c, none, .seq items _, sl⟩ => c == "tuple" && sl.isEmpty && strsOk items.toList xs
  | _ => false
theorem strsOk_is {h : Heap} {α : AL} : ∀ {vs : List Value} {xs : List PV}, strsOk vs xs = true → VRs h α xs vs
  | [], [], _ => .nil
  | v :: vs, x :: xs, e => by
    unfold strsOk at e
    split at e
    · rename_i h1 h2; cases h1
    · rename_i s t vs' s' xs' h1 h2
      cases h1; cases h2
      simp only [Bool.and_eq_true, beq_iff_eq] at e
      obtain ⟨⟨rfl, e1⟩, e2⟩ := e
      exact .cons (.str _ _ e1) (strsOk_is e2)
    · cases e
  | [], _ :: _, e => by cases e
  | v :: _, [], e => by cases v <;> cases e
theorem tupOk_is {hb h : Heap} {σ : Sto} {α : AL} {a : Addr} {o : Obj} {xs : List PV} (e : tupOk o xs = true) (ho : hb.get? a = some o) (r : R hb h σ α) : VR h α (.tup xs) (.ref a) := by
  unfold tupOk at e
  split at e
  · rename_i c items n sl
    simp only [Bool.and_eq_true, beq_iff_eq, Array.isEmpty_iff] at e
    obtain ⟨⟨rfl, rfl⟩, e2⟩ := e
    refine VR.tupI (items := items.toList) (n := n) (by simpa using r.base _ _ ho) (fun q => ?_) (strsOk_is e2)
    rcases List.mem_append.mp q with q | q
    · rw [r.fresh a q] at ho; cases ho
    · rw [r.hfr a q] at ho; cases ho
  · cases e
noncomputable def cstOk (K : Frag) : List (Str × PV) → Bool
  | [] => true
  | (x, .int i) :: r => (match nsIn K mainGlobals x with | some (some (.int j _)) => i == j | _ => false) && cstOk K r
  | (x, .str s) :: r => (match nsIn K mainGlobals x with | some (some (.str s' _)) => s == s' && PyData.strOk s | _ => false) && cstOk K r
  | (x, .tup xs) :: r => (match nsIn K mainGlobals x with | some (some (.ref a)) => (match K.lookup a with | some o => tupOk o xs | none => false) | _ => false) && cstOk K r
  | _ => false
theorem cstOk_is {K : Frag} {hb : Heap} (X : K.In hb) : ∀ {l : List (Str × PV)}, cstOk K l = true → ∀ x v, l.lookup x = some v → ∃ u, nsIn K mainGlobals x = some (some u) ∧ ∀ h σ α, R hb h σ α → VR h α v u
  | [], _, x, v, h => by simp at h
  | (y, .int i) :: r, hk, x, v, h => by
    simp only [cstOk, Bool.and_eq_true] at hk
    rw [List.lookup_cons] at h
    cases hb : x == y with
    | true =>
      rw [hb] at h; cases h
      have : x = y := by simpa using hb
      subst this
      have h1 := hk.1
      split at h1
      · rename_i j t hj
        have : i = j := by simpa using h1
        subst this
        exact ⟨_, hj, fun _ _ _ _ => .int _ _⟩
      · cases h1
    | false => rw [hb] at h; exact cstOk_is X hk.2 x v h
  | (y, .str s) :: r, hk, x, v, h => by
    simp only [cstOk, Bool.and_eq_true] at hk
    rw [List.lookup_cons] at h
    cases hb : x == y with
    | true =>
      rw [hb] at h; cases h
      have : x = y := by simpa using hb
      subst this
      have h1 := hk.1
      split at h1
      · rename_i j t hj
        simp only [Bool.and_eq_true, beq_iff_eq] at h1
        obtain ⟨rfl, h2⟩ := h1
        exact ⟨_, hj, fun _ _ _ _ => .str _ _ h2⟩
      · cases h1
    | false => rw [hb] at h; exact cstOk_is X hk.2 x v h
  | (y, .none) :: r, hk, x, v, h => by cases hk
  | (y, .bool _) :: r, hk, x, v, h => by cases hk
  | (y, .tup xs) :: r, hk, x, v, h => by
    simp only [cstOk, Bool.and_eq_true] at hk
    rw [List.lookup_cons] at h
    cases hb : x == y with
    | true =>
      rw [hb] at h; cases h
      have : x = y := by simpa using hb
      subst this
      have h1 := hk.1
      split at h1
      · rename_i a hj
        split at h1
        · rename_i o ho
          exact ⟨_, hj, fun _ _ _ r => tupOk_is h1 (X _ _ ho) r⟩
        · cases h1
      · cases h1
    | false => rw [hb] at h; exact cstOk_is X hk.2 x v h
  | (y, .fl _) :: r, hk, x, v, h => by cases hk
  | (y, .ref _) :: r, hk, x, v, h => by cases hk

noncomputable def noneAt (K : Frag) (x : Str) : Bool :=
  match nsIn K mainGlobals x with
  | some none => true
  | _ => false
noncomputable def binsOk (K : Frag) (l : List Str) : Bool := l.all fun x => noneAt K x && (biVal x).isSome && !(x == ("__name__" : Str))

theorem boot_bi {x : Str} {v : Value} (h : biVal x = some v) : bootBuiltins x = some v := by
  unfold biVal at h
  by_cases e : x = "len"
  · subst e; rw [if_pos (by simp)] at h; cases h; boot_by_name
  rw [if_neg (by simpa using e)] at h; clear e
  by_cases e : x = "list"
  · subst e; rw [if_pos (by simp)] at h; cases h; boot_by_name
  rw [if_neg (by simpa using e)] at h; clear e
  by_cases e : x = "tuple"
  · subst e; rw [if_pos (by simp)] at h; cases h; boot_by_name
  rw [if_neg (by simpa using e)] at h; clear e
  by_cases e : x = "sum"
  · subst e; rw [if_pos (by simp)] at h; cases h; boot_by_name
  rw [if_neg (by simpa using e)] at h; clear e
  by_cases e : x = "min"
  · subst e; rw [if_pos (by simp)] at h; cases h; boot_by_name
  rw [if_neg (by simpa using e)] at h; clear e
  by_cases e : x = "max"
  · subst e; rw [if_pos (by simp)] at h; cases h; boot_by_name
  rw [if_neg (by simpa using e)] at h; clear e
  by_cases e : x = "sorted"
  · subst e; rw [if_pos (by simp)] at h; cases h; boot_by_name
  rw [if_neg (by simpa using e)] at h; clear e
  by_cases e : x = "all"
  · subst e; rw [if_pos (by simp)] at h; cases h; boot_by_name
  rw [if_neg (by simpa using e)] at h; clear e
  by_cases e : x = "any"
  · subst e; rw [if_pos (by simp)] at h; cases h; boot_by_name
  rw [if_neg (by simpa using e)] at h; clear e
  by_cases e : x = "int"
  · subst e; rw [if_pos (by simp)] at h; cases h; boot_by_name
  rw [if_neg (by simpa using e)] at h; clear e
  by_cases e : x = "str"
  · subst e; rw [if_pos (by simp)] at h; cases h; boot_by_name
  rw [if_neg (by simpa using e)] at h; clear e
  by_cases e : x = "bool"
  · subst e; rw [if_pos (by simp)] at h; cases h; boot_by_name
  rw [if_neg (by simpa using e)] at h; clear e
  by_cases e : x = "isinstance"
  · subst e; rw [if_pos (by simp)] at h; cases h; boot_by_name
  rw [if_neg (by simpa using e)] at h; clear e
  by_cases e : x = "range"
  · subst e; rw [if_pos (by simp)] at h; cases h; boot_by_name
  rw [if_neg (by simpa using e)] at h; clear e
  by_cases e : x = "set"
  · subst e; rw [if_pos (by simp)] at h; cases h; boot_by_name
  rw [if_neg (by simpa using e)] at h; clear e
  cases h

theorem prgOk {K : Kt} {K' : Frag} {T : Tab} {n1 n2 : Nat} {P : Prg} {p : Program} {loose : List Str} (Tp : TopRead p loose K.mg K.mb K.hb) (X : K'.In K.hb) (h1 : cstOk K' T.cst = true) (h2 : binsOk K' T.bins = true) (h3 : mkFns T n1 n2 K' T.fns = some P.fns) : PrgOk K T P := by
  have hK : K.Ok := ⟨Tp.g, Tp.b, Tp.nolimit⟩
  refine ⟨hK, fun x v hx => ?_, fun x hx => ?_, fun f x hx => ?_⟩
  · obtain ⟨u, q1, q2⟩ := cstOk_is X h1 x v hx
    exact ⟨u, mg_of X Tp.g q1, q2⟩
  · have := List.all_eq_true.mp h2 x hx
    simp only [Bool.and_eq_true, Bool.not_eq_true', beq_eq_false_iff_ne] at this
    obtain ⟨⟨q1, q2⟩, q3⟩ := this
    obtain ⟨v, hv⟩ := Option.isSome_iff_exists.mp q2
    refine ⟨?_, v, hv, (Tp.builtins x q3).trans (boot_bi hv)⟩
    unfold noneAt at q1
    split at q1
    · rename_i hq; exact mg_none_of X Tp.g hq
    · cases q1
  · obtain ⟨fn, q1, q2⟩ := mkFns_at h3 f x hx
    obtain ⟨a, o, fd, body, ps, F⟩ := mkFn_facts hK X q2
    exact ⟨fn, a, o, fd, body, ps, n1, n2, q1, F⟩
end Mine

namespace Mine
open PySem PySem.W PyProof.Rows

theorem well_ints {P : Params} {h : Heap} : ∀ {l : List Int} {vs : List Value}, WellAll P h vs (ofPys (l.map .int)) → VRs h ⟨[], []⟩ (l.map .int) vs
  | [], vs, W => by
    simp only [List.map_nil, ofPys] at W
    cases W
    exact .nil
  | i :: l, vs, W => by
    simp only [List.map_cons, ofPys, ofPy] at W
    cases W with
    | cons a b =>
      cases a
      exact .cons (.int i _) (well_ints b)
theorem script_vr {P : Params} {h : Heap} {a : Addr} {l : List Int} (W : Well P h (.ref a) (ofPy (.list (l.map .int)))) : VR h ⟨[], []⟩ (.fl (l.map .int)) (.ref a) := by
  simp only [ofPy] at W
  cases W with
  | list e w => exact VR.flI e (by simp [AL.all]) (well_ints w)

theorem callerOk {d : Nat} (h : d ≤ 100) : AOkD d callerA := by
  have h1 : callerA.depth + 100 + 200 < recursionLimit := by decide
  have h2 : callerA.units + 3 * 100 + 200 < cLine := by decide
  exact ⟨rfl, by omega, by omega⟩

theorem law_end {prog : Program} {w : World} {s₁ : Shared} {mg mb : Str → Option Value} {T : Tab} {P : Prg} {f N d : Nat} {name : Str} {fa a : Addr} {l : List Int} {σ : Sto} (p : PrgOk ⟨prog, w, s₁.heap, mg, mb⟩ T P) (hx : T.fns[f]? = some name)
    (hmg : mg name = some (.ref fa)) (hd : d ≤ 100) (W : Well w.params s₁.heap (.ref a) (ofPy (.list (l.map .int)))) (hrun : callN P N d f [.fl (l.map .int)] [] = .ok (.bool true) σ)
    {Q : Value → Shared → Prop} {E : Value → Shared → Prop} (hQ : ∀ s', (∀ b o, s₁.heap.get? b = some o → s'.heap.get? b = some o) → s'.os = s₁.os → s'.gens = s₁.gens → Q (.bool true) s') :
    wpAny (model prog w) callerA (call (.ref fa) [.ref a]) Q E s₁ := by
  have ctx := callN_ctx p (N := N) d callerA (callerOk hd)
  obtain ⟨a', o, fd, h1, h2, h3, H⟩ := ctx.fn f name hx
  have e : a' = fa := by
    have h1' : mg name = some (.ref a') := h1
    rw [hmg] at h1'; cases h1'; rfl
  subst e
  have r₀ : R s₁.heap s₁.heap [] ⟨[], []⟩ := ⟨fun _ _ e => e, fun _ h => by simp at h, List.nodup_nil, rfl, fun _ h => by simp at h, fun i m a e => by simp at e, fun _ h => by simp at h⟩
  have H := H [.fl (l.map .int)] [.ref a] s₁ [] ⟨[], []⟩ r₀ (.cons (script_vr W) .nil)
  have hrun' : (⟨callN P N d⟩ : Cfg).call f [.fl (l.map .int)] [] = .ok (.bool true) σ := hrun
  rw [hrun'] at H
  refine wpAny_mono (H (by simp)) (fun v s' hp => ?_) fun e s' hx => ?_
  · obtain ⟨b, σ', α', e, x, r, vr, m⟩ := hp
    cases e
    cases vr
    exact hQ s' (fun b o e => x.rest b o (by simp) (by simp) e) m.os m.gens
  · obtain ⟨i, σ', e, fx⟩ := hx
    cases e
end Mine

namespace Mine
open PySem PySem.W PyProof.Rows

/-! the heap that the top leaves, read at once -/
noncomputable def fragAll (h : Heap) : Frag := (List.range h.objs.size).filterMap fun a => (h.get? a).map fun o => (a, o)
theorem lookup_of {f : Nat → Option Obj} {a : Addr} {o : Obj} : ∀ {l : List Nat}, (l.filterMap fun a => (f a).map fun o => (a, o)).lookup a = some o → f a = some o
  | [], h => by simp at h
  | b :: l, h => by
    rw [List.filterMap_cons] at h
    cases hb : f b with
    | none => rw [hb] at h; exact lookup_of h
    | some p =>
      rw [hb] at h
      simp only [Option.map_some, List.lookup_cons] at h
      cases hq : (a == b) with
      | true =>
        rw [hq] at h
        have : a = b := by simpa using hq
        subst this
        rw [hb]; exact h
      | false => rw [hq] at h; exact lookup_of h
theorem fragAll_in (h : Heap) : (fragAll h).In h := fun a o e => lookup_of (f := h.get?) e

structure Says (T : Tab) (n1 n2 : Nat) (fns : List Fn) (h : Heap) : Prop where
  ex : ∃ K : Frag, K.In h ∧ cstOk K T.cst = true ∧ binsOk K T.bins = true ∧ mkFns T n1 n2 K T.fns = some fns
noncomputable def topHook (T : Tab) (n1 n2 : Nat) (fns : List Fn) : Hook where
  α := Bool × Bool × Option (List Fn)
  obs := fun s => (cstOk (fragAll s.heap) T.cst, binsOk (fragAll s.heap) T.bins, mkFns T n1 n2 (fragAll s.heap) T.fns)
  val := fun _ => (true, true, some fns)
  says := fun _ h => Says T n1 n2 fns h
  of := fun _ s e => ⟨⟨fragAll s.heap, fragAll_in _, congrArg (·.1) e, congrArg (·.2.1) e, congrArg (·.2.2) e⟩⟩
  keeps := fun _ h h' q k => by
    obtain ⟨K, a, b⟩ := q.ex
    exact ⟨⟨K, fun x o e => k x o (a x o e), b⟩⟩
/-- the text without the lines that set `__name__` -/
noncomputable def viewOf (p : Program) : Program := { p with main := { p.main with body := p.main.body.filter fun s => match s with | .Assign [.Name n _] _ _ => !(n == "__name__") | _ => true } }
end Mine

namespace Mine
open PySem
noncomputable def T01 : Tab where
  fns := ["is_value", "product", "chosen", "single", "outcome", "_law_cell_at", "_law_value", "_law_given", "_law_same", "law"]
  cst := [("MOST_VALUE", .int 999999), ("WRAP", .int 1000000)]
  bins := ["isinstance", "int", "bool", "list", "sum", "min", "max", "range", "len", "sorted"]
  muts := [(79, 18), (87, 16)]
noncomputable def f01_0 : Fn := ⟨1, 5,
  (.cons (.ret (.and (.cons (.isinst (.v 0) .int) (.cons (.not (.isinst (.v 0) .bool)) (.cons (.cmp2 (.k (.int 0)) .le (.v 0) .le (.k (.int 999999))) .nil)))))
  .nil)⟩
noncomputable def f01_1_b0 : S :=
  (.cons (.asg 1 (.bin .mod (.bin .mul (.v 1) (.v 2)) (.k (.int 1000000))))
  .nil)
noncomputable def f01_1 : Fn := ⟨1, 4,
  (.cons (.asg 1 (.k (.int 1)))
  (.cons (.for1 2 (.v 0) f01_1_b0)
  (.cons (.ret (.v 1))
  .nil)))⟩
noncomputable def f01_2 : Fn := ⟨1, 1,
  (.cons (.ife (.cmp (.sub (.v 0) (.k (.int 0))) .eq (.k (.int 0)))
    (.cons (.ret (.sub (.v 0) (.k (.int 1))))
    .nil)
    .nil)
  (.cons (.ret (.sub (.v 0) (.k (.int 2))))
  .nil))⟩
noncomputable def f01_3 : Fn := ⟨2, 9,
  (.cons (.asg 2 (.sub (.v 0) (.k (.int 0))))
  (.cons (.ife (.cmp (.v 2) .eq (.k (.str "sum")))
    (.cons (.ret (.bin .mod (.b1 .sum (.v 1)) (.k (.int 1000000))))
    .nil)
    .nil)
  (.cons (.ife (.cmp (.v 2) .eq (.k (.str "times")))
    (.cons (.ret (.call 1 (.cons (.v 1) .nil)))
    .nil)
    .nil)
  (.cons (.ife (.cmp (.v 2) .eq (.k (.str "least")))
    (.cons (.ret (.b1 .min (.v 1)))
    .nil)
    .nil)
  (.cons (.ife (.cmp (.v 2) .eq (.k (.str "most")))
    (.cons (.ret (.b1 .max (.v 1)))
    .nil)
    .nil)
  (.cons (.ife (.cmp (.v 2) .eq (.k (.str "fixed")))
    (.cons (.ret (.sub (.v 0) (.k (.int 1))))
    .nil)
    .nil)
  (.cons (.ife (.cmp (.v 2) .eq (.k (.str "choose")))
    (.cons (.ret (.call 2 (.cons (.v 1) .nil)))
    .nil)
    .nil)
  (.cons (.ret (.sub (.v 1) (.k (.int 0))))
  .nil))))))))⟩
noncomputable def f01_c0 : X := (.comp true 1 [none, none, some 3] (.v 2) (.k (.bool true)) (.range1 (.v 2)))
noncomputable def f01_4 : Fn := ⟨3, 6,
  (.cons (.ife (.cmp (.sub (.v 0) (.k (.int 0))) .eq (.k (.str "way")))
    (.cons (.ife (.cmp (.sub (.v 1) (.k (.int 1))) .eq (.k (.int 0)))
      (.cons (.ret (.lst true (.cons (.sub (.v 1) (.k (.int 0))) (.cons (.k .none) .nil))))
      .nil)
      .nil)
    (.cons (.ret (.lst true (.cons (.k .none) (.cons (.sub (.v 1) (.k (.int 0))) .nil))))
    .nil))
    .nil)
  (.cons (.asg 3 (.call 3 (.cons (.v 0) (.cons (.v 1) .nil))))
  (.cons (.ret f01_c0)
  .nil)))⟩
noncomputable def f01_5 : Fn := ⟨2, 3,
  (.cons (.ife (.cmp (.v 1) .lt (.b1 .len (.v 0)))
    (.cons (.ret (.sub (.v 0) (.v 1)))
    .nil)
    .nil)
  (.cons (.ret (.k (.int 0)))
  .nil))⟩
noncomputable def f01_6 : Fn := ⟨1, 1,
  (.cons (.ife (.cmp (.bin .mod (.v 0) (.k (.int 4))) .eq (.k (.int 0)))
    (.cons (.ret (.sub (.lst true (.cons (.k (.int 0)) (.cons (.k (.int 0)) (.cons (.k (.int 1)) (.cons (.k (.int 999999)) .nil))))) (.bin .mod (.bin .fdiv (.v 0) (.k (.int 4))) (.k (.int 4)))))
    .nil)
    .nil)
  (.cons (.ife (.cmp (.bin .mod (.v 0) (.k (.int 4))) .eq (.k (.int 1)))
    (.cons (.ret (.bin .mod (.bin .fdiv (.v 0) (.k (.int 4))) (.bin .pow (.k (.int 10)) (.k (.int 6)))))
    .nil)
    .nil)
  (.cons (.ret (.bin .mod (.bin .fdiv (.v 0) (.k (.int 4))) (.k (.int 5))))
  .nil)))⟩
noncomputable def f01_7_b0 : S :=
  (.cons (.asg 3 (.bin .mod (.bin .mul (.v 3) (.v 4)) (.bin .pow (.k (.int 10)) (.k (.int 6)))))
  .nil)
noncomputable def f01_7 : Fn := ⟨3, 9,
  (.cons (.ife (.cmp (.sub (.v 0) (.k (.int 0))) .eq (.k (.str "way")))
    (.cons (.ret (.sub (.lst true (.cons (.lst true (.cons (.sub (.v 1) (.k (.int 0))) (.cons (.k .none) .nil))) (.cons (.lst true (.cons (.k .none) (.cons (.sub (.v 1) (.k (.int 0))) .nil))) .nil))) (.b1 .int (.cmp (.sub (.v 1) (.k (.int 1))) .ne (.k (.int 0))))))
    .nil)
    .nil)
  (.cons (.asg 3 (.sub (.v 1) (.k (.int 0))))
  (.cons (.ife (.cmp (.sub (.v 0) (.k (.int 0))) .eq (.k (.str "sum")))
    (.cons (.asg 3 (.bin .mod (.b1 .sum (.v 1)) (.bin .pow (.k (.int 10)) (.k (.int 6)))))
    .nil)
    .nil)
  (.cons (.ife (.cmp (.sub (.v 0) (.k (.int 0))) .eq (.k (.str "times")))
    (.cons (.asg 3 (.k (.int 1)))
    (.cons (.for1 4 (.v 1) f01_7_b0)
    .nil))
    .nil)
  (.cons (.ife (.cmp (.sub (.v 0) (.k (.int 0))) .isin (.tup (.cons (.k (.str "least")) (.cons (.k (.str "most")) .nil))))
    (.cons (.asg 3 (.sub (.b1 .sorted (.v 1)) (.sub (.lst true (.cons (.k (.int 0)) (.cons (.neg (.k (.int 1))) .nil))) (.b1 .int (.cmp (.sub (.v 0) (.k (.int 0))) .eq (.k (.str "most")))))))
    .nil)
    .nil)
  (.cons (.ife (.cmp (.sub (.v 0) (.k (.int 0))) .eq (.k (.str "fixed")))
    (.cons (.asg 3 (.sub (.v 0) (.k (.int 1))))
    .nil)
    .nil)
  (.cons (.ife (.cmp (.sub (.v 0) (.k (.int 0))) .eq (.k (.str "choose")))
    (.cons (.asg 3 (.sub (.v 1) (.bin .add (.k (.int 1)) (.b1 .int (.cmp (.sub (.v 1) (.k (.int 0))) .ne (.k (.int 0)))))))
    .nil)
    .nil)
  (.cons (.ret f01_c0)
  .nil))))))))⟩
noncomputable def f01_c1 : X := (.comp true 1 [none, none, none, none] (.v 1) (.isinst (.v 1) .bool) (.v 0))
noncomputable def f01_8 : Fn := ⟨2, 5,
  (.cons (.ife (.or (.cons (.not (.isinst (.v 0) .list)) (.cons (.cmp (.v 0) .ne (.v 1)) .nil)))
    (.cons (.ret (.k (.bool false)))
    .nil)
    .nil)
  (.cons (.ret (.cmp (.b1 .len f01_c1) .eq (.k (.int 0))))
  .nil))⟩
noncomputable def f01_9_b0 : S :=
  (.cons (.asg 11 (.b1 (.list true) (.v 5)))
  (.cons (.asg 12 (.call 4 (.cons (.v 2) (.cons (.v 11) (.cons (.v 4) .nil)))))
  (.cons (.ife (.or (.cons (.not (.call 8 (.cons (.v 12) (.cons (.v 6) .nil)))) (.cons (.cmp (.v 11) .ne (.v 5)) .nil)))
    (.cons (.ret (.k (.bool false)))
    .nil)
    .nil)
  (.cons (.expr (.me .append (.v 9) (.cons (.tup (.cons (.v 12) (.cons (.b1 (.list true) (.v 12)) .nil))) .nil)))
  (.cons (.asg 12 (.call 0 (.cons (.v 7) .nil)))
  (.cons (.ife (.or (.cons (.not (.isinst (.v 12) .bool)) (.cons (.cmp (.v 12) .ne (.v 8)) (.cons (.cmp (.call 4 (.cons (.tup (.cons (.k (.str "fixed")) (.cons (.k (.int 3)) .nil))) (.cons (.lst true (.cons (.k (.int 1)) .nil)) (.cons (.k (.int 2)) .nil)))) .ne (.lst true (.cons (.k (.int 3)) (.cons (.k (.int 3)) .nil)))) .nil))))
    (.cons (.ret (.k (.bool false)))
    .nil)
    .nil)
  .nil))))))
noncomputable def f01_c2 : X := (.comp false 1 [none, none, none, none, some 0] (.call 6 (.cons (.call 5 (.cons (.v 4) (.cons (.bin .add (.k (.int 2)) (.v 1)) .nil))) .nil)) (.k (.bool true)) (.range1 (.v 3)))
noncomputable def f01_9_s0 : S := (.asg 1 (.sub (.lst true (.cons (.k (.str "sum")) (.cons (.k (.str "times")) (.cons (.k (.str "least")) (.cons (.k (.str "most")) (.cons (.k (.str "fixed")) (.cons (.k (.str "later")) (.cons (.k (.str "way")) (.cons (.k (.str "choose")) .nil))))))))) (.bin .mod (.call 5 (.cons (.v 0) (.cons (.k (.int 0)) .nil))) (.k (.int 8)))))
noncomputable def f01_9_s1 : S := (.asg 2 (.tup (.cons (.v 1) .nil)))
noncomputable def f01_9_s2 : S := (.ife (.cmp (.v 1) .eq (.k (.str "fixed")))
    (.cons (.asg 2 (.tup (.cons (.k (.str "fixed")) (.cons (.call 6 (.cons (.call 5 (.cons (.v 0) (.cons (.k (.int 1)) .nil))) .nil)) .nil))))
    .nil)
    .nil)
noncomputable def f01_9_s3 : S := (.asg 3 (.fdget ["later", "way", "choose"] [(.int 1), (.int 2), (.int 3)] (.v 1) (.bin .add (.k (.int 1)) (.bin .mod (.bin .fdiv (.call 5 (.cons (.v 0) (.cons (.k (.int 0)) .nil))) (.k (.int 8))) (.k (.int 4))))))
noncomputable def f01_9_s4 : S := (.asg 4 (.fdget ["way"] [(.int 2)] (.v 1) (.bin .add (.k (.int 1)) (.bin .mod (.bin .fdiv (.call 5 (.cons (.v 0) (.cons (.k (.int 0)) .nil))) (.k (.int 32))) (.k (.int 3))))))
noncomputable def f01_9_s5 : S := (.asg 5 f01_c2)
noncomputable def f01_9_s6 : S := (.ife (.and (.cons (.cmp (.v 1) .eq (.k (.str "choose"))) (.cons (.cmp (.bin .mod (.call 5 (.cons (.v 0) (.cons (.k (.int 1)) .nil))) (.k (.int 2))) .eq (.k (.int 1))) .nil)))
    (.cons (.asgSub (.v 5) (.bin .add (.k (.int 1)) (.b1 .int (.cmp (.sub (.v 5) (.k (.int 0))) .eq (.k (.int 0))))) (.k .none))
    .nil)
    .nil)
noncomputable def f01_9_s7 : S := (.asg 6 (.call 7 (.cons (.v 2) (.cons (.v 5) (.cons (.v 4) .nil)))))
noncomputable def f01_9_s8 : S := (.asg 7 (.sub (.lst true (.cons (.k (.int 0)) (.cons (.k (.int 999999)) (.cons (.k (.int 1000000)) (.cons (.neg (.k (.int 1))) (.cons (.k (.bool true)) (.cons (.k (.bool false)) (.cons (.k .none) (.cons (.k (.str "7")) (.cons (.bin .pow (.k (.int 10)) (.k (.int 30))) (.cons (.k (.int 5)) .nil))))))))))) (.bin .mod (.call 5 (.cons (.v 0) (.cons (.k (.int 6)) .nil))) (.k (.int 10)))))
noncomputable def f01_9_s9 : S := (.ife (.cmp (.bin .mod (.bin .fdiv (.call 5 (.cons (.v 0) (.cons (.k (.int 6)) .nil))) (.k (.int 10))) (.k (.int 2))) .eq (.k (.int 1)))
    (.cons (.asg 7 (.call 5 (.cons (.v 0) (.cons (.k (.int 6)) .nil))))
    .nil)
    .nil)
noncomputable def f01_9_s10 : S := (.asg 8 (.and (.cons (.isinst (.v 7) .int) (.cons (.not (.isinst (.v 7) .bool)) (.cons (.cmp (.k (.int 0)) .le (.v 7)) (.cons (.cmp (.v 7) .lt (.bin .pow (.k (.int 10)) (.k (.int 6)))) .nil))))))
noncomputable def f01_9_s11 : S := (.asg 9 (.lst false .nil))
noncomputable def f01_9_s12 : S := (.for1 10 (.range1 (.k (.int 2))) f01_9_b0)
noncomputable def f01_9_s13 : S := (.ret (.and (.cons (.cmp (.sub (.sub (.v 9) (.k (.int 0))) (.k (.int 0))) .eq (.sub (.sub (.v 9) (.k (.int 0))) (.k (.int 1)))) (.cons (.cmp (.sub (.sub (.v 9) (.k (.int 1))) (.k (.int 0))) .eq (.sub (.sub (.v 9) (.k (.int 1))) (.k (.int 1)))) .nil))))
noncomputable def f01_9 : Fn := ⟨1, 24, (.cons f01_9_s0 (.cons f01_9_s1 (.cons f01_9_s2 (.cons f01_9_s3 (.cons f01_9_s4 (.cons f01_9_s5 (.cons f01_9_s6 (.cons f01_9_s7 (.cons f01_9_s8 (.cons f01_9_s9 (.cons f01_9_s10 (.cons f01_9_s11 (.cons f01_9_s12 (.cons f01_9_s13 .nil))))))))))))))⟩

noncomputable def P01 : Prg := ⟨[f01_0, f01_1, f01_2, f01_3, f01_4, f01_5, f01_6, f01_7, f01_8, f01_9]⟩
end Mine

namespace Mine
open PySem

theorem lim_eq : lim = 1000000 := rfl

/-- cell_at -/
theorem evIt_v {C : Cfg} {i : Nat} {ρ : Loc} {σ : Sto} : evIt C (.v i) ρ σ = (ev C (.v i) ρ σ).bind itv := rfl
theorem r5 {l : List Int} {k : Nat} (hl : l.length ≤ 63) {d : Nat} {σ : Sto} : callN P01 10 (d + 1) 5 [.fl (l.map .int), .int (k : Int)] σ = .ok (.int (l.getD k 0)) σ := by
  have h1 : l.length ≤ lim := by rw [lim_eq]; omega
  by_cases h : k < l.length
  · simp [callN, P01, f01_5, ex, ev_k, ev_v, valAt, ev_and, ev_or, ev_not, ev_neg, ev_bin, ev_cmp, ev_cmp2, ev_ife, ev_lst, ev_tup, ev_fdget, ev_call, ev_b1, ev_isinst, ev_me, ev_sub, tst_and, tst_or, tst_not, tst_cmp, tst_cmp2, tst_ife, tst_call, tst_b1, tst_isinst, tst_v, tst_k, Out.toS, Out.bind, b1v, onSeq, onAll, lenv, intv, strv, seqItems, cmpop, ordv, isv, isNoneV, subv, itemAt, asLst, seqIdx, h1, h, Out.ofOpt, List.getD]
  · simp [callN, P01, f01_5, ex, ev_k, ev_v, valAt, ev_and, ev_or, ev_not, ev_neg, ev_bin, ev_cmp, ev_cmp2, ev_ife, ev_lst, ev_tup, ev_fdget, ev_call, ev_b1, ev_isinst, ev_me, ev_sub, tst_and, tst_or, tst_not, tst_cmp, tst_cmp2, tst_ife, tst_call, tst_b1, tst_isinst, tst_v, tst_k, Out.toS, Out.bind, b1v, onSeq, onAll, lenv, intv, strv, seqItems, cmpop, ordv, isv, isNoneV, subv, itemAt, asLst, seqIdx, h1, h, Out.ofOpt, List.getD]

noncomputable def valOf (p : Int) : Int := if p % 4 = 0 then ([0, 0, 1, 999999] : List Int).getD (p / 4 % 4).toNat 0 else if p % 4 = 1 then p / 4 % 1000000 else p / 4 % 5

theorem fm4 (p : Int) : p.fmod 4 = p % 4 := Int.fmod_eq_emod_of_nonneg p (by decide)
theorem fmN (p n : Int) (h : 0 ≤ n) : p.fmod n = p % n := Int.fmod_eq_emod_of_nonneg p h
theorem fdN (p n : Int) (h : 0 ≤ n) : p.fdiv n = p / n := Int.fdiv_eq_ediv_of_nonneg p h

theorem r6 {p : Int} {d : Nat} {σ : Sto} : callN P01 10 (d + 1) 6 [.int p] σ = .ok (.int (valOf p)) σ := by
  have e1 : p.fmod 4 = p % 4 := fmN p 4 (by decide)
  have e2 : p.fdiv 4 = p / 4 := fdN p 4 (by decide)
  have e3 : (p / 4).fmod 4 = p / 4 % 4 := fmN _ 4 (by decide)
  have e4 : (p / 4).fmod 1000000 = p / 4 % 1000000 := fmN _ _ (by decide)
  have e5 : (p / 4).fmod 5 = p / 4 % 5 := fmN _ _ (by decide)
  have hp : (10 : Int) ^ (Int.toNat 6) = 1000000 := by decide
  unfold valOf
  by_cases h0 : p % 4 = 0
  · have h4 : p / 4 % 4 = 0 ∨ p / 4 % 4 = 1 ∨ p / 4 % 4 = 2 ∨ p / 4 % 4 = 3 := by omega
    rcases h4 with h | h | h | h <;>
      simp [callN, P01, f01_6, ex, ev_k, ev_v, valAt, ev_and, ev_or, ev_not, ev_neg, ev_bin, ev_cmp, ev_cmp2, ev_ife, ev_lst, ev_tup, ev_fdget, ev_call, ev_b1, ev_isinst, ev_me, ev_sub, evs_nil, evs_cons, tst_and, tst_or, tst_not, tst_cmp, tst_cmp2, tst_ife, tst_call, tst_b1, tst_isinst, tst_v, tst_k, Out.toS, Out.bind, binop, addv, mulv, arith, cmpop, ordv, isv, isNoneV, subv, itemAt, asLst, seqIdx, Out.ofOpt, eqv, toD, PyData.eqv, mkLst, lim_eq, e1, e2, e3, h0, h]
  · by_cases h1 : p % 4 = 1
    · simp [callN, P01, f01_6, ex, ev_k, ev_v, valAt, ev_and, ev_or, ev_not, ev_neg, ev_bin, ev_cmp, ev_cmp2, ev_ife, ev_lst, ev_tup, ev_fdget, ev_call, ev_b1, ev_isinst, ev_me, ev_sub, evs_nil, evs_cons, tst_and, tst_or, tst_not, tst_cmp, tst_cmp2, tst_ife, tst_call, tst_b1, tst_isinst, tst_v, tst_k, Out.toS, Out.bind, binop, addv, mulv, arith, cmpop, ordv, isv, isNoneV, subv, itemAt, asLst, seqIdx, Out.ofOpt, eqv, toD, PyData.eqv, mkLst, lim_eq, e1, e2, e3, e4, h0, h1, hp]
    · simp [callN, P01, f01_6, ex, ev_k, ev_v, valAt, ev_and, ev_or, ev_not, ev_neg, ev_bin, ev_cmp, ev_cmp2, ev_ife, ev_lst, ev_tup, ev_fdget, ev_call, ev_b1, ev_isinst, ev_me, ev_sub, evs_nil, evs_cons, tst_and, tst_or, tst_not, tst_cmp, tst_cmp2, tst_ife, tst_call, tst_b1, tst_isinst, tst_v, tst_k, Out.toS, Out.bind, binop, addv, mulv, arith, cmpop, ordv, isv, isNoneV, subv, itemAt, asLst, seqIdx, Out.ofOpt, eqv, toD, PyData.eqv, mkLst, lim_eq, e1, e2, e3, e5, h0, h1, hp]

theorem valOf_range (p : Int) : 0 ≤ valOf p ∧ valOf p ≤ 999999 := by
  unfold valOf
  split
  · have h4 : p / 4 % 4 = 0 ∨ p / 4 % 4 = 1 ∨ p / 4 % 4 = 2 ∨ p / 4 % 4 = 3 := by omega
    rcases h4 with h | h | h | h <;> rw [h] <;> decide
  · split <;> omega
end Mine

namespace Mine
open PySem

/-! plain facts of the interpreter -/
noncomputable def finS : OutS → Out PV
  | .next _ σ => .ok .none σ
  | .ret v _ σ => .ok v σ
  | .exc i _ σ => .exc i σ
  | _ => .stuck
noncomputable def C01 (d : Nat) : Cfg := ⟨callN P01 10 d⟩
theorem C01_call (d : Nat) : (C01 d).call = callN P01 10 d := rfl
theorem callN_eq {d f : Nat} {vs : List PV} {σ : Sto} {fn : Fn} (hf : P01.fns[f]? = some fn) (hl : vs.length = fn.params) :
    callN P01 10 (d + 1) f vs σ = finS (ex (C01 d) 10 fn.body (vs.map some ++ List.replicate (fn.slots - fn.params) none) σ) := by
  simp only [callN, hf, hl, if_true]
  unfold C01
  cases ex ⟨callN P01 10 d⟩ 10 fn.body (vs.map some ++ List.replicate (fn.slots - fn.params) none) σ <;> rfl

theorem compGo_map {f : PV → Sto → Out (Option PV)} {g : PV → PV} {σ : Sto} : ∀ (xs : List PV), (∀ x ∈ xs, f x σ = .ok (some (g x)) σ) → compGo none f xs σ = .ok (xs.map g) σ
  | [], _ => by simp [compGo, watchOk]
  | x :: xs, h => by
    simp only [compGo, watchOk, if_true]
    rw [h x List.mem_cons_self]
    dsimp only
    rw [compGo_map xs fun y hy => h y (List.mem_cons_of_mem _ hy)]
    simp [Out.bind]
theorem len_intRange (a c : Int) (n : Nat) : (intRange a c n).length = n := by simp [intRange]

structure Vals (σ : Sto) (v : PV) (vs : List PV) : Prop where
  lst : asLst σ v = some vs
  seq : seqItems σ v = some vs
  its : items σ v = some vs
  wt : watchOk (watchOf σ v) σ
  small : vs.length ≤ lim
theorem Vals.fl {σ : Sto} {vs : List PV} (h : vs.length ≤ lim) : Vals σ (.fl vs) vs := ⟨rfl, rfl, rfl, trivial, h⟩
theorem Vals.ref {σ : Sto} {i : Nat} {vs : List PV} (hs : σ[i]? = some (.lst vs)) (h : vs.length ≤ lim) : Vals σ (.ref i) vs := by
  refine ⟨?_, ?_, ?_, ?_, h⟩
  · simp [asLst, hs]
  · simp [seqItems, hs]
  · simp [items, hs]
  · simp [watchOf, hs, watchOk]
theorem Vals.sub {σ : Sto} {v : PV} {vs : List PV} (h : Vals σ v vs) (k : Int) : subv v (.int k) σ = Out.ofOpt ((seqIdx k vs.length).bind (vs[·]?)) σ := by
  have h1 := h.lst
  cases v with
  | fl xs => simp [asLst] at h1; subst h1; simp [subv, itemAt, asLst, h.small]
  | ref i =>
    simp only [asLst] at h1
    split at h1
    · rename_i xs hs
      cases h1
      simp [subv, itemAt, asLst, hs, h.small]
    · cases h1
  | _ => simp [asLst] at h1

noncomputable def simple : PV → Bool
  | .none => true
  | .int _ => true
  | _ => false
noncomputable def dOf : PV → PyData
  | .int i => .int i
  | _ => .none
theorem toD_simple {n : Nat} {σ : Sto} {p : PV} (h : simple p = true) : toD (n + 1) σ p = some (dOf p) := by
  cases p <;> first | (cases h; done) | simp [toD, dOf]
theorem toDs_simple {n : Nat} {σ : Sto} : ∀ {xs : List PV}, xs.all simple = true → xs.mapM (toD (n + 1) σ) = some (xs.map dOf)
  | [], _ => by simp
  | x :: xs, h => by
    simp only [List.all_cons, Bool.and_eq_true] at h
    rw [List.mapM_cons, toD_simple h.1, toDs_simple h.2]
    simp
theorem canLay_simple : ∀ {xs : List PV}, PyData.canLayAll0 (xs.map dOf) = true
  | [] => rfl
  | x :: xs => by
    simp only [List.map_cons, PyData.canLayAll0, canLay_simple, Bool.and_true]
    cases x <;> simp [dOf, PyData.canLay0]
theorem eqv_lists {σ : Sto} {u v : PV} {xs : List PV} (hx : xs.all simple = true) (hu : asLst σ u = some xs) (hv : asLst σ v = some xs) : eqv σ u v = some true := by
  have key : ∀ {u : PV}, asLst σ u = some xs → toD 16 σ u = some (.list (xs.map dOf)) := fun {u} hu => by
    cases u with
    | fl ys => simp [asLst] at hu; subst hu; simp only [toD]; rw [toDs_simple hx]; rfl
    | ref i =>
      simp only [asLst] at hu
      split at hu
      · rename_i ys hs
        cases hu
        simp only [toD, hs]; rw [toDs_simple hx]; rfl
      · cases hu
    | _ => simp [asLst] at hu
  unfold eqv
  rw [key hu, key hv]
  simp only [Option.some.injEq]
  simp only [PyData.eqv]
  exact SeqAt.eqvAll_refl _ canLay_simple

/-! the ways of the law -/
noncomputable def prodOf (l : List Int) (a : Int) : Int := l.foldl (fun a x => a * x % 1000000) a

inductive Cs : PV → List PV → Nat → List PV → Prop
  | sum (l : List Int) (g : Nat) : l ≠ [] → Cs (.tup [.str "sum"]) (l.map .int) g (List.replicate g (.int (l.sum % 1000000)))
  | times (l : List Int) (g : Nat) : l ≠ [] → Cs (.tup [.str "times"]) (l.map .int) g (List.replicate g (.int (prodOf l 1)))
  | least (x : Int) (l : List Int) (g : Nat) : Cs (.tup [.str "least"]) ((x :: l).map .int) g (List.replicate g (.int (l.foldl min x)))
  | most (x : Int) (l : List Int) (g : Nat) : Cs (.tup [.str "most"]) ((x :: l).map .int) g (List.replicate g (.int (l.foldl max x)))
  | fixed (r : Int) (x : Int) (l : List Int) (g : Nat) : Cs (.tup [.str "fixed", .int r]) ((x :: l).map .int) g (List.replicate g (.int r))
  | later (x : Int) (g : Nat) : Cs (.tup [.str "later"]) [.int x] g (List.replicate g (.int x))
  | way (x y : Int) : Cs (.tup [.str "way"]) [.int x, .int y] 2 (if y = 0 then [.int x, .none] else [.none, .int x])
  | choose (x : Int) (y z : PV) (g : Nat) : simple y = true → simple z = true → Cs (.tup [.str "choose"]) [.int x, y, z] g (List.replicate g (if x = 0 then y else z))
theorem Cs.simple {r vs g out} (h : Cs r vs g out) : out.all simple = true := by
  cases h with
  | way x y => split <;> rfl
  | choose x y z g hy hz => split <;> simp [hy, hz]
  | _ => simp [Mine.simple]

theorem prod_step (a x : Int) (ha : 0 ≤ a ∧ a < 1000000) (hx : 0 ≤ x ∧ x ≤ 999999) : mulOk a x = true := by
  unfold mulOk
  simp only [decide_eq_true_eq]
  left; omega
theorem prod_range (a x : Int) : 0 ≤ a * x % 1000000 ∧ a * x % 1000000 < 1000000 := by omega

theorem forGo_fold {β : Type} {w : Option (Nat × List PV)} {bind : PV → Loc → Option Loc} {f : Loc → Sto → OutS} {σ : Sto} (st : β → Loc) (g : β → PV → β) (I : β → Prop) (hw : watchOk w σ) : ∀ (xs : List PV) (b : β), I b →
    (∀ b x, I b → x ∈ xs → ∃ ρ1, bind x (st b) = some ρ1 ∧ f ρ1 σ = .next (st (g b x)) σ ∧ I (g b x)) → forGo w bind f xs (st b) σ = .next (st (xs.foldl g b)) σ
  | [], b, _, _ => by simp [forGo, hw]
  | x :: xs, b, hb, h => by
    obtain ⟨ρ1, h1, h2, h3⟩ := h b x hb List.mem_cons_self
    simp only [forGo, hw, if_true, h1, h2, List.foldl_cons]
    exact forGo_fold st g I hw xs (g b x) h3 fun b x hb hx => h b x hb (List.mem_cons_of_mem _ hx)

noncomputable def pvInt : PV → Int
  | .int i => i
  | _ => 0
noncomputable def prodG (b : Int × Option PV) (x : PV) : Int × Option PV := (b.1 * pvInt x % 1000000, some x)
theorem prodG_fst : ∀ (l : List Int) (b : Int × Option PV), ((l.map PV.int).foldl prodG b).1 = prodOf l b.1
  | [], b => rfl
  | x :: l, b => by
    simp only [List.map_cons, List.foldl_cons]
    rw [prodG_fst l]
    rfl

/-- product -/
theorem r1 {l : List Int} {v : PV} {σ : Sto} {d : Nat} (hv : Vals σ v (l.map .int)) (hl : ∀ x ∈ l, 0 ≤ x ∧ x ≤ 999999) : callN P01 10 (d + 1) 1 [v] σ = .ok (.int (prodOf l 1)) σ := by
  have hit : itv v σ = .ok (l.map .int, watchOf σ v) σ := by simp [itv, hv.its]
  have h := forGo_fold (bind := bind1 2) (f := fun ρ σ => ex (C01 d) 10 f01_1_b0 ρ σ) (σ := σ) (fun (b : Int × Option PV) => [some v, some (.int b.1), b.2, none]) prodG (fun b => 0 ≤ b.1 ∧ b.1 < 1000000) hv.wt (l.map .int) (1, none) (by decide)
    (fun b x hb hx => by
      obtain ⟨i, hi, rfl⟩ := List.mem_map.mp hx
      have hi := hl i hi
      refine ⟨_, rfl, ?_, prod_range _ _⟩
      have e : (b.1 * i).fmod 1000000 = b.1 * i % 1000000 := fmN _ _ (by decide)
      simp [f01_1_b0, ex, ev_k, ev_v, valAt, ev_and, ev_or, ev_not, ev_neg, ev_bin, ev_cmp, ev_cmp2, ev_ife, ev_lst, ev_tup, ev_fdget, ev_call, ev_b1, ev_isinst, ev_me, ev_sub, Out.toS, Out.bind, binop, addv, mulv, arith, prod_step b.1 i hb hi, e, prodG, pvInt])
  simp only [prodG_fst] at h
  rw [callN_eq (fn := f01_1) rfl rfl]
  simp [finS, f01_1, ex, ev_k, ev_v, valAt, ev_and, ev_or, ev_not, ev_neg, ev_bin, ev_cmp, ev_cmp2, ev_ife, ev_lst, ev_tup, ev_fdget, ev_call, ev_b1, ev_isinst, ev_me, ev_sub, evIt_range1, evIt_v, Out.toS, Out.bind, hit]
  have h' : forGo (watchOf σ v) (bind1 2) (fun ρ σ => ex (C01 d) 10 f01_1_b0 ρ σ) (l.map .int) [some v, some (.int 1), none, none] σ = _ := h
  rw [h']
  simp

/-- the first of the sorted, the last of the sorted -/
theorem sorted_first (x : Int) (l : List Int) : ∃ r, sortInts (x :: l) = l.foldl min x :: r := by
  have hp : (sortInts (x :: l)).Perm (x :: l) := List.mergeSort_perm ..
  have hs : (sortInts (x :: l)).Pairwise (fun a b => decide (a ≤ b) = true) := List.pairwise_mergeSort (fun a b c h1 h2 => by simp at *; omega) (fun a b => by simp; omega) _
  cases hq : sortInts (x :: l) with
  | nil => rw [hq] at hp; exact absurd hp.length_eq (by simp)
  | cons a r =>
    refine ⟨r, ?_⟩
    rw [hq] at hp hs
    have h1 := foldl_min_le l x
    have h2 : a = l.foldl min x := by
      refine min_unique (l := x :: l) (hp.mem_iff.mp List.mem_cons_self) (fun y hy => ?_) h1.2 h1.1
      rcases List.mem_cons.mp (hp.mem_iff.mpr hy) with e | e
      · omega
      · simpa using List.rel_of_pairwise_cons hs e
    rw [h2]
theorem sorted_last (x : Int) (l : List Int) : (sortInts (x :: l))[l.length]? = some (l.foldl max x) := by
  have hp : (sortInts (x :: l)).Perm (x :: l) := List.mergeSort_perm ..
  have hs : (sortInts (x :: l)).Pairwise (fun a b => decide (a ≤ b) = true) := List.pairwise_mergeSort (fun a b c h1 h2 => by simp at *; omega) (fun a b => by simp; omega) _
  have hlen : (sortInts (x :: l)).length = l.length + 1 := by rw [hp.length_eq]; simp
  have hi : l.length < (sortInts (x :: l)).length := by omega
  rw [List.getElem?_eq_getElem hi]
  have h1 := foldl_max_ge l x
  congr 1
  refine max_unique (l := x :: l) (hp.mem_iff.mp (List.getElem_mem hi)) (fun y hy => ?_) h1.2 h1.1
  obtain ⟨j, hj, rfl⟩ := List.mem_iff_getElem.mp (hp.mem_iff.mpr hy)
  by_cases e : j = l.length
  · subst e; exact Int.le_refl _
  · have := List.pairwise_iff_getElem.mp hs j l.length hj hi (by omega)
    simpa using this
end Mine

namespace Mine
open PySem

theorem word_eq (a b : String) : (Str.ofString a = Str.ofString b) = (a = b) := by
  apply propext; constructor
  · intro h
    rw [Str.ofString_eq_toList, Str.ofString_eq_toList] at h
    have h1 : a.toList.map Char.toNat = b.toList.map Char.toNat := by simpa using h
    have h2 : a.toList = b.toList := by
      have : Function.Injective Char.toNat := fun x y e => by
        apply Char.ext
        exact UInt32.toNat_inj.mp e
      exact (List.map_inj_right (fun x y e => this e)).mp h1
    exact String.toList_inj.mp h2
  · rintro rfl; rfl
theorem sub_tup {xs : List PV} {k : Int} {σ : Sto} : subv (.tup xs) (.int k) σ = if xs.length ≤ lim then Out.ofOpt ((seqIdx k xs.length).bind (xs[·]?)) σ else .stuck := by simp [subv, itemAt, asLst]
theorem sub_fl {xs : List PV} {k : Int} {σ : Sto} : subv (.fl xs) (.int k) σ = if xs.length ≤ lim then Out.ofOpt ((seqIdx k xs.length).bind (xs[·]?)) σ else .stuck := by simp [subv, itemAt, asLst]
theorem ints_all (l : List Int) : allInts (l.map .int) = some l := by
  induction l with
  | nil => rfl
  | cons x l ih => simp [allInts, ih]
theorem str_eqv {σ : Sto} (a b : Str) : eqv σ (.str a) (.str b) = some (a == b) := by simp [eqv, toD, PyData.eqv]
theorem int_eqv {σ : Sto} (a b : Int) : eqv σ (.int a) (.int b) = some (a == b) := by simp [eqv, toD, PyData.eqv]

/-- small numbers -/
noncomputable def Small (vs : List PV) : Prop := vs.length ≤ 4 ∧ ∀ v ∈ vs, v = .none ∨ ∃ i, v = .int i ∧ 0 ≤ i ∧ i ≤ 999999
theorem Small.ints {l : List Int} (h : Small (l.map .int)) : l.length ≤ 4 ∧ ∀ x ∈ l, 0 ≤ x ∧ x ≤ 999999 := by
  refine ⟨by simpa using h.1, fun x hx => ?_⟩
  rcases h.2 (.int x) (List.mem_map.mpr ⟨x, hx, rfl⟩) with e | ⟨i, e, h1, h2⟩
  · cases e
  · cases e; exact ⟨h1, h2⟩
theorem sum_ok {l : List Int} (h : l.length ≤ 4 ∧ ∀ x ∈ l, 0 ≤ x ∧ x ≤ 999999) : l.length ≤ 1000 ∧ l.all (fun x => decide (x.natAbs < 2 ^ 40)) = true := by
  refine ⟨by omega, ?_⟩
  rw [List.all_eq_true]
  intro x hx
  have := h.2 x hx
  simp only [decide_eq_true_eq]
  omega

theorem sum_v {l : List Int} {v : PV} {σ : Sto} (hv : Vals σ v (l.map .int)) (sm : Small (l.map .int)) : b1v .sum v σ = .ok (.int l.sum) σ := by
  have h1 := sum_ok sm.ints
  simp only [b1v, onSeq, onAll, lenv, intv, strv, hv.lst, Option.bind_some, ints_all]
  rw [if_pos h1]

/-- chosen -/
theorem r2 {x : Int} {y z v : PV} {σ : Sto} {d : Nat} (hv : Vals σ v [.int x, y, z]) : callN P01 10 (d + 1) 2 [v] σ = .ok (if x = 0 then y else z) σ := by
  rw [callN_eq (fn := f01_2) rfl rfl]
  by_cases hx : x = 0
  · simp [finS, f01_2, ex, ev_k, ev_v, valAt, ev_and, ev_or, ev_not, ev_neg, ev_bin, ev_cmp, ev_cmp2, ev_ife, ev_lst, ev_tup, ev_fdget, ev_call, ev_b1, ev_isinst, ev_me, ev_sub, tst_and, tst_or, tst_not, tst_cmp, tst_cmp2, tst_ife, tst_call, tst_b1, tst_isinst, tst_v, tst_k, Out.toS, Out.bind, hv.sub, seqIdx, Out.ofOpt, cmpop, ordv, isv, isNoneV, int_eqv, hx]
  · simp [finS, f01_2, ex, ev_k, ev_v, valAt, ev_and, ev_or, ev_not, ev_neg, ev_bin, ev_cmp, ev_cmp2, ev_ife, ev_lst, ev_tup, ev_fdget, ev_call, ev_b1, ev_isinst, ev_me, ev_sub, tst_and, tst_or, tst_not, tst_cmp, tst_cmp2, tst_ife, tst_call, tst_b1, tst_isinst, tst_v, tst_k, Out.toS, Out.bind, hv.sub, seqIdx, Out.ofOpt, cmpop, ordv, isv, isNoneV, int_eqv, hx]

/-- what is found: the value that is given to all -/
theorem r3 {rule v : PV} {vs out : List PV} {g : Nat} {σ : Sto} {d : Nat} (c : Cs rule vs g out) (hv : Vals σ v vs) (sm : Small vs) (hw : ∀ r, rule ≠ .tup (.str "way" :: r)) :
    ∃ x, callN P01 10 (d + 2) 3 [rule, v] σ = .ok x σ ∧ out = List.replicate g x := by
  rw [callN_eq (fn := f01_3) rfl rfl]
  cases c with
  | sum l _ h0 =>
    refine ⟨_, ?_, rfl⟩
    have h1 := sum_ok sm.ints
    have e : l.sum.fmod 1000000 = l.sum % 1000000 := fmN _ _ (by decide)
    have hs := sum_v hv sm
    simp [finS, f01_3, ex, ev_k, ev_v, valAt, ev_and, ev_or, ev_not, ev_neg, ev_bin, ev_cmp, ev_cmp2, ev_ife, ev_lst, ev_tup, ev_fdget, ev_call, ev_b1, ev_isinst, ev_me, ev_sub, evs_nil, evs_cons, tst_and, tst_or, tst_not, tst_cmp, tst_cmp2, tst_ife, tst_call, tst_b1, tst_isinst, tst_v, tst_k, Out.toS, Out.bind, sub_tup, sub_fl, seqIdx, Out.ofOpt, cmpop, ordv, isv, isNoneV, str_eqv, word_eq, binop, addv, mulv, arith, hs, e, lim_eq]
  | times l _ h0 =>
    refine ⟨_, ?_, rfl⟩
    have e := r1 (d := d) hv sm.ints.2
    simp [finS, f01_3, ex, ev_k, ev_v, valAt, ev_and, ev_or, ev_not, ev_neg, ev_bin, ev_cmp, ev_cmp2, ev_ife, ev_lst, ev_tup, ev_fdget, ev_call, ev_b1, ev_isinst, ev_me, ev_sub, evs_nil, evs_cons, tst_and, tst_or, tst_not, tst_cmp, tst_cmp2, tst_ife, tst_call, tst_b1, tst_isinst, tst_v, tst_k, Out.toS, Out.bind, sub_tup, sub_fl, seqIdx, Out.ofOpt, cmpop, ordv, isv, isNoneV, str_eqv, word_eq, C01_call, e, lim_eq]
  | least x l _ =>
    refine ⟨_, ?_, rfl⟩
    have e := ints_all (x :: l)
    simp only [List.map_cons] at e
    simp [finS, f01_3, ex, ev_k, ev_v, valAt, ev_and, ev_or, ev_not, ev_neg, ev_bin, ev_cmp, ev_cmp2, ev_ife, ev_lst, ev_tup, ev_fdget, ev_call, ev_b1, ev_isinst, ev_me, ev_sub, evs_nil, evs_cons, tst_and, tst_or, tst_not, tst_cmp, tst_cmp2, tst_ife, tst_call, tst_b1, tst_isinst, tst_v, tst_k, Out.toS, Out.bind, sub_tup, sub_fl, seqIdx, Out.ofOpt, cmpop, ordv, isv, isNoneV, str_eqv, word_eq, b1v, onSeq, onAll, lenv, intv, strv, hv.lst, e, lim_eq]
  | most x l _ =>
    refine ⟨_, ?_, rfl⟩
    have e := ints_all (x :: l)
    simp only [List.map_cons] at e
    simp [finS, f01_3, ex, ev_k, ev_v, valAt, ev_and, ev_or, ev_not, ev_neg, ev_bin, ev_cmp, ev_cmp2, ev_ife, ev_lst, ev_tup, ev_fdget, ev_call, ev_b1, ev_isinst, ev_me, ev_sub, evs_nil, evs_cons, tst_and, tst_or, tst_not, tst_cmp, tst_cmp2, tst_ife, tst_call, tst_b1, tst_isinst, tst_v, tst_k, Out.toS, Out.bind, sub_tup, sub_fl, seqIdx, Out.ofOpt, cmpop, ordv, isv, isNoneV, str_eqv, word_eq, b1v, onSeq, onAll, lenv, intv, strv, hv.lst, e, lim_eq]
  | fixed r x l _ =>
    refine ⟨_, ?_, rfl⟩
    simp [finS, f01_3, ex, ev_k, ev_v, valAt, ev_and, ev_or, ev_not, ev_neg, ev_bin, ev_cmp, ev_cmp2, ev_ife, ev_lst, ev_tup, ev_fdget, ev_call, ev_b1, ev_isinst, ev_me, ev_sub, evs_nil, evs_cons, tst_and, tst_or, tst_not, tst_cmp, tst_cmp2, tst_ife, tst_call, tst_b1, tst_isinst, tst_v, tst_k, Out.toS, Out.bind, sub_tup, sub_fl, seqIdx, Out.ofOpt, cmpop, ordv, isv, isNoneV, str_eqv, word_eq, lim_eq]
  | later x _ =>
    refine ⟨_, ?_, rfl⟩
    simp [finS, f01_3, ex, ev_k, ev_v, valAt, ev_and, ev_or, ev_not, ev_neg, ev_bin, ev_cmp, ev_cmp2, ev_ife, ev_lst, ev_tup, ev_fdget, ev_call, ev_b1, ev_isinst, ev_me, ev_sub, evs_nil, evs_cons, tst_and, tst_or, tst_not, tst_cmp, tst_cmp2, tst_ife, tst_call, tst_b1, tst_isinst, tst_v, tst_k, Out.toS, Out.bind, sub_tup, sub_fl, seqIdx, Out.ofOpt, cmpop, ordv, isv, isNoneV, str_eqv, word_eq, lim_eq, hv.sub]
  | way x y => exact absurd rfl (hw _)
  | choose x y z _ hy hz =>
    refine ⟨_, ?_, rfl⟩
    have e := r2 (d := d) hv
    simp [finS, f01_3, ex, ev_k, ev_v, valAt, ev_and, ev_or, ev_not, ev_neg, ev_bin, ev_cmp, ev_cmp2, ev_ife, ev_lst, ev_tup, ev_fdget, ev_call, ev_b1, ev_isinst, ev_me, ev_sub, evs_nil, evs_cons, tst_and, tst_or, tst_not, tst_cmp, tst_cmp2, tst_ife, tst_call, tst_b1, tst_isinst, tst_v, tst_k, Out.toS, Out.bind, sub_tup, sub_fl, seqIdx, Out.ofOpt, cmpop, ordv, isv, isNoneV, str_eqv, word_eq, C01_call, e, lim_eq]

/-- a list of one value over and over -/
theorem comp_rep {C : Cfg} {ρ : Loc} {σ : Sto} {t i j : Nat} {cap : List (Option Nat)} {g : Nat} {x : PV} (hg : g ≤ 100) (hn : ρ[j]? = some (some (.int (g : Int))))
    (hx : ∀ y, ((capLoc cap ρ).set t (some y))[i]? = some (some x)) :
    ev C (.comp true t cap (.v i) (.k (.bool true)) (.range1 (.v j))) ρ σ = .ok (.fl (List.replicate g x)) σ := by
  have h1 : range1v (.int (g : Int)) σ = .ok (intRange 0 1 g, none) σ := by
    simp only [range1v]
    rw [if_pos (by rw [lim_eq]; omega)]
    simp
  have h2 : evIt C (.range1 (.v j)) ρ σ = .ok (intRange 0 1 g, none) σ := by
    simp only [evIt_range1, evIt_v, ev_k, ev_v, valAt, ev_and, ev_or, ev_not, ev_neg, ev_bin, ev_cmp, ev_cmp2, ev_ife, ev_lst, ev_tup, ev_fdget, ev_call, ev_b1, ev_isinst, ev_me, ev_sub, hn, Out.bind, h1]
  rw [compOut_ev]
  unfold compOut goOn
  rw [h2]
  simp only [Out.bind]
  rw [compGo_map (g := fun _ => x) _ (fun y hy => by
    simp only [compF, tst_and, tst_or, tst_not, tst_cmp, tst_cmp2, tst_ife, tst_call, tst_b1, tst_isinst, tst_v, tst_k, ev_k, ev_v, valAt, ev_and, ev_or, ev_not, ev_neg, ev_bin, ev_cmp, ev_cmp2, ev_ife, ev_lst, ev_tup, ev_fdget, ev_call, ev_b1, ev_isinst, ev_me, ev_sub, Out.bind, truthv, if_true, hx])]
  have h3 : (intRange 0 1 g).map (fun _ => x) = List.replicate g x := by
    rw [List.map_const', len_intRange]
  simp only [h3, mkLst, List.nil_append]
  rw [if_pos (by rw [lim_eq]; simp; omega)]
  simp

theorem Cs.word {rule vs g out} (c : Cs rule vs g out) : (∃ x y, rule = .tup [.str "way"] ∧ vs = [.int x, .int y] ∧ g = 2 ∧ out = (if y = 0 then [.int x, .none] else [.none, .int x])) ∨
    (∃ w r, rule = .tup (.str w :: r) ∧ (w == ("way" : Str)) = false ∧ r.length + 1 ≤ lim) := by
  cases c with
  | way x y => exact .inl ⟨x, y, rfl, rfl, rfl, rfl⟩
  | _ => exact .inr ⟨_, _, rfl, by simp [word_eq], by rw [lim_eq]; simp⟩

/-- outcome -/
theorem r4 {rule v : PV} {vs out : List PV} {g : Nat} {σ : Sto} {d : Nat} (c : Cs rule vs g out) (hv : Vals σ v vs) (sm : Small vs) (hg : g ≤ 100) : callN P01 10 (d + 3) 4 [rule, v, .int (g : Int)] σ = .ok (.fl out) σ := by
  rw [callN_eq (fn := f01_4) rfl rfl]
  rcases c.word with ⟨x, y, rfl, rfl, rfl, rfl⟩ | ⟨w, r, rfl, hne, hrl⟩
  · by_cases hy : y = 0
    · simp [finS, f01_4, ex, ev_k, ev_v, valAt, ev_and, ev_or, ev_not, ev_neg, ev_bin, ev_cmp, ev_cmp2, ev_ife, ev_lst, ev_tup, ev_fdget, ev_call, ev_b1, ev_isinst, ev_me, ev_sub, evs_nil, evs_cons, tst_and, tst_or, tst_not, tst_cmp, tst_cmp2, tst_ife, tst_call, tst_b1, tst_isinst, tst_v, tst_k, Out.toS, Out.bind, sub_tup, hv.sub, seqIdx, Out.ofOpt, cmpop, ordv, isv, isNoneV, str_eqv, int_eqv, word_eq, mkLst, lim_eq, hy]
    · simp [finS, f01_4, ex, ev_k, ev_v, valAt, ev_and, ev_or, ev_not, ev_neg, ev_bin, ev_cmp, ev_cmp2, ev_ife, ev_lst, ev_tup, ev_fdget, ev_call, ev_b1, ev_isinst, ev_me, ev_sub, evs_nil, evs_cons, tst_and, tst_or, tst_not, tst_cmp, tst_cmp2, tst_ife, tst_call, tst_b1, tst_isinst, tst_v, tst_k, Out.toS, Out.bind, sub_tup, hv.sub, seqIdx, Out.ofOpt, cmpop, ordv, isv, isNoneV, str_eqv, int_eqv, word_eq, mkLst, lim_eq, hy]
  · have hw' : ∀ r', PV.tup (.str w :: r) ≠ .tup (.str "way" :: r') := by
      intro r' e
      cases e
      simp at hne
    obtain ⟨x, h1, rfl⟩ := r3 (d := d) c hv sm hw'
    have e : ev (C01 (d + 2)) f01_c0 [some (.tup (.str w :: r)), some v, some (.int (g : Int)), some x, none, none] σ = .ok (.fl (List.replicate g x)) σ :=
      comp_rep hg (by simp) (by intro y; simp [capLoc])
    simp [finS, f01_4, ex, ev_k, ev_v, valAt, ev_and, ev_or, ev_not, ev_neg, ev_bin, ev_cmp, ev_cmp2, ev_ife, ev_lst, ev_tup, ev_fdget, ev_call, ev_b1, ev_isinst, ev_me, ev_sub, evs_nil, evs_cons, tst_and, tst_or, tst_not, tst_cmp, tst_cmp2, tst_ife, tst_call, tst_b1, tst_isinst, tst_v, tst_k, Out.toS, Out.bind, C01_call, sub_tup, hrl, seqIdx, Out.ofOpt, cmpop, ordv, isv, isNoneV, str_eqv, hne, h1, e]
end Mine

namespace Mine
open PySem

theorem r7_loop {C : Cfg} {rule v : PV} {g : Int} {σ : Sto} {l : List Int} {w : Option (Nat × List PV)} (hw : watchOk w σ) (hl : ∀ x ∈ l, 0 ≤ x ∧ x ≤ 999999) :
    ∃ c', forGo w (bind1 4) (fun ρ σ => ex C 10 f01_7_b0 ρ σ) (l.map .int) [some rule, some v, some (.int g), some (.int 1), none, none, none, none, none] σ =
      .next [some rule, some v, some (.int g), some (.int (prodOf l 1)), c', none, none, none, none] σ := by
  have hp : (10 : Int) ^ (Int.toNat 6) = 1000000 := by decide
  have h := forGo_fold (bind := bind1 4) (f := fun ρ σ => ex C 10 f01_7_b0 ρ σ) (σ := σ) (fun (b : Int × Option PV) => [some rule, some v, some (.int g), some (.int b.1), b.2, none, none, none, none]) prodG (fun b => 0 ≤ b.1 ∧ b.1 < 1000000) hw (l.map .int) (1, none) (by decide)
    (fun b x hb hx => by
      obtain ⟨i, hi, rfl⟩ := List.mem_map.mp hx
      have hi := hl i hi
      refine ⟨_, rfl, ?_, prod_range _ _⟩
      have e : (b.1 * i).fmod 1000000 = b.1 * i % 1000000 := fmN _ _ (by decide)
      simp [f01_7_b0, ex, ev_k, ev_v, valAt, ev_and, ev_or, ev_not, ev_neg, ev_bin, ev_cmp, ev_cmp2, ev_ife, ev_lst, ev_tup, ev_fdget, ev_call, ev_b1, ev_isinst, ev_me, ev_sub, Out.toS, Out.bind, binop, addv, mulv, arith, prod_step b.1 i hb hi, e, prodG, pvInt, hp])
  simp only [prodG_fst] at h
  exact ⟨_, h⟩

theorem b1_int {b : Bool} {σ : Sto} : b1v .int (.bool b) σ = .ok (.int (if b then 1 else 0)) σ := by simp [b1v, onSeq, onAll, lenv, intv, strv]
theorem sorted_v {x : Int} {l : List Int} {v : PV} {σ : Sto} (hv : Vals σ v ((x :: l).map .int)) (sm : Small ((x :: l).map .int)) : b1v .sorted v σ = .ok (.fl ((sortInts (x :: l)).map .int)) σ := by
  have h1 := sm.ints.1
  simp only [b1v, onSeq, onAll, lenv, intv, strv, hv.lst, Option.bind_some, sortP, ints_all]
  rw [if_pos (by omega)]
theorem sorted_len (x : Int) (l : List Int) : (sortInts (x :: l)).length = l.length + 1 := by
  have hp : (sortInts (x :: l)).Perm (x :: l) := List.mergeSort_perm ..
  rw [hp.length_eq]; simp

/-- given -/
theorem r7 {rule v : PV} {vs out : List PV} {g : Nat} {σ : Sto} {d : Nat} (c : Cs rule vs g out) (hv : Vals σ v vs) (sm : Small vs) (hg : g ≤ 100) : callN P01 10 (d + 1) 7 [rule, v, .int (g : Int)] σ = .ok (.fl out) σ := by
  rw [callN_eq (fn := f01_7) rfl rfl]
  have hp : (10 : Int) ^ (Int.toNat 6) = 1000000 := by decide
  have fin : ∀ (x : PV) (c' : Option PV), ev (C01 d) f01_c0 [some rule, some v, some (.int (g : Int)), some x, c', none, none, none, none] σ = .ok (.fl (List.replicate g x)) σ := fun x c' =>
    comp_rep hg (by simp) (by intro y; simp [capLoc])
  have s0 := hv.sub 0
  cases c with
  | sum l _ h0 =>
    have hs := sum_v hv sm
    have e : l.sum.fmod 1000000 = l.sum % 1000000 := fmN _ _ (by decide)
    cases l with
    | nil => exact absurd rfl h0
    | cons x l =>
    simp [seqIdx, Out.ofOpt] at s0
    simp [finS, f01_7, ex, ev_k, ev_v, valAt, ev_and, ev_or, ev_not, ev_neg, ev_bin, ev_cmp, ev_cmp2, ev_ife, ev_lst, ev_tup, ev_fdget, ev_call, ev_b1, ev_isinst, ev_me, ev_sub, evs_nil, evs_cons, tst_and, tst_or, tst_not, tst_cmp, tst_cmp2, tst_ife, tst_call, tst_b1, tst_isinst, tst_v, tst_k, Out.toS, Out.bind, sub_tup, s0, seqIdx, Out.ofOpt, cmpop, ordv, isv, isNoneV, isinv, memv, toD, PyData.eqv, str_eqv, word_eq, binop, addv, mulv, arith, hs, e, lim_eq, hp, fin]
    right; simpa using e
  | times l _ h0 =>
    obtain ⟨c', hl⟩ := r7_loop (C := C01 d) (rule := .tup [.str "times"]) (v := v) (g := g) hv.wt sm.ints.2
    have hit : itv v σ = .ok (l.map .int, watchOf σ v) σ := by simp [itv, hv.its]
    cases l with
    | nil => exact absurd rfl h0
    | cons x l =>
    simp [seqIdx, Out.ofOpt] at s0
    simp only [List.map_cons] at hl hit
    simp [finS, f01_7, ex, ev_k, ev_v, valAt, ev_and, ev_or, ev_not, ev_neg, ev_bin, ev_cmp, ev_cmp2, ev_ife, ev_lst, ev_tup, ev_fdget, ev_call, ev_b1, ev_isinst, ev_me, ev_sub, evs_nil, evs_cons, evIt_range1, evIt_v, tst_and, tst_or, tst_not, tst_cmp, tst_cmp2, tst_ife, tst_call, tst_b1, tst_isinst, tst_v, tst_k, Out.toS, Out.bind, sub_tup, s0, seqIdx, Out.ofOpt, cmpop, ordv, isv, isNoneV, isinv, memv, toD, PyData.eqv, str_eqv, word_eq, binop, addv, mulv, arith, lim_eq, hp, fin, hit, hl]
  | least x l _ =>
    obtain ⟨r, hr⟩ := sorted_first x l
    have hs := sorted_v hv sm
    have hlen := sorted_len x l
    have h4 := sm.ints.1
    simp [seqIdx, Out.ofOpt] at s0
    have hb : r.length + 1 ≤ 1000000 := by rw [hr] at hlen; simp at hlen h4; omega
    simp [finS, f01_7, ex, ev_k, ev_v, valAt, ev_and, ev_or, ev_not, ev_neg, ev_bin, ev_cmp, ev_cmp2, ev_ife, ev_lst, ev_tup, ev_fdget, ev_call, ev_b1, ev_isinst, ev_me, ev_sub, evs_nil, evs_cons, tst_and, tst_or, tst_not, tst_cmp, tst_cmp2, tst_ife, tst_call, tst_b1, tst_isinst, tst_v, tst_k, Out.toS, Out.bind, sub_tup, sub_fl, s0, seqIdx, Out.ofOpt, cmpop, ordv, isv, isNoneV, isinv, memv, toD, PyData.eqv, str_eqv, word_eq, binop, addv, mulv, arith, b1_int, negv, mkLst, lim_eq, hp, fin, hs, hr, hb]
  | most x l _ =>
    have hr := sorted_last x l
    have hs := sorted_v hv sm
    have hlen := sorted_len x l
    have h4 := sm.ints.1
    simp [seqIdx, Out.ofOpt] at s0
    have hb : l.length + 1 ≤ 1000000 := by simp at h4; omega
    have hneg : (0 : Int) ≤ -1 + ((l.length : Int) + 1) := by omega
    have hnn : (-1 + ((l.length : Int) + 1)).toNat = l.length := by omega
    simp [finS, f01_7, ex, ev_k, ev_v, valAt, ev_and, ev_or, ev_not, ev_neg, ev_bin, ev_cmp, ev_cmp2, ev_ife, ev_lst, ev_tup, ev_fdget, ev_call, ev_b1, ev_isinst, ev_me, ev_sub, evs_nil, evs_cons, tst_and, tst_or, tst_not, tst_cmp, tst_cmp2, tst_ife, tst_call, tst_b1, tst_isinst, tst_v, tst_k, Out.toS, Out.bind, sub_tup, sub_fl, s0, seqIdx, Out.ofOpt, cmpop, ordv, isv, isNoneV, isinv, memv, toD, PyData.eqv, str_eqv, word_eq, binop, addv, mulv, arith, b1_int, negv, mkLst, lim_eq, hp, fin, hs, hlen, hb, hneg, hnn, hr]
    right
    have hi : l.length < (sortInts (x :: l)).length := by omega
    rw [List.getElem?_eq_getElem hi] at hr
    simpa using hr
  | fixed r x l _ =>
    simp [seqIdx, Out.ofOpt] at s0
    simp [finS, f01_7, ex, ev_k, ev_v, valAt, ev_and, ev_or, ev_not, ev_neg, ev_bin, ev_cmp, ev_cmp2, ev_ife, ev_lst, ev_tup, ev_fdget, ev_call, ev_b1, ev_isinst, ev_me, ev_sub, evs_nil, evs_cons, tst_and, tst_or, tst_not, tst_cmp, tst_cmp2, tst_ife, tst_call, tst_b1, tst_isinst, tst_v, tst_k, Out.toS, Out.bind, sub_tup, s0, seqIdx, Out.ofOpt, cmpop, ordv, isv, isNoneV, isinv, memv, toD, PyData.eqv, str_eqv, word_eq, binop, addv, mulv, arith, lim_eq, hp, fin]
  | later x _ =>
    simp [seqIdx, Out.ofOpt] at s0
    simp [finS, f01_7, ex, ev_k, ev_v, valAt, ev_and, ev_or, ev_not, ev_neg, ev_bin, ev_cmp, ev_cmp2, ev_ife, ev_lst, ev_tup, ev_fdget, ev_call, ev_b1, ev_isinst, ev_me, ev_sub, evs_nil, evs_cons, tst_and, tst_or, tst_not, tst_cmp, tst_cmp2, tst_ife, tst_call, tst_b1, tst_isinst, tst_v, tst_k, Out.toS, Out.bind, sub_tup, s0, seqIdx, Out.ofOpt, cmpop, ordv, isv, isNoneV, isinv, memv, toD, PyData.eqv, str_eqv, word_eq, binop, addv, mulv, arith, lim_eq, hp, fin]
  | way x y =>
    have s1 := hv.sub 1
    simp [seqIdx, Out.ofOpt] at s0 s1
    by_cases hy : y = 0
    · simp [finS, f01_7, ex, ev_k, ev_v, valAt, ev_and, ev_or, ev_not, ev_neg, ev_bin, ev_cmp, ev_cmp2, ev_ife, ev_lst, ev_tup, ev_fdget, ev_call, ev_b1, ev_isinst, ev_me, ev_sub, evs_nil, evs_cons, tst_and, tst_or, tst_not, tst_cmp, tst_cmp2, tst_ife, tst_call, tst_b1, tst_isinst, tst_v, tst_k, Out.toS, Out.bind, sub_tup, sub_fl, s0, s1, seqIdx, Out.ofOpt, cmpop, ordv, isv, isNoneV, str_eqv, int_eqv, word_eq, binop, addv, mulv, arith, b1v, onSeq, onAll, lenv, intv, strv, mkLst, lim_eq, hp, hy]
    · simp [finS, f01_7, ex, ev_k, ev_v, valAt, ev_and, ev_or, ev_not, ev_neg, ev_bin, ev_cmp, ev_cmp2, ev_ife, ev_lst, ev_tup, ev_fdget, ev_call, ev_b1, ev_isinst, ev_me, ev_sub, evs_nil, evs_cons, tst_and, tst_or, tst_not, tst_cmp, tst_cmp2, tst_ife, tst_call, tst_b1, tst_isinst, tst_v, tst_k, Out.toS, Out.bind, sub_tup, sub_fl, s0, s1, seqIdx, Out.ofOpt, cmpop, ordv, isv, isNoneV, str_eqv, int_eqv, word_eq, binop, addv, mulv, arith, b1v, onSeq, onAll, lenv, intv, strv, mkLst, lim_eq, hp, hy]
  | choose x y z _ h1 h2 =>
    have s1 := hv.sub 1
    have s2 := hv.sub 2
    simp [seqIdx, Out.ofOpt] at s0 s1 s2
    by_cases hx : x = 0
    · simp [finS, f01_7, ex, ev_k, ev_v, valAt, ev_and, ev_or, ev_not, ev_neg, ev_bin, ev_cmp, ev_cmp2, ev_ife, ev_lst, ev_tup, ev_fdget, ev_call, ev_b1, ev_isinst, ev_me, ev_sub, evs_nil, evs_cons, tst_and, tst_or, tst_not, tst_cmp, tst_cmp2, tst_ife, tst_call, tst_b1, tst_isinst, tst_v, tst_k, Out.toS, Out.bind, sub_tup, sub_fl, s0, s1, s2, seqIdx, Out.ofOpt, cmpop, ordv, isv, isNoneV, isinv, memv, toD, PyData.eqv, str_eqv, int_eqv, word_eq, binop, addv, mulv, arith, b1v, onSeq, onAll, lenv, intv, strv, lim_eq, hp, hx, fin]
    · simp [finS, f01_7, ex, ev_k, ev_v, valAt, ev_and, ev_or, ev_not, ev_neg, ev_bin, ev_cmp, ev_cmp2, ev_ife, ev_lst, ev_tup, ev_fdget, ev_call, ev_b1, ev_isinst, ev_me, ev_sub, evs_nil, evs_cons, tst_and, tst_or, tst_not, tst_cmp, tst_cmp2, tst_ife, tst_call, tst_b1, tst_isinst, tst_v, tst_k, Out.toS, Out.bind, sub_tup, sub_fl, s0, s1, s2, seqIdx, Out.ofOpt, cmpop, ordv, isv, isNoneV, isinv, memv, toD, PyData.eqv, str_eqv, int_eqv, word_eq, binop, addv, mulv, arith, b1v, onSeq, onAll, lenv, intv, strv, lim_eq, hp, hx, fin]
end Mine

namespace Mine
open PySem

theorem ne_lists {σ : Sto} {u v : PV} {xs : List PV} (hx : xs.all simple = true) (hu : asLst σ u = some xs) (hv : asLst σ v = some xs) : cmpop .ne u v σ = .ok false σ := by
  simp [cmpop, ordv, isv, isNoneV, eqv_lists hx hu hv, Out.ofOpt]
theorem eq_lists {σ : Sto} {u v : PV} {xs : List PV} (hx : xs.all simple = true) (hu : asLst σ u = some xs) (hv : asLst σ v = some xs) : cmpop .eq u v σ = .ok true σ := by
  simp [cmpop, ordv, isv, isNoneV, eqv_lists hx hu hv, Out.ofOpt]

/-- nothing is kept -/
theorem compGo_none {f : PV → Sto → Out (Option PV)} {σ : Sto} : ∀ (xs : List PV), (∀ x ∈ xs, f x σ = .ok none σ) → compGo none f xs σ = .ok [] σ
  | [], _ => by simp [compGo, watchOk]
  | x :: xs, h => by
    simp only [compGo, watchOk, if_true]
    rw [h x List.mem_cons_self]
    dsimp only
    rw [compGo_none xs fun y hy => h y (List.mem_cons_of_mem _ hy)]
    simp [Out.bind]

/-- same -/
theorem r8 {out : List PV} {σ : Sto} {d : Nat} (ho : out.all simple = true) : callN P01 10 (d + 1) 8 [.fl out, .fl out] σ = .ok (.bool true) σ := by
  rw [callN_eq (fn := f01_8) rfl rfl]
  have e : ev (C01 d) f01_c1 [some (.fl out), some (.fl out), none, none, none] σ = .ok (.fl []) σ := by
    have h2 : evIt (C01 d) (.v 0) [some (.fl out), some (.fl out), none, none, none] σ = .ok (out, none) σ := by
      simp only [evIt_range1, evIt_v, ev_k, ev_v, valAt, ev_and, ev_or, ev_not, ev_neg, ev_bin, ev_cmp, ev_cmp2, ev_ife, ev_lst, ev_tup, ev_fdget, ev_call, ev_b1, ev_isinst, ev_me, ev_sub, List.getElem?_cons_zero, Out.bind, itv, items, watchOf]
    unfold f01_c1
    rw [compOut_ev]
    unfold compOut goOn
    rw [h2]
    simp only [Out.bind]
    rw [compGo_none _ (fun y hy => by
      have := List.all_eq_true.mp ho y hy
      cases y <;> first | (cases this; done) | simp [compF, tst_and, tst_or, tst_not, tst_cmp, tst_cmp2, tst_ife, tst_call, tst_b1, tst_isinst, tst_v, tst_k, ev_k, ev_v, valAt, ev_and, ev_or, ev_not, ev_neg, ev_bin, ev_cmp, ev_cmp2, ev_ife, ev_lst, ev_tup, ev_fdget, ev_call, ev_b1, ev_isinst, ev_me, ev_sub, Out.bind, capLoc, isinstv, asLst, truthv])]
    simp [mkLst]
  have h1 : cmpop .ne (.fl out) (.fl out) σ = .ok false σ := ne_lists ho rfl rfl
  have h2 : cmpop .eq (.int 0) (.int 0) σ = .ok true σ := by simp [cmpop, ordv, isv, isNoneV, int_eqv, Out.ofOpt]
  have h3 : b1v .len (.fl []) σ = .ok (.int 0) σ := by simp [b1v, onSeq, onAll, lenv, intv, strv, seqItems]
  simp [finS, f01_8, ex, ev_k, ev_v, valAt, ev_and, ev_or, ev_not, ev_neg, ev_bin, ev_cmp, ev_cmp2, ev_ife, ev_lst, ev_tup, ev_fdget, ev_call, ev_b1, ev_isinst, ev_me, ev_sub, evs_nil, evs_cons, tst_and, tst_or, tst_not, tst_cmp, tst_cmp2, tst_ife, tst_call, tst_b1, tst_isinst, tst_v, tst_k, tstOr_nil, tstOr_cons, evOr_one, evOr_cons, Out.toS, Out.bind, isinstv, asLst, h1, h2, e, truthv, h3]

noncomputable def numOf : PV → Bool
  | .int i => decide (0 ≤ i ∧ i ≤ 999999)
  | _ => false
noncomputable def thing (p : PV) : Bool :=
  match p with
  | .int _ | .bool _ | .none | .str _ => true
  | _ => false
/-- is_value -/
theorem r0 {p : PV} {σ : Sto} {d : Nat} (h : thing p = true) : callN P01 10 (d + 1) 0 [p] σ = .ok (.bool (numOf p)) σ := by
  rw [callN_eq (fn := f01_0) rfl rfl]
  cases p with
  | int i =>
    by_cases h1 : 0 ≤ i
    · simp [finS, f01_0, ex, ev_k, ev_v, valAt, ev_and, ev_or, ev_not, ev_neg, ev_bin, ev_cmp, ev_cmp2, ev_ife, ev_lst, ev_tup, ev_fdget, ev_call, ev_b1, ev_isinst, ev_me, ev_sub, evAnd_one, evAnd_cons, Out.toS, Out.bind, isinstv, asLst, truthv, cmpop, ordv, isv, isNoneV, h1, numOf]
    · simp [finS, f01_0, ex, ev_k, ev_v, valAt, ev_and, ev_or, ev_not, ev_neg, ev_bin, ev_cmp, ev_cmp2, ev_ife, ev_lst, ev_tup, ev_fdget, ev_call, ev_b1, ev_isinst, ev_me, ev_sub, evAnd_one, evAnd_cons, Out.toS, Out.bind, isinstv, asLst, truthv, cmpop, ordv, isv, isNoneV, h1, numOf]
  | bool b => simp [finS, f01_0, ex, ev_k, ev_v, valAt, ev_and, ev_or, ev_not, ev_neg, ev_bin, ev_cmp, ev_cmp2, ev_ife, ev_lst, ev_tup, ev_fdget, ev_call, ev_b1, ev_isinst, ev_me, ev_sub, evAnd_one, evAnd_cons, Out.toS, Out.bind, isinstv, asLst, truthv, numOf]
  | none => simp [finS, f01_0, ex, ev_k, ev_v, valAt, ev_and, ev_or, ev_not, ev_neg, ev_bin, ev_cmp, ev_cmp2, ev_ife, ev_lst, ev_tup, ev_fdget, ev_call, ev_b1, ev_isinst, ev_me, ev_sub, evAnd_one, evAnd_cons, Out.toS, Out.bind, isinstv, asLst, truthv, numOf]
  | str s => simp [finS, f01_0, ex, ev_k, ev_v, valAt, ev_and, ev_or, ev_not, ev_neg, ev_bin, ev_cmp, ev_cmp2, ev_ife, ev_lst, ev_tup, ev_fdget, ev_call, ev_b1, ev_isinst, ev_me, ev_sub, evAnd_one, evAnd_cons, Out.toS, Out.bind, isinstv, asLst, truthv, numOf]
  | _ => cases h

/-- the law's own number test -/
theorem number {C : Cfg} {ρ : Loc} {σ : Sto} {p : PV} (hp : ρ[7]? = some (some p)) (h : thing p = true) :
    ev C (.and (.cons (.isinst (.v 7) .int) (.cons (.not (.isinst (.v 7) .bool)) (.cons (.cmp (.k (.int 0)) .le (.v 7)) (.cons (.cmp (.v 7) .lt (.bin .pow (.k (.int 10)) (.k (.int 6)))) .nil))))) ρ σ = .ok (.bool (numOf p)) σ := by
  have hpw : (10 : Int) ^ (Int.toNat 6) = 1000000 := by decide
  cases p with
  | int i =>
    by_cases h1 : 0 ≤ i
    · have : decide (i < 1000000) = decide (i ≤ 999999) := by rw [decide_eq_decide]; omega
      simp [ev_k, ev_v, valAt, ev_and, ev_or, ev_not, ev_neg, ev_bin, ev_cmp, ev_cmp2, ev_ife, ev_lst, ev_tup, ev_fdget, ev_call, ev_b1, ev_isinst, ev_me, ev_sub, evAnd_one, evAnd_cons, Out.bind, isinstv, asLst, truthv, cmpop, ordv, isv, isNoneV, binop, addv, mulv, arith, hp, h1, numOf, hpw, this]
    · simp [ev_k, ev_v, valAt, ev_and, ev_or, ev_not, ev_neg, ev_bin, ev_cmp, ev_cmp2, ev_ife, ev_lst, ev_tup, ev_fdget, ev_call, ev_b1, ev_isinst, ev_me, ev_sub, evAnd_one, evAnd_cons, Out.bind, isinstv, asLst, truthv, cmpop, ordv, isv, isNoneV, binop, addv, mulv, arith, hp, h1, numOf]
  | bool b => simp [ev_k, ev_v, valAt, ev_and, ev_or, ev_not, ev_neg, ev_bin, ev_cmp, ev_cmp2, ev_ife, ev_lst, ev_tup, ev_fdget, ev_call, ev_b1, ev_isinst, ev_me, ev_sub, evAnd_one, evAnd_cons, Out.bind, isinstv, asLst, truthv, hp, numOf]
  | none => simp [ev_k, ev_v, valAt, ev_and, ev_or, ev_not, ev_neg, ev_bin, ev_cmp, ev_cmp2, ev_ife, ev_lst, ev_tup, ev_fdget, ev_call, ev_b1, ev_isinst, ev_me, ev_sub, evAnd_one, evAnd_cons, Out.bind, isinstv, asLst, truthv, hp, numOf]
  | str s => simp [ev_k, ev_v, valAt, ev_and, ev_or, ev_not, ev_neg, ev_bin, ev_cmp, ev_cmp2, ev_ife, ev_lst, ev_tup, ev_fdget, ev_call, ev_b1, ev_isinst, ev_me, ev_sub, evAnd_one, evAnd_cons, Out.bind, isinstv, asLst, truthv, hp, numOf]
  | _ => cases h
end Mine

namespace Mine
open PySem

theorem ex_next {C : Cfg} {N : Nat} {a r : S} {ρ ρ' : Loc} {σ σ' : Sto} (h : ex C N a ρ σ = .next ρ' σ') : ex C N (.cons a r) ρ σ = ex C N r ρ' σ' := by simp only [ex, h]

noncomputable def L0 (s a1 a2 a3 a4 a5 a6 a7 a8 a9 a10 a11 a12 : Option PV) : Loc := [s, a1, a2, a3, a4, a5, a6, a7, a8, a9, a10, a11, a12, none, none, none, none, none, none, none, none, none, none, none]
noncomputable def cel (l : List Int) (k : Nat) : Int := l.getD k 0
noncomputable def valsI (l : List Int) (m : Nat) : List Int := (List.range m).map fun i => valOf (cel l (2 + i))

section
variable {l : List Int} {σ : Sto}
theorem h5 (hl : l.length ≤ 63) (k : Nat) : callN P01 10 7 5 [.fl (l.map .int), .int (k : Int)] σ = .ok (.int (cel l k)) σ := r5 hl
theorem h50 (hl : l.length ≤ 63) : callN P01 10 7 5 [.fl (l.map .int), .int 0] σ = .ok (.int (cel l 0)) σ := r5 (k := 0) hl
theorem h51 (hl : l.length ≤ 63) : callN P01 10 7 5 [.fl (l.map .int), .int 1] σ = .ok (.int (cel l 1)) σ := r5 (k := 1) hl
theorem h56 (hl : l.length ≤ 63) : callN P01 10 7 5 [.fl (l.map .int), .int 6] σ = .ok (.int (cel l 6)) σ := r5 (k := 6) hl
theorem h6 (p : Int) : callN P01 10 7 6 [.int p] σ = .ok (.int (valOf p)) σ := r6

noncomputable def words : List Str := ["sum", "times", "least", "most", "fixed", "later", "way", "choose"]

theorem t0 (hl : l.length ≤ 63) {k : Nat} {w : Str} (hk : cel l 0 % 8 = (k : Int)) (hw : words[k]? = some w) : ex (C01 7) 10 f01_9_s0 (L0 (some (.fl (l.map .int))) none none none none none none none none none none none none) σ =
    .next (L0 (some (.fl (l.map .int))) (some (.str w)) none none none none none none none none none none none) σ := by
  have e : (cel l 0).fmod 8 = (k : Int) := (fmN _ _ (by decide)).trans hk
  have hk8 : k < 8 := by omega
  have hidx : seqIdx (k : Int) 8 = some k := by simp [seqIdx, hk8]
  have hsub : subv (.fl (words.map .str)) (.int (k : Int)) σ = .ok (.str w) σ := by
    rw [sub_fl]
    have : (words.map PV.str).length = 8 := rfl
    rw [this, if_pos (by rw [lim_eq]; decide), hidx]
    simp [hw, Out.ofOpt]
  simp only [words, List.map_cons, List.map_nil] at hsub
  simp [f01_9_s0, L0, ex, ev_k, ev_v, valAt, ev_and, ev_or, ev_not, ev_neg, ev_bin, ev_cmp, ev_cmp2, ev_ife, ev_lst, ev_tup, ev_fdget, ev_call, ev_b1, ev_isinst, ev_me, ev_sub, evs_nil, evs_cons, Out.toS, Out.bind, C01_call, h50 hl, binop, addv, mulv, arith, e, mkLst, lim_eq, hsub]

theorem comp_vals (hl : l.length ≤ 63) {ρ : Loc} {m : Nat} (hm : m ≤ 4) (h0 : ρ[0]? = some (some (.fl (l.map .int)))) (h3 : ρ[3]? = some (some (.int (m : Int)))) :
    ev (C01 7) f01_c2 ρ σ = .ok (.ref σ.length) (σ ++ [.lst ((valsI l m).map .int)]) := by
  have h1 : range1v (.int (m : Int)) σ = .ok (intRange 0 1 m, none) σ := by
    simp only [range1v]
    rw [if_pos (by rw [lim_eq]; omega)]
    simp
  have h2 : evIt (C01 7) (.range1 (.v 3)) ρ σ = .ok (intRange 0 1 m, none) σ := by
    simp only [evIt_range1, evIt_v, ev_k, ev_v, valAt, ev_and, ev_or, ev_not, ev_neg, ev_bin, ev_cmp, ev_cmp2, ev_ife, ev_lst, ev_tup, ev_fdget, ev_call, ev_b1, ev_isinst, ev_me, ev_sub, h3, Out.bind, h1]
  unfold f01_c2
  rw [compOut_ev]
  unfold compOut goOn
  rw [h2]
  simp only [Out.bind]
  rw [compGo_map (g := fun y => .int (valOf (cel l (2 + (pvInt y).toNat)))) _ (fun y hy => by
    simp only [intRange, List.mem_map, List.mem_range] at hy
    obtain ⟨i, hi, rfl⟩ := hy
    have hr : (capLoc [none, none, none, none, some 0] ρ).set 1 (some (.int (0 + (i : Int) * 1))) = [none, some (.int (i : Int)), none, none, some (.fl (l.map .int))] := by
      simp [capLoc, h0]
    simp only [compF, hr]
    have e : (2 : Int) + (i : Int) = ((2 + i : Nat) : Int) := by omega
    have h5' : callN P01 10 7 5 [.fl (l.map .int), .int (2 + (i : Int))] σ = .ok (.int (cel l (2 + i))) σ := by rw [e]; exact h5 hl (2 + i)
    simp [tst_and, tst_or, tst_not, tst_cmp, tst_cmp2, tst_ife, tst_call, tst_b1, tst_isinst, tst_v, tst_k, ev_k, ev_v, valAt, ev_and, ev_or, ev_not, ev_neg, ev_bin, ev_cmp, ev_cmp2, ev_ife, ev_lst, ev_tup, ev_fdget, ev_call, ev_b1, ev_isinst, ev_me, ev_sub, evs_nil, evs_cons, Out.bind, truthv, C01_call, binop, addv, mulv, arith, h5', h6, pvInt])]
  have h4 : (intRange 0 1 m).map (fun y => PV.int (valOf (cel l (2 + (pvInt y).toNat)))) = (valsI l m).map .int := by
    simp [intRange, valsI, pvInt]
  simp only [h4, mkLst, List.nil_append]
  rw [if_pos (by rw [lim_eq]; simp [valsI]; omega)]
  simp

theorem small_vals (l : List Int) {m : Nat} (hm : m ≤ 4) : Small ((valsI l m).map .int) := by
  refine ⟨by simpa [valsI] using hm, fun v hv => .inr ?_⟩
  obtain ⟨x, hx, rfl⟩ := List.mem_map.mp hv
  simp only [valsI, List.mem_map] at hx
  obtain ⟨i, _, rfl⟩ := hx
  exact ⟨_, rfl, valOf_range _⟩
theorem simple_ints (l : List Int) : (l.map PV.int).all simple = true := by
  rw [List.all_eq_true]
  intro v hv
  obtain ⟨x, _, rfl⟩ := List.mem_map.mp hv
  rfl
theorem valsI_cons (l : List Int) {m : Nat} (hm : 1 ≤ m) : ∃ x r, valsI l m = x :: r := by
  cases hq : valsI l m with
  | nil => have : (valsI l m).length = 0 := by rw [hq]; rfl
           simp [valsI] at this; omega
  | cons x r => exact ⟨x, r, rfl⟩
end
end Mine

namespace Mine
open PySem

section
variable {l : List Int} {σ : Sto}
noncomputable abbrev scr (l : List Int) : Option PV := some (.fl (l.map .int))

theorem t1 {w : Str} : ex (C01 7) 10 f01_9_s1 (L0 (scr l) (some (.str w)) none none none none none none none none none none none) σ =
    .next (L0 (scr l) (some (.str w)) (some (.tup [.str w])) none none none none none none none none none none) σ := by
  simp [f01_9_s1, L0, ex, ev_k, ev_v, valAt, ev_and, ev_or, ev_not, ev_neg, ev_bin, ev_cmp, ev_cmp2, ev_ife, ev_lst, ev_tup, ev_fdget, ev_call, ev_b1, ev_isinst, ev_me, ev_sub, evs_nil, evs_cons, Out.toS, Out.bind, lim_eq]
theorem t2n {w : Str} (hw : (w == ("fixed" : Str)) = false) : ex (C01 7) 10 f01_9_s2 (L0 (scr l) (some (.str w)) (some (.tup [.str w])) none none none none none none none none none none) σ =
    .next (L0 (scr l) (some (.str w)) (some (.tup [.str w])) none none none none none none none none none none) σ := by
  simp [f01_9_s2, L0, ex, ev_k, ev_v, valAt, ev_and, ev_or, ev_not, ev_neg, ev_bin, ev_cmp, ev_cmp2, ev_ife, ev_lst, ev_tup, ev_fdget, ev_call, ev_b1, ev_isinst, ev_me, ev_sub, evs_nil, evs_cons, tst_and, tst_or, tst_not, tst_cmp, tst_cmp2, tst_ife, tst_call, tst_b1, tst_isinst, tst_v, tst_k, Out.toS, Out.bind, lim_eq, cmpop, ordv, isv, isNoneV, str_eqv, hw, Out.ofOpt]
theorem t2f (hl : l.length ≤ 63) : ex (C01 7) 10 f01_9_s2 (L0 (scr l) (some (.str "fixed")) (some (.tup [.str "fixed"])) none none none none none none none none none none) σ =
    .next (L0 (scr l) (some (.str "fixed")) (some (.tup [.str "fixed", .int (valOf (cel l 1))])) none none none none none none none none none none) σ := by
  simp [f01_9_s2, L0, ex, ev_k, ev_v, valAt, ev_and, ev_or, ev_not, ev_neg, ev_bin, ev_cmp, ev_cmp2, ev_ife, ev_lst, ev_tup, ev_fdget, ev_call, ev_b1, ev_isinst, ev_me, ev_sub, evs_nil, evs_cons, tst_and, tst_or, tst_not, tst_cmp, tst_cmp2, tst_ife, tst_call, tst_b1, tst_isinst, tst_v, tst_k, Out.toS, Out.bind, lim_eq, cmpop, ordv, isv, isNoneV, str_eqv, Out.ofOpt, C01_call, h51 hl, h6]

noncomputable def manyOf (w : Str) (c : Int) : Nat := if w == "later" then 1 else if w == "way" then 2 else if w == "choose" then 3 else (1 + c / 8 % 4).toNat
noncomputable def givesOf (w : Str) (c : Int) : Nat := if w == "way" then 2 else (1 + c / 32 % 3).toNat
theorem manyOf_le (w : Str) (c : Int) : 1 ≤ manyOf w c ∧ manyOf w c ≤ 4 := by
  unfold manyOf
  repeat' split
  all_goals omega
theorem givesOf_le (w : Str) (c : Int) : givesOf w c ≤ 100 := by
  unfold givesOf
  split <;> omega

theorem t3 (hl : l.length ≤ 63) {w : Str} {r : Option PV} : ex (C01 7) 10 f01_9_s3 (L0 (scr l) (some (.str w)) r none none none none none none none none none none) σ =
    .next (L0 (scr l) (some (.str w)) r (some (.int (manyOf w (cel l 0)))) none none none none none none none none none) σ := by
  have e1 : (cel l 0).fdiv 8 = cel l 0 / 8 := fdN _ _ (by decide)
  have e2 : (cel l 0 / 8).fmod 4 = cel l 0 / 8 % 4 := fmN _ _ (by decide)
  have e3 : (((1 + cel l 0 / 8 % 4).toNat : Nat) : Int) = 1 + cel l 0 / 8 % 4 := by omega
  by_cases h1 : w = "later"
  · subst h1; simp [f01_9_s3, L0, ex, ev_k, ev_v, valAt, ev_and, ev_or, ev_not, ev_neg, ev_bin, ev_cmp, ev_cmp2, ev_ife, ev_lst, ev_tup, ev_fdget, ev_call, ev_b1, ev_isinst, ev_me, ev_sub, evs_nil, evs_cons, Out.toS, Out.bind, C01_call, h50 hl, binop, addv, mulv, arith, e1, e2, fdgetv, sget, manyOf, word_eq]
  · by_cases h2 : w = "way"
    · subst h2; simp [f01_9_s3, L0, ex, ev_k, ev_v, valAt, ev_and, ev_or, ev_not, ev_neg, ev_bin, ev_cmp, ev_cmp2, ev_ife, ev_lst, ev_tup, ev_fdget, ev_call, ev_b1, ev_isinst, ev_me, ev_sub, evs_nil, evs_cons, Out.toS, Out.bind, C01_call, h50 hl, binop, addv, mulv, arith, e1, e2, fdgetv, sget, manyOf, word_eq]
    · by_cases h3 : w = "choose"
      · subst h3; simp [f01_9_s3, L0, ex, ev_k, ev_v, valAt, ev_and, ev_or, ev_not, ev_neg, ev_bin, ev_cmp, ev_cmp2, ev_ife, ev_lst, ev_tup, ev_fdget, ev_call, ev_b1, ev_isinst, ev_me, ev_sub, evs_nil, evs_cons, Out.toS, Out.bind, C01_call, h50 hl, binop, addv, mulv, arith, e1, e2, fdgetv, sget, manyOf, word_eq]
      · simp [f01_9_s3, L0, ex, ev_k, ev_v, valAt, ev_and, ev_or, ev_not, ev_neg, ev_bin, ev_cmp, ev_cmp2, ev_ife, ev_lst, ev_tup, ev_fdget, ev_call, ev_b1, ev_isinst, ev_me, ev_sub, evs_nil, evs_cons, Out.toS, Out.bind, C01_call, h50 hl, binop, addv, mulv, arith, e1, e2, fdgetv, sget, manyOf, word_eq, h1, h2, h3, Ne.symm h1, Ne.symm h2, Ne.symm h3]
        omega

theorem t4 (hl : l.length ≤ 63) {w : Str} {r m : Option PV} : ex (C01 7) 10 f01_9_s4 (L0 (scr l) (some (.str w)) r m none none none none none none none none none) σ =
    .next (L0 (scr l) (some (.str w)) r m (some (.int (givesOf w (cel l 0)))) none none none none none none none none) σ := by
  have e1 : (cel l 0).fdiv 32 = cel l 0 / 32 := fdN _ _ (by decide)
  have e2 : (cel l 0 / 32).fmod 3 = cel l 0 / 32 % 3 := fmN _ _ (by decide)
  by_cases h2 : w = "way"
  · subst h2; simp [f01_9_s4, L0, ex, ev_k, ev_v, valAt, ev_and, ev_or, ev_not, ev_neg, ev_bin, ev_cmp, ev_cmp2, ev_ife, ev_lst, ev_tup, ev_fdget, ev_call, ev_b1, ev_isinst, ev_me, ev_sub, evs_nil, evs_cons, Out.toS, Out.bind, C01_call, h50 hl, binop, addv, mulv, arith, e1, e2, fdgetv, sget, givesOf, word_eq]
  · simp [f01_9_s4, L0, ex, ev_k, ev_v, valAt, ev_and, ev_or, ev_not, ev_neg, ev_bin, ev_cmp, ev_cmp2, ev_ife, ev_lst, ev_tup, ev_fdget, ev_call, ev_b1, ev_isinst, ev_me, ev_sub, evs_nil, evs_cons, Out.toS, Out.bind, C01_call, h50 hl, binop, addv, mulv, arith, e1, e2, fdgetv, sget, givesOf, word_eq, h2, Ne.symm h2]
    omega

theorem t5 (hl : l.length ≤ 63) {w r g : Option PV} {m : Nat} (hm : m ≤ 4) : ex (C01 7) 10 f01_9_s5 (L0 (scr l) w r (some (.int (m : Int))) g none none none none none none none none) [] =
    .next (L0 (scr l) w r (some (.int (m : Int))) g (some (.ref 0)) none none none none none none none) [.lst ((valsI l m).map .int)] := by
  have e := comp_vals (σ := []) hl (ρ := L0 (scr l) w r (some (.int (m : Int))) g none none none none none none none none) hm (by simp [L0]) (by simp [L0])
  simp only [f01_9_s5, ex, e, Out.toS]
  simp [L0]

theorem t6n {w : Str} {r m g v : Option PV} (hw : (w == ("choose" : Str)) = false) : ex (C01 7) 10 f01_9_s6 (L0 (scr l) (some (.str w)) r m g v none none none none none none none) σ =
    .next (L0 (scr l) (some (.str w)) r m g v none none none none none none none) σ := by
  simp [f01_9_s6, L0, ex, ev_k, ev_v, valAt, ev_and, ev_or, ev_not, ev_neg, ev_bin, ev_cmp, ev_cmp2, ev_ife, ev_lst, ev_tup, ev_fdget, ev_call, ev_b1, ev_isinst, ev_me, ev_sub, evs_nil, evs_cons, tst_and, tst_or, tst_not, tst_cmp, tst_cmp2, tst_ife, tst_call, tst_b1, tst_isinst, tst_v, tst_k, tstAnd_nil, tstAnd_cons, Out.toS, Out.bind, lim_eq, cmpop, ordv, isv, isNoneV, str_eqv, hw, Out.ofOpt]
theorem t6c (hl : l.length ≤ 63) {r m g : Option PV} {a b c : Int} : ∃ y z, ex (C01 7) 10 f01_9_s6 (L0 (scr l) (some (.str "choose")) r m g (some (.ref 0)) none none none none none none none) [.lst [.int a, .int b, .int c]] =
    .next (L0 (scr l) (some (.str "choose")) r m g (some (.ref 0)) none none none none none none none) [.lst [.int a, y, z]] ∧ (y = .int b ∨ y = .none) ∧ (z = .int c ∨ z = .none) := by
  have e1 : (cel l 1).fmod 2 = cel l 1 % 2 := fmN _ _ (by decide)
  by_cases h1 : cel l 1 % 2 = 1
  · by_cases ha : a = 0
    · refine ⟨.int b, .none, ?_, .inl rfl, .inr rfl⟩
      simp [f01_9_s6, L0, ex, ev_k, ev_v, valAt, ev_and, ev_or, ev_not, ev_neg, ev_bin, ev_cmp, ev_cmp2, ev_ife, ev_lst, ev_tup, ev_fdget, ev_call, ev_b1, ev_isinst, ev_me, ev_sub, evs_nil, evs_cons, tst_and, tst_or, tst_not, tst_cmp, tst_cmp2, tst_ife, tst_call, tst_b1, tst_isinst, tst_v, tst_k, tstAnd_nil, tstAnd_cons, Out.toS, Out.bind, lim_eq, cmpop, ordv, isv, isNoneV, str_eqv, int_eqv, Out.ofOpt, C01_call, h51 hl, binop, addv, mulv, arith, e1, h1, subv, itemAt, asLst, seqIdx, ha, b1_int, storeSub]
    · refine ⟨.none, .int c, ?_, .inr rfl, .inl rfl⟩
      simp [f01_9_s6, L0, ex, ev_k, ev_v, valAt, ev_and, ev_or, ev_not, ev_neg, ev_bin, ev_cmp, ev_cmp2, ev_ife, ev_lst, ev_tup, ev_fdget, ev_call, ev_b1, ev_isinst, ev_me, ev_sub, evs_nil, evs_cons, tst_and, tst_or, tst_not, tst_cmp, tst_cmp2, tst_ife, tst_call, tst_b1, tst_isinst, tst_v, tst_k, tstAnd_nil, tstAnd_cons, Out.toS, Out.bind, lim_eq, cmpop, ordv, isv, isNoneV, str_eqv, int_eqv, Out.ofOpt, C01_call, h51 hl, binop, addv, mulv, arith, e1, h1, subv, itemAt, asLst, seqIdx, ha, b1_int, storeSub]
  · refine ⟨.int b, .int c, ?_, .inl rfl, .inl rfl⟩
    simp [f01_9_s6, L0, ex, ev_k, ev_v, valAt, ev_and, ev_or, ev_not, ev_neg, ev_bin, ev_cmp, ev_cmp2, ev_ife, ev_lst, ev_tup, ev_fdget, ev_call, ev_b1, ev_isinst, ev_me, ev_sub, evs_nil, evs_cons, tst_and, tst_or, tst_not, tst_cmp, tst_cmp2, tst_ife, tst_call, tst_b1, tst_isinst, tst_v, tst_k, tstAnd_nil, tstAnd_cons, Out.toS, Out.bind, lim_eq, cmpop, ordv, isv, isNoneV, str_eqv, int_eqv, Out.ofOpt, C01_call, h51 hl, binop, addv, mulv, arith, e1, h1]

/-- up to the values -/
theorem front (hl : l.length ≤ 63) : ∃ w rule m g vs out, (∀ rest, ex (C01 7) 10 (.cons f01_9_s0 (.cons f01_9_s1 (.cons f01_9_s2 (.cons f01_9_s3 (.cons f01_9_s4 (.cons f01_9_s5 (.cons f01_9_s6 rest)))))))
      (L0 (scr l) none none none none none none none none none none none none) [] = ex (C01 7) 10 rest (L0 (scr l) w (some rule) m (some (.int ((g : Nat) : Int))) (some (.ref 0)) none none none none none none none) [.lst vs]) ∧
    Cs rule vs g out ∧ Small vs ∧ vs.all simple = true ∧ g ≤ 100 := by
  have plain : ∀ (k : Nat) (w : Str), cel l 0 % 8 = (k : Int) → words[k]? = some w → (w == ("fixed" : Str)) = false → (w == ("choose" : Str)) = false → ∀ rest,
      ex (C01 7) 10 (.cons f01_9_s0 (.cons f01_9_s1 (.cons f01_9_s2 (.cons f01_9_s3 (.cons f01_9_s4 (.cons f01_9_s5 (.cons f01_9_s6 rest))))))) (L0 (scr l) none none none none none none none none none none none none) [] =
        ex (C01 7) 10 rest (L0 (scr l) (some (.str w)) (some (.tup [.str w])) (some (.int (manyOf w (cel l 0)))) (some (.int (givesOf w (cel l 0)))) (some (.ref 0)) none none none none none none none) [.lst ((valsI l (manyOf w (cel l 0))).map .int)] := by
    intro k w hk hw h1 h2 rest
    rw [ex_next (t0 hl hk hw), ex_next t1, ex_next (t2n h1), ex_next (t3 hl), ex_next (t4 hl), ex_next (t5 hl (manyOf_le w _).2), ex_next (t6n h2)]
  have hk : cel l 0 % 8 = 0 ∨ cel l 0 % 8 = 1 ∨ cel l 0 % 8 = 2 ∨ cel l 0 % 8 = 3 ∨ cel l 0 % 8 = 4 ∨ cel l 0 % 8 = 5 ∨ cel l 0 % 8 = 6 ∨ cel l 0 % 8 = 7 := by omega
  have M := fun w => manyOf_le w (cel l 0)
  rcases hk with hk | hk | hk | hk | hk | hk | hk | hk
  · obtain ⟨x, r, hv⟩ := valsI_cons l (M "sum").1
    exact ⟨_, _, _, _, _, _, plain 0 "sum" hk rfl (by simp [word_eq]) (by simp [word_eq]), .sum _ _ (by rw [hv]; simp), small_vals l (M "sum").2, simple_ints _, givesOf_le _ _⟩
  · obtain ⟨x, r, hv⟩ := valsI_cons l (M "times").1
    exact ⟨_, _, _, _, _, _, plain 1 "times" hk rfl (by simp [word_eq]) (by simp [word_eq]), .times _ _ (by rw [hv]; simp), small_vals l (M "times").2, simple_ints _, givesOf_le _ _⟩
  · obtain ⟨x, r, hv⟩ := valsI_cons l (M "least").1
    have p := plain 2 "least" hk rfl (by simp [word_eq]) (by simp [word_eq])
    have sm := small_vals l (M "least").2
    rw [hv] at p sm
    exact ⟨_, _, _, _, _, _, p, .least x r _, sm, simple_ints _, givesOf_le _ _⟩
  · obtain ⟨x, r, hv⟩ := valsI_cons l (M "most").1
    have p := plain 3 "most" hk rfl (by simp [word_eq]) (by simp [word_eq])
    have sm := small_vals l (M "most").2
    rw [hv] at p sm
    exact ⟨_, _, _, _, _, _, p, .most x r _, sm, simple_ints _, givesOf_le _ _⟩
  · obtain ⟨x, r, hv⟩ := valsI_cons l (M "fixed").1
    have sm := small_vals l (M "fixed").2
    refine ⟨some (.str "fixed"), .tup [.str "fixed", .int (valOf (cel l 1))], some (.int (manyOf "fixed" (cel l 0))), givesOf "fixed" (cel l 0), (valsI l (manyOf "fixed" (cel l 0))).map .int, List.replicate (givesOf "fixed" (cel l 0)) (.int (valOf (cel l 1))), fun rest => ?_, ?_, sm, simple_ints _, givesOf_le _ _⟩
    · rw [ex_next (t0 (k := 4) (w := "fixed") hl hk rfl), ex_next t1, ex_next (t2f hl), ex_next (t3 hl), ex_next (t4 hl), ex_next (t5 hl (M "fixed").2), ex_next (t6n (by simp [word_eq]))]
    · rw [hv]; exact .fixed _ x r _
  · have p := plain 5 "later" hk rfl (by simp [word_eq]) (by simp [word_eq])
    have sm := small_vals l (M "later").2
    have hm : manyOf "later" (cel l 0) = 1 := by simp [manyOf]
    rw [hm] at p sm
    exact ⟨_, _, _, _, _, _, p, .later (valOf (cel l 2)) _, sm, simple_ints _, givesOf_le _ _⟩
  · have p := plain 6 "way" hk rfl (by simp [word_eq]) (by simp [word_eq])
    have sm := small_vals l (M "way").2
    have hm : manyOf "way" (cel l 0) = 2 := by simp [manyOf, word_eq]
    have hg : givesOf "way" (cel l 0) = 2 := by simp [givesOf]
    rw [hm] at p sm
    rw [hg] at p
    exact ⟨_, _, _, _, _, _, p, .way (valOf (cel l 2)) (valOf (cel l 3)), sm, simple_ints _, by decide⟩
  · have hm : manyOf "choose" (cel l 0) = 3 := by simp [manyOf, word_eq]
    obtain ⟨y, z, h6, hy, hz⟩ := t6c (l := l) hl (r := some (.tup [.str "choose"])) (m := some (.int ((3 : Nat) : Int))) (g := some (.int (givesOf "choose" (cel l 0)))) (a := valOf (cel l 2)) (b := valOf (cel l 3)) (c := valOf (cel l 4))
    have b2 := valOf_range (cel l 2)
    have b3 := valOf_range (cel l 3)
    have b4 := valOf_range (cel l 4)
    refine ⟨some (.str "choose"), .tup [.str "choose"], some (.int ((3 : Nat) : Int)), givesOf "choose" (cel l 0), [.int (valOf (cel l 2)), y, z], _, fun rest => ?_, .choose _ y z _ ?_ ?_, ⟨by simp, ?_⟩, ?_, givesOf_le _ _⟩
    · rw [ex_next (t0 (k := 7) (w := "choose") hl hk rfl), ex_next t1, ex_next (t2n (by simp [word_eq])), ex_next (t3 hl), ex_next (t4 hl), hm, ex_next (t5 hl (m := 3) (by decide))]
      exact ex_next h6
    · rcases hy with rfl | rfl <;> rfl
    · rcases hz with rfl | rfl <;> rfl
    · intro v hv
      simp only [List.mem_cons, List.not_mem_nil, or_false] at hv
      rcases hv with rfl | rfl | rfl
      · exact .inr ⟨_, rfl, b2⟩
      · rcases hy with rfl | rfl
        · exact .inr ⟨_, rfl, b3⟩
        · exact .inl rfl
      · rcases hz with rfl | rfl
        · exact .inr ⟨_, rfl, b4⟩
        · exact .inl rfl
    · rcases hy with rfl | rfl <;> rcases hz with rfl | rfl <;> rfl
end
end Mine

namespace Mine
open PySem

section
variable {l : List Int} {σ : Sto}

theorem t7 {w m : Option PV} {rule : PV} {g : Nat} {vs out : List PV} (c : Cs rule vs g out) (sm : Small vs) (hg : g ≤ 100) : ex (C01 7) 10 f01_9_s7 (L0 (scr l) w (some rule) m (some (.int (g : Int))) (some (.ref 0)) none none none none none none none) [.lst vs] =
    .next (L0 (scr l) w (some rule) m (some (.int (g : Int))) (some (.ref 0)) (some (.fl out)) none none none none none none) [.lst vs] := by
  have e : callN P01 10 7 7 [rule, .ref 0, .int (g : Int)] [.lst vs] = .ok (.fl out) [.lst vs] := r7 c (Vals.ref (i := 0) rfl (by rw [lim_eq]; have := sm.1; omega)) sm hg
  simp [f01_9_s7, L0, ex, ev_k, ev_v, valAt, ev_and, ev_or, ev_not, ev_neg, ev_bin, ev_cmp, ev_cmp2, ev_ife, ev_lst, ev_tup, ev_fdget, ev_call, ev_b1, ev_isinst, ev_me, ev_sub, evs_nil, evs_cons, Out.toS, Out.bind, C01_call, e]

/-- the thing -/
theorem t89 (hl : l.length ≤ 63) {w r m g v due : Option PV} : ∃ p, thing p = true ∧ ∀ rest, ex (C01 7) 10 (.cons f01_9_s8 (.cons f01_9_s9 rest)) (L0 (scr l) w r m g v due none none none none none none) σ =
    ex (C01 7) 10 rest (L0 (scr l) w r m g v due (some p) none none none none none) σ := by
  have e1 : (cel l 6).fmod 10 = cel l 6 % 10 := fmN _ _ (by decide)
  have e2 : (cel l 6).fdiv 10 = cel l 6 / 10 := fdN _ _ (by decide)
  have e3 : (cel l 6 / 10).fmod 2 = cel l 6 / 10 % 2 := fmN _ _ (by decide)
  have hk : cel l 6 % 10 = 0 ∨ cel l 6 % 10 = 1 ∨ cel l 6 % 10 = 2 ∨ cel l 6 % 10 = 3 ∨ cel l 6 % 10 = 4 ∨ cel l 6 % 10 = 5 ∨ cel l 6 % 10 = 6 ∨ cel l 6 % 10 = 7 ∨ cel l 6 % 10 = 8 ∨ cel l 6 % 10 = 9 := by omega
  have h8 : ∃ p, thing p = true ∧ ex (C01 7) 10 f01_9_s8 (L0 (scr l) w r m g v due none none none none none none) σ = .next (L0 (scr l) w r m g v due (some p) none none none none none) σ := by
    rcases hk with h | h | h | h | h | h | h | h | h | h
    · exact ⟨.int 0, rfl, by simp [f01_9_s8, L0, ex, ev_k, ev_v, valAt, ev_and, ev_or, ev_not, ev_neg, ev_bin, ev_cmp, ev_cmp2, ev_ife, ev_lst, ev_tup, ev_fdget, ev_call, ev_b1, ev_isinst, ev_me, ev_sub, evs_nil, evs_cons, Out.toS, Out.bind, C01_call, h56 hl, binop, addv, mulv, arith, e1, h, sub_fl, seqIdx, Out.ofOpt, mkLst, lim_eq, negv]⟩
    · exact ⟨.int 999999, rfl, by simp [f01_9_s8, L0, ex, ev_k, ev_v, valAt, ev_and, ev_or, ev_not, ev_neg, ev_bin, ev_cmp, ev_cmp2, ev_ife, ev_lst, ev_tup, ev_fdget, ev_call, ev_b1, ev_isinst, ev_me, ev_sub, evs_nil, evs_cons, Out.toS, Out.bind, C01_call, h56 hl, binop, addv, mulv, arith, e1, h, sub_fl, seqIdx, Out.ofOpt, mkLst, lim_eq, negv]⟩
    · exact ⟨.int 1000000, rfl, by simp [f01_9_s8, L0, ex, ev_k, ev_v, valAt, ev_and, ev_or, ev_not, ev_neg, ev_bin, ev_cmp, ev_cmp2, ev_ife, ev_lst, ev_tup, ev_fdget, ev_call, ev_b1, ev_isinst, ev_me, ev_sub, evs_nil, evs_cons, Out.toS, Out.bind, C01_call, h56 hl, binop, addv, mulv, arith, e1, h, sub_fl, seqIdx, Out.ofOpt, mkLst, lim_eq, negv]⟩
    · exact ⟨.int (-1), rfl, by simp [f01_9_s8, L0, ex, ev_k, ev_v, valAt, ev_and, ev_or, ev_not, ev_neg, ev_bin, ev_cmp, ev_cmp2, ev_ife, ev_lst, ev_tup, ev_fdget, ev_call, ev_b1, ev_isinst, ev_me, ev_sub, evs_nil, evs_cons, Out.toS, Out.bind, C01_call, h56 hl, binop, addv, mulv, arith, e1, h, sub_fl, seqIdx, Out.ofOpt, mkLst, lim_eq, negv]⟩
    · exact ⟨.bool true, rfl, by simp [f01_9_s8, L0, ex, ev_k, ev_v, valAt, ev_and, ev_or, ev_not, ev_neg, ev_bin, ev_cmp, ev_cmp2, ev_ife, ev_lst, ev_tup, ev_fdget, ev_call, ev_b1, ev_isinst, ev_me, ev_sub, evs_nil, evs_cons, Out.toS, Out.bind, C01_call, h56 hl, binop, addv, mulv, arith, e1, h, sub_fl, seqIdx, Out.ofOpt, mkLst, lim_eq, negv]⟩
    · exact ⟨.bool false, rfl, by simp [f01_9_s8, L0, ex, ev_k, ev_v, valAt, ev_and, ev_or, ev_not, ev_neg, ev_bin, ev_cmp, ev_cmp2, ev_ife, ev_lst, ev_tup, ev_fdget, ev_call, ev_b1, ev_isinst, ev_me, ev_sub, evs_nil, evs_cons, Out.toS, Out.bind, C01_call, h56 hl, binop, addv, mulv, arith, e1, h, sub_fl, seqIdx, Out.ofOpt, mkLst, lim_eq, negv]⟩
    · exact ⟨.none, rfl, by simp [f01_9_s8, L0, ex, ev_k, ev_v, valAt, ev_and, ev_or, ev_not, ev_neg, ev_bin, ev_cmp, ev_cmp2, ev_ife, ev_lst, ev_tup, ev_fdget, ev_call, ev_b1, ev_isinst, ev_me, ev_sub, evs_nil, evs_cons, Out.toS, Out.bind, C01_call, h56 hl, binop, addv, mulv, arith, e1, h, sub_fl, seqIdx, Out.ofOpt, mkLst, lim_eq, negv]⟩
    · exact ⟨.str "7", rfl, by simp [f01_9_s8, L0, ex, ev_k, ev_v, valAt, ev_and, ev_or, ev_not, ev_neg, ev_bin, ev_cmp, ev_cmp2, ev_ife, ev_lst, ev_tup, ev_fdget, ev_call, ev_b1, ev_isinst, ev_me, ev_sub, evs_nil, evs_cons, Out.toS, Out.bind, C01_call, h56 hl, binop, addv, mulv, arith, e1, h, sub_fl, seqIdx, Out.ofOpt, mkLst, lim_eq, negv]⟩
    · exact ⟨.int ((10 : Int) ^ (Int.toNat 30)), rfl, by simp [f01_9_s8, L0, ex, ev_k, ev_v, valAt, ev_and, ev_or, ev_not, ev_neg, ev_bin, ev_cmp, ev_cmp2, ev_ife, ev_lst, ev_tup, ev_fdget, ev_call, ev_b1, ev_isinst, ev_me, ev_sub, evs_nil, evs_cons, Out.toS, Out.bind, C01_call, h56 hl, binop, addv, mulv, arith, e1, h, sub_fl, seqIdx, Out.ofOpt, mkLst, lim_eq, negv]⟩
    · exact ⟨.int 5, rfl, by simp [f01_9_s8, L0, ex, ev_k, ev_v, valAt, ev_and, ev_or, ev_not, ev_neg, ev_bin, ev_cmp, ev_cmp2, ev_ife, ev_lst, ev_tup, ev_fdget, ev_call, ev_b1, ev_isinst, ev_me, ev_sub, evs_nil, evs_cons, Out.toS, Out.bind, C01_call, h56 hl, binop, addv, mulv, arith, e1, h, sub_fl, seqIdx, Out.ofOpt, mkLst, lim_eq, negv]⟩
  obtain ⟨p, hp, h8⟩ := h8
  by_cases h : cel l 6 / 10 % 2 = 1
  · refine ⟨.int (cel l 6), rfl, fun rest => ?_⟩
    rw [ex_next h8]
    refine ex_next ?_
    simp [f01_9_s9, L0, ex, ev_k, ev_v, valAt, ev_and, ev_or, ev_not, ev_neg, ev_bin, ev_cmp, ev_cmp2, ev_ife, ev_lst, ev_tup, ev_fdget, ev_call, ev_b1, ev_isinst, ev_me, ev_sub, evs_nil, evs_cons, tst_and, tst_or, tst_not, tst_cmp, tst_cmp2, tst_ife, tst_call, tst_b1, tst_isinst, tst_v, tst_k, Out.toS, Out.bind, C01_call, h56 hl, binop, addv, mulv, arith, e2, e3, h, cmpop, ordv, isv, isNoneV, int_eqv, Out.ofOpt]
  · refine ⟨p, hp, fun rest => ?_⟩
    rw [ex_next h8]
    refine ex_next ?_
    simp [f01_9_s9, L0, ex, ev_k, ev_v, valAt, ev_and, ev_or, ev_not, ev_neg, ev_bin, ev_cmp, ev_cmp2, ev_ife, ev_lst, ev_tup, ev_fdget, ev_call, ev_b1, ev_isinst, ev_me, ev_sub, evs_nil, evs_cons, tst_and, tst_or, tst_not, tst_cmp, tst_cmp2, tst_ife, tst_call, tst_b1, tst_isinst, tst_v, tst_k, Out.toS, Out.bind, C01_call, h56 hl, binop, addv, mulv, arith, e2, e3, h, cmpop, ordv, isv, isNoneV, int_eqv, Out.ofOpt]

theorem t10 {w r m g v due : Option PV} {p : PV} (hp : thing p = true) : ex (C01 7) 10 f01_9_s10 (L0 (scr l) w r m g v due (some p) none none none none none) σ = .next (L0 (scr l) w r m g v due (some p) (some (.bool (numOf p))) none none none none) σ := by
  have e := number (C := C01 7) (ρ := L0 (scr l) w r m g v due (some p) none none none none none) (σ := σ) (p := p) (by simp [L0]) hp
  unfold f01_9_s10
  rw [ex, e]
  simp [L0, Out.toS]

theorem list_v {u : PV} {xs : List PV} (h : Vals σ u xs) : b1v (.list true) u σ = .ok (.fl xs) σ := by
  simp [b1v, onSeq, onAll, lenv, intv, strv, h.seq, mkLst, h.small]

/-- one turn of the loop -/
theorem turn {w m : Option PV} {rule p : PV} {g : Nat} {vs out held : List PV} {a10 a11 a12 : Option PV} (c : Cs rule vs g out) (sm : Small vs) (hs : vs.all simple = true) (hg : g ≤ 100) (hp : thing p = true) (hh : held.length < 10) :
    ex (C01 7) 10 f01_9_b0 (L0 (scr l) w (some rule) m (some (.int (g : Int))) (some (.ref 0)) (some (.fl out)) (some p) (some (.bool (numOf p))) (some (.ref 1)) a10 a11 a12) [.lst vs, .lst held] =
      .next (L0 (scr l) w (some rule) m (some (.int (g : Int))) (some (.ref 0)) (some (.fl out)) (some p) (some (.bool (numOf p))) (some (.ref 1)) a10 (some (.fl vs)) (some (.bool (numOf p)))) [.lst vs, .lst (held ++ [.tup [.fl out, .fl out]])] := by
  have hvl : vs.length ≤ lim := by rw [lim_eq]; have := sm.1; omega
  have hol : out.length ≤ lim := by
    rw [lim_eq]
    cases c <;> first | (simp; omega) | (split <;> simp)
  have V : ∀ {σ : Sto}, Vals σ (.fl vs) vs := Vals.fl hvl
  have b1 : b1v (.list true) (.ref 0) [.lst vs, .lst held] = .ok (.fl vs) [.lst vs, .lst held] := list_v (Vals.ref (i := 0) rfl hvl)
  have b2 : b1v (.list true) (.fl out) [.lst vs, .lst held] = .ok (.fl out) [.lst vs, .lst held] := list_v (Vals.fl hol)
  have c4 : callN P01 10 7 4 [rule, .fl vs, .int (g : Int)] [.lst vs, .lst held] = .ok (.fl out) [.lst vs, .lst held] := r4 c V sm hg
  have c8 : callN P01 10 7 8 [.fl out, .fl out] [.lst vs, .lst held] = .ok (.bool true) [.lst vs, .lst held] := r8 c.simple
  have n1 : cmpop .ne (.fl vs) (.ref 0) [.lst vs, .lst held] = .ok false [.lst vs, .lst held] := ne_lists hs rfl rfl
  have c0 : ∀ {σ : Sto}, callN P01 10 7 0 [p] σ = .ok (.bool (numOf p)) σ := r0 hp
  have c4' : ∀ {σ : Sto}, callN P01 10 7 4 [.tup [.str "fixed", .int 3], .fl [.int 1], .int 2] σ = .ok (.fl [.int 3, .int 3]) σ := fun {σ} =>
    r4 (Cs.fixed 3 1 [] 2) (Vals.fl (by rw [lim_eq]; simp)) ⟨by simp, fun v hv => by simp at hv; subst hv; exact .inr ⟨1, rfl, by decide⟩⟩ (by decide)
  have n2 : ∀ {σ : Sto}, cmpop .ne (.fl [.int 3, .int 3]) (.fl [.int 3, .int 3]) σ = .ok false σ := fun {σ} => ne_lists rfl rfl rfl
  have n3 : ∀ {σ : Sto} (b : Bool), cmpop .ne (.bool b) (.bool b) σ = .ok false σ := fun {σ} b => by simp [cmpop, ordv, isv, isNoneV, eqv, toD, PyData.eqv, Out.ofOpt]
  have hh' : held.length < lim := by rw [lim_eq]; omega
  simp [f01_9_b0, L0, ex, ev_k, ev_v, valAt, ev_and, ev_or, ev_not, ev_neg, ev_bin, ev_cmp, ev_cmp2, ev_ife, ev_lst, ev_tup, ev_fdget, ev_call, ev_b1, ev_isinst, ev_me, ev_sub, evs_nil, evs_cons, tst_and, tst_or, tst_not, tst_cmp, tst_cmp2, tst_ife, tst_call, tst_b1, tst_isinst, tst_v, tst_k, tstOr_nil, tstOr_cons, Out.toS, Out.bind, C01_call, b1, b2, c4, c8, n1, c0, c4', n2, n3, meOk, isMut, mev, appendv, hh', isinstv, asLst, truthv, mkLst, lim_eq]
  rw [lim_eq] at hh'
  simp [hh', c0, c4', n2, n3, isinstv, asLst, truthv]

theorem run01 (hl : l.length ≤ 63) : ∃ σ, callN P01 10 8 9 [.fl (l.map .int)] [] = .ok (.bool true) σ := by
  obtain ⟨w, rule, m, g, vs, out, hf, c, sm, hs, hg⟩ := front (l := l) hl
  have hL : (([.fl (l.map .int)] : List PV).map some ++ List.replicate (f01_9.slots - f01_9.params) none) = L0 (scr l) none none none none none none none none none none none none := rfl
  rw [callN_eq (d := 7) (fn := f01_9) rfl rfl, hL]
  unfold f01_9
  dsimp only
  rw [hf, ex_next (t7 c sm hg)]
  obtain ⟨p, hp, h89⟩ := t89 (l := l) (σ := [.lst vs]) hl (w := w) (r := some rule) (m := m) (g := some (.int (g : Int))) (v := some (.ref 0)) (due := some (.fl out))
  rw [h89, ex_next (t10 hp)]
  have h11 : ex (C01 7) 10 f01_9_s11 (L0 (scr l) w (some rule) m (some (.int (g : Int))) (some (.ref 0)) (some (.fl out)) (some p) (some (.bool (numOf p))) none none none none) [.lst vs] =
      .next (L0 (scr l) w (some rule) m (some (.int (g : Int))) (some (.ref 0)) (some (.fl out)) (some p) (some (.bool (numOf p))) (some (.ref 1)) none none none) [.lst vs, .lst []] := by
    simp [f01_9_s11, L0, ex, ev_k, ev_v, valAt, ev_and, ev_or, ev_not, ev_neg, ev_bin, ev_cmp, ev_cmp2, ev_ife, ev_lst, ev_tup, ev_fdget, ev_call, ev_b1, ev_isinst, ev_me, ev_sub, evs_nil, evs_cons, Out.toS, Out.bind, mkLst, lim_eq]
  rw [ex_next h11]
  have h12 : ex (C01 7) 10 f01_9_s12 (L0 (scr l) w (some rule) m (some (.int (g : Int))) (some (.ref 0)) (some (.fl out)) (some p) (some (.bool (numOf p))) (some (.ref 1)) none none none) [.lst vs, .lst []] =
      .next (L0 (scr l) w (some rule) m (some (.int (g : Int))) (some (.ref 0)) (some (.fl out)) (some p) (some (.bool (numOf p))) (some (.ref 1)) (some (.int 1)) (some (.fl vs)) (some (.bool (numOf p)))) [.lst vs, .lst [.tup [.fl out, .fl out], .tup [.fl out, .fl out]]] := by
    have u1 := turn (l := l) (w := w) (m := m) (a10 := some (.int 0)) (a11 := none) (a12 := none) (held := []) c sm hs hg hp (by simp)
    have u2 := turn (l := l) (w := w) (m := m) (a10 := some (.int 1)) (a11 := some (.fl vs)) (a12 := some (.bool (numOf p))) (held := [.tup [.fl out, .fl out]]) c sm hs hg hp (by simp)
    have hr : intRange 0 1 2 = [.int 0, .int 1] := rfl
    have hb : ∀ (q : PV) (x9 x10 x11 : Option PV), bind1 10 q (L0 (scr l) w (some rule) m (some (.int (g : Int))) (some (.ref 0)) (some (.fl out)) (some p) (some (.bool (numOf p))) (some (.ref 1)) x9 x10 x11) =
        some (L0 (scr l) w (some rule) m (some (.int (g : Int))) (some (.ref 0)) (some (.fl out)) (some p) (some (.bool (numOf p))) (some (.ref 1)) (some q) x10 x11) := fun q x9 x10 x11 => by simp [bind1, L0]
    have hi : evIt (C01 7) (.range1 (.k (.int 2))) (L0 (scr l) w (some rule) m (some (.int (g : Int))) (some (.ref 0)) (some (.fl out)) (some p) (some (.bool (numOf p))) (some (.ref 1)) none none none) [.lst vs, .lst []] = .ok ([.int 0, .int 1], none) [.lst vs, .lst []] := by
      simp [evIt_range1, evIt_v, ev_k, ev_v, valAt, ev_and, ev_or, ev_not, ev_neg, ev_bin, ev_cmp, ev_cmp2, ev_ife, ev_lst, ev_tup, ev_fdget, ev_call, ev_b1, ev_isinst, ev_me, ev_sub, Out.bind, range1v, lim_eq, hr]
    unfold f01_9_s12
    rw [ex, hi]
    simp only [Out.toS, forGo, watchOk, if_true, hb, u1, List.nil_append, u2, List.cons_append]
    simp
  rw [ex_next h12]
  have hq : ∀ {σ : Sto}, cmpop .eq (.fl out) (.fl out) σ = .ok true σ := fun {σ} => eq_lists c.simple rfl rfl
  exact ⟨_, by simp [f01_9_s13, finS, L0, ex, ev_k, ev_v, valAt, ev_and, ev_or, ev_not, ev_neg, ev_bin, ev_cmp, ev_cmp2, ev_ife, ev_lst, ev_tup, ev_fdget, ev_call, ev_b1, ev_isinst, ev_me, ev_sub, evs_nil, evs_cons, evAnd_one, evAnd_cons, Out.toS, Out.bind, subv, itemAt, asLst, seqIdx, Out.ofOpt, lim_eq, hq, truthv]; rfl⟩
end
end Mine

namespace Mine
open PySem PySem.W PyProof.Rows
set_option maxRecDepth 1000000 in
set_option maxHeartbeats 80000000 in
theorem left01 : LeftO PySem.Challenge.pw_uf020019_01 (viewOf PySem.Challenge.pw_uf020019_01) [] (fun s => xlAt (viewOf PySem.Challenge.pw_uf020019_01) [] s && recOk (RowW.records (OpenRow.toRowW PySem.Challenge.rw_uf020019_01.row)) s) (Hook.obs (topHook T01 40 30 P01.fns)) (Hook.val (topHook T01 40 30 P01.fns)) 880 := fun w => by kernel_rfl
end Mine
open PySem PySem.W PyProof.Rows
set_option maxRecDepth 100000 in
set_option maxHeartbeats 8000000 in
theorem PySem.Challenge.cw_uf020019_01_holds : PySem.Challenge.rw_uf020019_01.Holds := by
  w_on
  refine holds_law (by decide +kernel) fun said => ?_
  refine holds_open (q := Mine.viewOf PySem.Challenge.pw_uf020019_01) (loose := []) (Xt := fun s => xlAt (Mine.viewOf PySem.Challenge.pw_uf020019_01) [] s && recOk (RowW.records (OpenRow.toRowW PySem.Challenge.rw_uf020019_01.row)) s)
    (XP := XL (Mine.viewOf PySem.Challenge.pw_uf020019_01) []) (Yf := Hook.obs (Mine.topHook Mine.T01 40 30 Mine.P01.fns)) (Ya := Hook.val (Mine.topHook Mine.T01 40 30 Mine.P01.fns)) (YP := Hook.says (Mine.topHook Mine.T01 40 30 Mine.P01.fns)) (N := 880)
    Mine.left01 (Hook.of (Mine.topHook Mine.T01 40 30 Mine.P01.fns)) (Hook.keeps (Mine.topHook Mine.T01 40 30 Mine.P01.fns)) (fun s e => xl_of s (Bool.and_eq_true_iff.mp e).1) XL.keeps (by rfl) (by rfl) (by rfl) (fun s e => recFacts_of (Bool.and_eq_true_iff.mp e).2)
    (by rfl) (by first | assumption | decide +kernel) (by decide +kernel) ⟨rfl, rfl, rfl, rfl, rfl, by decide +kernel⟩ ?hw ?hc
  (case hw => w_witness2)
  intro w s₀ s₁ mg mb G Y fa o pm cd doc dV kV ho hd hcd hD hmg hg args vals as hpre hlay hrd hwl hlo
  obtain ⟨K, KX, k1, k2, k3⟩ := Mine.Says.ex Y
  refine Ground.open G ?_
  intro T B D TE TW
  clear hd hcd hD ho TE TW D B Y
  have hmg' : mg (PySem.Str.ofString "law") = some (.ref fa) := hmg
  clear hmg
  wrow_args hpre hlay hrd hwl hlo
  rename_i xs q1 q2 q3 q4 q5 q6 q7 a q8 q9 q10 q11 W q12 q13 q14 hc q15
  obtain ⟨σ, hrun⟩ := Mine.run01 (l := xs) (by omega)
  have p : Mine.PrgOk ⟨PySem.Challenge.rw_uf020019_01.row.prog, w, s₁.heap, mg, mb⟩ Mine.T01 Mine.P01 :=
    Mine.prgOk (n1 := 40) (n2 := 30) (topRead_of T) KX k1 k2 k3
  refine Mine.law_end p (f := 9) rfl hmg' (by decide) W hrun fun s' hk ho hg' => ?_
  refine GoodW.toG ⟨.inl ⟨_, _, [], rfl, fun cls => rfl, .bool true, ?_, fun _ => ⟨List.nodup_nil, fun a h => by simp at h⟩⟩, hk, ho, hg'.trans hg⟩
  first | rfl | wrow_post

