import PyProof.Rows.All
import Wide.All
import OpenK.AllK
import Wide.FinOn
import HandS.ForMost
import HandS.Wide
import HandS.TupAny
import HandS.IsInst
import HandS.Conv
import HandS.Deep
import HandS.ClsMeth
import PyProof.ListRange
import PyProof.WalksMore
import HandS.Exc
import HandS.Style
import HandS.Sort
import HandS.Small
import HandS.More
import HandS.ExcOwn
import HandS.ExcIs
import HandS.TryOnly
import HandS.WordsExc
import HandS.Lambda
import KE.GoesEnum
import HandS.Flt
import KE.KRevIter
import KE.GoesRev
import HandS.Zip
import HandS.Rev
import PyProof.CollectIter
import HandS.Nested
import HandS.SortInts
import HandS.SortKw
import KE.SortKeyHeap
import HandS.Defaults
import HandS.Lambda
import HandS.Iter
import KE.DataMinKey
import KE.SortData
import KE.DataMinMax
import HandS.ExcInit
import HandS.ExcField
import HandS.TryMany
import HandS.Text
import HandS.Strs
import PySem.Challenge.RW_oneroom_k62_papers_shown
set_option Elab.async false
set_option linter.all false
set_option maxRecDepth 100000
set_option maxHeartbeats 4000000
/-! DCore: a deep-data calculus over the hand layer. -/
namespace DL
open PySem L2

/-! ### functions that a running def makes -/
/-- a nested def, or a lambda -/
structure CF where
  at_ : Addr → Heap → Prop
  c : Addr
  qual : Str
  cl : List (Str × Addr)
  fn : ∀ (f : Addr) (h : Heap), at_ f h → ∃ (oc : Value) (od : Option Addr) (fd : FuncData) (sl : Array (Option Value)), h.get? f = some (⟨oc, od, .func fd, sl⟩ : Obj)
@[reducible] def CF.ob (F : CF) (f : Addr) : HO := .ext (F.at_ f)
theorem CF.ne {F : CF} {f : Addr} (ps : Array Value) : F.ob f ≠ .tbl ps := fun z => by cases z
/-- a nested def -/
@[reducible] def CF.n (F : NdefX.NF) : CF where
  at_ := fun f h => ∃ (od : Option Addr) (sl : Array (Option Value)) (doc pm ctv : Value), h.get? f = some (⟨.type "function", od, .func (F.fd doc pm ctv), sl⟩ : Obj)
  c := F.c
  qual := F.qual
  cl := F.cl
  fn := fun f h ⟨od, sl, doc, pm, ctv, e⟩ => ⟨_, od, _, sl, e⟩
/-- what it promises: ws what its captured cells hold at the call -/
structure COk (P : Program) (w : World) (K : PySem.W.Frag) (mg : Str → Option Value) (base : Heap) (CX : CXT) (k : Nat) (f : Addr) (F : CF) (ps fr : List Str) (sp : List (Option V) → Sp) : Prop where
  len : ∀ ws vs H Q E, sp ws vs H Q E → vs.length = ps.length
  run : ∀ (A : Around) (outer : List Env) (s : Shared) (H : Hp) (us : List Value) (vs : List V) (ws : List (Option V)) (Q : VK) (E : XK), Room k A → Env0 P w K mg base A outer s H → H f = some (F.ob f) → H F.c = some (LamX.CodeO F.c F.qual) →
    NdefX.CellsAt F.cl fr ws s.heap H → Vals vs us → sp ws vs H Q E → codeAny (model P w) A (.call (.ref f) ⟨us, []⟩) (CR CX outer P w H s Q E) s
theorem COk.of {P : Program} {w : World} {K : PySem.W.Frag} {mg : Str → Option Value} {base : Heap} {CX : CXT} {k : Nat} {f : Addr} {F : NdefX.NF} {ps fr : List Str} {sp : List (Option V) → Sp} (h : NdefX.NOk P w K mg base CX k f F ps fr sp) : COk P w K mg base CX k f (CF.n F) ps fr sp := ⟨h.len, h.run⟩
theorem COk.mono {P : Program} {w : World} {K : PySem.W.Frag} {mg : Str → Option Value} {base : Heap} {CX : CXT} {j k : Nat} {f : Addr} {F : CF} {ps fr : List Str} {sp : List (Option V) → Sp} (o : COk P w K mg base CX j f F ps fr sp) (h : j ≤ k) : COk P w K mg base CX k f F ps fr sp := ⟨o.len, fun A outer s H us vs ws Q E hr => o.run A outer s H us vs ws Q E (hr.mono h)⟩
theorem cfAt_of {X : Cx} {pins : List (Addr × Obj)} {σ : St} {H : Hp} {s : Shared} {f : Addr} {F : CF} (I : Inv X pins σ H s) (e : H f = some (F.ob f)) : PySem.W.FnAt f s.heap := by
  obtain ⟨z, _, _⟩ := I.hok f _ e
  obtain ⟨oc, od, fd, sl, ho⟩ := F.fn f _ z
  exact ⟨oc, od, fd, sl, ho⟩

/-! ### deep data -/
inductive D where
  | non
  | bl (b : Bool)
  | int (i : Int)
  | str (s : Str)
  | ty (n : String)
  | fn (a : Addr)
  | lst (xs : List D)
  | scr (xs : List D)
  | tup (xs : List D)
  | obj (C : Addr) (ns : List Str) (xs : List D)
  | clo (F : CF) (us : List V) (xs : List D)

def Ex (H H' : Hp) : Prop := ∀ a o, H a = some o → H' a = some o
theorem Ex.refl (H : Hp) : Ex H H := fun _ _ h => h
theorem Ex.trans {H H1 H2 : Hp} (a : Ex H H1) (b : Ex H1 H2) : Ex H H2 := fun x o h => b x o (a x o h)
theorem Ex.new {H : Hp} {p : Addr} {o : HO} (h : H p = none) : Ex H (upd H p o) := fun a u e => by
  rw [upd_ne (ne_of_none e h)]
  exact e
theorem Ex.rd {H H' : Hp} {a : Addr} {u : HO} (e : Ex H H') (h : Rd H a u) : Rd H' a u := by
  rcases h with h | ⟨o, h⟩
  · exact Or.inl (e a _ h)
  · exact Or.inr ⟨o, e a _ h⟩
theorem Ex.sl {K : PySem.W.Frag} {H H' : Hp} {a : Addr} {xs : List V} (e : Ex H H') (h : SqL K H a xs) : SqL K H' a xs := by
  rcases h with h | h
  · exact Or.inl (e.rd h)
  · exact Or.inr h
theorem Ex.st {K : PySem.W.Frag} {H H' : Hp} {a : Addr} {xs : List V} (e : Ex H H') (h : SqT K H a xs) : SqT K H' a xs := by
  rcases h with h | h
  · exact Or.inl (e.rd h)
  · exact Or.inr h

mutual
inductive Rep (K : PySem.W.Frag) (H : Hp) : V → D → Prop
  | non : Rep K H .non .non
  | bl (b : Bool) : Rep K H (.bl b) (.bl b)
  | int (i : Int) : Rep K H (.int i) (.int i)
  | str (x : Str) : Rep K H (.str x) (.str x)
  | ty (n : String) : Rep K H (.ty n) (.ty n)
  | fn (a : Addr) : Rep K H (.ref a) (.fn a)
  | lst {a : Addr} {vs : List V} {ds : List D} : H a = some (.lst vs) → RepL K H vs ds → Rep K H (.ref a) (.lst ds)
  | scr {a : Addr} {vs : List V} {ds : List D} : SqL K H a vs → RepL K H vs ds → Rep K H (.ref a) (.scr ds)
  | tup {a : Addr} {vs : List V} {ds : List D} : H a = some (.tup vs) → RepL K H vs ds → Rep K H (.ref a) (.tup ds)
  | obj {a C dx : Addr} {ns : List Str} {vs : List V} {ds : List D} : H a = some (.ins C dx (ns.zip vs)) → RepL K H vs ds → Rep K H (.ref a) (.obj C ns ds)
  | clo {f : Addr} {F : CF} {us : List V} {ds : List D} : H f = some (F.ob f) → H F.c = some (LamX.CodeO F.c F.qual) → RepL K H us ds → Rep K H (.ref f) (.clo F us ds)
inductive RepL (K : PySem.W.Frag) (H : Hp) : List V → List D → Prop
  | nil : RepL K H [] []
  | cons {v : V} {vs : List V} {d : D} {ds : List D} : Rep K H v d → RepL K H vs ds → RepL K H (v :: vs) (d :: ds)
end

section
variable {K : PySem.W.Frag} {H H' : Hp}
mutual
theorem Rep.mono (e : Ex H H') : ∀ {v : V} {d : D}, Rep K H v d → Rep K H' v d
  | _, _, .non => .non
  | _, _, .bl b => .bl b
  | _, _, .int i => .int i
  | _, _, .str x => .str x
  | _, _, .ty n => .ty n
  | _, _, .fn a => .fn a
  | _, _, .lst h r => .lst (e _ _ h) (RepL.mono e r)
  | _, _, .scr h r => .scr (e.sl h) (RepL.mono e r)
  | _, _, .tup h r => .tup (e _ _ h) (RepL.mono e r)
  | _, _, .obj h r => .obj (e _ _ h) (RepL.mono e r)
  | _, _, .clo h k r => .clo (e _ _ h) (e _ _ k) (RepL.mono e r)
theorem RepL.mono (e : Ex H H') : ∀ {vs : List V} {ds : List D}, RepL K H vs ds → RepL K H' vs ds
  | _, _, .nil => .nil
  | _, _, .cons h r => .cons (Rep.mono e h) (RepL.mono e r)
end
theorem RepL.length : ∀ {vs : List V} {ds : List D}, RepL K H vs ds → vs.length = ds.length
  | _, _, .nil => rfl
  | _, _, .cons _ r => by rw [List.length_cons, List.length_cons, RepL.length r]
theorem RepL.get : ∀ {vs : List V} {ds : List D} {i : Nat} {v : V}, RepL K H vs ds → vs[i]? = some v → ∃ d, ds[i]? = some d ∧ Rep K H v d
  | _, _, _, _, .nil, e => by simp at e
  | _, _, 0, _, .cons h _, e => by
    have e' := Option.some.inj e
    subst e'
    exact ⟨_, rfl, h⟩
  | _, _, i + 1, v, .cons _ r, e => RepL.get (i := i) (v := v) r e
theorem RepL.at : ∀ {vs : List V} {ds : List D} {i : Nat} {d : D}, RepL K H vs ds → ds[i]? = some d → ∃ v, vs[i]? = some v ∧ Rep K H v d
  | _, _, _, _, .nil, e => by simp at e
  | _, _, 0, _, .cons h _, e => by
    have e' := Option.some.inj e
    subst e'
    exact ⟨_, rfl, h⟩
  | _, _, i + 1, d, .cons _ r, e => RepL.at (i := i) (d := d) r e
theorem RepL.append : ∀ {vs ws : List V} {ds es : List D}, RepL K H vs ds → RepL K H ws es → RepL K H (vs ++ ws) (ds ++ es)
  | _, _, _, _, .nil, q => q
  | _, _, _, _, .cons h r, q => .cons h (RepL.append r q)
theorem RepL.take : ∀ {vs : List V} {ds : List D} (n : Nat), RepL K H vs ds → RepL K H (vs.take n) (ds.take n)
  | _, _, 0, _ => .nil
  | _, _, _ + 1, .nil => .nil
  | _, _, n + 1, .cons h r => .cons h (RepL.take n r)
theorem RepL.drop : ∀ {vs : List V} {ds : List D} (n : Nat), RepL K H vs ds → RepL K H (vs.drop n) (ds.drop n)
  | _, _, 0, r => r
  | _, _, _ + 1, .nil => .nil
  | _, _, n + 1, .cons _ r => RepL.drop n r
theorem RepL.set {v : V} {d : D} (h : Rep K H v d) : ∀ {vs : List V} {ds : List D} (i : Nat), RepL K H vs ds → RepL K H (vs.set i v) (ds.set i d)
  | _, _, _, .nil => .nil
  | _, _, 0, .cons _ r => .cons h r
  | _, _, i + 1, .cons q r => .cons q (RepL.set h i r)
theorem RepL.erase : ∀ {vs : List V} {ds : List D} (i : Nat), RepL K H vs ds → RepL K H (vs.eraseIdx i) (ds.eraseIdx i)
  | _, _, _, .nil => .nil
  | _, _, 0, .cons _ r => r
  | _, _, i + 1, .cons q r => .cons q (RepL.erase i r)
theorem RepL.rev {vs : List V} {ds : List D} (h : RepL K H vs ds) : RepL K H vs.reverse ds.reverse := by
  induction vs generalizing ds with
  | nil => cases h; exact .nil
  | cons v vs ih =>
    cases h with
    | cons a b =>
      rw [List.reverse_cons, List.reverse_cons]
      exact (ih b).append (.cons a .nil)
theorem RepL.rep {vs : List V} {ds : List D} (h : RepL K H vs ds) : ∀ n : Nat, RepL K H (List.replicate n vs).flatten (List.replicate n ds).flatten
  | 0 => .nil
  | n + 1 => by
    rw [List.replicate_succ, List.replicate_succ, List.flatten_cons, List.flatten_cons]
    exact h.append (RepL.rep h n)
theorem RepL.ints : ∀ {vs : List V} {ns : List Int}, RepL K H vs (ns.map D.int) → vs = ns.map V.int
  | [], [], _ => rfl
  | [], _ :: _, h => by cases h
  | v :: vs, [], h => by cases h
  | v :: vs, n :: ns, h => by
    cases h with
    | cons a b =>
      cases a
      rw [RepL.ints b] <;> rfl
theorem RepL.ofInts : ∀ (ns : List Int), RepL K H (ns.map V.int) (ns.map D.int)
  | [] => .nil
  | n :: ns => .cons (.int n) (RepL.ofInts ns)
theorem RepL.bls : ∀ {vs : List V} {bs : List Bool}, RepL K H vs (bs.map D.bl) → vs = bs.map V.bl
  | [], [], _ => rfl
  | [], _ :: _, h => by cases h
  | v :: vs, [], h => by cases h
  | v :: vs, n :: ns, h => by
    cases h with
    | cons a b =>
      cases a
      rw [RepL.bls b] <;> rfl
theorem RepL.strs : ∀ {vs : List V} {bs : List Str}, RepL K H vs (bs.map D.str) → vs = bs.map V.str
  | [], [], _ => rfl
  | [], _ :: _, h => by cases h
  | v :: vs, [], h => by cases h
  | v :: vs, n :: ns, h => by
    cases h with
    | cons a b =>
      cases a
      rw [RepL.strs b] <;> rfl
end

/-- scalars: what needs no heap -/
def D.scal : D → Bool
  | .non => true | .bl _ => true | .int _ => true | .str _ => true | .ty _ => true | .fn _ => true
  | _ => false
theorem Rep.scal {K : PySem.W.Frag} {H H' : Hp} {v : V} {d : D} (h : Rep K H v d) (s : d.scal = true) : Rep K H' v d := by
  cases h with
  | non => exact .non
  | bl b => exact .bl b
  | int i => exact .int i
  | str x => exact .str x
  | ty n => exact .ty n
  | fn a => exact .fn a
  | lst _ _ => cases s
  | scr _ _ => cases s
  | tup _ _ => cases s
  | obj _ _ => cases s
  | clo _ _ _ => cases s
theorem RepL.scal {K : PySem.W.Frag} {H H' : Hp} : ∀ {vs : List V} {ds : List D}, RepL K H vs ds → ds.all D.scal = true → RepL K H' vs ds
  | _, _, .nil, _ => .nil
  | _, _, .cons h r, s => by
    rw [List.all_cons, Bool.and_eq_true] at s
    exact .cons (h.scal s.1) (RepL.scal r s.2)

/-! ### tables of code objects: they alone may grow -/
class TbC where
  T : List NdefX.NTab
/-- what a region may hold -/
def _root_.L2.HO.pln : HO → Bool
  | .tbl _ => false
  | .ext _ => false
  | _ => true
theorem pln_tbl {o : HO} (h : o.pln = true) : ∀ ps, o ≠ .tbl ps := fun ps z => by
  subst z
  cases h
theorem pln_code {o : HO} {c : Addr} {q : Str} (h : o.pln = true) : o ≠ LamX.CodeO c q := fun z => by
  subst z
  cases h
theorem pln_fn {o : HO} {f : Addr} {F : CF} (h : o.pln = true) : o ≠ F.ob f := fun z => by
  subst z
  cases h
def PlR (R : Hp) : Prop := ∀ a o, R a = some o → o.pln = true
/-- all but tables stay -/
def ExN (H H' : Hp) : Prop := ∀ a o, H a = some o → (∀ ps, o ≠ .tbl ps) → H' a = some o
theorem ExN.refl (H : Hp) : ExN H H := fun _ _ h _ => h
theorem Ex.n {H H' : Hp} (e : Ex H H') : ExN H H' := fun a o h _ => e a o h
theorem ExN.trans {H H1 H2 : Hp} (a : ExN H H1) (b : ExN H1 H2) : ExN H H2 := fun x o h n => b x o (a x o h n) n
theorem ExN.pl {H H' : Hp} {a : Addr} {o : HO} (e : ExN H H') (h : H a = some o) (n : o.pln = true := by rfl) : H' a = some o := e a o h (pln_tbl n)
theorem ExN.rd {H H' : Hp} {a : Addr} {u : HO} (e : ExN H H') (h : Rd H a u) (n : u.pln = true := by rfl) : Rd H' a u := by
  rcases h with h | ⟨o, h⟩
  · exact Or.inl (e.pl h n)
  · exact Or.inr ⟨o, e.pl h rfl⟩
theorem ExN.sl {K : PySem.W.Frag} {H H' : Hp} {a : Addr} {xs : List V} (e : ExN H H') (h : SqL K H a xs) : SqL K H' a xs := by
  rcases h with h | h
  · exact Or.inl (e.rd h)
  · exact Or.inr h
theorem ExN.st {K : PySem.W.Frag} {H H' : Hp} {a : Addr} {xs : List V} (e : ExN H H') (h : SqT K H a xs) : SqT K H' a xs := by
  rcases h with h | h
  · exact Or.inl (e.rd h)
  · exact Or.inr h
mutual
theorem Rep.monoN {K : PySem.W.Frag} {H H' : Hp} (e : ExN H H') : ∀ {v : V} {d : D}, Rep K H v d → Rep K H' v d
  | _, _, .non => .non
  | _, _, .bl b => .bl b
  | _, _, .int i => .int i
  | _, _, .str x => .str x
  | _, _, .ty n => .ty n
  | _, _, .fn a => .fn a
  | _, _, .lst h r => .lst (e.pl h) (RepL.monoN e r)
  | _, _, .scr h r => .scr (e.sl h) (RepL.monoN e r)
  | _, _, .tup h r => .tup (e.pl h) (RepL.monoN e r)
  | _, _, .obj h r => .obj (e.pl h) (RepL.monoN e r)
  | _, _, .clo h k r => .clo (e _ _ h CF.ne) (e _ _ k LamX.codeO_ne) (RepL.monoN e r)
theorem RepL.monoN {K : PySem.W.Frag} {H H' : Hp} (e : ExN H H') : ∀ {vs : List V} {ds : List D}, RepL K H vs ds → RepL K H' vs ds
  | _, _, .nil => .nil
  | _, _, .cons h r => .cons (Rep.monoN e h) (RepL.monoN e r)
end
/-- the tables tell codes of the right names -/
def TB [TbC] (H : Hp) : Prop := NdefX.TabsN TbC.T H
/-- no table is shared -/
def NT (Hs : Hp) : Prop := ∀ a ps, Hs a ≠ some (.tbl ps)
def Pn (H : Hp) (a : Addr) : Prop := ∃ o, H a = some o ∧ o.pln = true
theorem Pn.ne {H : Hp} {a : Addr} (h : Pn H a) : H a ≠ none := by
  obtain ⟨o, e, _⟩ := h
  rw [e]
  exact fun z => nomatch z
theorem Pn.of {H : Hp} {a : Addr} {o : HO} (e : H a = some o) (n : o.pln = true := by rfl) : Pn H a := ⟨o, e, n⟩
variable [TbC]
/-- H' is H but for plain objects, that were none, or plain -/
theorem TB.ch {H H' : Hp} (t : TB H) (c : ∀ a, H' a = H a ∨ H a = none ∨ Pn H a) : TB H' := by
  have keep : ∀ a o, H a = some o → o.pln = false → H' a = some o := fun a o e n => by
    rcases c a with z | z | ⟨u, z, z2⟩
    · rw [z]; exact e
    · rw [z] at e; cases e
    · rw [z] at e
      cases e
      rw [z2] at n
      cases n
  intro p hp
  obtain ⟨ps, h1, h2, h3⟩ := t p hp
  refine ⟨ps, keep _ _ h1 rfl, h2, fun pos cv hc => ?_⟩
  obtain ⟨c0, e1, e2⟩ := h3 pos cv hc
  exact ⟨c0, e1, keep _ _ e2 rfl⟩
/-! ### growth: Hs is what is shared for good, H the heap, Hf what must be kept -/
structure Gr (Hs Hf H Hs' H' : Hp) : Prop where
  fr : ExN Hf H'
  sh : Ex Hs Hs'
  lv : Ex Hs' H'
  nw : ∀ a, Pn H a → Hs' a = Hs a
  dm : ∀ a, H a ≠ none → H' a ≠ none
  fd : ∀ a, Hf a ≠ none → H' a ≠ none
  dp : ∀ a, Pn H a → Pn H' a
  nt : NT Hs → NT Hs'
  tb : TB H → TB H'
theorem Gr.refl {Hs H : Hp} (e : Ex Hs H) : Gr Hs H H Hs H := ⟨ExN.refl H, Ex.refl Hs, e, fun _ _ => rfl, fun _ h => h, fun _ h => h, fun _ h => h, id, id⟩
theorem Gr.trans {Hs Hf H Hs1 H1 Hs2 H2 : Hp} (a : Gr Hs Hf H Hs1 H1) (b : Gr Hs1 H1 H1 Hs2 H2) : Gr Hs Hf H Hs2 H2 :=
  ⟨a.fr.trans b.fr, a.sh.trans b.sh, b.lv, fun x h => (b.nw x (a.dp x h)).trans (a.nw x h), fun x h => b.dm x (a.dm x h), fun x h => b.dm x (a.fd x h), fun x h => b.dp x (a.dp x h), fun t => b.nt (a.nt t), fun t => b.tb (a.tb t)⟩
/-- what is new now was new before -/
theorem Gr.new0 {Hs Hf H Hs' H' : Hp} (g : Gr Hs Hf H Hs' H') {a : Addr} (n : H' a = none) : H a = none ∧ Hf a = none := by
  constructor
  · cases z : H a with
    | none => rfl
    | some o => exact absurd n (g.dm a (by rw [z]; exact fun y => nomatch y))
  · cases z : Hf a with
    | none => rfl
    | some o => exact absurd n (g.fd a (by rw [z]; exact fun y => nomatch y))
theorem upd_ch {H : Hp} {p : Addr} {o : HO} (h : H p = none ∨ Pn H p) (a : Addr) : upd H p o a = H a ∨ H a = none ∨ Pn H a := by
  by_cases q : a = p
  · subst q
    exact .inr h
  · exact .inl (upd_ne q)
theorem upd_dm {H : Hp} {p : Addr} {o : HO} {a : Addr} (x : H a ≠ none) : upd H p o a ≠ none := by
  by_cases q : a = p
  · rw [q, upd_same]
    exact fun z => nomatch z
  · rw [upd_ne q]
    exact x
theorem upd_new {H : Hp} {p : Addr} {o : HO} (h : H p = none) {a : Addr} (x : Pn H a) : Pn (upd H p o) a := by
  obtain ⟨u, e, n⟩ := x
  exact ⟨u, by rw [upd_ne (ne_of_none e h)]; exact e, n⟩
/-- what is not plain -/
def npl (H : Hp) : Hp := fun a => match H a with
  | some o => if o.pln = true then none else some o
  | none => none
theorem npl_pn {H : Hp} (a : Addr) : ¬ Pn (npl H) a := fun ⟨o, e, n⟩ => by
  unfold npl at e
  split at e
  · split at e
    · cases e
    · rename_i z
      cases e
      exact z n
  · cases e
theorem npl_of {H : Hp} {a : Addr} {o : HO} (e : H a = some o) (n : o.pln = false) : npl H a = some o := by
  unfold npl
  rw [e]
  exact if_neg (by rw [n]; decide)
theorem npl_le {H : Hp} {a : Addr} (h : npl H a ≠ none) : H a ≠ none := fun z => h (by
  unfold npl
  rw [z])
theorem npl_no {H : Hp} {a : Addr} {o : HO} (e : H a = some o) (n : o.pln = true) : npl H a = none := by
  unfold npl
  rw [e]
  exact if_pos n
theorem TB.npl {H : Hp} (t : TB H) : TB (npl H) := fun p hp => by
  obtain ⟨ps, h1, h2, h3⟩ := t p hp
  refine ⟨ps, npl_of h1 rfl, h2, fun pos cv hc => ?_⟩
  obtain ⟨c0, e1, e2⟩ := h3 pos cv hc
  exact ⟨c0, e1, npl_of e2 rfl⟩
/-- each object is as before, or plain -/
def Ch (H H' : Hp) : Prop := ∀ a, H' a = H a ∨ Pn H' a
theorem Ch.refl (H : Hp) : Ch H H := fun _ => .inl rfl
theorem Ch.upd {H : Hp} {p : Addr} {o : HO} (n : o.pln = true := by rfl) : Ch H (upd H p o) := fun a => by
  by_cases q : a = p
  · subst q
    exact .inr ⟨o, upd_same, n⟩
  · exact .inl (upd_ne q)
theorem Ch.pn {H H' : Hp} (c : Ch H H') (a : Addr) (h : Pn H a) : Pn H' a := by
  rcases c a with z | z
  · obtain ⟨o, e, n⟩ := h
    exact ⟨o, z.trans e, n⟩
  · exact z
theorem NT.upd {Hs : Hp} {p : Addr} {o : HO} (h : NT Hs) (n : o.pln = true) : NT (upd Hs p o) := fun a ps z => by
  by_cases q : a = p
  · rw [q, upd_same] at z
    cases z
    cases n
  · rw [upd_ne q] at z
    exact h a ps z
/-- a new object that is shared at once -/
theorem Gr.new {Hs H : Hp} {p : Addr} {o : HO} (e : Ex Hs H) (h : H p = none) (pl : o.pln = true := by rfl) : Gr Hs H H (upd Hs p o) (upd H p o) := by
  have hs : Hs p = none := by
    cases q : Hs p with
    | none => rfl
    | some u =>
      rw [e p u q] at h
      cases h
  refine ⟨(Ex.new h).n, Ex.new hs, fun a u x => ?_, fun a x => upd_ne (fun q => x.ne (by rw [q]; exact h)), fun a x => upd_dm x, fun a x => upd_dm x, fun a x => upd_new h x, fun t => t.upd pl, fun t => t.ch (upd_ch (.inl h))⟩
  by_cases q : a = p
  · rw [q, upd_same] at x ⊢
    exact x
  · rw [upd_ne q] at x ⊢
    exact e a u x
/-- a new object that nobody else knows -/
theorem Gr.newO {Hs H : Hp} {p : Addr} {o : HO} (e : Ex Hs H) (h : H p = none) : Gr Hs H H Hs (upd H p o) :=
  ⟨(Ex.new h).n, Ex.refl Hs, e.trans (Ex.new h), fun a x => rfl, fun a x => upd_dm x, fun a x => upd_dm x, fun a x => upd_new h x, id, fun t => t.ch (upd_ch (.inl h))⟩
/-- an object that was new is shared from now on -/
theorem Gr.share {Hs H Hs' H' : Hp} {p : Addr} {o : HO} (g : Gr Hs H H Hs' H') (n : H p = none) (ns : Hs' p = none) (h : H' p = some o) (pl : o.pln = true := by rfl) : Gr Hs H H (upd Hs' p o) H' := by
  refine ⟨g.fr, g.sh.trans (Ex.new ns), fun a u x => ?_, fun a x => ?_, g.dm, g.fd, g.dp, fun t => (g.nt t).upd pl, g.tb⟩
  · by_cases q : a = p
    · rw [q, upd_same] at x
      cases x
      rw [q]
      exact h
    · rw [upd_ne q] at x
      exact g.lv a u x
  · rw [upd_ne (fun q => x.ne (by rw [q]; exact n))]
    exact g.nw a x

/-! ### what a frame's slots hold -/
inductive SV where
  | sh (d : D)
  | ol (ds : List D)
  | ow (nw : Bool) (Φ : Hp → V → Hp → Prop) (pl : ∀ Hs v R, Φ Hs v R → PlR R)
/-- made in this frame -/
def SV.nw : SV → Bool
  | .sh _ => true
  | .ol _ => true
  | .ow b _ _ => b

/-- what slot i holds; R is its own region -/
def Holds (K : PySem.W.Frag) (Hs : Hp) (R : Hp) (v : V) : SV → Prop
  | .sh d => Rep K Hs v d ∧ ∀ a, R a = none
  | .ol ds => ∃ (p : Addr) (vs : List V), v = .ref p ∧ R = (fun a => if a = p then some (.lst vs) else none) ∧ RepL K Hs vs ds
  | .ow _ Φ _ => ∀ Hs1, Ex Hs Hs1 → Φ Hs1 v R

abbrev Env := List (Option SV)
structure Base where
  s : Hp
  f : Hp
  h : Hp
  t : NT s ∧ TB h

structure RS (K : PySem.W.Frag) (B : Base) (Hs H : Hp) (σ : St) (ρ : Env) : Prop where
  gr : Gr B.s B.f B.h Hs H
  len : σ.length = ρ.length
  reg : ∃ R : Nat → Hp, (∀ i sv, ρ[i]? = some (some sv) → ∃ v, σ[i]? = some (some v) ∧ Holds K Hs (R i) v sv) ∧
    (∀ i a o, R i a = some o → H a = some o ∧ Hs a = none ∧ B.f a = none ∧ o.pln = true) ∧ (∀ i j a, R i a ≠ none → R j a ≠ none → i = j) ∧
    ∀ i sv a, ρ[i]? = some (some sv) → sv.nw = true → R i a ≠ none → B.h a = none

section
variable {K : PySem.W.Frag} {B : Base} {Hs H Hs' H' : Hp} {σ : St} {ρ : Env}
theorem Holds.mono {R : Hp} {v : V} {sv : SV} (e : Ex Hs Hs') (h : Holds K Hs R v sv) : Holds K Hs' R v sv := by
  cases sv with
  | sh d => exact ⟨h.1.mono e, h.2⟩
  | ol ds =>
    obtain ⟨p, vs, e1, e2, r⟩ := h
    exact ⟨p, vs, e1, e2, r.mono e⟩
  | ow _ Φ _ => exact fun Hs1 x => h Hs1 (e.trans x)
theorem Holds.pl {R : Hp} {v : V} {sv : SV} (h : Holds K Hs R v sv) : PlR R := by
  cases sv with
  | sh d =>
    intro a o e
    rw [h.2 a] at e
    cases e
  | ol ds =>
    obtain ⟨p, vs, e1, e2, r⟩ := h
    intro a o e
    rw [e2] at e
    have e : (if a = p then some (HO.lst vs) else none) = some o := e
    split at e
    · cases e
      rfl
    · cases e
  | ow _ Φ pl => exact pl Hs v R (h Hs (Ex.refl Hs))
theorem RS.tb (r : RS K B Hs H σ ρ) : NT Hs ∧ TB H := ⟨r.gr.nt B.t.1, r.gr.tb B.t.2⟩
theorem RS.ex (r : RS K B Hs H σ ρ) : Ex Hs H := r.gr.lv
theorem RS.get (r : RS K B Hs H σ ρ) {i : Nat} {d : D} (h : ρ[i]? = some (some (.sh d))) : ∃ v, σ[i]? = some (some v) ∧ Rep K Hs v d := by
  obtain ⟨R, h1, _⟩ := r.reg
  obtain ⟨v, e, q⟩ := h1 i _ h
  exact ⟨v, e, q.1⟩
theorem RS.grow (r : RS K B Hs H σ ρ) (g : Gr Hs H H Hs' H') : RS K B Hs' H' σ ρ := by
  obtain ⟨R, h1, h2, h3, h4⟩ := r.reg
  refine ⟨r.gr.trans g, r.len, R, fun i sv e => ?_, fun i a o e => ?_, h3, h4⟩
  · obtain ⟨v, e1, q⟩ := h1 i sv e
    exact ⟨v, e1, q.mono g.sh⟩
  · obtain ⟨e1, e2, e3⟩ := h2 i a o e
    refine ⟨g.fr.pl e1 e3.2, ?_, e3⟩
    rw [g.nw a (.of e1 e3.2)]
    exact e2
/-- a slot gets a shared value -/
theorem RS.set (r : RS K B Hs H σ ρ) (i : Nat) {v : V} {d : D} (h : Rep K Hs v d) : RS K B Hs H (σ.set i (some v)) (ρ.set i (some (.sh d))) := by
  obtain ⟨R, h1, h2, h3, h4⟩ := r.reg
  refine ⟨r.gr, by rw [List.length_set, List.length_set, r.len], fun j => if j = i then (fun _ => none) else R j, fun j sv e => ?_, fun j a o e => ?_, fun j k a e1 e2 => ?_, fun j ds a e1 e0 e2 => ?_⟩
  · by_cases q : j = i
    · subst q
      have hl : j < ρ.length := by
        have := (List.getElem?_eq_some_iff.mp e).1
        rwa [List.length_set] at this
      rw [List.getElem?_set_self hl] at e
      cases e
      refine ⟨v, List.getElem?_set_self (by rw [r.len]; exact hl), h, fun a => ?_⟩
      simp
    · rw [List.getElem?_set_ne (Ne.symm q)] at e ⊢
      dsimp only
      rw [if_neg q]
      exact h1 j sv e
  · dsimp only at e
    by_cases q : j = i
    · rw [if_pos q] at e
      cases e
    · rw [if_neg q] at e
      exact h2 j a o e
  · dsimp only at e1 e2
    by_cases q : j = i
    · rw [if_pos q] at e1
      exact absurd rfl e1
    · rw [if_neg q] at e1
      by_cases q' : k = i
      · rw [if_pos q'] at e2
        exact absurd rfl e2
      · rw [if_neg q'] at e2
        exact h3 j k a e1 e2
  · dsimp only at e2
    by_cases q : j = i
    · rw [if_pos q] at e2
      exact absurd rfl e2
    · rw [if_neg q] at e2
      rw [List.getElem?_set_ne (Ne.symm q)] at e1
      exact h4 j ds a e1 e0 e2
/-- a slot gets what is its own: a region of new objects -/
theorem RS.setR (r : RS K B Hs H σ ρ) (g : Gr Hs H H Hs' H') (i : Nat) {v : V} {sv : SV} {T : Hp} (hT : ∀ a o, T a = some o → H a = none ∧ H' a = some o ∧ Hs' a = none) (h : Holds K Hs' T v sv) :
    RS K B Hs' H' (σ.set i (some v)) (ρ.set i (some sv)) := by
  have r' := r.grow g
  obtain ⟨R, h1, h2, h3, h4⟩ := r.reg
  have nT : ∀ j a, R j a ≠ none → T a = none := fun j a x => by
    cases q : T a with
    | none => rfl
    | some o =>
      cases q' : R j a with
      | none => exact absurd q' x
      | some u =>
        have z := (h2 j a u q').1
        rw [(hT a o q).1] at z
        cases z
  refine ⟨r'.gr, by rw [List.length_set, List.length_set, r.len], fun j => if j = i then T else R j, fun j sv' e => ?_, fun j a o e => ?_, fun j k a e1 e2 => ?_, fun j ds a e1 e0 e2 => ?_⟩
  · by_cases q : j = i
    · subst q
      have hl : j < ρ.length := by
        have := (List.getElem?_eq_some_iff.mp e).1
        rwa [List.length_set] at this
      rw [List.getElem?_set_self hl] at e
      cases e
      refine ⟨v, List.getElem?_set_self (by rw [r.len]; exact hl), ?_⟩
      dsimp only
      rw [if_pos rfl]
      exact h
    · rw [List.getElem?_set_ne (Ne.symm q)] at e ⊢
      dsimp only
      rw [if_neg q]
      obtain ⟨v', e1, q1⟩ := h1 j sv' e
      exact ⟨v', e1, q1.mono g.sh⟩
  · dsimp only at e
    by_cases q : j = i
    · rw [if_pos q] at e
      obtain ⟨e1, e2, e3⟩ := hT a o e
      exact ⟨e2, e3, (r.gr.new0 e1).2, h.pl a o e⟩
    · rw [if_neg q] at e
      obtain ⟨e1, e2, e3⟩ := h2 j a o e
      refine ⟨g.fr.pl e1 e3.2, ?_, e3⟩
      rw [g.nw a (.of e1 e3.2)]
      exact e2
  · dsimp only at e1 e2
    by_cases q : j = i
    · rw [if_pos q] at e1
      by_cases q' : k = i
      · rw [q, q']
      · rw [if_neg q'] at e2
        exact absurd (nT k a e2) e1
    · rw [if_neg q] at e1
      by_cases q' : k = i
      · rw [if_pos q'] at e2
        exact absurd (nT j a e1) e2
      · rw [if_neg q'] at e2
        exact h3 j k a e1 e2
  · dsimp only at e2
    by_cases q : j = i
    · rw [if_pos q] at e2
      cases z : T a with
      | none => exact absurd z e2
      | some o =>
        cases y : B.h a with
        | none => rfl
        | some u => exact absurd (hT a o z).1 (r.gr.dm a (by rw [y]; exact fun z => nomatch z))
    · rw [if_neg q] at e2
      rw [List.getElem?_set_ne (Ne.symm q)] at e1
      exact h4 j ds a e1 e0 e2
/-- a slot gets a new list that is its own -/
theorem RS.setO (r : RS K B Hs H σ ρ) (g : Gr Hs H H Hs' H') (i : Nat) {p : Addr} {vs : List V} {ds : List D} (hn : H p = none) (hp : H' p = some (.lst vs)) (hs : Hs' p = none) (h : RepL K Hs' vs ds) :
    RS K B Hs' H' (σ.set i (some (.ref p))) (ρ.set i (some (.ol ds))) := by
  refine r.setR g i (T := fun a => if a = p then some (.lst vs) else none) (fun a o e => ?_) ⟨p, vs, rfl, rfl, h⟩
  by_cases q : a = p
  · rw [if_pos q] at e
    cases e
    subst q
    exact ⟨hn, hp, hs⟩
  · rw [if_neg q] at e
    cases e
/-- the slots' own regions are R -/
def Reg (K : PySem.W.Frag) (B : Base) (Hs H : Hp) (σ : St) (ρ : Env) (R : Nat → Hp) : Prop :=
  (∀ i sv, ρ[i]? = some (some sv) → ∃ v, σ[i]? = some (some v) ∧ Holds K Hs (R i) v sv) ∧
    (∀ i a o, R i a = some o → H a = some o ∧ Hs a = none ∧ B.f a = none ∧ o.pln = true) ∧ (∀ i j a, R i a ≠ none → R j a ≠ none → i = j) ∧
    ∀ i sv a, ρ[i]? = some (some sv) → sv.nw = true → R i a ≠ none → B.h a = none
def Fresh (B : Base) (Hs : Hp) (R : Nat → Hp) (a : Addr) : Prop := (∀ j, R j a = none) ∧ Hs a = none ∧ B.f a = none ∧ B.h a = none
theorem Reg.grow {R : Nat → Hp} (rg : Reg K B Hs H σ ρ R) (g : Gr Hs H H Hs' H') : Reg K B Hs' H' σ ρ R := by
  obtain ⟨h1, h2, h3, h4⟩ := rg
  refine ⟨fun i sv e => ?_, fun i a o e => ?_, h3, h4⟩
  · obtain ⟨v, e1, q⟩ := h1 i sv e
    exact ⟨v, e1, q.mono g.sh⟩
  · obtain ⟨e1, e2, e3⟩ := h2 i a o e
    refine ⟨g.fr.pl e1 e3.2, ?_, e3⟩
    rw [g.nw a (.of e1 e3.2)]
    exact e2
theorem RS.fresh (r : RS K B Hs H σ ρ) {R : Nat → Hp} (rg : Reg K B Hs H σ ρ R) {a : Addr} (n : H a = none) : Fresh B Hs R a := by
  refine ⟨fun j => ?_, ?_, ?_, ?_⟩
  · cases z : R j a with
    | none => rfl
    | some o =>
      rw [(rg.2.1 j a o z).1] at n
      cases n
  · cases z : Hs a with
    | none => rfl
    | some o =>
      rw [r.ex a o z] at n
      cases n
  · exact (r.gr.new0 n).2
  · cases z : B.h a with
    | none => rfl
    | some o => exact absurd n (r.gr.dm a (by rw [z]; exact fun y => nomatch y))
theorem Fresh.grow {R : Nat → Hp} {a : Addr} (f : Fresh B Hs R a) (n : Hs' a = none) : Fresh B Hs' R a := ⟨f.1, n, f.2.2⟩
/-- a slot's own region is changed (new objects may come to it) -/
theorem RS.mutR (r : RS K B Hs H σ ρ) {R : Nat → Hp} (rg : Reg K B Hs H σ ρ R) (i : Nat) {sv sv' : SV} (hi : ρ[i]? = some (some sv)) (nsh : sv'.nw = true → sv.nw = true)
    {v : V} (hv : σ[i]? = some (some v)) {T : Hp} (t1 : Holds K Hs T v sv') (t2 : ∀ a o, T a = some o → H' a = some o ∧ (R i a ≠ none ∨ Fresh B Hs R a))
    (t3 : ∀ a o, R i a = none → H a = some o → H' a = some o) (t4 : ∀ a, H a ≠ none → H' a ≠ none) (t5 : Ch H H' := by first | exact DL.Ch.upd | exact DL.Ch.refl _) : RS K B Hs H' σ (ρ.set i (some sv')) := by
  obtain ⟨h1, h2, h3, h4⟩ := rg
  have hl : i < ρ.length := (List.getElem?_eq_some_iff.mp hi).1
  have keep : ∀ a o, Hs a = some o → H' a = some o := fun a o e => t3 a o (by
    cases q : R i a with
    | none => rfl
    | some u =>
      rw [(h2 i a u q).2.1] at e
      cases e) (r.ex a o e)
  have nT : ∀ j a, j ≠ i → R j a ≠ none → T a = none := fun j a nj x => by
    cases q : T a with
    | none => rfl
    | some o =>
      rcases (t2 a o q).2 with z | z
      · exact absurd (h3 j i a x z) nj
      · exact absurd (z.1 j) x
  refine ⟨⟨fun a o e n => t3 a o ?_ (r.gr.fr a o e n), r.gr.sh, keep, r.gr.nw, fun a x => t4 a (r.gr.dm a x), fun a x => t4 a (r.gr.fd a x), fun a x => t5.pn a (r.gr.dp a x), r.gr.nt, fun t => (r.gr.tb t).ch fun a => ?_⟩, by rw [List.length_set, r.len], fun j => if j = i then T else R j, fun j sv2 e => ?_, fun j a o e => ?_, fun j l a e1 e2 => ?_, fun j ds a e1 e0 e2 => ?_⟩
  · cases q : R i a with
    | none => rfl
    | some u =>
      rw [(h2 i a u q).2.2.1] at e
      cases e
  · cases q : R i a with
    | some u => exact .inr (.inr ⟨u, (h2 i a u q).1, (h2 i a u q).2.2.2⟩)
    | none =>
      cases z : H a with
      | none => exact .inr (.inl rfl)
      | some u => exact .inl (t3 a u q z)
  · by_cases q : j = i
    · subst q
      rw [List.getElem?_set_self hl] at e
      cases e
      refine ⟨v, hv, ?_⟩
      dsimp only
      rw [if_pos rfl]
      exact t1
    · rw [List.getElem?_set_ne (Ne.symm q)] at e
      dsimp only
      rw [if_neg q]
      obtain ⟨v', e1, q1⟩ := h1 j sv2 e
      exact ⟨v', e1, q1⟩
  · dsimp only at e
    by_cases q : j = i
    · rw [if_pos q] at e
      obtain ⟨e1, e2⟩ := t2 a o e
      refine ⟨e1, ?_, ?_, t1.pl a o e⟩
      · cases z : Hs a with
        | none => rfl
        | some u =>
          rcases e2 with e2 | e2
          · cases q' : R i a with
            | none => exact absurd q' e2
            | some w =>
              rw [(h2 i a w q').2.1] at z
              cases z
          · rw [e2.2.1] at z
            cases z
      · cases z : B.f a with
        | none => rfl
        | some u =>
          rcases e2 with e2 | e2
          · cases q' : R i a with
            | none => exact absurd q' e2
            | some w =>
              rw [(h2 i a w q').2.2.1] at z
              cases z
          · rw [e2.2.2.1] at z
            cases z
    · rw [if_neg q] at e
      obtain ⟨e1, e2, e3⟩ := h2 j a o e
      refine ⟨t3 a o ?_ e1, e2, e3⟩
      cases z : R i a with
      | none => rfl
      | some u => exact absurd (h3 j i a (by rw [e]; exact fun z => nomatch z) (by rw [z]; exact fun z => nomatch z)) q
  · dsimp only at e1 e2
    by_cases q : j = i
    · rw [if_pos q] at e1
      by_cases q' : l = i
      · rw [q, q']
      · rw [if_neg q'] at e2
        exact absurd (nT l a q' e2) e1
    · rw [if_neg q] at e1
      by_cases q' : l = i
      · rw [if_pos q'] at e2
        exact absurd (nT j a q e1) e2
      · rw [if_neg q'] at e2
        exact h3 j l a e1 e2
  · dsimp only at e2
    by_cases q : j = i
    · subst q
      rw [if_pos rfl] at e2
      rw [List.getElem?_set_self hl] at e1
      have e3 : sv' = ds := Option.some.inj (Option.some.inj e1)
      have e4 : sv.nw = true := nsh (by rw [e3]; exact e0)
      cases z : T a with
      | none => exact absurd z e2
      | some o =>
        rcases (t2 a o z).2 with y | y
        · exact h4 j sv a hi e4 y
        · exact y.2.2.2
    · rw [if_neg q] at e2
      rw [List.getElem?_set_ne (Ne.symm q)] at e1
      exact h4 j ds a e1 e0 e2
theorem RS.mut (r : RS K B Hs H σ ρ) (i : Nat) {sv sv' : SV} (hi : ρ[i]? = some (some sv)) (nsh : sv'.nw = true → sv.nw = true)
    (k : ∀ v R, σ[i]? = some (some v) → Holds K Hs R v sv → (∀ a o, R a = some o → H a = some o ∧ Hs a = none) → ∃ T : Hp, Holds K Hs T v sv' ∧ (∀ a o, T a = some o → H' a = some o ∧ (R a ≠ none ∨ H a = none)) ∧
      (∀ a o, R a = none → H a = some o → H' a = some o) ∧ ∀ a, H a ≠ none → H' a ≠ none) (t5 : Ch H H' := by first | exact DL.Ch.upd | exact DL.Ch.refl _) : RS K B Hs H' σ (ρ.set i (some sv')) := by
  obtain ⟨R, h1, h2, h3, h4⟩ := id r.reg
  obtain ⟨v, hv, hh⟩ := h1 i sv hi
  obtain ⟨T, t1, t2, t3, t4⟩ := k v (R i) hv hh fun a o e => ⟨(h2 i a o e).1, (h2 i a o e).2.1⟩
  exact r.mutR ⟨h1, h2, h3, h4⟩ i hi nsh hv t1 (fun a o e => ⟨(t2 a o e).1, (t2 a o e).2.imp id fun z => r.fresh ⟨h1, h2, h3, h4⟩ z⟩) t3 t4 t5
/-- an own list is changed in place -/
theorem RS.mutL (r : RS K B Hs H σ ρ) (i : Nat) {ds : List D} (hi : ρ[i]? = some (some (.ol ds))) :
    ∃ p vs, σ[i]? = some (some (.ref p)) ∧ H p = some (.lst vs) ∧ RepL K Hs vs ds ∧ ∀ ws es, RepL K Hs ws es → RS K B Hs (upd H p (.lst ws)) σ (ρ.set i (some (.ol es))) := by
  obtain ⟨R, h1, h2, h3, h4⟩ := id r.reg
  obtain ⟨v, hv, p, vs, e1, e2, q⟩ := h1 i _ hi
  subst e1
  have hp : R i p = some (.lst vs) := by rw [e2]; exact if_pos rfl
  refine ⟨p, vs, hv, (h2 i p _ hp).1, q, fun ws es h => r.mut i hi (fun _ => rfl) fun v' R' hv' hh hR => ?_⟩
  obtain ⟨p', vs', e3, e4, _⟩ := hh
  rw [hv] at hv'
  have e5 := Option.some.inj (Option.some.inj hv')
  rw [e3] at e5
  cases e5
  subst e3
  refine ⟨fun a => if a = p then some (.lst ws) else none, ⟨p, ws, rfl, rfl, h⟩, fun a o e => ?_, fun a o e e' => ?_, fun a x => ?_⟩
  · dsimp only at e
    by_cases z : a = p
    · rw [if_pos z] at e
      cases e
      subst z
      refine ⟨upd_same, .inl ?_⟩
      rw [e4]
      show (if a = a then some (HO.lst vs') else none) ≠ none
      rw [if_pos rfl]
      exact fun z => nomatch z
    · rw [if_neg z] at e
      cases e
  · have z : a ≠ p := fun z => by
      subst z
      rw [e4] at e
      have e'' : (if a = a then some (HO.lst vs') else none) = none := e
      rw [if_pos rfl] at e''
      cases e''
    rw [upd_ne z]
    exact e'
  · by_cases z : a = p
    · rw [z, upd_same]
      exact fun z => nomatch z
    · rw [upd_ne z]
      exact x
/-- two heaps as one -/
def jn (R S : Hp) : Hp := fun a => match R a with
  | some o => some o
  | none => S a
theorem jn_l {R S : Hp} {a : Addr} {o : HO} (h : R a = some o) : jn R S a = some o := by unfold jn; rw [h]
theorem jn_r {R S : Hp} {a : Addr} (h : R a = none) : jn R S a = S a := by unfold jn; rw [h]
/-- what is a slot's own is shared from now on -/
theorem RS.fzR (r : RS K B Hs H σ ρ) (i : Nat) {sv : SV} (hi : ρ[i]? = some (some sv)) (hn : sv.nw = true ∨ ∀ a, ¬ Pn B.h a) {d : D} (k : ∀ v R, Holds K Hs R v sv → (∀ a o, R a = some o → Hs a = none) → Rep K (jn R Hs) v d) :
    ∃ Hs2, Ex Hs Hs2 ∧ Ex Hs2 H ∧ RS K B Hs2 H σ (ρ.set i (some (.sh d))) := by
  obtain ⟨R, h1, h2, h3, h4⟩ := r.reg
  obtain ⟨v, hv, hh⟩ := h1 i _ hi
  have q := k v (R i) hh fun a o e => (h2 i a o e).2.1
  have exs : Ex Hs (jn (R i) Hs) := fun a o e => by
    rw [jn_r]
    · exact e
    · cases z : R i a with
      | none => rfl
      | some u =>
        rw [(h2 i a u z).2.1] at e
        cases e
  have lv : Ex (jn (R i) Hs) H := fun a o e => by
    cases z : R i a with
    | some u =>
      rw [jn_l z] at e
      exact (h2 i a o (z.trans e)).1
    | none =>
      rw [jn_r z] at e
      exact r.ex a o e
  have hl : i < ρ.length := (List.getElem?_eq_some_iff.mp hi).1
  refine ⟨jn (R i) Hs, exs, lv, ⟨r.gr.fr, r.gr.sh.trans exs, lv, fun a x => ?_, r.gr.dm, r.gr.fd, r.gr.dp, fun t a ps e => ?_, r.gr.tb⟩, by rw [List.length_set, r.len], fun j => if j = i then (fun _ => none) else R j, fun j sv e => ?_, fun j a o e => ?_, fun j k a e1 e2 => ?_, fun j ds a e1 e0 e2 => ?_⟩
  · cases z : R i a with
    | some u =>
      rcases hn with hn | hn
      · exact absurd (h4 i _ a hi hn (by rw [z]; exact fun y => nomatch y)) x.ne
      · exact absurd x (hn a)
    | none =>
      rw [jn_r z]
      exact r.gr.nw a x
  · cases z : R i a with
    | some u =>
      rw [jn_l z] at e
      cases e
      have w := (h2 i a _ z).2.2.2
      cases w
    | none =>
      rw [jn_r z] at e
      exact r.gr.nt t a ps e
  · by_cases y : j = i
    · subst y
      rw [List.getElem?_set_self hl] at e
      cases e
      refine ⟨v, hv, q, fun a => ?_⟩
      dsimp only
      rw [if_pos rfl]
    · rw [List.getElem?_set_ne (Ne.symm y)] at e
      obtain ⟨v', e3, q'⟩ := h1 j sv e
      dsimp only
      rw [if_neg y]
      exact ⟨v', e3, q'.mono exs⟩
  · dsimp only at e
    by_cases y : j = i
    · rw [if_pos y] at e
      cases e
    · rw [if_neg y] at e
      obtain ⟨e3, e4, e5⟩ := h2 j a o e
      refine ⟨e3, ?_, e5⟩
      rw [jn_r]
      · exact e4
      · cases z : R i a with
        | none => rfl
        | some u => exact absurd (h3 j i a (by rw [e]; exact fun z => nomatch z) (by rw [z]; exact fun z => nomatch z)) y
  · dsimp only at e1 e2
    by_cases y : j = i
    · rw [if_pos y] at e1
      exact absurd rfl e1
    · rw [if_neg y] at e1
      by_cases y' : k = i
      · rw [if_pos y'] at e2
        exact absurd rfl e2
      · rw [if_neg y'] at e2
        exact h3 j k a e1 e2
  · dsimp only at e2
    by_cases y : j = i
    · rw [if_pos y] at e2
      exact absurd rfl e2
    · rw [if_neg y] at e2
      rw [List.getElem?_set_ne (Ne.symm y)] at e1
      exact h4 j ds a e1 e0 e2
/-- an own list is shared from now on -/
theorem RS.fz (r : RS K B Hs H σ ρ) (i : Nat) {ds : List D} (hi : ρ[i]? = some (some (.ol ds))) : ∃ Hs2, Ex Hs Hs2 ∧ Ex Hs2 H ∧ RS K B Hs2 H σ (ρ.set i (some (.sh (.lst ds)))) :=
  r.fzR i hi (.inl rfl) fun v R hh n => by
    obtain ⟨p, vs, rfl, e2, q⟩ := hh
    have hp : R p = some (.lst vs) := by rw [e2]; exact if_pos rfl
    refine .lst (jn_l hp) (q.mono fun a o e => ?_)
    rw [jn_r]
    · exact e
    · cases z : R a with
      | none => rfl
      | some u =>
        rw [n a u z] at e
        cases e
end
end DL

/-! DOwn: trees of objects that nobody else knows: lists, instances, dicts of numbers; what is done with them. -/
namespace DL
open PySem L2
variable [TbC]

inductive O where
  | sh (d : D)
  | ol (xs : List O)
  | ob (C : Addr) (ns : List Str) (xs : List O)
  | dg (Φ : List (Key × V) → Prop) (n : Nat)
/-- a dict of numbers, told by its keys -/
abbrev O.dk (P : Int → Bool) (n : Nat) : O := .dg (fun kvs => ∀ i : Int, (valV kvs (Sum.inl i : Key)).isSome = P i) n
/-- a dict from numbers to numbers -/
abbrev O.dv (f : Int → Option Int) (n : Nat) : O := .dg (fun kvs => ∀ i : Int, valV kvs (Sum.inl i : Key) = (f i).map V.int) n

def em : Hp := fun _ => none

mutual
inductive Own (K : PySem.W.Frag) (Hs : Hp) : V → O → Hp → Prop
  | sh {v : V} {d : D} : Rep K Hs v d → Own K Hs v (.sh d) em
  | ol {p : Addr} {vs : List V} {xs : List O} {R : Hp} : R p = none → OwnL K Hs vs xs R → Own K Hs (.ref p) (.ol xs) (upd R p (.lst vs))
  | ob {p C dx : Addr} {ns : List Str} {vs : List V} {xs : List O} {R : Hp} : R p = none → ns.length = xs.length → OwnL K Hs vs xs R → Own K Hs (.ref p) (.ob C ns xs) (upd R p (.ins C dx (ns.zip vs)))
  | dg {p : Addr} {Φ : List (Key × V) → Prop} {n : Nat} {kvs : List (Key × V)} : kvs.length ≤ n ∧ Φ kvs → Own K Hs (.ref p) (.dg Φ n) (upd em p (.dK kvs))
inductive OwnL (K : PySem.W.Frag) (Hs : Hp) : List V → List O → Hp → Prop
  | nil : OwnL K Hs [] [] em
  | cons {v : V} {o : O} {vs : List V} {os : List O} {R S : Hp} : Own K Hs v o R → OwnL K Hs vs os S → (∀ a, R a ≠ none → S a = none) → OwnL K Hs (v :: vs) (o :: os) (jn R S)
end

section
variable {K : PySem.W.Frag} {Hs Hs' : Hp}
mutual
theorem Own.mono (e : Ex Hs Hs') : ∀ {v : V} {o : O} {R : Hp}, Own K Hs v o R → Own K Hs' v o R
  | _, _, _, .sh h => .sh (h.mono e)
  | _, _, _, .ol n h => .ol n (OwnL.mono e h)
  | _, _, _, .ob n l h => .ob n l (OwnL.mono e h)
  | _, _, _, .dg h => .dg h
theorem OwnL.mono (e : Ex Hs Hs') : ∀ {vs : List V} {os : List O} {R : Hp}, OwnL K Hs vs os R → OwnL K Hs' vs os R
  | _, _, _, .nil => .nil
  | _, _, _, .cons h r d => .cons (Own.mono e h) (OwnL.mono e r) d
end
theorem OwnL.length : ∀ {vs : List V} {os : List O} {R : Hp}, OwnL K Hs vs os R → vs.length = os.length
  | _, _, _, .nil => rfl
  | _, _, _, .cons _ r _ => by rw [List.length_cons, List.length_cons, r.length]
theorem jn_em (R : Hp) : jn em R = R := funext fun a => rfl
theorem jn_em' (R : Hp) : jn R em = R := funext fun a => by
  unfold jn em
  cases R a <;> rfl
theorem jn_none {R S : Hp} {a : Addr} : jn R S a = none ↔ R a = none ∧ S a = none := by
  unfold jn
  cases h : R a with
  | some o => simp
  | none => simp
theorem PlR.em : PlR em := fun a o e => nomatch e
theorem PlR.upd {R : Hp} {p : Addr} {u : HO} (h : PlR R) (n : u.pln = true := by rfl) : PlR (upd R p u) := fun a o e => by
  by_cases q : a = p
  · rw [q, upd_same] at e
    cases e
    exact n
  · rw [upd_ne q] at e
    exact h a o e
theorem PlR.jn {R S : Hp} (h : PlR R) (k : PlR S) : PlR (jn R S) := fun a o e => by
  cases z : R a with
  | some u =>
    rw [jn_l z] at e
    cases e
    exact h a o z
  | none =>
    rw [jn_r z] at e
    exact k a o e
mutual
theorem Own.pl : ∀ {v : V} {o : O} {R : Hp}, Own K Hs v o R → PlR R
  | _, _, _, .sh _ => PlR.em
  | _, _, _, .ol n h => (OwnL.pl h).upd
  | _, _, _, .ob n l h => (OwnL.pl h).upd
  | _, _, _, .dg h => PlR.em.upd
theorem OwnL.pl : ∀ {vs : List V} {os : List O} {R : Hp}, OwnL K Hs vs os R → PlR R
  | _, _, _, .nil => PlR.em
  | _, _, _, .cons h r d => (Own.pl h).jn (OwnL.pl r)
end
theorem ownL_sh {vs : List V} {ds : List D} (h : RepL K Hs vs ds) : OwnL K Hs vs (ds.map .sh) em := by
  induction vs generalizing ds with
  | nil => cases h; exact .nil
  | cons v vs ih =>
    cases h with
    | cons a b =>
      have := OwnL.cons (Own.sh a) (ih b) (fun x hx => absurd rfl hx)
      rw [jn_em] at this
      exact this
theorem OwnL.reps : ∀ {vs : List V} {ds : List D} {R : Hp}, OwnL K Hs vs (ds.map .sh) R → RepL K Hs vs ds ∧ R = em
  | vs, [], R, h => by cases h; exact ⟨.nil, rfl⟩
  | vs, d :: ds, R, h => by
    cases h with
    | cons a b c =>
      cases a with
      | sh q =>
        obtain ⟨r, e⟩ := OwnL.reps (ds := ds) b
        subst e
        exact ⟨.cons q r, jn_em _⟩
/-- a list's item with its part of the region -/
theorem OwnL.split : ∀ {vs : List V} {os : List O} {R : Hp} {j : Nat} {o : O}, OwnL K Hs vs os R → os[j]? = some o → ∃ v S T, vs[j]? = some v ∧ Own K Hs v o S ∧ (∀ a, S a ≠ none → T a = none) ∧ (∀ a, R a = jn S T a) ∧
    ∀ {G : Hp}, Ex Hs G → ∀ {v' : V} {o' : O} {S' : Hp}, Own K G v' o' S' → (∀ a, S' a ≠ none → T a = none) → OwnL K G (vs.set j v') (os.set j o') (jn S' T)
  | _, _, _, j, o, .nil, e => by simp at e
  | _, _, _, 0, o, .cons (v := v) (R := R1) (S := R2) h r d, e => by
    have e' := Option.some.inj e
    subst e'
    exact ⟨v, R1, R2, rfl, h, d, fun a => rfl, fun {G} eg {v' o' S'} h' d' => .cons h' (r.mono eg) d'⟩
  | _, _, _, j + 1, o, .cons (v := v) (R := R1) (S := R2) h r d, e => by
    obtain ⟨u, S, T, e1, h1, d1, e2, k⟩ := OwnL.split (j := j) (o := o) r e
    refine ⟨u, S, jn R1 T, e1, h1, fun a ha => ?_, fun a => ?_, fun {G} eg {v' o' S'} h' d' => ?_⟩
    · have hS : R2 a ≠ none := by
        rw [e2]
        intro z
        exact ha (jn_none.mp z).1
      refine jn_none.mpr ⟨?_, d1 a ha⟩
      cases z : R1 a with
      | none => rfl
      | some o => exact absurd (d a (by rw [z]; exact fun y => nomatch y)) hS
    · show jn R1 R2 a = jn S (jn R1 T) a
      cases z : R1 a with
      | some o =>
        have hS : S a = none := by
          cases y : S a with
          | none => rfl
          | some u =>
            have := d a (by rw [z]; exact fun y => nomatch y)
            rw [e2, jn_l y] at this
            cases this
        rw [jn_l z, jn_r hS, jn_l z]
      | none =>
        rw [jn_r z, e2]
        cases y : S a with
        | some u => rw [jn_l y, jn_l y]
        | none => rw [jn_r y, jn_r y, jn_r z]
    · have q := k eg (v' := v') (o' := o') (S' := S') h' (fun a ha => (jn_none.mp (d' a ha)).2)
      have c := OwnL.cons (h.mono eg) q (fun a ha => by
        refine jn_none.mpr ⟨?_, ?_⟩
        · cases y : S' a with
          | none => rfl
          | some u => exact absurd (jn_none.mp (d' a (by rw [y]; exact fun z => nomatch z))).1 ha
        · have := d a ha
          rw [e2] at this
          exact (jn_none.mp this).2)
      have e3 : jn S' (jn R1 T) = jn R1 (jn S' T) := funext fun a => by
        cases z : R1 a with
        | some o =>
          have hS : S' a = none := by
            cases y : S' a with
            | none => rfl
            | some u =>
              have := (jn_none.mp (d' a (by rw [y]; exact fun z => nomatch z))).1
              rw [z] at this
              cases this
          rw [jn_r hS, jn_l z, jn_l z]
        | none =>
          rw [jn_r z]
          cases y : S' a with
          | some u => rw [jn_l y, jn_l y]
          | none => rw [jn_r y, jn_r y, jn_r z]
      rw [e3]
      exact c
theorem OwnL.snoc {v : V} {o : O} {S : Hp} (h : Own K Hs v o S) : ∀ {vs : List V} {os : List O} {R : Hp}, OwnL K Hs vs os R → (∀ a, S a ≠ none → R a = none) → OwnL K Hs (vs ++ [v]) (os ++ [o]) (jn S R)
  | _, _, _, .nil, d => by
    exact .cons h .nil (fun _ _ => rfl)
  | _, _, _, .cons (R := R1) (S := R2) h1 r d1, d => by
    have q := OwnL.snoc h r fun a ha => (jn_none.mp (d a ha)).2
    have c := OwnL.cons h1 q fun a ha => jn_none.mpr ⟨by
      cases y : S a with
      | none => rfl
      | some u => exact absurd (jn_none.mp (d a (by rw [y]; exact fun z => nomatch z))).1 ha, d1 a ha⟩
    have e3 : jn S (jn R1 R2) = jn R1 (jn S R2) := funext fun a => by
      cases z : R1 a with
      | some o =>
        have hS : S a = none := by
          cases y : S a with
          | none => rfl
          | some u =>
            have := (jn_none.mp (d a (by rw [y]; exact fun z => nomatch z))).1
            rw [z] at this
            cases this
        rw [jn_r hS, jn_l z, jn_l z]
      | none =>
        rw [jn_r z]
        cases y : S a with
        | some u => rw [jn_l y, jn_l y]
        | none => rw [jn_r y, jn_r y, jn_r z]
    rw [e3]
    exact c

/-! ### paths -/
def O.kids : O → List O
  | .sh _ => []
  | .ol xs => xs
  | .ob _ _ xs => xs
  | .dg _ _ => []
def O.wk : O → List O → O
  | .sh d, _ => .sh d
  | .ol _, ys => .ol ys
  | .ob C ns _, ys => .ob C ns ys
  | .dg P n, _ => .dg P n
def O.at_ : O → List Nat → Option O
  | o, [] => some o
  | o, j :: p => (o.kids[j]?).bind fun x => x.at_ p
def O.put : O → List Nat → O → O
  | _, [], o' => o'
  | o, j :: p, o' => match o.kids[j]? with
    | none => o
    | some x => o.wk (o.kids.set j (x.put p o'))
/-- the value at a path -/
inductive VAt (H : Hp) : V → List Nat → V → Prop
  | nil {v : V} : VAt H v [] v
  | lst {a : Addr} {vs : List V} {j : Nat} {u w : V} {p : List Nat} : H a = some (.lst vs) → vs[j]? = some u → VAt H u p w → VAt H (.ref a) (j :: p) w
  | ins {a C dx : Addr} {fs : List (Str × V)} {f : Str} {j : Nat} {u w : V} {p : List Nat} : H a = some (.ins C dx fs) → fs[j]? = some (f, u) → VAt H u p w → VAt H (.ref a) (j :: p) w
theorem VAt.mono {H H' : Hp} (e : Ex H H') : ∀ {v : V} {p : List Nat} {w : V}, VAt H v p w → VAt H' v p w
  | _, _, _, .nil => .nil
  | _, _, _, .lst h g r => .lst (e _ _ h) g (VAt.mono e r)
  | _, _, _, .ins h g r => .ins (e _ _ h) g (VAt.mono e r)
theorem VAt.monoN {H H' : Hp} (e : ExN H H') : ∀ {v : V} {p : List Nat} {w : V}, VAt H v p w → VAt H' v p w
  | _, _, _, .nil => .nil
  | _, _, _, .lst h g r => .lst (e.pl h) g (VAt.monoN e r)
  | _, _, _, .ins h g r => .ins (e.pl h) g (VAt.monoN e r)
theorem VAt.app {H : Hp} {q : List Nat} {u : V} : ∀ {v : V} {p : List Nat} {w : V}, VAt H v p w → VAt H w q u → VAt H v (p ++ q) u
  | _, _, _, .nil, r => r
  | _, _, _, .lst h g r, s => .lst h g (VAt.app r s)
  | _, _, _, .ins h g r, s => .ins h g (VAt.app r s)
theorem VAt.det {H : Hp} : ∀ {v : V} {p : List Nat} {w u : V}, VAt H v p w → VAt H v p u → w = u
  | _, _, _, _, .nil, .nil => rfl
  | _, _, _, _, .lst h g r, .lst h' g' r' => by
    rw [h] at h'
    cases h'
    rw [g] at g'
    cases g'
    exact VAt.det r r'
  | _, _, _, _, .ins h g r, .ins h' g' r' => by
    rw [h] at h'
    cases h'
    rw [g] at g'
    cases g'
    exact VAt.det r r'
  | _, _, _, _, .lst h g r, .ins h' g' r' => by rw [h] at h'; cases h'
  | _, _, _, _, .ins h g r, .lst h' g' r' => by rw [h] at h'; cases h'
theorem zip_get {ns : List Str} {vs : List V} {j : Nat} {u : V} (hl : ns.length = vs.length) (h : vs[j]? = some u) : ∃ f, (ns.zip vs)[j]? = some (f, u) := by
  have hj := (List.getElem?_eq_some_iff.mp h).1
  refine ⟨ns[j]'(by omega), ?_⟩
  rw [List.getElem?_zip_eq_some]
  exact ⟨List.getElem?_eq_getElem _, h⟩
theorem zip_set {ns : List Str} {vs : List V} {j : Nat} {u : V} : vs[j]? = some u → ns.zip (vs.set j u) = ns.zip vs := fun h => by
  have e : vs.set j u = vs := by
    apply List.ext_getElem?
    intro i
    by_cases q : i = j
    · subst q
      rw [List.getElem?_set_self (List.getElem?_eq_some_iff.mp h).1, h]
    · rw [List.getElem?_set_ne (Ne.symm q)]
  rw [e]
/-- what lies at a path, and what may be put there in its stead (its address stays) -/
theorem Own.part : ∀ {p : List Nat} {v : V} {o o1 : O} {R : Hp}, Own K Hs v o R → o.at_ p = some o1 → ∃ v1 S T, VAt R v p v1 ∧ Own K Hs v1 o1 S ∧ (∀ a, S a ≠ none → T a = none) ∧ (∀ a, R a = jn S T a) ∧
    ∀ {G : Hp}, Ex Hs G → ∀ {o' : O} {S' : Hp}, Own K G v1 o' S' → (∀ a, S' a ≠ none → T a = none) → Own K G v (o.put p o') (jn S' T)
  | [], v, o, o1, R, h, e => by
    have e' := Option.some.inj e
    subst e'
    exact ⟨v, R, em, .nil, h, fun _ _ => rfl, fun a => by rw [jn_em'], fun {G} eg {o' S'} h' _ => by
      rw [jn_em']
      exact h'⟩
  | j :: p, v, o, o1, R, h, e => by
    obtain ⟨x, hx, e⟩ := Option.bind_eq_some_iff.mp e
    have shape : ∃ (q : Addr) (vs : List V) (xs : List O) (R1 : Hp) (mk : List V → HO), v = .ref q ∧ o.kids = xs ∧ R1 q = none ∧ OwnL K Hs vs xs R1 ∧ R = upd R1 q (mk vs) ∧
        (∀ (G : Hp) (vs' : List V) (xs' : List O) (R' : Hp), R' q = none → xs'.length = xs.length → OwnL K G vs' xs' R' → Own K G (.ref q) (o.wk xs') (upd R' q (mk vs'))) ∧
        (∀ (G : Hp) (vs' : List V) (u w : V), vs'.length = vs.length → G q = some (mk vs') → vs'[j]? = some u → VAt G u p w → VAt G (.ref q) (j :: p) w) := by
      cases h with
      | sh _ => simp [O.kids] at hx
      | dg _ => simp [O.kids] at hx
      | @ol q vs xs R1 hn hl =>
        exact ⟨q, vs, xs, R1, fun vs => .lst vs, rfl, rfl, hn, hl, rfl, fun G vs' xs' R' hn' _ hl' => .ol hn' hl', fun G vs' u w _ hg hu r => .lst hg hu r⟩
      | @ob q C dx ns vs xs R1 hn hlen hl =>
        refine ⟨q, vs, xs, R1, fun vs => .ins C dx (ns.zip vs), rfl, rfl, hn, hl, rfl, fun G vs' xs' R' hn' hlen' hl' => .ob hn' (by omega) hl', fun G vs' u w hlen' hg hu r => ?_⟩
        obtain ⟨f, hf⟩ := zip_get (ns := ns) (by rw [hlen', hl.length]; exact hlen) hu
        exact .ins hg hf r
    obtain ⟨q, vs, xs, R1, mk, rfl, ek, hn, hl, rfl, build, step⟩ := shape
    rw [ek] at hx
    obtain ⟨u, S1, T1, hu, ho, d1, e1, k1⟩ := hl.split hx
    obtain ⟨v1, S, T, va, h1, d2, e2, k2⟩ := Own.part (p := p) ho e
    have qS1 : S1 q = none ∧ T1 q = none := jn_none.mp (by rw [← e1]; exact hn)
    have qST : S q = none ∧ T q = none := jn_none.mp (by rw [← e2]; exact qS1.1)
    refine ⟨v1, S, upd (jn T T1) q (mk vs), ?_, h1, fun a ha => ?_, fun a => ?_, fun {G} eg {o' S'} h' d' => ?_⟩
    · refine step _ vs u v1 rfl upd_same hu (va.mono fun a o ea => ?_)
      have na : a ≠ q := fun z => by rw [z, qS1.1] at ea; cases ea
      rw [upd_ne na, e1, jn_l ea]
    · have na : a ≠ q := fun z => by rw [z] at ha; exact ha qST.1
      rw [upd_ne na]
      refine jn_none.mpr ⟨d2 a ha, d1 a ?_⟩
      rw [e2]
      intro z
      exact ha (jn_none.mp z).1
    · by_cases na : a = q
      · subst na
        rw [upd_same, jn_r qST.1, upd_same]
      · rw [upd_ne na, e1]
        cases y : S a with
        | some o =>
          have y1 : S1 a = some o := by rw [e2, jn_l y]
          rw [jn_l y1, jn_l y]
        | none =>
          rw [jn_r y, upd_ne na]
          cases z : T a with
          | some o =>
            have y1 : S1 a = some o := by rw [e2, jn_r y, z]
            rw [jn_l y1, jn_l z]
          | none =>
            have y1 : S1 a = none := by rw [e2, jn_r y, z]
            rw [jn_r y1, jn_r z]
    · have c2 := k2 eg h' fun a ha => by
        have := d' a ha
        by_cases na : a = q
        · subst na
          exact qST.2
        · rw [upd_ne na] at this
          exact (jn_none.mp this).1
      have c1 := k1 eg c2 fun a ha => by
        by_cases hS' : S' a = none
        · have hT : T a ≠ none := fun z => ha (jn_none.mpr ⟨hS', z⟩)
          refine d1 a ?_
          rw [e2]
          intro z
          exact hT (jn_none.mp z).2
        · have := d' a hS'
          by_cases na : a = q
          · subst na
            exact qS1.2
          · rw [upd_ne na] at this
            exact (jn_none.mp this).2
      have hq' : S' q = none := by
        cases y : S' q with
        | none => rfl
        | some w =>
          have := d' q (by rw [y]; exact fun z => nomatch z)
          rw [upd_same] at this
          cases this
      have eput : o.put (j :: p) o' = o.wk (xs.set j (x.put p o')) := by
        show (match o.kids[j]? with
          | none => o
          | some x => o.wk (o.kids.set j (x.put p o'))) = _
        rw [ek, hx]
      rw [eput]
      have b := build G (vs.set j u) (xs.set j (x.put p o')) (jn (jn S' T) T1) (jn_none.mpr ⟨jn_none.mpr ⟨hq', qST.2⟩, qS1.2⟩) (by rw [List.length_set]) c1
      have ev : vs.set j u = vs := by
        apply List.ext_getElem?
        intro i
        by_cases qi : i = j
        · subst qi
          rw [List.getElem?_set_self (List.getElem?_eq_some_iff.mp hu).1, hu]
        · rw [List.getElem?_set_ne (Ne.symm qi)]
      rw [ev] at b
      have er : jn S' (upd (jn T T1) q (mk vs)) = upd (jn (jn S' T) T1) q (mk vs) := funext fun a => by
        by_cases na : a = q
        · subst na
          rw [jn_r hq', upd_same, upd_same]
        · rw [upd_ne na]
          cases y : S' a with
          | some w => rw [jn_l y, jn_l (show jn S' T a = some w by rw [jn_l y])]
          | none =>
            rw [jn_r y, upd_ne na]
            cases z : T a with
            | some w => rw [jn_l z, jn_l (show jn S' T a = some w by rw [jn_r y, z])]
            | none => rw [jn_r z, jn_r (show jn S' T a = none from jn_none.mpr ⟨y, z⟩)]
      rw [er]
      exact b
end
end DL

/-! DRules: what readings do on deep data. -/
namespace DL
open PySem L2
variable [TbC]

theorem SqT_of {K : PySem.W.Frag} {H : Hp} {a : Addr} {vs : List V} (h : H a = some (.tup vs)) : SqT K H a vs := .of h
/-! ### judgements -/
/-- te gives d -/
def EvD (K : PySem.W.Frag) (te : TE) (ρ : Env) (d : D) : Prop := ∀ B Hs H σ, RS K B Hs H σ ρ → ∀ Q : VK, (∀ Hs' H' v, Gr Hs H H Hs' H' → Rep K Hs' v d → Q v H') → te σ H Q
/-- te gives a new list that nobody else knows -/
def EvF (K : PySem.W.Frag) (te : TE) (ρ : Env) (ds : List D) : Prop := ∀ B Hs H σ, RS K B Hs H σ ρ → ∀ Q : VK, (∀ Hs' H' p vs, Gr Hs H H Hs' H' → H p = none → Hs' p = none → H' p = some (.lst vs) → RepL K Hs' vs ds → Q (.ref p) H') → te σ H Q
/-- te gives a list that may be read now -/
def EvB (K : PySem.W.Frag) (te : TE) (ρ : Env) (ds : List D) : Prop := ∀ B Hs H σ, RS K B Hs H σ ρ → ∀ Q : VK, (∀ Hs' H' p vs, Gr Hs H H Hs' H' → SqL K H' p vs → RepL K Hs' vs ds → Q (.ref p) H') → te σ H Q
/-- .. a list that is tracked (not the script) -/
def EvM (K : PySem.W.Frag) (te : TE) (ρ : Env) (ds : List D) : Prop := ∀ B Hs H σ, RS K B Hs H σ ρ → ∀ Q : VK, (∀ Hs' H' p vs, Gr Hs H H Hs' H' → H' p = some (.lst vs) → RepL K Hs' vs ds → Q (.ref p) H') → te σ H Q
/-- te gives what may be read now as d -/
def EvR (K : PySem.W.Frag) (te : TE) (ρ : Env) (d : D) : Prop := ∀ B Hs H σ, RS K B Hs H σ ρ → ∀ Q : VK, (∀ Hs' H' v, Gr Hs H H Hs' H' → Rep K H' v d → Q v H') → te σ H Q
/-- a test -/
def EvT (K : PySem.W.Frag) (tt : TT) (ρ : Env) (b : Bool) : Prop := ∀ B Hs H σ, RS K B Hs H σ ρ → ∀ Q : Bool → Hp → Prop, (∀ Hs' H', Gr Hs H H Hs' H' → Q b H') → tt σ H Q
/-- arguments -/
def EvA (K : PySem.W.Frag) (ta : TA) (ρ : Env) (ds : List D) : Prop := ∀ B Hs H σ, RS K B Hs H σ ρ → ∀ Q : List V → Hp → Prop, (∀ Hs' H' vs, Gr Hs H H Hs' H' → RepL K Hs' vs ds → Q vs H') → ta σ H Q
/-- a part of a slice -/
def EvO (K : PySem.W.Frag) (to : TO) (ρ : Env) (o : Option Int) : Prop := ∀ B Hs H σ, RS K B Hs H σ ρ → ∀ Q : Option Int → Hp → Prop, (∀ Hs' H', Gr Hs H H Hs' H' → Q o H') → to σ H Q
/-- what an iterator yields -/
def ItD (K : PySem.W.Frag) (J : It) (Hs1 : Hp) (ds : List D) : Prop := ∀ i Hs2 H2, Ex Hs1 Hs2 → Ex Hs2 H2 →
  (∀ d, ds[i]? = some d → J.go i H2 ∧ ∀ x H3, J.yld i H2 x H3 → ∃ Hs3, Gr Hs2 H2 H2 Hs3 H3 ∧ Rep K Hs3 x d) ∧ (i = ds.length → J.stop i H2)
def EvI (K : PySem.W.Frag) (wi : TI) (ρ : Env) (ds : List D) : Prop := ∀ B Hs H σ, RS K B Hs H σ ρ → ∀ R : It → Hp → Prop, (∀ J Hs1 H1, Gr Hs H H Hs1 H1 → ItD K J Hs1 ds → R J H1) → wi σ H R
/-- a target takes d -/
def EvG (K : PySem.W.Frag) (g : TG) (d : D) (ρ ρ' : Env) : Prop := ∀ B Hs H σ x, RS K B Hs H σ ρ → Rep K Hs x d → ∀ Q : St → Hp → Prop, (∀ Hs' H' σ', Gr Hs H H Hs' H' → RS K B Hs' H' σ' ρ' → Q σ' H') → g x σ H Q
def EvGs (K : PySem.W.Frag) (g : TGs) (ds : List D) (ρ ρ' : Env) : Prop := ∀ B Hs H σ xs, RS K B Hs H σ ρ → RepL K Hs xs ds → ∀ Q : St → Hp → Prop, (∀ Hs' H' σ', Gr Hs H H Hs' H' → RS K B Hs' H' σ' ρ' → Q σ' H') → g xs σ H Q

section
variable {K : PySem.W.Frag} {ρ : Env} {te ta tb tx : TE} {d e : D} {ds es : List D} {tt tu : TT}

theorem EvD.is (h : EvD K te ρ d) (q : d = e) : EvD K te ρ e := q ▸ h
theorem EvF.is (h : EvF K te ρ ds) (q : ds = es) : EvF K te ρ es := q ▸ h
theorem EvT.is {a b : Bool} (h : EvT K tt ρ a) (q : a = b) : EvT K tt ρ b := q ▸ h
theorem EvD.r (h : EvD K te ρ d) : EvR K te ρ d := fun B Hs H σ r Q q => h B Hs H σ r Q fun Hs' H' v g x => q Hs' H' v g (x.mono g.lv)
theorem EvF.m (h : EvF K te ρ ds) : EvM K te ρ ds := fun B Hs H σ r Q q => h B Hs H σ r Q fun Hs' H' p vs g _ _ e x => q Hs' H' p vs g e x
theorem EvM.b (h : EvM K te ρ ds) : EvB K te ρ ds := fun B Hs H σ r Q q => h B Hs H σ r Q fun Hs' H' p vs g e x => q Hs' H' p vs g (.of e) x
theorem EvF.b (h : EvF K te ρ ds) : EvB K te ρ ds := h.m.b
theorem EvF.v (h : EvF K te ρ ds) : EvD K te ρ (.lst ds) := fun B Hs H σ r Q q => h B Hs H σ r Q fun Hs' H' p vs g n ns e x =>
  q (upd Hs' p (.lst vs)) H' (.ref p) (g.share n ns e) (.lst upd_same (x.mono (Ex.new ns)))
theorem EvD.m (h : EvD K te ρ (.lst ds)) : EvM K te ρ ds := fun B Hs H σ r Q q => h B Hs H σ r Q fun Hs' H' v g x => by
  cases x with
  | lst hs hr => exact q Hs' H' _ _ g (g.lv _ _ hs) hr
theorem EvD.s (h : EvD K te ρ (.scr ds)) : EvB K te ρ ds := fun B Hs H σ r Q q => h B Hs H σ r Q fun Hs' H' v g x => by
  cases x with
  | scr hs hr => exact q Hs' H' _ _ g (g.lv.sl hs) hr
theorem EvM.r (h : EvM K te ρ ds) : EvR K te ρ (.lst ds) := fun B Hs H σ r Q q => h B Hs H σ r Q fun Hs' H' p vs g e x => q Hs' H' (.ref p) g (.lst e (x.mono g.lv))

/-! ### names and constants -/
theorem ev_var {i : Nat} (h : ρ[i]? = some (some (.sh d))) : EvD K (tVar i) ρ d := fun B Hs H σ r Q q => by
  obtain ⟨v, e, x⟩ := r.get h
  exact ⟨v, e, q Hs H v (Gr.refl r.ex) x⟩
theorem em_var {i : Nat} (h : ρ[i]? = some (some (.ol ds))) : EvM K (tVar i) ρ ds := fun B Hs H σ r Q q => by
  obtain ⟨p, vs, e, hp, x, _⟩ := r.mutL i h
  exact ⟨.ref p, e, q Hs H p vs (Gr.refl r.ex) hp x⟩
theorem ev_ci {i : Int} : EvD K (tC (.int i)) ρ (.int i) := fun B Hs H σ r Q q => q Hs H _ (Gr.refl r.ex) (.int i)
theorem ev_cs {s : Str} : EvD K (tC (.str s)) ρ (.str s) := fun B Hs H σ r Q q => q Hs H _ (Gr.refl r.ex) (.str s)
theorem ev_cb {b : Bool} : EvD K (tC (.bl b)) ρ (.bl b) := fun B Hs H σ r Q q => q Hs H _ (Gr.refl r.ex) (.bl b)
theorem ev_cn : EvD K (tC .non) ρ .non := fun B Hs H σ r Q q => q Hs H _ (Gr.refl r.ex) .non
theorem ev_cf {a : Addr} : EvD K (tC (.ref a)) ρ (.fn a) := fun B Hs H σ r Q q => q Hs H _ (Gr.refl r.ex) (.fn a)
theorem ev_ct {n : String} : EvD K (tC (.ty n)) ρ (.ty n) := fun B Hs H σ r Q q => q Hs H _ (Gr.refl r.ex) (.ty n)

/-! ### operators on ints -/
theorem ev_I {g : Int → Int → Int} {i j : Int} (ha : EvD K ta ρ (.int i)) (hb : EvD K tb ρ (.int j)) : EvD K (tOp (rI0 fun i j => .int (g i j)) ta tb) ρ (.int (g i j)) := fun B Hs H σ r Q q =>
  ha B Hs H σ r _ fun Hs1 H1 x g1 x1 => hb B Hs1 H1 σ (r.grow g1) _ fun Hs2 H2 y g2 y2 => by
    cases x1
    cases y2
    exact ⟨i, j, rfl, rfl, q Hs2 H2 _ (g1.trans g2) (.int _)⟩
theorem ev_Ib {g : Int → Int → Bool} {i j : Int} (ha : EvD K ta ρ (.int i)) (hb : EvD K tb ρ (.int j)) : EvD K (tOp (rI0 fun i j => .bl (g i j)) ta tb) ρ (.bl (g i j)) := fun B Hs H σ r Q q =>
  ha B Hs H σ r _ fun Hs1 H1 x g1 x1 => hb B Hs1 H1 σ (r.grow g1) _ fun Hs2 H2 y g2 y2 => by
    cases x1
    cases y2
    exact ⟨i, j, rfl, rfl, q Hs2 H2 _ (g1.trans g2) (.bl _)⟩
theorem ev_IC {C : Int → Int → Prop} {g : Int → Int → Int} {i j : Int} (ha : EvD K ta ρ (.int i)) (hb : EvD K tb ρ (.int j)) (hc : C i j) : EvD K (tOp (rI C fun i j => .int (g i j)) ta tb) ρ (.int (g i j)) := fun B Hs H σ r Q q =>
  ha B Hs H σ r _ fun Hs1 H1 x g1 x1 => hb B Hs1 H1 σ (r.grow g1) _ fun Hs2 H2 y g2 y2 => by
    cases x1
    cases y2
    exact ⟨i, j, rfl, rfl, hc, q Hs2 H2 _ (g1.trans g2) (.int _)⟩
theorem ev_U {g : Int → Int} {i : Int} (ha : EvD K ta ρ (.int i)) : EvD K (tUn (rU fun i => .int (g i)) ta) ρ (.int (g i)) := fun B Hs H σ r Q q =>
  ha B Hs H σ r _ fun Hs1 H1 x g1 x1 => by
    cases x1
    exact ⟨i, rfl, q Hs1 H1 _ g1 (.int _)⟩

/-! ### == of data -/
mutual
def D.pd : D → PyData
  | .non => .none | .bl b => .bool b | .int i => .int i | .str s => .str s
  | .lst xs => .list (D.pds xs) | .scr xs => .list (D.pds xs) | .tup xs => .tuple (D.pds xs)
  | .ty _ => .none | .fn _ => .none | .obj _ _ _ => .none | .clo _ _ _ => .none
def D.pds : List D → List PyData
  | [] => []
  | x :: xs => D.pd x :: D.pds xs
end
mutual
/-- data that == compares as data -/
def D.pl : D → Bool
  | .non => true | .bl _ => true | .int _ => true | .str _ => true
  | .lst xs => D.pls xs | .scr xs => D.pls xs | .tup xs => D.pls xs
  | .ty _ => false | .fn _ => false | .obj _ _ _ => false | .clo _ _ _ => false
def D.pls : List D → Bool
  | [] => true
  | x :: xs => D.pl x && D.pls xs
end
mutual
theorem Rep.dp {H : Hp} : ∀ {v : V} {d : D}, Rep K H v d → d.pl = true → Dp K H v d.pd
  | _, _, .non, _ => .non
  | _, _, .bl b, _ => .bl b
  | _, _, .int i, _ => .int i
  | _, _, .str x, _ => .str x
  | _, _, .ty n, s => by cases s
  | _, _, .fn a, s => by cases s
  | _, _, .lst h r, s => by
    unfold D.pd
    exact .lst (.of h) (RepL.dp r (by unfold D.pl at s; exact s))
  | _, _, .scr h r, s => by
    unfold D.pd
    exact .lst h (RepL.dp r (by unfold D.pl at s; exact s))
  | _, _, .tup h r, s => by
    unfold D.pd
    exact .tup (.of h) (RepL.dp r (by unfold D.pl at s; exact s))
  | _, _, .obj h r, s => by cases s
  | _, _, .clo h k r, s => by cases s
theorem RepL.dp {H : Hp} : ∀ {vs : List V} {ds : List D}, RepL K H vs ds → D.pls ds = true → DpAll K H vs (D.pds ds)
  | _, _, .nil, _ => by
    unfold D.pds
    exact .nil
  | _, _, .cons h r, s => by
    unfold D.pls at s
    rw [Bool.and_eq_true] at s
    unfold D.pds
    exact .cons (Rep.dp h s.1) (RepL.dp r s.2)
end
/-- fit to be compared -/
def D.fit (d : D) : Bool := d.pl && SeqAt.shaped d.pd
theorem ev_eq (ha : EvR K ta ρ d) (hb : EvR K tb ρ e) (fd : d.fit = true) (fe : e.fit = true) : EvD K (tOp (rEqD K) ta tb) ρ (.bl (PyData.eqv d.pd e.pd)) := fun B Hs H σ r Q q =>
  ha B Hs H σ r _ fun Hs1 H1 x g1 x1 => hb B Hs1 H1 σ (r.grow g1) _ fun Hs2 H2 y g2 y2 => by
    unfold D.fit at fd fe
    rw [Bool.and_eq_true] at fd fe
    exact ⟨_, _, (x1.monoN g2.fr).dp fd.1, y2.dp fe.1, fd.2, fe.2, q Hs2 H2 _ (g1.trans g2) (.bl _)⟩
theorem ev_ne (ha : EvR K ta ρ d) (hb : EvR K tb ρ e) (fd : d.fit = true) (fe : e.fit = true) : EvD K (tOp (rNeD K) ta tb) ρ (.bl (!PyData.eqv d.pd e.pd)) := fun B Hs H σ r Q q =>
  ha B Hs H σ r _ fun Hs1 H1 x g1 x1 => hb B Hs1 H1 σ (r.grow g1) _ fun Hs2 H2 y g2 y2 => by
    unfold D.fit at fd fe
    rw [Bool.and_eq_true] at fd fe
    exact ⟨_, _, (x1.monoN g2.fr).dp fd.1, y2.dp fe.1, fd.2, fe.2, q Hs2 H2 _ (g1.trans g2) (.bl _)⟩
theorem ev_eqI {i j : Int} (ha : EvD K ta ρ (.int i)) (hb : EvD K tb ρ (.int j)) : EvD K (tOp (rEqD K) ta tb) ρ (.bl (decide (i = j))) :=
  (ev_eq ha.r hb.r rfl rfl).is (by
    show D.bl (i == j) = _
    rw [Bool.beq_eq_decide_eq])
theorem ev_neI {i j : Int} (ha : EvD K ta ρ (.int i)) (hb : EvD K tb ρ (.int j)) : EvD K (tOp (rNeD K) ta tb) ρ (.bl (!decide (i = j))) :=
  (ev_ne ha.r hb.r rfl rfl).is (by
    show D.bl (!(i == j)) = _
    rw [Bool.beq_eq_decide_eq])
theorem ev_eqB {i j : Bool} (ha : EvD K ta ρ (.bl i)) (hb : EvD K tb ρ (.bl j)) : EvD K (tOp (rEqD K) ta tb) ρ (.bl (decide (i = j))) :=
  (ev_eq ha.r hb.r rfl rfl).is (by
    show D.bl (i == j) = _
    rw [Bool.beq_eq_decide_eq])
theorem ev_neB {i j : Bool} (ha : EvD K ta ρ (.bl i)) (hb : EvD K tb ρ (.bl j)) : EvD K (tOp (rNeD K) ta tb) ρ (.bl (!decide (i = j))) :=
  (ev_ne ha.r hb.r rfl rfl).is (by
    show D.bl (!(i == j)) = _
    rw [Bool.beq_eq_decide_eq])

/-- a kind of data: == of its codes is =. n: how deep -/
structure Cod {α : Type} [DecidableEq α] (n : Nat) (f : α → D) : Prop where
  pl : ∀ x, (f x).pl = true
  lay : ∀ x, (f x).pd.canLay0 = true
  dp : ∀ x, (f x).pd.depth ≤ n
  eq : ∀ x y, PyData.eqv (f x).pd (f y).pd = decide (x = y)
section
variable {α β γ δ : Type} [DecidableEq α] [DecidableEq β] [DecidableEq γ] [DecidableEq δ] {n m k l : Nat} {f : α → D} {g : β → D} {h : γ → D} {u : δ → D}
theorem Cod.fit (c : Cod n f) (hn : n ≤ 64) (x : α) : (f x).fit = true := by
  unfold D.fit SeqAt.shaped
  have h2 : decide ((f x).pd.depth ≤ 64) = true := decide_eq_true (Nat.le_trans (c.dp x) hn)
  rw [c.pl, c.lay, h2]
  rfl
theorem cod_int : Cod 0 D.int := ⟨fun _ => rfl, fun _ => rfl, fun _ => Nat.le_refl _, fun x y => by
  show (x == y) = _
  rw [Bool.beq_eq_decide_eq]⟩
theorem cod_bl : Cod 0 D.bl := ⟨fun _ => rfl, fun _ => rfl, fun _ => Nat.le_refl _, fun x y => by
  show (x == y) = _
  rw [Bool.beq_eq_decide_eq]⟩
theorem Cod.pls (c : Cod n f) : ∀ xs : List α, D.pls (xs.map f) = true
  | [] => rfl
  | x :: xs => by
    show (D.pl (f x) && D.pls (xs.map f)) = true
    rw [c.pl, Cod.pls c xs]
    rfl
theorem Cod.lays (c : Cod n f) : ∀ xs : List α, PyData.canLayAll0 (D.pds (xs.map f)) = true
  | [] => rfl
  | x :: xs => by
    have h1 := c.lay x
    have h2 := Cod.lays c xs
    show PyData.canLayAll0 (D.pd (f x) :: D.pds (xs.map f)) = true
    simp only [PyData.canLayAll0, h1, h2, Bool.and_self]
theorem Cod.dps (c : Cod n f) : ∀ xs : List α, PyData.depthAll (D.pds (xs.map f)) ≤ n
  | [] => Nat.zero_le _
  | x :: xs => by
    have h1 := c.dp x
    have h2 := Cod.dps c xs
    show PyData.depthAll (D.pd (f x) :: D.pds (xs.map f)) ≤ n
    simp only [PyData.depthAll]
    omega
theorem Cod.eqs (c : Cod n f) : ∀ xs ys : List α, PyData.eqvAll (D.pds (xs.map f)) (D.pds (ys.map f)) = decide (xs = ys)
  | [], [] => by simp [D.pds, PyData.eqvAll]
  | [], y :: ys => by simp [D.pds, PyData.eqvAll]
  | x :: xs, [] => by simp [D.pds, PyData.eqvAll]
  | x :: xs, y :: ys => by
    have h1 := c.eq x y
    have h2 := Cod.eqs c xs ys
    show (PyData.eqv (f x).pd (f y).pd && PyData.eqvAll (D.pds (xs.map f)) (D.pds (ys.map f))) = _
    rw [h1, h2]
    by_cases e1 : x = y <;> by_cases e2 : xs = ys <;> simp [e1, e2]
theorem Cod.lst (c : Cod n f) : Cod (n + 1) (fun xs : List α => D.lst (xs.map f)) := ⟨fun xs => c.pls xs, fun xs => c.lays xs, fun xs => by
  have h := c.dps xs
  show PyData.depthAll (D.pds (xs.map f)) + 1 ≤ n + 1
  omega, fun xs ys => c.eqs xs ys⟩
theorem Cod.tps (c : Cod n f) : Cod (n + 1) (fun xs : List α => D.tup (xs.map f)) := ⟨fun xs => c.pls xs, fun xs => c.lays xs, fun xs => by
  have h := c.dps xs
  show PyData.depthAll (D.pds (xs.map f)) + 1 ≤ n + 1
  omega, fun xs ys => c.eqs xs ys⟩
theorem Cod.tup2 (a : Cod n f) (b : Cod m g) : Cod (max n m + 1) (fun x : α × β => D.tup [f x.1, g x.2]) := ⟨fun x => by simp [D.pl, D.pls, a.pl, b.pl], fun x => by simp [D.pd, D.pds, PyData.canLay0, PyData.canLayAll0, a.lay, b.lay],
  fun x => by
    have h1 := a.dp x.1
    have h2 := b.dp x.2
    simp only [D.pd, D.pds, PyData.depth, PyData.depthAll]
    omega, fun x y => by
    simp only [D.pd, D.pds, PyData.eqv, PyData.eqvAll, a.eq, b.eq]
    obtain ⟨x1, x2⟩ := x
    obtain ⟨y1, y2⟩ := y
    by_cases e1 : x1 = y1 <;> by_cases e2 : x2 = y2 <;> simp [e1, e2]⟩
theorem Cod.tup3 (a : Cod n f) (b : Cod m g) (c : Cod k h) : Cod (max n (max m k) + 1) (fun x : α × β × γ => D.tup [f x.1, g x.2.1, h x.2.2]) := ⟨fun x => by simp [D.pl, D.pls, a.pl, b.pl, c.pl], fun x => by simp [D.pd, D.pds, PyData.canLay0, PyData.canLayAll0, a.lay, b.lay, c.lay],
  fun x => by
    have h1 := a.dp x.1
    have h2 := b.dp x.2.1
    have h3 := c.dp x.2.2
    simp only [D.pd, D.pds, PyData.depth, PyData.depthAll]
    omega, fun x y => by
    simp only [D.pd, D.pds, PyData.eqv, PyData.eqvAll, a.eq, b.eq, c.eq]
    obtain ⟨x1, x2, x3⟩ := x
    obtain ⟨y1, y2, y3⟩ := y
    by_cases e1 : x1 = y1 <;> by_cases e2 : x2 = y2 <;> by_cases e3 : x3 = y3 <;> simp [e1, e2, e3]⟩
end
theorem ev_eqC {α : Type} [DecidableEq α] {n : Nat} {f : α → D} (c : Cod n f) (hn : n ≤ 64) {x y : α} (ha : EvR K ta ρ (f x)) (hb : EvR K tb ρ (f y)) : EvD K (tOp (rEqD K) ta tb) ρ (.bl (decide (x = y))) :=
  (ev_eq ha hb (c.fit hn x) (c.fit hn y)).is (by rw [c.eq])
theorem ev_neC {α : Type} [DecidableEq α] {n : Nat} {f : α → D} (c : Cod n f) (hn : n ≤ 64) {x y : α} (ha : EvR K ta ρ (f x)) (hb : EvR K tb ρ (f y)) : EvD K (tOp (rNeD K) ta tb) ρ (.bl (!decide (x = y))) :=
  (ev_ne ha hb (c.fit hn x) (c.fit hn y)).is (by rw [c.eq])
theorem ev_eqL {xs ys : List Int} (ha : EvR K ta ρ (.lst (xs.map .int))) (hb : EvR K tb ρ (.lst (ys.map .int))) : EvD K (tOp (rEqD K) ta tb) ρ (.bl (decide (xs = ys))) := ev_eqC cod_int.lst (by decide) ha hb
theorem ev_neL {xs ys : List Int} (ha : EvR K ta ρ (.lst (xs.map .int))) (hb : EvR K tb ρ (.lst (ys.map .int))) : EvD K (tOp (rNeD K) ta tb) ρ (.bl (!decide (xs = ys))) := ev_neC cod_int.lst (by decide) ha hb
/-- xs == [], xs != [] -/
theorem ev_eqN {xs : List D} (ha : EvR K ta ρ (.lst xs)) (hb : EvR K tb ρ (.lst [])) (fx : (D.lst xs).fit = true) : EvD K (tOp (rEqD K) ta tb) ρ (.bl xs.isEmpty) := (ev_eq ha hb fx rfl).is (by
  cases xs <;> rfl)
theorem ev_neN {xs : List D} (ha : EvR K ta ρ (.lst xs)) (hb : EvR K tb ρ (.lst [])) (fx : (D.lst xs).fit = true) : EvD K (tOp (rNeD K) ta tb) ρ (.bl (!xs.isEmpty)) := (ev_ne ha hb fx rfl).is (by
  cases xs <;> rfl)
def D.isN : D → Bool
  | .non => true
  | _ => false
/-! ### tests -/
theorem et_B {b : Bool} (h : EvD K te ρ (.bl b)) : EvT K (tB te) ρ b := fun B Hs H σ r Q q => h B Hs H σ r _ fun Hs' H' v g x => by
  cases x
  exact ⟨b, rfl, q Hs' H' g⟩
theorem et_t {b : Bool} (h : EvD K te ρ (.bl b)) : EvT K (tTest te) ρ b := fun B Hs H σ r Q q => h B Hs H σ r _ fun Hs' H' v g x => by
  cases x
  exact ⟨b, rfl, q Hs' H' g⟩
theorem et_and {a b : Bool} (h1 : EvT K tt ρ a) (h2 : a = true → EvT K tu ρ b) : EvT K (tAnd tt tu) ρ (a && b) := fun B Hs H σ r Q q => h1 B Hs H σ r _ fun Hs1 H1 g1 => by
  cases a with
  | true =>
    show tu σ H1 Q
    exact h2 rfl B Hs1 H1 σ (r.grow g1) Q fun Hs2 H2 g2 => q Hs2 H2 (g1.trans g2)
  | false =>
    show Q false H1
    exact q Hs1 H1 g1
theorem et_or {a b : Bool} (h1 : EvT K tt ρ a) (h2 : a = false → EvT K tu ρ b) : EvT K (tOr tt tu) ρ (a || b) := fun B Hs H σ r Q q => h1 B Hs H σ r _ fun Hs1 H1 g1 => by
  cases a with
  | true =>
    show Q true H1
    exact q Hs1 H1 g1
  | false =>
    show tu σ H1 Q
    exact h2 rfl B Hs1 H1 σ (r.grow g1) Q fun Hs2 H2 g2 => q Hs2 H2 (g1.trans g2)
theorem et_not {a : Bool} (h1 : EvT K tt ρ a) : EvT K (tNot tt) ρ (!a) := fun B Hs H σ r Q q => h1 B Hs H σ r _ q
theorem et_and' {a b : Bool} (h1 : EvT K tt ρ a) (h2 : EvT K tu ρ b) : EvT K (tAnd tt tu) ρ (a && b) := et_and h1 fun _ => h2
theorem et_or' {a b : Bool} (h1 : EvT K tt ρ a) (h2 : EvT K tu ρ b) : EvT K (tOr tt tu) ρ (a || b) := et_or h1 fun _ => h2
theorem et_yes : EvT K tYes ρ true := fun B Hs H σ r Q q => q Hs H (Gr.refl r.ex)
theorem ev_and {a b : Bool} (h1 : EvD K ta ρ (.bl a)) (h2 : a = true → EvD K tb ρ (.bl b)) : EvD K (tAndV ta tb) ρ (.bl (a && b)) := fun B Hs H σ r Q q => h1 B Hs H σ r _ fun Hs1 H1 v g1 x => by
  cases x
  refine ⟨a, rfl, ?_⟩
  cases a with
  | true =>
    show tb σ H1 Q
    exact h2 rfl B Hs1 H1 σ (r.grow g1) Q fun Hs2 H2 w g2 => q Hs2 H2 w (g1.trans g2)
  | false =>
    show Q (.bl false) H1
    exact q Hs1 H1 _ g1 (.bl _)
theorem ev_or {a b : Bool} (h1 : EvD K ta ρ (.bl a)) (h2 : a = false → EvD K tb ρ (.bl b)) : EvD K (tOrV ta tb) ρ (.bl (a || b)) := fun B Hs H σ r Q q => h1 B Hs H σ r _ fun Hs1 H1 v g1 x => by
  cases x
  refine ⟨a, rfl, ?_⟩
  cases a with
  | true =>
    show Q (.bl true) H1
    exact q Hs1 H1 _ g1 (.bl _)
  | false =>
    show tb σ H1 Q
    exact h2 rfl B Hs1 H1 σ (r.grow g1) Q fun Hs2 H2 w g2 => q Hs2 H2 w (g1.trans g2)
theorem ev_and' {a b : Bool} (h1 : EvD K ta ρ (.bl a)) (h2 : EvD K tb ρ (.bl b)) : EvD K (tAndV ta tb) ρ (.bl (a && b)) := ev_and h1 fun _ => h2
theorem ev_or' {a b : Bool} (h1 : EvD K ta ρ (.bl a)) (h2 : EvD K tb ρ (.bl b)) : EvD K (tOrV ta tb) ρ (.bl (a || b)) := ev_or h1 fun _ => h2
theorem ev_not {a : Bool} (h1 : EvD K ta ρ (.bl a)) : EvD K (tNotV ta) ρ (.bl (!a)) := fun B Hs H σ r Q q => h1 B Hs H σ r _ fun Hs1 H1 v g1 x => by
  cases x
  exact ⟨a, rfl, q Hs1 H1 _ g1 (.bl _)⟩
theorem ev_if {b : Bool} (h : EvT K tt ρ b) (h1 : b = true → EvD K ta ρ d) (h2 : b = false → EvD K tb ρ d) : EvD K (tIf tt ta tb) ρ d := fun B Hs H σ r Q q => h B Hs H σ r _ fun Hs1 H1 g1 => by
  cases b with
  | true =>
    show ta σ H1 Q
    exact h1 rfl B Hs1 H1 σ (r.grow g1) Q fun Hs2 H2 v g2 => q Hs2 H2 v (g1.trans g2)
  | false =>
    show tb σ H1 Q
    exact h2 rfl B Hs1 H1 σ (r.grow g1) Q fun Hs2 H2 v g2 => q Hs2 H2 v (g1.trans g2)
/-- a < b < c -/
theorem ev_chain {g h : Int → Int → Bool} {i j k : Int} {tc : TE} (ha : EvD K ta ρ (.int i)) (hb : EvD K tb ρ (.int j)) (hc : EvD K tc ρ (.int k)) :
    EvD K (tChain (rI0 fun i j => .bl (g i j)) (rI0 fun i j => .bl (h i j)) ta tb tc) ρ (.bl (g i j && h j k)) := fun B Hs H σ r Q q =>
  ha B Hs H σ r _ fun Hs1 H1 x g1 x1 => hb B Hs1 H1 σ (r.grow g1) _ fun Hs2 H2 y g2 y2 => by
    cases x1
    cases y2
    refine ⟨i, j, rfl, rfl, g i j, rfl, ?_⟩
    cases e : g i j with
    | true =>
      show tc σ H2 _
      refine hc B Hs2 H2 σ ((r.grow g1).grow g2) _ fun Hs3 H3 z g3 z3 => ?_
      cases z3
      rw [e, Bool.true_and] at q
      exact ⟨j, k, rfl, rfl, q Hs3 H3 _ ((g1.trans g2).trans g3) (.bl _)⟩
    | false =>
      show Q (.bl false) H2
      rw [e, Bool.false_and] at q
      exact q Hs2 H2 _ (g1.trans g2) (.bl _)
/-- is None -/
theorem ev_isN (ha : EvR K ta ρ d) : EvD K (tIsN ta) ρ (.bl d.isN) := fun B Hs H σ r Q q => ha B Hs H σ r _ fun Hs1 H1 v g x => by
  have e : decide (v = V.non) = d.isN := by
    cases x <;> rfl
  show Q (.bl (decide (v = V.non))) H1
  rw [e]
  exact q Hs1 H1 _ g (.bl _)
theorem ev_notN (ha : EvR K ta ρ d) : EvD K (tNotN ta) ρ (.bl (!d.isN)) := fun B Hs H σ r Q q => ha B Hs H σ r _ fun Hs1 H1 v g x => by
  have e : (!decide (v = V.non)) = (!d.isN) := by
    cases x <;> rfl
  show Q (.bl (!decide (v = V.non))) H1
  rw [e]
  exact q Hs1 H1 _ g (.bl _)

/-! ### arguments, displays -/
theorem ea_nil : EvA K tNil ρ [] := fun B Hs H σ r Q q => q Hs H _ (Gr.refl r.ex) .nil
theorem ea_cons {tr : TA} (h : EvD K ta ρ d) (hr : EvA K tr ρ ds) : EvA K (tCons ta tr) ρ (d :: ds) := fun B Hs H σ r Q q =>
  h B Hs H σ r _ fun Hs1 H1 v g1 x => hr B Hs1 H1 σ (r.grow g1) _ fun Hs2 H2 vs g2 xs => q Hs2 H2 _ (g1.trans g2) (.cons (x.mono g2.sh) xs)
theorem sz_of {n : Nat} (h : n ≤ 100000) : n ≤ sizeLine := Nat.le_trans h (by decide)
theorem sz_lt {n : Nat} (h : n < 100000) : n < sizeLine := Nat.lt_of_lt_of_le h (by decide)
theorem ev_tup {ta : TA} (h : EvA K ta ρ ds) (hl : ds.length ≤ 100000) : EvD K (tTup ta) ρ (.tup ds) := fun B Hs H σ r Q q =>
  h B Hs H σ r _ fun Hs1 H1 vs g xs => ⟨by rw [xs.length]; exact sz_of hl, fun p hp => by
    have g2 := Gr.new (o := .tup vs) g.lv hp
    have n : Hs1 p = none := by
      cases q : Hs1 p with
      | none => rfl
      | some u =>
        rw [g.lv p u q] at hp
        cases hp
    exact q _ _ _ (g.trans g2) (.tup upd_same (xs.mono (Ex.new n)))⟩
theorem gr_none {Hs H Hs' H' : Hp} (g : Gr Hs H H Hs' H') {p : Addr} (h : H' p = none) : H p = none ∧ Hs' p = none := by
  constructor
  · exact (g.new0 h).1
  · cases q : Hs' p with
    | none => rfl
    | some u =>
      rw [g.lv p u q] at h
      cases h
theorem ef_lst {ta : TA} (h : EvA K ta ρ ds) (hl : ds.length ≤ 100000) : EvF K (tLst ta) ρ ds := fun B Hs H σ r Q q =>
  h B Hs H σ r _ fun Hs1 H1 vs g xs => ⟨by rw [xs.length]; exact sz_of hl, fun p hp => by
    obtain ⟨n1, n2⟩ := gr_none g hp
    exact q Hs1 _ p vs (g.trans (Gr.newO g.lv hp)) n1 n2 upd_same xs⟩

/-! ### lists read -/
theorem ev_ixL {i : Int} (ha : EvB K ta ρ ds) (hb : EvD K tb ρ (.int i)) (h : atI ds i = some d) : EvD K (tOp (rIxL K) ta tb) ρ d := fun B Hs H σ r Q q =>
  ha B Hs H σ r _ fun Hs1 H1 p vs g1 hp xs => hb B Hs1 H1 σ (r.grow g1) _ fun Hs2 H2 y g2 y2 => by
    cases y2
    unfold atI at h
    obtain ⟨j, e1, e2⟩ := Option.bind_eq_some_iff.mp h
    obtain ⟨v, e3, x⟩ := xs.at e2
    refine ⟨p, vs, i, v, rfl, rfl, g2.fr.sl hp, ?_, q Hs2 H2 v (g1.trans g2) (x.mono g2.sh)⟩
    unfold atI
    rw [xs.length, e1]
    exact e3
theorem ev_ixT {i : Int} (ha : EvD K ta ρ (.tup ds)) (hb : EvD K tb ρ (.int i)) (h : atI ds i = some d) : EvD K (tOp (rIxT K) ta tb) ρ d := fun B Hs H σ r Q q =>
  ha B Hs H σ r _ fun Hs1 H1 x g1 x1 => hb B Hs1 H1 σ (r.grow g1) _ fun Hs2 H2 y g2 y2 => by
    cases y2
    cases x1 with
    | @tup p vs _ hp' xs =>
      have hp := SqT_of (K := K) hp'
      unfold atI at h
      obtain ⟨j, e1, e2⟩ := Option.bind_eq_some_iff.mp h
      obtain ⟨v, e3, x⟩ := xs.at e2
      refine ⟨p, vs, i, v, rfl, rfl, (g1.lv.n.trans g2.fr).st hp, ?_, q Hs2 H2 v (g1.trans g2) (x.mono g2.sh)⟩
      unfold atI
      rw [xs.length, e1]
      exact e3
/-- x[i] of a list or a tuple or a text, by the rule of all three -/
theorem ev_ixl {i : Int} (ha : EvB K ta ρ ds) (hb : EvD K tb ρ (.int i)) (h : atI ds i = some d) : EvD K (tOp (rIx K) ta tb) ρ d := fun B Hs H σ r Q q =>
  ha B Hs H σ r _ fun Hs1 H1 p vs g1 hp xs => hb B Hs1 H1 σ (r.grow g1) _ fun Hs2 H2 y g2 y2 => by
    cases y2
    unfold atI at h
    obtain ⟨j, e1, e2⟩ := Option.bind_eq_some_iff.mp h
    obtain ⟨v, e3, x⟩ := xs.at e2
    refine .inl ⟨p, vs, i, v, rfl, rfl, g2.fr.sl hp, ?_, q Hs2 H2 v (g1.trans g2) (x.mono g2.sh)⟩
    unfold atI
    rw [xs.length, e1]
    exact e3
theorem ev_ixt {i : Int} (ha : EvD K ta ρ (.tup ds)) (hb : EvD K tb ρ (.int i)) (h : atI ds i = some d) : EvD K (tOp (rIx K) ta tb) ρ d := fun B Hs H σ r Q q =>
  ha B Hs H σ r _ fun Hs1 H1 x g1 x1 => hb B Hs1 H1 σ (r.grow g1) _ fun Hs2 H2 y g2 y2 => by
    cases y2
    cases x1 with
    | @tup p vs _ hp' xs =>
      have hp := SqT_of (K := K) hp'
      unfold atI at h
      obtain ⟨j, e1, e2⟩ := Option.bind_eq_some_iff.mp h
      obtain ⟨v, e3, x⟩ := xs.at e2
      refine .inr (.inl ⟨p, vs, i, v, rfl, rfl, (g1.lv.n.trans g2.fr).st hp, ?_, q Hs2 H2 v (g1.trans g2) (x.mono g2.sh)⟩)
      unfold atI
      rw [xs.length, e1]
      exact e3
theorem eo_none : EvO K tNoPart ρ none := fun B Hs H σ r Q q => q Hs H (Gr.refl r.ex)
theorem eo_some {i : Int} (h : EvD K te ρ (.int i)) : EvO K (tPart te) ρ (some i) := fun B Hs H σ r Q q => h B Hs H σ r _ fun Hs' H' v g x => by
  cases x
  exact ⟨i, rfl, q Hs' H' g⟩
def cutD (xs : List D) (lo hi : Option Int) : List D := (xs.drop (HT.sIx xs.length 0 lo)).take (HT.sIx xs.length xs.length hi - HT.sIx xs.length 0 lo)
theorem RepL.cut {H : Hp} {vs : List V} (h : RepL K H vs ds) (lo hi : Option Int) : RepL K H (cutV vs lo hi) (cutD ds lo hi) := by
  unfold cutV cutD
  rw [h.length]
  exact (h.drop _).take _
theorem ef_slice {tl th : TO} {lo hi : Option Int} (ha : EvB K ta ρ ds) (hl : EvO K tl ρ lo) (hh : EvO K th ρ hi) : EvF K (tSl (rSlL K) ta tl th) ρ (cutD ds lo hi) := fun B Hs H σ r Q q =>
  ha B Hs H σ r _ fun Hs1 H1 p vs g1 hp xs => hl B Hs1 H1 σ (r.grow g1) _ fun Hs2 H2 g2 => hh B Hs2 H2 σ ((r.grow g1).grow g2) _ fun Hs3 H3 g3 => by
    refine ⟨p, vs, rfl, g3.fr.sl (g2.fr.sl hp), fun l hn => ?_⟩
    have g := (g1.trans g2).trans g3
    obtain ⟨n1, n2⟩ := gr_none g hn
    exact q Hs3 _ l _ (g.trans (Gr.newO g3.lv hn)) n1 n2 upd_same ((xs.mono (g2.sh.trans g3.sh)).cut lo hi)
theorem ef_cat (ha : EvM K ta ρ ds) (hb : EvM K tb ρ es) (hl : ds.length + es.length ≤ 100000) : EvF K (tOp rCat ta tb) ρ (ds ++ es) := fun B Hs H σ r Q q =>
  ha B Hs H σ r _ fun Hs1 H1 p vs g1 hp xs => hb B Hs1 H1 σ (r.grow g1) _ fun Hs2 H2 p2 ws g2 hp2 ys => by
    have g := g1.trans g2
    refine ⟨p, p2, vs, ws, rfl, rfl, g2.fr.pl hp, hp2, by rw [xs.length, ys.length]; exact sz_of hl, fun l hn => ?_⟩
    obtain ⟨n1, n2⟩ := gr_none g hn
    exact q Hs2 _ l _ (g.trans (Gr.newO g2.lv hn)) n1 n2 upd_same ((xs.mono g2.sh).append ys)
theorem ef_rep {k : Int} (ha : EvM K ta ρ ds) (hb : EvD K tb ρ (.int k)) (hk : k ≤ 100000) (hk' : -100000 ≤ k) (hl : ds.length * k.toNat ≤ 100000) : EvF K (tOp rRep ta tb) ρ (List.replicate k.toNat ds).flatten := fun B Hs H σ r Q q =>
  ha B Hs H σ r _ fun Hs1 H1 p vs g1 hp xs => hb B Hs1 H1 σ (r.grow g1) _ fun Hs2 H2 y g2 y2 => by
    cases y2
    have g := g1.trans g2
    refine ⟨p, k, vs, rfl, rfl, g2.fr.pl hp, by omega, by omega, by rw [xs.length]; exact sz_of hl, fun l hn => ?_⟩
    obtain ⟨n1, n2⟩ := gr_none g hn
    exact q Hs2 _ l _ (g.trans (Gr.newO g2.lv hn)) n1 n2 upd_same ((xs.mono g2.sh).rep _)

/-! ### built-ins on lists -/
abbrev rLen (K : PySem.W.Frag) : List V → Hp → VK → Prop := fun xs H Q => ∃ p ys, xs = [V.ref p] ∧ (SqL K H p ys ∨ SqT K H p ys) ∧ Q (.int ys.length) H
theorem ev_lenL (ha : EvB K ta ρ ds) : EvD K (tCB (rLen K) (tCons ta tNil)) ρ (.int (ds.length : Int)) := fun B Hs H σ r Q q =>
  ha B Hs H σ r _ fun Hs1 H1 p vs g1 hp xs => ⟨p, vs, rfl, .inl hp, by
    rw [xs.length]
    exact q Hs1 H1 _ g1 (.int _)⟩
theorem ev_lenT (ha : EvD K ta ρ (.tup ds)) : EvD K (tCB (rLen K) (tCons ta tNil)) ρ (.int (ds.length : Int)) := fun B Hs H σ r Q q =>
  ha B Hs H σ r _ fun Hs1 H1 v g1 x => by
    cases x with
    | @tup p vs _ hp' xs =>
      have hp := SqT_of (K := K) hp'
      refine ⟨p, vs, rfl, .inr (g1.lv.st hp), ?_⟩
      rw [xs.length]
      exact q Hs1 H1 _ g1 (.int _)
abbrev rLenS : List V → Hp → VK → Prop := fun xs H Q => ∃ z : Str, xs = [V.str z] ∧ z.length ≤ sizeLine ∧ Q (.int z.length) H
abbrev rList (K : PySem.W.Frag) : List V → Hp → VK → Prop := fun xs H Q => ∃ p ys, xs = [V.ref p] ∧ (SqL K H p ys ∨ SqT K H p ys) ∧ ∀ l, H l = none → Q (.ref l) (upd H l (.lst ys))
theorem ef_listL (ha : EvB K ta ρ ds) : EvF K (tCB (rList K) (tCons ta tNil)) ρ ds := fun B Hs H σ r Q q =>
  ha B Hs H σ r _ fun Hs1 H1 p vs g1 hp xs => ⟨p, vs, rfl, .inl hp, fun l hn => by
    obtain ⟨n1, n2⟩ := gr_none g1 hn
    exact q Hs1 _ l _ (g1.trans (Gr.newO g1.lv hn)) n1 n2 upd_same xs⟩
theorem ef_listT (ha : EvD K ta ρ (.tup ds)) : EvF K (tCB (rList K) (tCons ta tNil)) ρ ds := fun B Hs H σ r Q q =>
  ha B Hs H σ r _ fun Hs1 H1 v g1 x => by
    cases x with
    | @tup p vs _ hp' xs =>
      have hp := SqT_of (K := K) hp'
      refine ⟨p, vs, rfl, .inr (g1.lv.st hp), fun l hn => ?_⟩
      obtain ⟨n1, n2⟩ := gr_none g1 hn
      exact q Hs1 _ l _ (g1.trans (Gr.newO g1.lv hn)) n1 n2 upd_same xs
abbrev rTuple (K : PySem.W.Frag) : List V → Hp → VK → Prop := fun xs H Q => ∃ p ys, xs = [V.ref p] ∧ ((SqL K H p ys ∧ ∀ l, H l = none → Q (.ref l) (upd H l (.tup ys))) ∨ (SqT K H p ys ∧ Q (.ref p) H))
theorem ev_tupleL (ha : EvB K ta ρ ds) : EvD K (tCB (rTuple K) (tCons ta tNil)) ρ (.tup ds) := fun B Hs H σ r Q q =>
  ha B Hs H σ r _ fun Hs1 H1 p vs g1 hp xs => ⟨p, vs, rfl, .inl ⟨hp, fun l hn => by
    obtain ⟨n1, n2⟩ := gr_none g1 hn
    exact q _ _ _ (g1.trans (Gr.new g1.lv hn)) (.tup upd_same (xs.mono (Ex.new n2)))⟩⟩
theorem ev_tupleT (ha : EvD K ta ρ (.tup ds)) : EvD K (tCB (rTuple K) (tCons ta tNil)) ρ (.tup ds) := fun B Hs H σ r Q q =>
  ha B Hs H σ r _ fun Hs1 H1 v g1 x => by
    cases x with
    | @tup p vs _ hp' xs =>
      have hp := SqT_of (K := K) hp'
      exact ⟨p, vs, rfl, .inr ⟨g1.lv.st hp, q Hs1 H1 _ g1 (.tup hp' xs)⟩⟩
theorem ev_sum {ns : List Int} (ha : EvB K ta ρ (ns.map D.int)) : EvD K (tCB (rSum K) (tCons ta tNil)) ρ (.int ns.sum) := fun B Hs H σ r Q q =>
  ha B Hs H σ r _ fun Hs1 H1 p vs g1 hp xs => by
    have e := xs.ints
    subst e
    exact ⟨p, ns, rfl, hp, q Hs1 H1 _ g1 (.int _)⟩
theorem ev_all {bs : List Bool} (ha : EvB K ta ρ (bs.map D.bl)) : EvD K (tCB (rAll K) (tCons ta tNil)) ρ (.bl (bs.all id)) := fun B Hs H σ r Q q =>
  ha B Hs H σ r _ fun Hs1 H1 p vs g1 hp xs => by
    have e := xs.bls
    subst e
    exact ⟨p, bs, rfl, hp, q Hs1 H1 _ g1 (.bl _)⟩
theorem ev_any {bs : List Bool} (ha : EvB K ta ρ (bs.map D.bl)) : EvD K (tCB (rAny K) (tCons ta tNil)) ρ (.bl (bs.any id)) := fun B Hs H σ r Q q =>
  ha B Hs H σ r _ fun Hs1 H1 p vs g1 hp xs => by
    have e := xs.bls
    subst e
    exact ⟨p, bs, rfl, hp, q Hs1 H1 _ g1 (.bl _)⟩
abbrev rAbs : List V → Hp → VK → Prop := fun xs H Q => ∃ i : Int, xs = [V.int i] ∧ Q (.int (if i < 0 then -i else i)) H
theorem ev_abs {i : Int} (ha : EvD K ta ρ (.int i)) : EvD K (tCB rAbs (tCons ta tNil)) ρ (.int (if i < 0 then -i else i)) := fun B Hs H σ r Q q =>
  ha B Hs H σ r _ fun Hs1 H1 v g1 x => by
    cases x
    exact ⟨i, rfl, q Hs1 H1 _ g1 (.int _)⟩
abbrev rMax2 : List V → Hp → VK → Prop := fun xs H Q => ∃ i j : Int, xs = [V.int i, V.int j] ∧ Q (.int (if j > i then j else i)) H
abbrev rMin2 : List V → Hp → VK → Prop := fun xs H Q => ∃ i j : Int, xs = [V.int i, V.int j] ∧ Q (.int (if j < i then j else i)) H
theorem ev_max2 {i j : Int} (ha : EvD K ta ρ (.int i)) (hb : EvD K tb ρ (.int j)) : EvD K (tCB rMax2 (tCons ta (tCons tb tNil))) ρ (.int (max i j)) := fun B Hs H σ r Q q =>
  ha B Hs H σ r _ fun Hs1 H1 v g1 x => hb B Hs1 H1 σ (r.grow g1) _ fun Hs2 H2 w g2 y => by
    cases x
    cases y
    refine ⟨i, j, rfl, ?_⟩
    have e : (if j > i then j else i) = max i j := by
      by_cases h : j > i
      · rw [if_pos h]
        omega
      · rw [if_neg h]
        omega
    rw [e]
    exact q Hs2 H2 _ (g1.trans g2) (.int _)
theorem ev_min2 {i j : Int} (ha : EvD K ta ρ (.int i)) (hb : EvD K tb ρ (.int j)) : EvD K (tCB rMin2 (tCons ta (tCons tb tNil))) ρ (.int (min i j)) := fun B Hs H σ r Q q =>
  ha B Hs H σ r _ fun Hs1 H1 v g1 x => hb B Hs1 H1 σ (r.grow g1) _ fun Hs2 H2 w g2 y => by
    cases x
    cases y
    refine ⟨i, j, rfl, ?_⟩
    have e : (if j < i then j else i) = min i j := by
      by_cases h : j < i
      · rw [if_pos h]
        omega
      · rw [if_neg h]
        omega
    rw [e]
    exact q Hs2 H2 _ (g1.trans g2) (.int _)
end

/-! ### statements on deep data -/
structure DEnds where
  nx : Env → Prop
  rt : D → Prop
  rf : List D → Prop := fun _ => False
  bk : Env → Prop := fun _ => False
  ct : Env → Prop := fun _ => False
  /-- a value comes back, the own things of the frame are so -/
  ro : Env → D → Prop := fun _ _ => False
  /-- an exception leaves: its class, its own dict -/
  ex : Env → Value → Option (List (Str × D)) → Prop := fun _ _ _ => False
  W : WX := fun _ _ _ _ => True
  /-- a new tree comes back -/
  rn : O → Prop := fun _ => False

/-- an exception's own dict -/
def XRep (K : PySem.W.Frag) (Hs H : Hp) : Option Addr → Option (List (Str × D)) → Prop
  | none, none => True
  | some a, some fs => ∃ vs, Hs a = some (.xd ((fs.map (·.1)).zip vs)) ∧ RepL K Hs vs (fs.map (·.2))
  | _, _ => False

/-- what follows a statement, over the frame's base B -/
structure Lk (K : PySem.W.Frag) (B : Base) (R : DEnds) (Dn : Ends) : Prop where
  nx : ∀ Hs H σ ρ, RS K B Hs H σ ρ → R.nx ρ → Dn.nx σ H
  rt : ∀ Hs H v d, Gr B.s B.f B.h Hs H → Rep K Hs v d → R.rt d → Dn.rt v H
  rf : ∀ Hs H p vs ds, Gr B.s B.f B.h Hs H → B.h p = none → Hs p = none → H p = some (.lst vs) → RepL K Hs vs ds → R.rf ds → Dn.rt (.ref p) H
  bk : ∀ Hs H σ ρ, RS K B Hs H σ ρ → R.bk ρ → Dn.bk σ H
  ct : ∀ Hs H σ ρ, RS K B Hs H σ ρ → R.ct ρ → Dn.ct σ H
  ro : ∀ Hs H σ ρ v d, RS K B Hs H σ ρ → Rep K Hs v d → R.ro ρ d → Dn.rt v H
  ex : ∀ Hs H σ ρ cls dd fs, RS K B Hs H σ ρ → XRep K Hs H dd fs → R.ex ρ cls fs → R.W cls dd σ H
  rn : ∀ Hs H v o S, Gr B.s B.f B.h Hs H → Own K Hs v o S → (∀ a u, S a = some u → H a = some u ∧ B.h a = none ∧ Hs a = none) → R.rn o → Dn.rt v H
def ExS (K : PySem.W.Frag) (ts : TS) (ρ : Env) (R : DEnds) : Prop := ∀ B Hs H σ Dn, RS K B Hs H σ ρ → Lk K B R Dn → ts Dn σ H

section
variable {K : PySem.W.Frag} {ρ ρ' : Env} {te ta tb : TE} {d : D} {ds : List D} {tt : TT} {t u : TS} {R : DEnds}
theorem xs_next (h : R.nx ρ) : ExS K tNext ρ R := fun B Hs H σ Dn r l => l.nx Hs H σ ρ r h
theorem xs_brk (h : R.bk ρ) : ExS K tBreak ρ R := fun B Hs H σ Dn r l => l.bk Hs H σ ρ r h
theorem xs_cont (h : R.ct ρ) : ExS K tCont ρ R := fun B Hs H σ Dn r l => l.ct Hs H σ ρ r h
theorem xs_seq (h : ExS K t ρ { R with nx := fun ρ' => ExS K u ρ' R }) : ExS K (tSeq t u) ρ R := fun B Hs H σ Dn r l =>
  h B Hs H σ _ r ⟨fun Hs' H' σ' ρ' r' q => q B Hs' H' σ' Dn r' l, l.rt, l.rf, l.bk, l.ct, l.ro, l.ex, l.rn⟩
theorem xs_if {b : Bool} (h : EvT K tt ρ b) (h1 : b = true → ExS K t ρ R) (h2 : b = false → ExS K u ρ R) : ExS K (tIfS tt t u) ρ R := fun B Hs H σ Dn r l =>
  h B Hs H σ r _ fun Hs1 H1 g1 => by
    cases b with
    | true =>
      show t Dn σ H1
      exact h1 rfl B Hs1 H1 σ Dn (r.grow g1) l
    | false =>
      show u Dn σ H1
      exact h2 rfl B Hs1 H1 σ Dn (r.grow g1) l
/-- a test that fails -/
theorem xs_no {b : Bool} (h : EvT K tt ρ b) (e : b = false) (q : R.nx ρ) : ExS K (tIfS tt t tNext) ρ R := xs_if h (fun h1 => by rw [e] at h1; cases h1) fun _ => xs_next q
theorem xs_no2 {b : Bool} (h : EvT K tt ρ b) (e : b = false) (q : ExS K u ρ R) : ExS K (tIfS tt t u) ρ R := xs_if h (fun h1 => by rw [e] at h1; cases h1) fun _ => q
theorem xs_yes {b : Bool} (h : EvT K tt ρ b) (e : b = true) (q : ExS K t ρ R) : ExS K (tIfS tt t u) ρ R := xs_if h (fun _ => q) fun h1 => by rw [e] at h1; cases h1
theorem xs_ret (h : EvD K te ρ d) (q : R.rt d) : ExS K (tRet te) ρ R := fun B Hs H σ Dn r l =>
  h B Hs H σ r _ fun Hs1 H1 v g x => l.rt Hs1 H1 v d (r.gr.trans g) x q
theorem xs_retF (h : EvF K te ρ ds) (q : R.rf ds) : ExS K (tRet te) ρ R := fun B Hs H σ Dn r l =>
  h B Hs H σ r _ fun Hs1 H1 p vs g n ns e x => l.rf Hs1 H1 p vs ds (r.gr.trans g) (by
    cases z : B.h p with
    | none => rfl
    | some o => exact absurd n (r.gr.dm p (by rw [z]; exact fun y => nomatch y))) ns e x q
theorem xs_retO (h : EvD K te ρ d) (q : R.ro ρ d) : ExS K (tRet te) ρ R := fun B Hs H σ Dn r l =>
  h B Hs H σ r _ fun Hs1 H1 v g x => l.ro Hs1 H1 σ ρ v d (r.grow g) x q
theorem xs_retNO (q : R.ro ρ .non) : ExS K tRetN ρ R := fun B Hs H σ Dn r l => l.ro Hs H σ ρ .non .non r .non q
theorem xs_retN (q : R.rt .non) : ExS K tRetN ρ R := fun B Hs H σ Dn r l => l.rt Hs H .non .non r.gr .non q
theorem xs_drop (h : EvD K te ρ d) (q : R.nx ρ) : ExS K (tDrop te) ρ R := fun B Hs H σ Dn r l =>
  h B Hs H σ r _ fun Hs1 H1 v g x => l.nx Hs1 H1 σ ρ (r.grow g) q
theorem eg_name {i : Nat} : EvG K (gName i) d ρ (ρ.set i (some (.sh d))) := fun B Hs H σ x r h Q q => q Hs H _ (Gr.refl r.ex) (r.set i h)
theorem egs_nil : EvGs K gNil [] ρ ρ := fun B Hs H σ xs r h Q q => by
  cases h
  exact ⟨rfl, q Hs H σ (Gr.refl r.ex) r⟩
theorem egs_cons {g : TG} {gs : TGs} {ρ2 : Env} (h1 : EvG K g d ρ ρ') (h2 : EvGs K gs ds ρ' ρ2) : EvGs K (gCons g gs) (d :: ds) ρ ρ2 := fun B Hs H σ xs r h Q q => by
  cases h with
  | @cons v vs _ _ a b =>
    refine ⟨v, vs, rfl, h1 B Hs H σ v r a _ fun Hs1 H1 σ1 g1 r1 => ?_⟩
    exact h2 B Hs1 H1 σ1 vs r1 (b.mono g1.sh) _ fun Hs2 H2 σ2 g2 r2 => q Hs2 H2 σ2 (g1.trans g2) r2
theorem eg_tup {gs : TGs} {n : Nat} (h : EvGs K gs ds ρ ρ') (hn : ds.length = n) : EvG K (gTup K n gs) (.tup ds) ρ ρ' := fun B Hs H σ x r hx Q q => by
  cases hx with
  | @tup p vs _ hp' xs =>
    have hp := SqT_of (K := K) hp'
    exact ⟨p, vs, rfl, r.ex.st hp, by rw [xs.length]; exact hn, h B Hs H σ vs r xs Q q⟩
theorem xs_asg {g : TG} (h : EvD K te ρ d) (hg : EvG K g d ρ ρ') (q : R.nx ρ') : ExS K (tAsg te g) ρ R := fun B Hs H σ Dn r l =>
  h B Hs H σ r _ fun Hs1 H1 v g1 x => hg B Hs1 H1 σ v (r.grow g1) x _ fun Hs2 H2 σ2 g2 r2 => l.nx Hs2 H2 σ2 ρ' r2 q
/-- a new list of the frame's own -/
theorem xs_asgF {i : Nat} (h : EvF K te ρ ds) (q : R.nx (ρ.set i (some (.ol ds)))) : ExS K (tAsg te (gName i)) ρ R := fun B Hs H σ Dn r l =>
  h B Hs H σ r _ fun Hs1 H1 p vs g n ns e x => l.nx Hs1 H1 _ _ (r.setO g i n e ns x) q
theorem xs_aug {i : Nat} {f : Int → Int → Int} {a b : Int} (hx : ρ[i]? = some (some (.sh (.int a)))) (h : EvD K te ρ (.int b)) (q : R.nx (ρ.set i (some (.sh (.int (f a b)))))) : ExS K (tAug i te (ipI f)) ρ R := fun B Hs H σ Dn r l => by
  obtain ⟨v, e, x⟩ := r.get hx
  cases x
  refine ⟨.int a, e, h B Hs H σ r _ fun Hs1 H1 w g y => ?_⟩
  cases y
  exact ⟨a, b, rfl, rfl, l.nx Hs1 H1 _ _ ((r.grow g).set i (.int _)) q⟩
/-- xs.append(e), xs the frame's own -/
theorem xs_app {i : Nat} (hx : ρ[i]? = some (some (.ol ds))) (h : EvD K te ρ d) (hz : ds.length < 100000) (q : R.nx (ρ.set i (some (.ol (ds ++ [d]))))) : ExS K (tDrop (tBM K "list" rAppend (tVar i) (tCons te tNil))) ρ R := fun B Hs H σ Dn r l => by
  obtain ⟨p, vs, e, hp, x, _⟩ := r.mutL i hx
  refine ⟨.ref p, e, .inl ⟨rfl, _, .of hp⟩, h B Hs H σ r _ fun Hs1 H1 w g y => ?_⟩
  obtain ⟨p', vs', e', hp', x', m⟩ := (r.grow g).mutL i hx
  rw [e] at e'
  cases e'
  refine ⟨p, vs', w, rfl, rfl, hp', by rw [x'.length]; exact sz_lt hz, ?_⟩
  exact l.nx Hs1 _ _ _ (m _ _ (x'.append (.cons y .nil))) q
end
end DL

/-! DLoop: iterators, loops, comprehensions, calls, defs. -/
namespace DL
open PySem L2
variable [TbC]

section
variable {K : PySem.W.Frag} {ρ ρ' : Env} {te ta tb : TE} {d e : D} {ds es : List D} {tt : TT} {R : DEnds}
/-! ### iterators -/
theorem ei_list (h : EvD K ta ρ (.lst ds)) : EvI K (iList K ta) ρ ds := fun B Hs H σ r R q => h B Hs H σ r _ fun Hs1 H1 v g x => by
  cases x with
  | @lst p vs _ hp' xs =>
    have hp : SqL K Hs1 p vs := .of hp'
    refine ⟨p, rfl, ⟨vs, g.lv.sl hp⟩, q _ Hs1 H1 g fun i Hs2 H2 e1 e2 => ⟨fun d hd => ?_, fun hi => ?_⟩⟩
    · have hq := (e1.trans e2).sl hp
      obtain ⟨v, hv, xv⟩ := xs.at hd
      refine ⟨⟨vs, v, hq, hv⟩, fun x H3 y => ?_⟩
      obtain ⟨rfl, y⟩ := y
      have z := y vs hq
      rw [hv] at z
      cases z
      exact ⟨Hs2, Gr.refl e2, xv.mono e1⟩
    · exact ⟨vs, (e1.trans e2).sl hp, by rw [xs.length, hi]; exact Nat.le_refl _⟩
theorem ei_tup (h : EvD K ta ρ (.tup ds)) : EvI K (iTup K ta) ρ ds := fun B Hs H σ r R q => h B Hs H σ r _ fun Hs1 H1 v g x => by
  cases x with
  | @tup p vs _ hp' xs =>
    have hp := SqT_of (K := K) hp'
    refine ⟨p, rfl, ⟨vs, g.lv.st hp⟩, q _ Hs1 H1 g fun i Hs2 H2 e1 e2 => ⟨fun d hd => ?_, fun hi => ?_⟩⟩
    · have hq := (e1.trans e2).st hp
      obtain ⟨v, hv, xv⟩ := xs.at hd
      refine ⟨⟨vs, v, hq, hv⟩, fun x H3 y => ?_⟩
      obtain ⟨rfl, y⟩ := y
      have z := y vs hq
      rw [hv] at z
      cases z
      exact ⟨Hs2, Gr.refl e2, xv.mono e1⟩
    · exact ⟨vs, (e1.trans e2).st hp, by rw [xs.length, hi]; exact Nat.le_refl _⟩
def rng (lo : Int) (n : Nat) : List D := (List.range n).map fun i : Nat => D.int (lo + (i : Int))
theorem rng_length (lo : Int) (n : Nat) : (rng lo n).length = n := by unfold rng; rw [List.length_map, List.length_range]
theorem rng_get {lo : Int} {n i : Nat} {d : D} (h : (rng lo n)[i]? = some d) : i < n ∧ d = .int (lo + (i : Int)) := by
  unfold rng at h
  rw [List.getElem?_map] at h
  obtain ⟨j, e1, e2⟩ := Option.map_eq_some_iff.mp h
  have := List.getElem?_eq_some_iff.mp e1
  obtain ⟨hl, e3⟩ := this
  rw [List.length_range] at hl
  rw [List.getElem_range] at e3
  subst e3
  exact ⟨hl, e2.symm⟩
theorem itd_r (lo : Int) (n : Nat) (Hs1 : Hp) : ItD K (Itr lo n) Hs1 (rng lo n) := fun i Hs2 H2 e1 e2 => ⟨fun d hd => by
  obtain ⟨h1, rfl⟩ := rng_get hd
  refine ⟨h1, fun x H3 y => ?_⟩
  obtain ⟨rfl, rfl⟩ := y
  exact ⟨Hs2, Gr.refl e2, .int _⟩, fun hi => by
  rw [rng_length] at hi
  exact Nat.le_of_eq hi.symm⟩
theorem ei_r1 {ta : TA} {n : Int} (h : EvA K ta ρ [.int n]) (hn : -1000000000 ≤ n ∧ n ≤ 1000000000) : EvI K (iRng1 ta) ρ (rng 0 n.toNat) := fun B Hs H σ r R q => h B Hs H σ r _ fun Hs1 H1 vs g x => by
  cases x with
  | cons a b =>
    cases b
    cases a
    exact ⟨n, rfl, by omega, by omega, q _ Hs1 H1 g (itd_r 0 n.toNat Hs1)⟩
theorem ei_r2 {ta : TA} {lo hi : Int} (h : EvA K ta ρ [.int lo, .int hi]) (hn : -4000000000000000000 ≤ lo ∧ lo ≤ 4000000000000000000 ∧ -4000000000000000000 ≤ hi ∧ hi ≤ 4000000000000000000) : EvI K (iRng2 ta) ρ (rng lo (hi - lo).toNat) := fun B Hs H σ r R q => h B Hs H σ r _ fun Hs1 H1 vs g x => by
  cases x with
  | cons a b =>
    cases b with
    | cons a' b =>
      cases b
      cases a
      cases a'
      exact ⟨lo, hi, rfl, ⟨by omega, by omega, by omega, by omega⟩, q _ Hs1 H1 g (itd_r lo (hi - lo).toNat Hs1)⟩
def rngC (lo c : Int) (n : Nat) : List D := (List.range n).map fun i : Nat => D.int (lo + (i : Int) * c)
theorem ei_r3 {ta : TA} {lo hi c : Int} {n : Nat} (h : EvA K ta ρ [.int lo, .int hi, .int c]) (hn : RgC lo hi c n) : EvI K (iRng3 ta) ρ (rngC lo c n) := fun B Hs H σ r R q => h B Hs H σ r _ fun Hs1 H1 vs g x => by
  cases x with
  | cons a b =>
    cases b with
    | cons a' b =>
      cases b with
      | cons a'' b =>
        cases b
        cases a
        cases a'
        cases a''
        refine ⟨lo, hi, c, n, rfl, hn, q _ Hs1 H1 g fun i Hs2 H2 e1 e2 => ⟨fun d hd => ?_, fun hi => ?_⟩⟩
        · unfold rngC at hd
          rw [List.getElem?_map] at hd
          obtain ⟨j, e3, e4⟩ := Option.map_eq_some_iff.mp hd
          obtain ⟨hl, e5⟩ := List.getElem?_eq_some_iff.mp e3
          rw [List.length_range] at hl
          rw [List.getElem_range] at e5
          subst e5
          subst e4
          refine ⟨hl, fun x H3 y => ?_⟩
          obtain ⟨rfl, rfl⟩ := y
          exact ⟨Hs2, Gr.refl e2, .int _⟩
        · unfold rngC at hi
          rw [List.length_map, List.length_range] at hi
          exact Nat.le_of_eq hi.symm
/-- the items with their numbers -/
def numD (k : Nat) : List D → List D
  | [] => []
  | d :: ds => .tup [.int (k : Int), d] :: numD (k + 1) ds
theorem numD_length : ∀ (k : Nat) (ds : List D), (numD k ds).length = ds.length
  | _, [] => rfl
  | k, d :: ds => by
    unfold numD
    rw [List.length_cons, List.length_cons, numD_length (k + 1) ds]
theorem numD_get : ∀ {k : Nat} {ds : List D} {i : Nat}, (numD k ds)[i]? = (ds[i]?).map fun d => D.tup [.int ((k + i : Nat) : Int), d]
  | _, [], i => by simp [numD]
  | k, d :: ds, 0 => by simp [numD]
  | k, d :: ds, i + 1 => by
    unfold numD
    rw [List.getElem?_cons_succ, List.getElem?_cons_succ, numD_get]
    have e : k + 1 + i = k + (i + 1) := by omega
    rw [e]
theorem ei_enum (h : EvD K ta ρ (.lst ds)) : EvI K (iEnum K (tCons ta tNil)) ρ (numD 0 ds) := fun B Hs H σ r R q => h B Hs H σ r _ fun Hs1 H1 v g x => by
  cases x with
  | @lst p vs _ hp' xs =>
    have hp : SqL K Hs1 p vs := .of hp'
    refine ⟨p, vs, rfl, g.lv.sl hp, q _ Hs1 H1 g fun i Hs2 H2 e1 e2 => ⟨fun d hd => ?_, fun hi => ?_⟩⟩
    · rw [numD_get, Nat.zero_add] at hd
      obtain ⟨d0, e3, e4⟩ := Option.map_eq_some_iff.mp hd
      subst e4
      have hq := (e1.trans e2).sl hp
      obtain ⟨v, hv, xv⟩ := xs.at e3
      refine ⟨⟨vs, v, hq, hv⟩, fun x H3 y => ?_⟩
      obtain ⟨T, w, rfl, hT, rfl, y⟩ := y
      have z := y vs hq
      rw [hv] at z
      cases z
      have n2 : Hs2 T = none := by
        cases q : Hs2 T with
        | none => rfl
        | some u =>
          rw [e2 T u q] at hT
          cases hT
      exact ⟨_, Gr.new e2 hT, .tup upd_same (.cons (.int _) (.cons (xv.mono (e1.trans (Ex.new n2))) .nil))⟩
    · rw [numD_length] at hi
      exact ⟨vs, (e1.trans e2).sl hp, by rw [xs.length, hi]; exact Nat.le_refl _⟩

/-! ### for -/
theorem RS.rebase {B : Base} {Hs H : Hp} {σ : St} (r : RS K B Hs H σ ρ) : RS K ⟨Hs, B.f, B.h, r.tb.1, B.t.2⟩ Hs H σ ρ :=
  ⟨⟨r.gr.fr, Ex.refl Hs, r.gr.lv, fun _ _ => rfl, r.gr.dm, r.gr.fd, r.gr.dp, id, r.gr.tb⟩, r.len, r.reg⟩
theorem Gr.back {Bs Bf Bh Hs H Hs' H' : Hp} (g : Gr Bs Bf Bh Hs H) (g' : Gr Hs Bf Bh Hs' H') : Gr Bs Bf Bh Hs' H' :=
  ⟨g'.fr, g.sh.trans g'.sh, g'.lv, fun a h => (g'.nw a h).trans (g.nw a h), g'.dm, g'.fd, g'.dp, fun t => g'.nt (g.nt t), g'.tb⟩
theorem RS.back {B : Base} {Hs H Hs' H' : Hp} {σ' : St} (g : Gr B.s B.f B.h Hs H) {t : NT Hs ∧ TB B.h} (r : RS K ⟨Hs, B.f, B.h, t⟩ Hs' H' σ' ρ') : RS K B Hs' H' σ' ρ' :=
  ⟨g.back r.gr, r.len, r.reg⟩
/-- a statement run from here tells also that what is shared here stays -/
theorem ExS.run {ts : TS} {B : Base} {Hs H : Hp} {σ : St} {Dn : Ends} (h : ExS K ts ρ R) (r : RS K B Hs H σ ρ)
    (nx : ∀ Hs' H' σ' ρ', Ex Hs Hs' → RS K B Hs' H' σ' ρ' → R.nx ρ' → Dn.nx σ' H')
    (rt : ∀ Hs' H' v d, Gr B.s B.f B.h Hs' H' → Rep K Hs' v d → R.rt d → Dn.rt v H')
    (rf : ∀ Hs' H' p vs ds, Gr B.s B.f B.h Hs' H' → B.h p = none → Hs' p = none → H' p = some (.lst vs) → RepL K Hs' vs ds → R.rf ds → Dn.rt (.ref p) H')
    (bk : ∀ Hs' H' σ' ρ', Ex Hs Hs' → RS K B Hs' H' σ' ρ' → R.bk ρ' → Dn.bk σ' H')
    (ct : ∀ Hs' H' σ' ρ', Ex Hs Hs' → RS K B Hs' H' σ' ρ' → R.ct ρ' → Dn.ct σ' H')
    (ro : ∀ Hs' H' σ' ρ' v d, Ex Hs Hs' → RS K B Hs' H' σ' ρ' → Rep K Hs' v d → R.ro ρ' d → Dn.rt v H')
    (ex : ∀ Hs' H' σ' ρ' cls dd fs, Ex Hs Hs' → RS K B Hs' H' σ' ρ' → XRep K Hs' H' dd fs → R.ex ρ' cls fs → R.W cls dd σ' H')
    (rn : ∀ Hs' H' v o S, Gr B.s B.f B.h Hs' H' → Own K Hs' v o S → (∀ a u, S a = some u → H' a = some u ∧ B.h a = none ∧ Hs' a = none) → R.rn o → Dn.rt v H') : ts Dn σ H :=
  h ⟨Hs, B.f, B.h, r.tb.1, B.t.2⟩ Hs H σ Dn r.rebase
    ⟨fun Hs' H' σ' ρ' r' q => nx Hs' H' σ' ρ' r'.gr.sh (RS.back r.gr r') q, fun Hs' H' v d g x q => rt Hs' H' v d (r.gr.back g) x q,
      fun Hs' H' p vs ds g n ns e x q => rf Hs' H' p vs ds (r.gr.back g) n ns e x q,
      fun Hs' H' σ' ρ' r' q => bk Hs' H' σ' ρ' r'.gr.sh (RS.back r.gr r') q, fun Hs' H' σ' ρ' r' q => ct Hs' H' σ' ρ' r'.gr.sh (RS.back r.gr r') q,
      fun Hs' H' σ' ρ' v d r' x q => ro Hs' H' σ' ρ' v d r'.gr.sh (RS.back r.gr r') x q, fun Hs' H' σ' ρ' cls dd fs r' x q => ex Hs' H' σ' ρ' cls dd fs r'.gr.sh (RS.back r.gr r') x q, fun Hs' H' v o S g ow c q => rn Hs' H' v o S (r.gr.back g) ow c q⟩
theorem xs_for {wi : TI} {g : TG} {tb : TS} (h : EvI K wi ρ ds) (I : Nat → Env → Prop) (h0 : I 0 ρ)
    (hs : ∀ k d ρ1, ds[k]? = some d → I k ρ1 → ∃ ρ2, EvG K g d ρ1 ρ2 ∧ ExS K tb ρ2 { R with nx := I (k + 1), ct := I (k + 1), bk := R.nx })
    (hd : ∀ ρ1, I ds.length ρ1 → R.nx ρ1) : ExS K (tFor wi g tb) ρ R := fun B Hs H σ Dn r l =>
  h B Hs H σ r _ fun J Hs1 H1 g1 it => by
    refine ⟨fun i m σ H => m = ds.length - i ∧ i ≤ ds.length ∧ ∃ Hs2 ρ1, RS K B Hs2 H σ ρ1 ∧ Ex Hs1 Hs2 ∧ I i ρ1, ⟨ds.length, rfl, Nat.zero_le _, Hs1, ρ, r.grow g1, Ex.refl _, h0⟩, ?_⟩
    rintro i m σ2 H2 ⟨rfl, hi, Hs2, ρ1, r2, e2, hI⟩
    obtain ⟨go, stop⟩ := it i Hs2 H2 e2 r2.ex
    by_cases hlt : i < ds.length
    · obtain ⟨go1, go2⟩ := go _ (List.getElem?_eq_getElem hlt)
      refine .inr ⟨go1, fun σ' H' => ∃ Hs3 ρ3, RS K B Hs3 H' σ' ρ3 ∧ Ex Hs1 Hs3 ∧ I (i + 1) ρ3, fun σ' H' ⟨Hs3, ρ3, r3, e3, i3⟩ => ⟨ds.length - (i + 1), by omega, rfl, hlt, Hs3, ρ3, r3, e3, i3⟩, fun x H3 y => ?_⟩
      obtain ⟨Hs3, g3, x3⟩ := go2 x H3 y
      obtain ⟨ρ2, hg, hx⟩ := hs i _ ρ1 (List.getElem?_eq_getElem hlt) hI
      refine hg B Hs3 H3 σ2 x (r2.grow g3) x3 _ fun Hs4 H4 σ4 g4 r4 => ?_
      have e4 : Ex Hs1 Hs4 := (e2.trans g3.sh).trans g4.sh
      exact hx.run r4 (fun Hs5 H5 σ5 ρ5 e5 r5 q => ⟨Hs5, ρ5, r5, e4.trans e5, q⟩) l.rt l.rf (fun Hs5 H5 σ5 ρ5 e5 r5 q => l.nx Hs5 H5 σ5 ρ5 r5 q) (fun Hs5 H5 σ5 ρ5 e5 r5 q => ⟨Hs5, ρ5, r5, e4.trans e5, q⟩) (fun Hs5 H5 σ5 ρ5 v d e5 r5 x q => l.ro Hs5 H5 σ5 ρ5 v d r5 x q) (fun Hs5 H5 σ5 ρ5 cls dd fs e5 r5 x q => l.ex Hs5 H5 σ5 ρ5 cls dd fs r5 x q) l.rn
    · have e : i = ds.length := by omega
      subst e
      exact .inl ⟨stop rfl, l.nx Hs2 H2 σ2 ρ1 r2 (hd ρ1 hI)⟩
theorem xs_while {tc : TT} {tb : TS} (I : Nat → Env → Prop) (m0 : Nat) (h0 : I m0 ρ)
    (hs : ∀ m ρ1, I m ρ1 → ∃ b, EvT K tc ρ1 b ∧ (b = true → ExS K tb ρ1 { R with nx := fun ρ2 => ∃ m', m' < m ∧ I m' ρ2, ct := fun ρ2 => ∃ m', m' < m ∧ I m' ρ2, bk := R.nx }) ∧ (b = false → R.nx ρ1)) : ExS K (tWhile tc tb) ρ R := fun B Hs H σ Dn r l => by
  refine ⟨fun m σ H => ∃ Hs2 ρ1, RS K B Hs2 H σ ρ1 ∧ I m ρ1, ⟨m0, Hs, ρ, r, h0⟩, ?_⟩
  rintro m σ2 H2 ⟨Hs2, ρ1, r2, hI⟩
  obtain ⟨b, hb, h1, h2⟩ := hs m ρ1 hI
  refine hb B Hs2 H2 σ2 r2 _ fun Hs3 H3 g3 => ?_
  cases b with
  | true =>
    refine ⟨fun σ' H' => ∃ m', m' < m ∧ ∃ Hs4 ρ4, RS K B Hs4 H' σ' ρ4 ∧ I m' ρ4, fun σ' H' ⟨m', hm, Hs4, ρ4, r4, i4⟩ => ⟨m', hm, Hs4, ρ4, r4, i4⟩, ?_⟩
    exact h1 rfl B Hs3 H3 σ2 _ (r2.grow g3) ⟨fun Hs4 H4 σ4 ρ4 r4 ⟨m', hm, q⟩ => ⟨m', hm, Hs4, ρ4, r4, q⟩, l.rt, l.rf, l.nx, fun Hs4 H4 σ4 ρ4 r4 ⟨m', hm, q⟩ => ⟨m', hm, Hs4, ρ4, r4, q⟩, l.ro, l.ex, l.rn⟩
  | false =>
    show Dn.nx σ2 H3
    exact l.nx Hs3 H3 σ2 ρ1 (r2.grow g3) (h2 rfl)

/-! ### comprehensions -/
def wD (ρ : Env) : List Nat → Env
  | [] => ρ
  | v :: vs => (wD ρ vs).set v none
theorem RS.forget {B : Base} {Hs H : Hp} {σ : St} (r : RS K B Hs H σ ρ) (i : Nat) (o : Option V) : RS K B Hs H (σ.set i o) (ρ.set i none) := by
  obtain ⟨R, h1, h2, h3, h4⟩ := r.reg
  refine ⟨r.gr, by rw [List.length_set, List.length_set, r.len], R, fun j sv e => ?_, h2, h3, fun j ds a e1 e0 e2 => ?_⟩
  rotate_left
  · by_cases q : j = i
    · subst q
      by_cases hl : j < ρ.length
      · rw [List.getElem?_set_self hl] at e1
        cases e1
      · rw [List.getElem?_eq_none (by rw [List.length_set]; omega)] at e1
        cases e1
    · rw [List.getElem?_set_ne (Ne.symm q)] at e1
      exact h4 j ds a e1 e0 e2
  by_cases q : j = i
  · subst q
    by_cases hl : j < ρ.length
    · rw [List.getElem?_set_self hl] at e
      cases e
    · rw [List.getElem?_eq_none (by rw [List.length_set]; omega)] at e
      cases e
  · rw [List.getElem?_set_ne (Ne.symm q)] at e ⊢
    exact h1 j sv e
theorem RS.wipe {B : Base} {Hs H : Hp} {σ : St} (r : RS K B Hs H σ ρ) : ∀ vs : List Nat, RS K B Hs H (wipe σ vs) (wD ρ vs)
  | [] => r
  | v :: vs => (RS.wipe r vs).forget v none
/-- a comprehension's target: the slots js, all of the block's own -/
def EvGc (K : PySem.W.Frag) (g : TG) (d : D) (ρ ρ' : Env) (vs : List Nat) : Prop := ∀ B Hs H σ x, RS K B Hs H σ ρ → Rep K Hs x d → ∀ Q : St → Hp → Prop, (∀ Hs' H' σ', Gr Hs H H Hs' H' → RS K B Hs' H' σ' ρ' → wipe σ' vs = wipe σ vs → Q σ' H') → g x σ H Q
def EvGsc (K : PySem.W.Frag) (g : TGs) (ds : List D) (ρ ρ' : Env) (vs : List Nat) : Prop := ∀ B Hs H σ xs, RS K B Hs H σ ρ → RepL K Hs xs ds → ∀ Q : St → Hp → Prop, (∀ Hs' H' σ', Gr Hs H H Hs' H' → RS K B Hs' H' σ' ρ' → wipe σ' vs = wipe σ vs → Q σ' H') → g xs σ H Q
theorem set_wipe : ∀ (vs : List Nat) (σ : St) (i : Nat) (x : Option V), i ∈ vs → wipe (σ.set i x) vs = wipe σ vs
  | [], _, _, _, h => by simp at h
  | v :: vs, σ, i, x, h => by
    show (wipe (σ.set i x) vs).set v none = (wipe σ vs).set v none
    by_cases hi : i ∈ vs
    · rw [set_wipe vs σ i x hi]
    · have e : i = v := by
        rcases List.mem_cons.mp h with q | q
        · exact q
        · exact absurd q hi
      subst e
      have key : ∀ (ws : List Nat), i ∉ ws → wipe (σ.set i x) ws = (wipe σ ws).set i x := by
        intro ws
        induction ws with
        | nil => intro _; rfl
        | cons w ws ih =>
          intro hw
          have h1 : w ≠ i := fun q => hw (by rw [q]; exact List.mem_cons_self)
          show (wipe (σ.set i x) ws).set w none = ((wipe σ ws).set w none).set i x
          rw [ih fun q => hw (List.mem_cons_of_mem _ q), List.set_comm _ _ h1]
      rw [key vs hi, List.set_set]
theorem egc_name {i : Nat} {vs : List Nat} (h : i ∈ vs) : EvGc K (gName i) d ρ (ρ.set i (some (.sh d))) vs := fun B Hs H σ x r hx Q q => q Hs H _ (Gr.refl r.ex) (r.set i hx) (set_wipe vs σ i _ h)
theorem egsc_nil {vs : List Nat} : EvGsc K gNil [] ρ ρ vs := fun B Hs H σ xs r h Q q => by
  cases h
  exact ⟨rfl, q Hs H σ (Gr.refl r.ex) r rfl⟩
theorem egsc_cons {g : TG} {gs : TGs} {ρ2 : Env} {vs : List Nat} (h1 : EvGc K g d ρ ρ' vs) (h2 : EvGsc K gs ds ρ' ρ2 vs) : EvGsc K (gCons g gs) (d :: ds) ρ ρ2 vs := fun B Hs H σ xs r h Q q => by
  cases h with
  | @cons v ws _ _ a b =>
    refine ⟨v, ws, rfl, h1 B Hs H σ v r a _ fun Hs1 H1 σ1 g1 r1 w1 => ?_⟩
    exact h2 B Hs1 H1 σ1 ws r1 (b.mono g1.sh) _ fun Hs2 H2 σ2 g2 r2 w2 => q Hs2 H2 σ2 (g1.trans g2) r2 (w2.trans w1)
theorem egc_tup {gs : TGs} {n : Nat} {vs : List Nat} (h : EvGsc K gs ds ρ ρ' vs) (hn : ds.length = n) : EvGc K (gTup K n gs) (.tup ds) ρ ρ' vs := fun B Hs H σ x r hx Q q => by
  cases hx with
  | @tup p ws _ hp' xs =>
    have hp := SqT_of (K := K) hp'
    exact ⟨p, ws, rfl, r.ex.st hp, by rw [xs.length]; exact hn, h B Hs H σ ws r xs Q q⟩
theorem Gr.mut {Hs H Hs' H' : Hp} {p : Addr} {o : HO} (g : Gr Hs H H Hs' H') (n : H p = none) (ns : Hs' p = none) (hp : Pn H' p) : Gr Hs H H Hs' (upd H' p o) := by
  refine ⟨fun a u e z => ?_, g.sh, fun a u e => ?_, g.nw, fun a x => upd_dm (g.dm a x), fun a x => upd_dm (g.dm a x), fun a x => ?_, g.nt, fun t => (g.tb t).ch (upd_ch (.inr hp))⟩
  · rw [upd_ne (ne_of_none e n)]
    exact g.fr a u e z
  · rw [upd_ne (ne_of_none e ns)]
    exact g.lv a u e
  · obtain ⟨u, e, z⟩ := g.dp a x
    exact ⟨u, by rw [upd_ne (fun q => x.ne (by rw [q]; exact n))]; exact e, z⟩
theorem take_more {α : Type} : ∀ {l : List α} {i : Nat} {x : α}, l[i]? = some x → l.take (i + 1) = l.take i ++ [x]
  | [], i, x, h => by simp at h
  | a :: l, 0, x, h => by
    have e := Option.some.inj h
    subst e
    rfl
  | a :: l, i + 1, x, h => by
    have ih := take_more (l := l) (i := i) (x := x) h
    show a :: l.take (i + 1) = a :: l.take i ++ [x]
    rw [ih]
    rfl
theorem wipe_wipe (σ : St) : ∀ vs : List Nat, wipe (wipe σ vs) vs = wipe σ vs := by
  have key : ∀ (vs ws : List Nat) (σ : St), (∀ v ∈ vs, v ∈ ws) → wipe (wipe σ vs) ws = wipe σ ws := by
    intro vs
    induction vs with
    | nil => intro ws σ _; rfl
    | cons v vs ih =>
      intro ws σ h
      show wipe ((wipe σ vs).set v none) ws = wipe σ ws
      rw [set_wipe ws _ v none (h v List.mem_cons_self)]
      exact ih ws σ fun u hu => h u (List.mem_cons_of_mem _ hu)
  exact fun vs => key vs vs σ fun _ h => h
theorem ef_lc {α : Type} (xs : List α) (enc : α → D) (f : α → Bool) (w : α → D) {wi : TI} {g : TG} {vs : List Nat} (hx : xs.map enc = ds) (h : EvI K wi ρ ds) (hz : xs.length ≤ 50000)
    (hs : ∀ (k : Nat) (x : α), xs[k]? = some x → ∃ ρ2, EvGc K g (enc x) (wD ρ vs) ρ2 vs ∧ EvT K tt ρ2 (f x) ∧ (f x = true → EvD K te ρ2 (w x))) :
    EvF K (tLc wi g tt te vs) ρ ((xs.filter f).map w) := fun B Hs H σ r Q q => h B Hs H σ r _ fun J Hs1 H1 g1 it p hp => by
  obtain ⟨n1, n2⟩ := gr_none g1 hp
  have r1 := r.grow g1
  have len : ds.length = xs.length := by rw [← hx, List.length_map]
  have zl : ∀ i, ((xs.take i).filter f).length < 100000 := fun i => by
    have h1 := List.length_filter_le f (xs.take i)
    have h2 : (xs.take i).length ≤ xs.length := by rw [List.length_take]; exact Nat.min_le_right _ _
    omega
  refine ⟨fun i m H => m = xs.length - i ∧ i ≤ xs.length ∧ ∃ Hs2 ws, Gr Hs1 H1 H1 Hs2 H ∧ Hs2 p = none ∧ H p = some (.lst ws) ∧ RepL K Hs2 ws (((xs.take i).filter f).map w),
    ⟨xs.length, rfl, Nat.zero_le _, Hs1, [], Gr.newO g1.lv hp, n2, upd_same, .nil⟩, ?_⟩
  rintro i m H2 ⟨rfl, hi, Hs2, ws, g2, e2, e3, x2⟩
  have r2 := r1.grow g2
  obtain ⟨go, stop⟩ := it i Hs2 H2 g2.sh g2.lv
  by_cases hlt : i < xs.length
  · have gx : xs[i]? = some xs[i] := List.getElem?_eq_getElem hlt
    have gd : ds[i]? = some (enc xs[i]) := by rw [← hx, List.getElem?_map, gx]; rfl
    obtain ⟨go1, go2⟩ := go _ gd
    refine .inr ⟨go1, fun H' => ∃ Hs3 ws, Gr Hs1 H1 H1 Hs3 H' ∧ Hs3 p = none ∧ H' p = some (.lst ws) ∧ RepL K Hs3 ws (((xs.take (i + 1)).filter f).map w), fun H' q' => ⟨xs.length - (i + 1), by omega, rfl, hlt, q'⟩, fun x H3 y => ?_⟩
    obtain ⟨Hs3, g3, x3⟩ := go2 x H3 y
    obtain ⟨ρ2, hg, ht, he⟩ := hs i _ gx
    refine hg B Hs3 H3 _ x ((r2.grow g3).wipe vs) x3 _ fun Hs4 H4 σ4 g4 r4 w4 => ?_
    refine ⟨by rw [w4]; exact wipe_wipe σ vs, ht B Hs4 H4 σ4 r4 _ fun Hs5 H5 g5 => ?_⟩
    have g25 : Gr Hs2 H2 H2 Hs5 H5 := (g3.trans g4).trans g5
    have p5 : H5 p = some (.lst ws) := g25.fr.pl e3
    have n5 : Hs5 p = none := by rw [g25.nw p (.of e3)]; exact e2
    cases hf : f xs[i] with
    | true =>
      show te σ4 H5 fun y H6 => ∃ acc, H6 p = some (.lst acc) ∧ acc.length < sizeLine ∧ ∃ Hs3 ws, Gr Hs1 H1 H1 Hs3 (upd H6 p (.lst (acc ++ [y]))) ∧ Hs3 p = none ∧ (upd H6 p (.lst (acc ++ [y]))) p = some (.lst ws) ∧ RepL K Hs3 ws (((xs.take (i + 1)).filter f).map w)
      refine he hf B Hs5 H5 σ4 (r4.grow g5) _ fun Hs6 H6 y g6 x6 => ?_
      have n6 : Hs6 p = none := by rw [g6.nw p (.of p5)]; exact n5
      refine ⟨ws, g6.fr.pl p5, by rw [x2.length, List.length_map]; exact sz_lt (zl i), Hs6, ws ++ [y], ((g2.trans g25).trans g6).mut hp n6 (.of (g6.fr.pl p5)), n6, upd_same, ?_⟩
      rw [take_more gx, List.filter_append, List.map_append]
      have e1 : List.filter f [xs[i]] = [xs[i]] := by simp [hf]
      rw [e1]
      exact (x2.mono (g25.sh.trans g6.sh)).append (.cons x6 .nil)
    | false =>
      refine ⟨Hs5, ws, g2.trans g25, n5, p5, ?_⟩
      rw [take_more gx, List.filter_append, List.map_append]
      have e1 : List.filter f [xs[i]] = [] := by simp [hf]
      rw [e1, List.map_nil, List.append_nil]
      exact x2.mono g25.sh
  · have e : i = xs.length := by omega
    subst e
    refine .inl ⟨stop len.symm, ?_⟩
    rw [List.take_length] at x2
    have g12 := g1.trans g2
    exact q Hs2 H2 p ws g12 n1 e2 e3 x2
/-- .. without tests -/
theorem ef_lc0 {α : Type} (xs : List α) (enc : α → D) (w : α → D) {wi : TI} {g : TG} {vs : List Nat} (hx : xs.map enc = ds) (h : EvI K wi ρ ds) (hz : xs.length ≤ 50000)
    (hs : ∀ (k : Nat) (x : α), xs[k]? = some x → ∃ ρ2, EvGc K g (enc x) (wD ρ vs) ρ2 vs ∧ EvD K te ρ2 (w x)) : EvF K (tLc wi g tYes te vs) ρ (xs.map w) := by
  have h2 := ef_lc (te := te) (tt := tYes) xs enc (fun _ => true) w hx h hz fun k x hk => by
    obtain ⟨ρ2, h1, h2⟩ := hs k x hk
    exact ⟨ρ2, h1, et_yes, fun _ => h2⟩
  have e : xs.filter (fun _ => true) = xs := List.filter_eq_self.mpr fun _ _ => rfl
  rw [e] at h2
  exact h2
theorem EvI.is {wi : TI} (h : EvI K wi ρ ds) (q : ds = es) : EvI K wi ρ es := q ▸ h
end
end DL

/-! DCall: what a def promises on deep data; calls; frozen lists. -/
namespace DL
open PySem L2
open PyProof.Rows (envOfC)
variable [TbC]

/-- called with arg x, where pre x: gives something of post x, all that stood stands -/
def spR (K : PySem.W.Frag) {α : Type} (pre : α → Prop) (arg : α → List D) (post : α → D → Prop) : Sp := fun vs H Q _ => ∃ (Hs : Hp) (x : α), (Ex Hs H ∧ NT Hs ∧ TB H) ∧ RepL K Hs vs (arg x) ∧ pre x ∧
  ∀ Hs' H' v d, Gr Hs H H Hs' H' → Rep K Hs' v d → post x d → Q v H'
abbrev spG (K : PySem.W.Frag) {α : Type} (pre : α → Prop) (arg : α → List D) (res : α → D) : Sp := spR K pre arg fun x d => d = res x
/-- .. gives a new list -/
def spF (K : PySem.W.Frag) {α : Type} (pre : α → Prop) (arg : α → List D) (res : α → List D) : Sp := fun vs H Q _ => ∃ (Hs : Hp) (x : α), (Ex Hs H ∧ NT Hs ∧ TB H) ∧ RepL K Hs vs (arg x) ∧ pre x ∧
  ∀ Hs' H' p ws, Gr Hs H H Hs' H' → H p = none → Hs' p = none → H' p = some (.lst ws) → RepL K Hs' ws (res x) → Q (.ref p) H'
/-- what is shared at the law's entry: all but tables -/
def noT (H : Hp) : Hp := fun a => match H a with
  | some (.tbl _) => none
  | o => o
theorem noT_ex (H : Hp) : Ex (noT H) H := fun a o e => by
  unfold noT at e
  split at e
  · cases e
  · exact e
theorem noT_nt (H : Hp) : NT (noT H) := fun a ps e => by
  unfold noT at e
  split at e
  · cases e
  · rename_i h
    exact h ps e
theorem noT_n (H : Hp) : ExN H (noT H) := fun a o e n => by
  unfold noT
  split
  · rename_i ps h
    rw [e] at h
    exact absurd (Option.some.inj h) (n ps)
  · exact e
/-- a frame at its entry -/
def entry (N : List Str) (ds : List D) : Env := ds.map (fun d => some (.sh d)) ++ List.replicate (N.length - ds.length) none

section
variable {K : PySem.W.Frag} {ρ ρ' : Env} {te ta tb : TE} {d e : D} {ds es : List D} {tt : TT} {R : DEnds}
theorem rs_entry {N : List Str} {vs : List V} {Hs H : Hp} (e : Ex Hs H ∧ NT Hs ∧ TB H) (x : RepL K Hs vs ds) (hN : ds.length ≤ N.length) : RS K ⟨Hs, H, H, e.2⟩ Hs H (L2.start N vs) (entry N ds) := by
  have hl := x.length
  refine ⟨Gr.refl e.1, ?_, fun _ _ => none, fun i sv h => ?_, fun i a o h => (nomatch h), fun i j a h => absurd rfl h, fun i ds a _ _ h => absurd rfl h⟩
  · unfold L2.start entry
    rw [List.length_append, List.length_append, List.length_map, List.length_map, List.length_replicate, List.length_replicate, hl]
  · unfold entry at h
    by_cases hi : i < ds.length
    · rw [List.getElem?_append_left (by simpa using hi), List.getElem?_map, List.getElem?_eq_getElem hi] at h
      cases h
      obtain ⟨v, hv, xv⟩ := x.at (List.getElem?_eq_getElem hi)
      refine ⟨v, ?_, xv, fun _ => rfl⟩
      unfold L2.start
      rw [List.getElem?_append_left (by rw [List.length_map, hl]; exact hi), List.getElem?_map, hv]
      rfl
    · rw [List.getElem?_append_right (by rw [List.length_map]; omega), List.getElem?_replicate] at h
      split at h <;> cases h
variable {P : Program} {w : World} {mg : Str → Option Value} {base : Heap} {x qual : Str} {st : Stmt} {f : Addr} {fd : FuncData} {N ps : List Str} {k : Nat} {α : Type} {pre : α → Prop} {arg : α → List D}
theorem fn_r {post : α → D → Prop} (F : Fun K x qual st f fd) (S : FnScope N ps (defScope st)) (hl : ∀ x, (arg x).length = ps.length) {t : TS}
    (hb : ∀ (cdv : Value) (A : Around) (outer : List PySem.Env) (s : Shared) (H : Hp) (E : XK), Room k (A.deeper (envOfC qual (defScope st) s.heap.objs.size f cdv)) → PSs (cxOf CX0 P w K mg base N qual (defScope st) f cdv A outer s H E).nox (defBody st) t)
    (hd : ∀ x, pre x → ExS K t (entry N (arg x)) { nx := fun _ => post x .non, rt := post x }) : FnOk P w K mg base CX0 (k + 1) f fd ps (spR K pre arg post) := by
  have hN : ps.length ≤ N.length := by have := congrArg List.length S.pre; rw [List.length_take] at this; omega
  refine F.ok S (fun vs H Q E h => ?_) (fun cdv A outer s H vs Q E hr h => ?_)
  · obtain ⟨Hs, x, _, r, _⟩ := h
    rw [r.length, hl]
  · obtain ⟨Hs, x, e, r, hp, q⟩ := h
    refine ⟨t, hb cdv A outer s H E hr, ?_⟩
    exact hd x hp ⟨Hs, H, H, e.2⟩ Hs H (L2.start N vs) _ (rs_entry e r (by rw [hl]; exact hN))
      ⟨fun Hs' H' σ ρ r' z => q Hs' H' .non .non r'.gr .non z, fun Hs' H' v d g x z => q Hs' H' v d g x z, fun _ _ _ _ _ _ _ _ _ _ z => z.elim, fun _ _ _ _ _ z => z.elim, fun _ _ _ _ _ z => z.elim, fun _ _ _ _ _ _ _ _ z => z.elim, fun _ _ _ _ _ _ _ _ _ z => z.elim, fun _ _ _ _ _ _ _ _ z => z.elim⟩
theorem fn_f {res : α → List D} (F : Fun K x qual st f fd) (S : FnScope N ps (defScope st)) (hl : ∀ x, (arg x).length = ps.length) {t : TS}
    (hb : ∀ (cdv : Value) (A : Around) (outer : List PySem.Env) (s : Shared) (H : Hp) (E : XK), Room k (A.deeper (envOfC qual (defScope st) s.heap.objs.size f cdv)) → PSs (cxOf CX0 P w K mg base N qual (defScope st) f cdv A outer s H E).nox (defBody st) t)
    (hd : ∀ x, pre x → ExS K t (entry N (arg x)) { nx := fun _ => False, rt := fun _ => False, rf := fun ds => ds = res x }) : FnOk P w K mg base CX0 (k + 1) f fd ps (spF K pre arg res) := by
  have hN : ps.length ≤ N.length := by have := congrArg List.length S.pre; rw [List.length_take] at this; omega
  refine F.ok S (fun vs H Q E h => ?_) (fun cdv A outer s H vs Q E hr h => ?_)
  · obtain ⟨Hs, x, _, r, _⟩ := h
    rw [r.length, hl]
  · obtain ⟨Hs, x, e, r, hp, q⟩ := h
    refine ⟨t, hb cdv A outer s H E hr, ?_⟩
    exact hd x hp ⟨Hs, H, H, e.2⟩ Hs H (L2.start N vs) _ (rs_entry e r (by rw [hl]; exact hN))
      ⟨fun Hs' H' σ ρ r' z => z.elim, fun Hs' H' v d g x z => z.elim, fun Hs' H' p ws ds g n ns e x z => q Hs' H' p ws g n ns e (z ▸ x), fun _ _ _ _ _ z => z.elim, fun _ _ _ _ _ z => z.elim, fun _ _ _ _ _ _ _ _ z => z.elim, fun _ _ _ _ _ _ _ _ _ z => z.elim, fun _ _ _ _ _ _ _ _ z => z.elim⟩

/-! ### calls -/
theorem ev_call {res : α → D} {E : XK} {ta : TA} (x : α) (h : EvA K ta ρ (arg x)) (p : pre x) : EvD K (tCall (spG K pre arg res) [] E ta) ρ (res x) := fun B Hs H σ r Q q =>
  h B Hs H σ r _ fun Hs1 H1 vs g1 xs => by
    rw [List.append_nil]
    exact ⟨Hs1, x, ⟨g1.lv, (r.grow g1).tb⟩, xs, p, fun Hs' H' v d g y e => q Hs' H' v (g1.trans g) (e ▸ y)⟩
theorem ef_call {res : α → List D} {E : XK} {ta : TA} (x : α) (h : EvA K ta ρ (arg x)) (p : pre x) : EvF K (tCall (spF K pre arg res) [] E ta) ρ (res x) := fun B Hs H σ r Q q =>
  h B Hs H σ r _ fun Hs1 H1 vs g1 xs => by
    rw [List.append_nil]
    refine ⟨Hs1, x, ⟨g1.lv, (r.grow g1).tb⟩, xs, p, fun Hs' H' l ws g n ns e y => q Hs' H' l ws (g1.trans g) ?_ ns e y⟩
    exact (g1.new0 n).1

/-! ### own lists, frozen for a while, or for good -/
theorem RS.temp {B : Base} {Hs H : Hp} {σ : St} (r : RS K B Hs H σ ρ) : RS K ⟨Hs, fun _ => none, npl H, r.tb.1, r.tb.2.npl⟩ Hs H σ ρ := by
  obtain ⟨R, h1, h2, h3, h4⟩ := r.reg
  exact ⟨⟨fun _ _ z => (nomatch z), Ex.refl Hs, r.ex, fun _ z => absurd z (npl_pn _), fun _ z => npl_le z, fun _ z => absurd rfl z, fun _ z => absurd z (npl_pn _), id, fun _ => r.tb.2⟩, r.len, R, h1, fun i a o e => ⟨(h2 i a o e).1, (h2 i a o e).2.1, rfl, (h2 i a o e).2.2.2⟩, h3, fun i _ a _ _ z => by
    cases q : R i a with
    | none => exact absurd q z
    | some o => exact npl_no (h2 i a o q).1 (h2 i a o q).2.2.2⟩
theorem gr_thaw {Hs Hs2 H Hs' H' : Hp} (e : Ex Hs Hs2) (g : Gr Hs2 H H Hs' H') : Gr Hs H H Hs H' := ⟨g.fr, Ex.refl Hs, (e.trans g.sh).trans g.lv, fun _ _ => rfl, g.dm, g.fd, g.dp, id, g.tb⟩
/-- an own list at slot i is read as shared, what comes is a scalar -/
theorem EvD.thaw (i : Nat) (hi : ρ[i]? = some (some (.ol ds))) (h : EvD K te (ρ.set i (some (.sh (.lst ds)))) d) (hd : d.scal = true) : EvD K te ρ d := fun B Hs H σ r Q q => by
  obtain ⟨Hs2, e1, e2, r2⟩ := r.temp.fz i hi
  exact h _ Hs2 H σ r2 Q fun Hs' H' v g x => q Hs H' v (gr_thaw e1 g) (x.scal hd)
theorem EvF.thaw (i : Nat) (hi : ρ[i]? = some (some (.ol ds))) (h : EvF K te (ρ.set i (some (.sh (.lst ds)))) es) (hd : es.all D.scal = true) : EvF K te ρ es := fun B Hs H σ r Q q => by
  obtain ⟨Hs2, e1, e2, r2⟩ := r.temp.fz i hi
  refine h _ Hs2 H σ r2 Q fun Hs' H' p vs g n ns e x => q Hs H' p vs (gr_thaw e1 g) n ?_ e (x.scal hd)
  cases z : Hs p with
  | none => rfl
  | some o =>
    rw [r.ex p o z] at n
    cases n
theorem EvT.thaw (i : Nat) {b : Bool} (hi : ρ[i]? = some (some (.ol ds))) (h : EvT K tt (ρ.set i (some (.sh (.lst ds)))) b) : EvT K tt ρ b := fun B Hs H σ r Q q => by
  obtain ⟨Hs2, e1, e2, r2⟩ := r.temp.fz i hi
  exact h _ Hs2 H σ r2 Q fun Hs' H' g => q Hs H' (gr_thaw e1 g)
/-- for good -/
theorem xs_fz {ts : TS} (i : Nat) (hi : ρ[i]? = some (some (.ol ds))) (h : ExS K ts (ρ.set i (some (.sh (.lst ds)))) R) : ExS K ts ρ R := fun B Hs H σ Dn r l => by
  obtain ⟨Hs2, e1, e2, r2⟩ := r.fz i hi
  exact h B Hs2 H σ Dn r2 l
end
end DL

/-! DOps: one rule an operator, whatever the kinds; which kind it is, is told on deep data. -/
namespace DL
open PySem L2
variable [TbC]

section
variable {X : Cx}
/-! ### the rules -/
def rAddS0 : R2 := fun x y H Q => ∃ i j, x = .str i ∧ y = .str j ∧ i.length + j.length ≤ sizeLine ∧ Q (.str (i ++ j)) H
abbrev rAddI : R2 := rI0 fun i j => .int (i + j)
def rAddA (K : PySem.W.Frag) : R2 := fun x y H Q => rAddI x y H Q ∨ rCat x y H Q ∨ rCatA K x y H Q ∨ rAddS0 x y H Q
theorem op_addA : OpR X (binaryOp .Add) (rAddA X.K) := op_add.or (op_cat.or (op_catA.or op_add_str))
def CMulX (i j : Int) : Prop := CMulW i j ∨ CMul i j
abbrev rMulI : R2 := rI CMulX fun i j => .int (i * j)
theorem op_mulX : OpR X (binaryOp .Mult) rMulI := by
  intro pins s σ H x y v u Q I rx ry h
  obtain ⟨i, j, rfl, rfl, hc, q⟩ := h
  rcases hc with hc | hc
  · exact op_mulW pins s σ H _ _ v u Q I rx ry ⟨i, j, rfl, rfl, hc, q⟩
  · exact op_mul pins s σ H _ _ v u Q I rx ry ⟨i, j, rfl, rfl, hc, q⟩
def rMulA : R2 := fun x y H Q => rMulI x y H Q ∨ rRep x y H Q
theorem op_mulA : OpR X (binaryOp .Mult) rMulA := op_mulX.or op_rep
abbrev rDivW : R2 := rI CDivW fun i j => .int (i / j)
abbrev rModI : R2 := rI (fun _ j => 0 < j) fun i j => .int (i % j)
abbrev rSubI : R2 := rI0 fun i j => .int (i - j)
abbrev rPowI : R2 := rI CPow fun i j => .int (i ^ j.toNat)
abbrev rShrI : R2 := rI (fun _ j => 0 ≤ j) fun i j => .int (i / 2 ^ j.toNat)
abbrev rAndI : R2 := rI0 fun i j => .int (Builtin.bitAnd i j)
def rSlA' (K : PySem.W.Frag) : V → Option Int → Option Int → Hp → VK → Prop := fun x lo hi H Q => rSlL K x lo hi H Q ∨ rSlA K x lo hi H Q
theorem sl_A : SlR X (rSlA' X.K) := sl_list.or sl_tupA
abbrev rLenA (K : PySem.W.Frag) : List V → Hp → VK → Prop := fun xs H Q => rLen K xs H Q ∨ rLenS xs H Q
theorem call_lenA : CallR X (.builtin "len") (rLenA X.K) := call_len_seq.or call_len_str
end

/-- 2 ^ n bounds, for products and divisors of great numbers -/
def Big (n : Nat) (i : Int) : Prop := i.natAbs < 2 ^ n
theorem mulW_l {i j : Int} (h1 : -18446744073709551616 < i) (h2 : i < 18446744073709551616) : CMulX i j := .inr (.inl ⟨by omega, by omega⟩)
theorem mulW_r {i j : Int} (h1 : -18446744073709551616 < j) (h2 : j < 18446744073709551616) : CMulX i j := .inr (.inr ⟨by omega, by omega⟩)
theorem mulW_s {i j : Int} (h1 : -18446744073709551616 < i) (h2 : i < 18446744073709551616) (h3 : -18446744073709551616 < j) (h4 : j < 18446744073709551616) : CMulX i j := mulW_l h1 h2
theorem divW_c {i j : Int} (h0 : 0 < j) (h1 : j < 18446744073709551616) : CDivW i j := by
  refine ⟨h0, ?_⟩
  by_cases z : j.natAbs = 0
  · rw [z]
    decide
  · have := (Nat.log2_lt z (k := 65)).mpr (by omega)
    omega

section
variable {K : PySem.W.Frag} {ρ ρ' : Env} {te ta tb : TE} {d e : D} {ds es : List D} {tt : TT} {R : DEnds}
theorem ev_addI {i j : Int} (ha : EvD K ta ρ (.int i)) (hb : EvD K tb ρ (.int j)) : EvD K (tOp (rAddA K) ta tb) ρ (.int (i + j)) := fun B Hs H σ r Q q =>
  ha B Hs H σ r _ fun Hs1 H1 x g1 x1 => hb B Hs1 H1 σ (r.grow g1) _ fun Hs2 H2 y g2 y2 => by
    cases x1
    cases y2
    exact .inl ⟨i, j, rfl, rfl, q Hs2 H2 _ (g1.trans g2) (.int _)⟩
theorem ef_addL (ha : EvM K ta ρ ds) (hb : EvM K tb ρ es) (hl : ds.length + es.length ≤ 100000) : EvF K (tOp (rAddA K) ta tb) ρ (ds ++ es) := fun B Hs H σ r Q q =>
  ha B Hs H σ r _ fun Hs1 H1 p vs g1 hp xs => hb B Hs1 H1 σ (r.grow g1) _ fun Hs2 H2 p2 ws g2 hp2 ys => by
    have g := g1.trans g2
    refine .inr (.inl ⟨p, p2, vs, ws, rfl, rfl, g2.fr.pl hp, hp2, by rw [xs.length, ys.length]; exact sz_of hl, fun l hn => ?_⟩)
    obtain ⟨n1, n2⟩ := gr_none g hn
    exact q Hs2 _ l _ (g.trans (Gr.newO g2.lv hn)) n1 n2 upd_same ((xs.mono g2.sh).append ys)
theorem ev_mulI {i j : Int} (ha : EvD K ta ρ (.int i)) (hb : EvD K tb ρ (.int j)) (hc : CMulX i j) : EvD K (tOp rMulA ta tb) ρ (.int (i * j)) := fun B Hs H σ r Q q =>
  ha B Hs H σ r _ fun Hs1 H1 x g1 x1 => hb B Hs1 H1 σ (r.grow g1) _ fun Hs2 H2 y g2 y2 => by
    cases x1
    cases y2
    exact .inl ⟨i, j, rfl, rfl, hc, q Hs2 H2 _ (g1.trans g2) (.int _)⟩
theorem ef_mulL {k : Int} (ha : EvM K ta ρ ds) (hb : EvD K tb ρ (.int k)) (hk : k ≤ 100000) (hk' : -100000 ≤ k) (hl : ds.length * k.toNat ≤ 100000) : EvF K (tOp rMulA ta tb) ρ (List.replicate k.toNat ds).flatten := fun B Hs H σ r Q q =>
  ha B Hs H σ r _ fun Hs1 H1 p vs g1 hp xs => hb B Hs1 H1 σ (r.grow g1) _ fun Hs2 H2 y g2 y2 => by
    cases y2
    have g := g1.trans g2
    refine .inr ⟨p, k, vs, rfl, rfl, g2.fr.pl hp, by omega, by omega, by rw [xs.length]; exact sz_of hl, fun l hn => ?_⟩
    obtain ⟨n1, n2⟩ := gr_none g hn
    exact q Hs2 _ l _ (g.trans (Gr.newO g2.lv hn)) n1 n2 upd_same ((xs.mono g2.sh).rep _)
theorem ef_slL {tl th : TO} {lo hi : Option Int} (ha : EvB K ta ρ ds) (hl : EvO K tl ρ lo) (hh : EvO K th ρ hi) : EvF K (tSl (rSlA' K) ta tl th) ρ (cutD ds lo hi) := fun B Hs H σ r Q q =>
  ha B Hs H σ r _ fun Hs1 H1 p vs g1 hp xs => hl B Hs1 H1 σ (r.grow g1) _ fun Hs2 H2 g2 => hh B Hs2 H2 σ ((r.grow g1).grow g2) _ fun Hs3 H3 g3 => by
    refine .inl ⟨p, vs, rfl, g3.fr.sl (g2.fr.sl hp), fun l hn => ?_⟩
    have g := (g1.trans g2).trans g3
    obtain ⟨n1, n2⟩ := gr_none g hn
    exact q Hs3 _ l _ (g.trans (Gr.newO g3.lv hn)) n1 n2 upd_same ((xs.mono (g2.sh.trans g3.sh)).cut lo hi)
theorem ev_lenLA (ha : EvB K ta ρ ds) : EvD K (tCB (rLenA K) (tCons ta tNil)) ρ (.int (ds.length : Int)) := fun B Hs H σ r Q q =>
  ha B Hs H σ r _ fun Hs1 H1 p vs g1 hp xs => .inl ⟨p, vs, rfl, .inl hp, by
    rw [xs.length]
    exact q Hs1 H1 _ g1 (.int _)⟩
theorem ev_lenTA (ha : EvD K ta ρ (.tup ds)) : EvD K (tCB (rLenA K) (tCons ta tNil)) ρ (.int (ds.length : Int)) := fun B Hs H σ r Q q =>
  ha B Hs H σ r _ fun Hs1 H1 v g1 x => by
    cases x with
    | @tup p vs _ hp' xs =>
      have hp := SqT_of (K := K) hp'
      refine .inl ⟨p, vs, rfl, .inr (g1.lv.st hp), ?_⟩
      rw [xs.length]
      exact q Hs1 H1 _ g1 (.int _)
theorem ev_lenSA {z : Str} (ha : EvD K ta ρ (.str z)) (hz : z.length ≤ sizeLine) : EvD K (tCB (rLenA K) (tCons ta tNil)) ρ (.int (z.length : Int)) := fun B Hs H σ r Q q =>
  ha B Hs H σ r _ fun Hs1 H1 v g1 x => by
    cases x
    exact .inr ⟨z, rfl, hz, q Hs1 H1 _ g1 (.int _)⟩
/-! ### isinstance of a built-in class -/
def D.tyn : D → String
  | .non => "NoneType" | .bl _ => "bool" | .int _ => "int" | .str _ => "str" | .lst _ => "list" | .scr _ => "list" | .tup _ => "tuple" | _ => ""
end
end DL
namespace DL
open PySem L2
variable [TbC]
section
variable {K : PySem.W.Frag} {ρ ρ' : Env} {te ta tb : TE} {d e : D} {ds es : List D} {tt : TT} {R : DEnds}
theorem Rep.tyx {H : Hp} {v : V} {d : D} (h : Rep K H v d) (hd : d.tyn ≠ "") : TyX K H v (.type d.tyn) := by
  cases h with
  | non => exact .base .non
  | bl b => exact .base (.bl b)
  | int i => exact .base (.int i)
  | str x => exact .base (.str x)
  | ty n => exact absurd rfl hd
  | fn a => exact absurd rfl hd
  | lst hs r => exact .base (.lst hs)
  | scr hs r =>
    rcases hs with (hs | ⟨o, hs⟩) | ⟨o, its, n, e, c, _⟩
    · exact .base (.lst hs)
    · exact .base (.frz hs)
    · exact .kList e c
  | tup hs r => exact .base (.tup hs)
  | clo _ _ _ => exact absurd rfl hd
  | obj _ _ => exact absurd rfl hd
theorem ev_isi {n : String} {b : Bool} (ha : EvR K ta ρ d) {t : String} (ht : d.tyn = t) (hk : kitB t n = some b) (hd : t ≠ "") : EvD K (tCB (rIsi K) (tCons ta (tCons (tC (.ty n)) tNil))) ρ (.bl b) := fun B Hs H σ r Q q =>
  ha B Hs H σ r _ fun Hs1 H1 v g x => ⟨v, .ty n, .type d.tyn, .type n, b, rfl, .ty n, x.tyx (by rw [ht]; exact hd), by rw [ht]; exact kit_ty hk, q Hs1 H1 _ g (.bl b)⟩
theorem isi_int_int {i : Int} (ha : EvR K ta ρ (.int i)) : EvD K (tCB (rIsi K) (tCons ta (tCons (tC (.ty "int")) tNil))) ρ (.bl true) := ev_isi ha (t := "int") rfl (by decide +kernel) (by decide +kernel)
theorem isi_int_bool {i : Int} (ha : EvR K ta ρ (.int i)) : EvD K (tCB (rIsi K) (tCons ta (tCons (tC (.ty "bool")) tNil))) ρ (.bl false) := ev_isi ha (t := "int") rfl (by decide +kernel) (by decide +kernel)
theorem isi_bool_bool {b : Bool} (ha : EvR K ta ρ (.bl b)) : EvD K (tCB (rIsi K) (tCons ta (tCons (tC (.ty "bool")) tNil))) ρ (.bl true) := ev_isi ha (t := "bool") rfl (by decide +kernel) (by decide +kernel)
theorem isi_bool_int {b : Bool} (ha : EvR K ta ρ (.bl b)) : EvD K (tCB (rIsi K) (tCons ta (tCons (tC (.ty "int")) tNil))) ρ (.bl true) := ev_isi ha (t := "bool") rfl (by decide +kernel) (by decide +kernel)
theorem isi_lst_list (ha : EvR K ta ρ (.lst ds)) : EvD K (tCB (rIsi K) (tCons ta (tCons (tC (.ty "list")) tNil))) ρ (.bl true) := ev_isi ha (t := "list") rfl (by decide +kernel) (by decide +kernel)
theorem isi_tup_tuple (ha : EvR K ta ρ (.tup ds)) : EvD K (tCB (rIsi K) (tCons ta (tCons (tC (.ty "tuple")) tNil))) ρ (.bl true) := ev_isi ha (t := "tuple") rfl (by decide +kernel) (by decide +kernel)
theorem isi_lst_tuple (ha : EvR K ta ρ (.lst ds)) : EvD K (tCB (rIsi K) (tCons ta (tCons (tC (.ty "tuple")) tNil))) ρ (.bl false) := ev_isi ha (t := "list") rfl (by decide +kernel) (by decide +kernel)
theorem isi_str_str {s : Str} (ha : EvR K ta ρ (.str s)) : EvD K (tCB (rIsi K) (tCons ta (tCons (tC (.ty "str")) tNil))) ρ (.bl true) := ev_isi ha (t := "str") rfl (by decide +kernel) (by decide +kernel)
/-- a place in a written list -/
theorem atI_lt {α : Type} {xs : List α} {i : Int} (h0 : 0 ≤ i) (h1 : i < (xs.length : Int)) : atI xs i = xs[i.toNat]? := by
  obtain ⟨n, rfl⟩ := Int.eq_ofNat_of_zero_le h0
  have hn : n < xs.length := by omega
  rw [show (Int.toNat ((n : Nat) : Int)) = n from rfl, List.getElem?_eq_getElem hn]
  exact atI_nat (List.getElem?_eq_getElem hn)
theorem atI_int {xs : List Int} {i : Int} (h0 : 0 ≤ i) (h1 : i < (xs.length : Int)) : atI (xs.map D.int) i = some (.int (xs.getD i.toNat 0)) := by
  rw [atI_lt h0 (by rw [List.length_map]; exact h1), List.getElem?_map]
  have hn : i.toNat < xs.length := by omega
  rw [List.getElem?_eq_getElem hn, List.getD_eq_getElem?_getD, List.getElem?_eq_getElem hn]
  rfl
theorem cutD_map {α : Type} (f : α → D) (xs : List α) (lo hi : Option Int) : cutD (xs.map f) lo hi = (((xs.drop (HT.sIx xs.length 0 lo)).take (HT.sIx xs.length xs.length hi - HT.sIx xs.length 0 lo))).map f := by
  unfold cutD
  rw [List.length_map, List.map_take, List.map_drop]
theorem sIx_pos (n d k : Nat) : HT.sIx n d (some (k : Int)) = min k n := HT.sIx_nat n d k
theorem cut_to {α : Type} (xs : List α) (k : Nat) : (xs.drop (HT.sIx xs.length 0 none)).take (HT.sIx xs.length xs.length (some (k : Int)) - HT.sIx xs.length 0 none) = xs.take k := by
  rw [HT.sIx_none, HT.sIx_nat, List.drop_zero, Nat.sub_zero]
  by_cases h : k ≤ xs.length
  · rw [Nat.min_eq_left h]
  · rw [Nat.min_eq_right (by omega), List.take_length, List.take_of_length_le (by omega)]
theorem cut_from {α : Type} (xs : List α) (k : Nat) : (xs.drop (HT.sIx xs.length 0 (some (k : Int)))).take (HT.sIx xs.length xs.length none - HT.sIx xs.length 0 (some (k : Int))) = xs.drop k := by
  rw [HT.sIx_none, HT.sIx_nat]
  by_cases h : k ≤ xs.length
  · rw [Nat.min_eq_left h]
    exact List.take_of_length_le (by rw [List.length_drop]; omega)
  · rw [Nat.min_eq_right (by omega), Nat.sub_self, List.take_zero, List.drop_eq_nil_of_le (by omega)]
theorem cut_mid {α : Type} (xs : List α) (i j : Nat) : (xs.drop (HT.sIx xs.length 0 (some (i : Int)))).take (HT.sIx xs.length xs.length (some (j : Int)) - HT.sIx xs.length 0 (some (i : Int))) = (xs.take j).drop i := by
  rw [HT.sIx_nat, HT.sIx_nat, List.drop_take]
  by_cases h : i ≤ xs.length
  · rw [Nat.min_eq_left h]
    by_cases h2 : j ≤ xs.length
    · rw [Nat.min_eq_left h2]
    · rw [Nat.min_eq_right (by omega)]
      rw [List.take_of_length_le (by rw [List.length_drop]; omega), List.take_of_length_le (by rw [List.length_drop]; omega)]
  · rw [Nat.min_eq_right (show xs.length ≤ i by omega), List.drop_eq_nil_of_le (Nat.le_refl _), List.drop_eq_nil_of_le (show xs.length ≤ i by omega)]
    simp
end
/-! ### what is walked: a list or a tuple -/
section
variable {X : Cx} {tg : Expr}
def iSeq (K : PySem.W.Frag) (tl : TE) : TI := fun σ H R => tl σ H fun x H1 => ∃ a, x = .ref a ∧ (((∃ xs, SqL K H1 a xs) ∧ R (Itl K a) H1) ∨ ((∃ xs, SqT K H1 a xs) ∧ R (Itt K a) H1))
theorem pi_seq {l : Expr} {tl : TE} (hl : PE X l tl) : PI X tg l (iSeq X.K tl) := by
  refine ⟨fun pins s σ H R I h => ?_⟩
  refine thn (hl.run pins s σ H _ I h) fun v s1 ⟨x, H1, I1, r1, q1⟩ => ?_
  obtain ⟨a, e, q⟩ := q1
  subst e
  cases r1
  rcases q with ⟨⟨xs, hq⟩, q⟩ | ⟨⟨xs, hq⟩, q⟩
  · obtain ⟨its, rv, p, hz⟩ := I1.list hq
    refine wpAny_pyIter_list p.isList ?_
    refine ⟨s1.heap.objs.size, [s1.heap.objs.size], _, _, H1, rfl, I1.kept (t' := s1.toks) fun b o e => Heap.get?_push_of_some _ e, turn_list a _, ⟨_, Heap.get?_push_size _ rfl, rfl, rfl⟩, fun b hb => ?_, q⟩
    have e : b = s1.heap.objs.size := by simpa using hb
    subst e
    exact I1.fpOk (Nat.le_refl _) (I1.hok.fresh (Nat.le_refl _))
  · obtain ⟨its, rv, p, hz⟩ := I1.tuple hq
    refine wpAny_pyIter_tuple (show s1.heap.IsTuple a its.toArray from p) ?_
    refine ⟨s1.heap.objs.size, [s1.heap.objs.size], _, _, H1, rfl, I1.kept (t' := s1.toks) fun b o e => Heap.get?_push_of_some _ e, turn_tuple a _, ⟨_, Heap.get?_push_size _ rfl, rfl, rfl⟩, fun b hb => ?_, q⟩
    have e : b = s1.heap.objs.size := by simpa using hb
    subst e
    exact I1.fpOk (Nat.le_refl _) (I1.hok.fresh (Nat.le_refl _))
variable {K : PySem.W.Frag} {ρ : Env} {ta : TE} {ds : List D}
theorem ei_seqL (h : EvD K ta ρ (.lst ds)) : EvI K (iSeq K ta) ρ ds := fun B Hs H σ r R q => h B Hs H σ r _ fun Hs1 H1 v g x => by
  cases x with
  | @lst p vs _ hp' xs =>
    have hp : SqL K Hs1 p vs := .of hp'
    refine ⟨p, rfl, .inl ⟨⟨vs, g.lv.sl hp⟩, q _ Hs1 H1 g fun i Hs2 H2 e1 e2 => ⟨fun d hd => ?_, fun hi => ?_⟩⟩⟩
    · have hq := (e1.trans e2).sl hp
      obtain ⟨v, hv, xv⟩ := xs.at hd
      refine ⟨⟨vs, v, hq, hv⟩, fun x H3 y => ?_⟩
      obtain ⟨rfl, y⟩ := y
      have z := y vs hq
      rw [hv] at z
      cases z
      exact ⟨Hs2, Gr.refl e2, xv.mono e1⟩
    · exact ⟨vs, (e1.trans e2).sl hp, by rw [xs.length, hi]; exact Nat.le_refl _⟩
theorem ei_seqS (h : EvD K ta ρ (.scr ds)) : EvI K (iSeq K ta) ρ ds := fun B Hs H σ r R q => h B Hs H σ r _ fun Hs1 H1 v g x => by
  cases x with
  | @scr p vs _ hp xs =>
    refine ⟨p, rfl, .inl ⟨⟨vs, g.lv.sl hp⟩, q _ Hs1 H1 g fun i Hs2 H2 e1 e2 => ⟨fun d hd => ?_, fun hi => ?_⟩⟩⟩
    · have hq := (e1.trans e2).sl hp
      obtain ⟨v, hv, xv⟩ := xs.at hd
      refine ⟨⟨vs, v, hq, hv⟩, fun x H3 y => ?_⟩
      obtain ⟨rfl, y⟩ := y
      have z := y vs hq
      rw [hv] at z
      cases z
      exact ⟨Hs2, Gr.refl e2, xv.mono e1⟩
    · exact ⟨vs, (e1.trans e2).sl hp, by rw [xs.length, hi]; exact Nat.le_refl _⟩
theorem ei_seqT (h : EvD K ta ρ (.tup ds)) : EvI K (iSeq K ta) ρ ds := fun B Hs H σ r R q => h B Hs H σ r _ fun Hs1 H1 v g x => by
  cases x with
  | @tup p vs _ hp' xs =>
    have hp := SqT_of (K := K) hp'
    refine ⟨p, rfl, .inr ⟨⟨vs, g.lv.st hp⟩, q _ Hs1 H1 g fun i Hs2 H2 e1 e2 => ⟨fun d hd => ?_, fun hi => ?_⟩⟩⟩
    · have hq := (e1.trans e2).st hp
      obtain ⟨v, hv, xv⟩ := xs.at hd
      refine ⟨⟨vs, v, hq, hv⟩, fun x H3 y => ?_⟩
      obtain ⟨rfl, y⟩ := y
      have z := y vs hq
      rw [hv] at z
      cases z
      exact ⟨Hs2, Gr.refl e2, xv.mono e1⟩
    · exact ⟨vs, (e1.trans e2).st hp, by rw [xs.length, hi]; exact Nat.le_refl _⟩
end
end DL
namespace DL
open PySem L2
variable [TbC]
/-! ### the rules whose reading names the written part, with that part given by hand (K := K) rfl -/
section
variable {X : Cx} {K : PySem.W.Frag} {tg : Expr}
theorem addK (h : X.K = K) : OpR X (binaryOp .Add) (rAddA K) := by subst h; exact op_addA
theorem eqK (h : X.K = K) (hu : X.A.units + 64 < cLine) : OpR X (compareOp .Eq) (rEqD K) := by subst h; exact op_eqD hu
theorem neK (h : X.K = K) (hu : X.A.units + 64 < cLine) : OpR X (compareOp .NotEq) (rNeD K) := by subst h; exact op_neD hu
theorem ixK (h : X.K = K) : IxR X (rIx K) := by subst h; exact ix_seq
theorem slK (h : X.K = K) : SlR X (rSlA' K) := by subst h; exact sl_A
theorem lenK (h : X.K = K) : CallR X (.builtin "len") (rLenA K) := by subst h; exact call_lenA
theorem listK (h : X.K = K) : CallR X (.type "list") (rList K) := by subst h; exact call_list_of
theorem tupleK (h : X.K = K) : CallR X (.type "tuple") (rTuple K) := by subst h; exact call_tuple_of
theorem sumK (h : X.K = K) (hc : X.calm = true) : CallR X (.builtin "sum") (rSum K) := by subst h; exact cr_sum hc
theorem allK (h : X.K = K) (hc : X.calm = true) : CallR X (.builtin "all") (rAll K) := by subst h; exact cr_all hc
theorem anyK (h : X.K = K) (hc : X.calm = true) : CallR X (.builtin "any") (rAny K) := by subst h; exact cr_any hc
theorem isiK (h : X.K = K) : CallR X (.builtin "isinstance") (rIsi K) := by subst h; exact call_isi
theorem seqK (h : X.K = K) {l : Expr} {tl : TE} (hl : PE X l tl) : PI X tg l (iSeq K tl) := by subst h; exact pi_seq hl
theorem enumK (h : X.K = K) {e : Expr} {ta : TA} {p pos tpos : Pos} {elts : List Expr} {kk : Nat} (hg : Gl X "enumerate") (hm : X.mg "enumerate" = none) (ha : PA X [e] ta) (hs : starEach [e] X.env = [(false, eval e X.env)] := by rfl) :
    PI X (.Tuple elts kk tpos) (.Call (.Name "enumerate" p) [e] [] pos) (iEnum K ta) := by subst h; exact pi_enum hg hm ha hs
theorem revK (h : X.K = K) {e : Expr} {ta : TA} {p pos : Pos} (hg : Gl X "reversed") (hm : X.mg "reversed" = none) (ha : PA X [e] ta) (hs : starEach [e] X.env = [(false, eval e X.env)] := by rfl) :
    PI X tg (.Call (.Name "reversed" p) [e] [] pos) (iRev K ta) := by subst h; exact pi_reversed hg hm ha hs
theorem gtupK (h : X.K = K) {pos : Pos} {es : List Expr} {k : Nat} {t : TGs} {n : Nat} (hc : X.calm = true) (hh : PGs X es t)
    (hn : (assignEach es X.env).length = n := by rfl) (hst : (assignEach es X.env).findIdx? (·.1) = none := by rfl) : PG X (.Tuple es k pos) (gTup K n t) := by subst h; exact pg_tup hc hh hn hst
theorem fldK (h : X.K = K) {pos : Pos} {e : Expr} {f : Str} {ta : TE} (he : PE X e ta) (hb : attributeBase e f X.env (eval e X.env) = eval e X.env) : PE X (.Attribute e f pos) (tFld K ta f) := by subst h; exact pe_fld he hb
theorem sfldK (h : X.K = K) {o value : Expr} {f : Str} {pos pos' : Pos} {ta tv : TE} (ha : PE X o ta) (hv : PE X value tv) (hs : swapsWith value (some (.Attribute o f pos')) pos.line X.env = pure false) : PS X (.Assign [.Attribute o f pos'] value pos) (sFld K ta tv f) := by
  subst h; exact ps_fld ha hv hs
section

variable {T id : String} {o e : Expr} {es : List Expr} {to : TE} {t : TA} {name : Str} {apos cpos : Pos} {r : V → List V → Hp → VK → Prop}
theorem bmK (h : X.K = K) (pa : PlainAttrs T) (slot : Slot T name id) (hty : typeOf (.builtin id) = pure (.type "method_descriptor")) (hm : MtR X id r) (ho : PE X o to) (ha : PA X (e :: es) t)
    (hbase : attributeBase o name X.env (eval o X.env) = eval o X.env := by rfl)
    (hfew : ((backTo cpos (starEach (e :: es) X.env)).all (fun x => !x.1) && (backToKw cpos (keywordEach [] X.env)).all (fun x => x.1.isSome)
      && decide ((e :: es).length + ([] : List Keyword).length + (if ([] : List Keyword).isEmpty then 0 else 1) < 30)) = true := by rfl)
    (hline : (apos.endLine == cpos.line) = true := by rfl) (hs : starEach (e :: es) X.env = (false, eval e X.env) :: starEach es X.env := by rfl) (hplain : (backTo cpos (starEach es X.env)).any (·.1) = false := by rfl) :
    PE X (.Call (.Attribute o name apos) (e :: es) [] cpos) (tBM K T r to t) := by subst h; exact pe_bm pa slot hty hm ho ha hbase hfew hline hs hplain
theorem bm0K (h : X.K = K) (pa : PlainAttrs T) (slot : Slot T name id) (hty : typeOf (.builtin id) = pure (.type "method_descriptor")) (hm : MtR X id r) (ho : PE X o to)
    (hbase : attributeBase o name X.env (eval o X.env) = eval o X.env := by rfl) (hline : (apos.endLine == cpos.line) = true := by rfl) : PE X (.Call (.Attribute o name apos) [] [] cpos) (tBM0 K T r to) := by
  subst h; exact pe_bm0 pa slot hty hm ho hbase hline
end
/-! ### o[i] = v: a list or a dict; x in c: a list or tuple of flat things, data in a list, a dict's key, a sign of a text -/
def rSetD : TSet := fun o i v H Q => ∃ a H4, o = .ref a ∧ DPut H a i v H4 ∧ Q H4
def rSetA : TSet := fun o i v H Q => rSetL o i v H Q ∨ rSetD o i v H Q
theorem set_A (hu : X.A.units + 1 < cLine) : PSet X rSetA := by
  intro pins s σ H o i v ov iv u Q I ro ri rv h
  rcases h with h | ⟨a, H4, rfl, g, q⟩
  · exact set_list pins s σ H o i v ov iv u Q I ro ri rv h
  · cases ro
    exact d_setItem hu I g ri rv fun s' I' => ⟨H4, I', q⟩
def rInDk : R2 := fun x y H Q => ∃ a o, y = .ref a ∧ DGet H a x o ∧ Q (.bl o.isSome) H
def rNotInDk : R2 := fun x y H Q => ∃ a o, y = .ref a ∧ DGet H a x o ∧ Q (.bl (!o.isSome)) H
theorem op_inDk (hu : X.A.units + 1 < cLine) : OpR X (compareOp .In) rInDk := by
  intro pins s σ H x y v u Q I rx ry h
  obtain ⟨a, o, rfl, g, q⟩ := h
  cases ry
  exact d_in hu I g rx fun s' I' => ⟨.bl _, H, I', rfl, q⟩
theorem op_notInDk (hu : X.A.units + 1 < cLine) : OpR X (compareOp .NotIn) rNotInDk := by
  intro pins s σ H x y v u Q I rx ry h
  obtain ⟨a, o, rfl, g, q⟩ := h
  cases ry
  exact d_notIn hu I g rx fun s' I' => ⟨.bl _, H, I', rfl, q⟩
def rInSg : R2 := fun x y H Q => ∃ (c : Nat) (z : Str), x = .str ⟨#[c]⟩ ∧ y = .str z ∧ Q (.bl (decide (c ∈ z.cps.toList))) H
def rNotInSg : R2 := fun x y H Q => ∃ (c : Nat) (z : Str), x = .str ⟨#[c]⟩ ∧ y = .str z ∧ Q (.bl (!decide (c ∈ z.cps.toList))) H
def rInA (K : PySem.W.Frag) : R2 := fun x y H Q => rIn K false x y H Q ∨ rInD K x y H Q ∨ rInDk x y H Q ∨ rInSg x y H Q
def rNotInA (K : PySem.W.Frag) : R2 := fun x y H Q => rIn K true x y H Q ∨ rNotInD K x y H Q ∨ rNotInDk x y H Q ∨ rNotInSg x y H Q
theorem inK (h : X.K = K) (hu : X.A.units + 65 < cLine) : OpR X (compareOp .In) (rInA K) := by subst h; exact op_in_seq.or ((op_inD hu).or ((op_inDk (by omega)).or op_in_sign))
theorem notInK (h : X.K = K) (hu : X.A.units + 65 < cLine) : OpR X (compareOp .NotIn) (rNotInA K) := by subst h; exact op_notIn_seq.or ((op_notInD hu).or ((op_notInDk (by omega)).or op_notIn_sign))
theorem hu65 {k : Nat} {A : Around} (hr : Room k A) : A.units + 65 < cLine := by have := hr.un; omega
end
section
variable {K : PySem.W.Frag} {ρ ρ' : Env} {te ti ta tb : TE} {d e : D} {ds es : List D} {tt : TT} {R : DEnds}
/-- xs[i] = e, xs the frame's own -/
theorem xs_setO {i : Nat} {k : Int} {j : Nat} (hx : ρ[i]? = some (some (.ol ds))) (h : EvD K te ρ d) (hi : EvD K ti ρ (.int k)) (hj : ixN ds.length k = some j) (q : R.nx (ρ.set i (some (.ol (ds.set j d))))) :
    ExS K (tAsg te (gSub (tVar i) ti rSetA)) ρ R := fun B Hs H σ Dn r l => by
  refine h B Hs H σ r _ fun Hs1 H1 w g y => ?_
  obtain ⟨p, vs, e, hp, x, _⟩ := (r.grow g).mutL i hx
  refine ⟨.ref p, e, hi B Hs1 H1 σ (r.grow g) _ fun Hs2 H2 z g2 z2 => ?_⟩
  cases z2
  obtain ⟨p', vs', e', hp', x', m⟩ := ((r.grow g).grow g2).mutL i hx
  rw [e] at e'
  cases e'
  refine .inl ⟨p, vs', k, j, rfl, rfl, hp', by rw [x'.length]; exact hj, ?_⟩
  exact l.nx Hs2 _ _ _ (m _ _ (x'.set (y.mono g2.sh) j)) q
end
end DL

/-! DMeth: a def of a class called off the class; a method of whichever class the object has; objects as data. -/
namespace DL
open PySem L2
variable [TbC]

/-- m of the class at C is the def at f, read off the class -/
structure CFn (K : PySem.W.Frag) (C : Addr) (m : Str) (f : Addr) : Prop where
  rd : ClX.CRead K C (.type "type")
  at_ : PySem.W.findCls K (.ref C) (.type "type") m = some (.val (.ref f))
section
variable {X : Cx} {CX : CXT} {k : Nat} {f C : Addr} {fd : FuncData} {ps : List Str} {sp : Sp} {dvs : List V} {ds : List Value} {E : XK} {m : Str} {pos apos : Pos} {e o : Expr} {es : List Expr} {ta : TE} {t : TA} {pl : Sem Bool}
/-- C.m(e, ..) -/
theorem pe_ccall (he : PE X o (tC (.ref C))) (r : CFn X.K C m f) (F : FnOk X.prog X.w X.K X.mg X.base CX k f fd ps sp) (hr : Room k X.A) (hk : PySem.W.keepIn X.K (.ref f) = true) (hb : Binds X.K fd ps ds) (hd : Vals dvs ds) (hx : Passes CX X E) (ha : PA X (e :: es) t)
    (hst : starEach (e :: es) X.env = (false, eval e X.env) :: starEach es X.env := by rfl) (hpl : (backTo pos (starEach es X.env)).any (·.1) = false := by rfl)
    (ht : eval (.Call (.Attribute o m apos) (e :: es) [] pos) X.env = (do
      let ov ← eval o X.env
      standAt apos.atName
      let (f, first) ← holding [ov] (getMethod ov m pl)
      callWith pos f first (backTo pos (starEach (e :: es) X.env)) (backToKw pos (keywordEach [] X.env))) := by rfl) :
    PE X (.Call (.Attribute o m apos) (e :: es) [] pos) (tCall sp dvs E t) := by
  refine ⟨fun pins s σ H Q I h => ?_⟩
  refine PySem.W.methodCall_KW (pl := pl) (thn (he.run pins s σ H (fun v H1 => v = .ref C ∧ tCall sp dvs E t σ H1 Q) I ⟨rfl, h⟩) fun u s1 ⟨x, H1, I1, rx, ex, q⟩ => ?_) ht
  subst ex
  obtain rfl : u = Value.ref C := rx
  refine PySem.W.method_cls I1.kIn r.rd.ga (PySem.W.cls_value I1.kIn r.rd.rd r.at_ rfl ?_)
  refine PySem.W.callWith_K (first := []) (h₀ := X.base) I1.ok.mod.kin hk (thn (ha.run pos pins _ σ H1 _ (I1.tok _) q) fun us s2 ⟨vs, H2, I2, rv, q2⟩ => ⟨I2.kIn, ?_⟩) hst hpl
  exact run_fn F hr hb hd hx I2 rv q2

/-- the classes that an object may have, each with what its method m promises -/
inductive Alts (X : Cx) (CX : CXT) (k : Nat) (m : Str) : List (Addr × Sp) → Prop
  | nil : Alts X CX k m []
  | cons {C f : Addr} {fd : FuncData} {ps : List Str} {sp : Sp} {r : List (Addr × Sp)} {j : Nat} (hj : j ≤ k) (c : Cls X.K C) (hm : Meth X.K C m f) (F : FnOk X.prog X.w X.K X.mg X.base CX j f fd ps sp) (hb : Binds X.K fd ps []) (h : Alts X CX k m r) : Alts X CX k m ((C, sp) :: r)
theorem Alts.get {alts : List (Addr × Sp)} (h : Alts X CX k m alts) : ∀ {C : Addr} {sp : Sp}, (C, sp) ∈ alts → ∃ f fd ps, Cls X.K C ∧ Meth X.K C m f ∧ FnOk X.prog X.w X.K X.mg X.base CX k f fd ps sp ∧ Binds X.K fd ps [] := by
  induction h with
  | nil => intro C sp h; cases h
  | cons hj c hm F hb _ ih =>
    intro C sp h
    rcases List.mem_cons.mp h with e | e
    · cases e
      exact ⟨_, _, _, c, hm, F.mono hj, hb⟩
    · exact ih e
/-- o.m(..), o of one of these classes -/
def tMethD (alts : List (Addr × Sp)) (m : Str) (E : XK) (ta : TE) (t : TA) : TE := fun σ H Q => ta σ H fun x H1 => ∃ a C dx fs sp, x = .ref a ∧ H1 a = some (.ins C dx fs) ∧ (C, sp) ∈ alts ∧ fs.lookup m = none ∧
  t σ H1 fun vs H2 => sp (x :: vs) H2 Q E
theorem pe_methD {alts : List (Addr × Sp)} (he : PE X o ta) (al : Alts X CX k m alts) (hr : Room k X.A) (hx : Passes CX X E) (ha : PA X (e :: es) t)
    (hst : starEach (e :: es) X.env = (false, eval e X.env) :: starEach es X.env := by rfl) (hpl : (backTo pos (starEach es X.env)).any (·.1) = false := by rfl)
    (ht : eval (.Call (.Attribute o m apos) (e :: es) [] pos) X.env = (do
      let ov ← eval o X.env
      standAt apos.atName
      let (f, first) ← holding [ov] (getMethod ov m pl)
      callWith pos f first (backTo pos (starEach (e :: es) X.env)) (backToKw pos (keywordEach [] X.env))) := by rfl) :
    PE X (.Call (.Attribute o m apos) (e :: es) [] pos) (tMethD alts m E ta t) := by
  refine ⟨fun pins s σ H Q I h => ?_⟩
  refine PySem.W.methodCall_KW (pl := pl) (thn (he.run pins s σ H _ I h) fun u s1 ⟨x, H1, I1, rx, a, C, dx, fs, sp, ex, ea, hin, l, q⟩ => ?_) ht
  subst ex
  obtain rfl : u = Value.ref a := rx
  obtain ⟨f, fd, ps, c, hm, F, hb⟩ := al.get hin
  refine getmeth_ok I1 ea c hm l ?_
  refine PySem.W.callWith_K (first := [.ref a]) (h₀ := X.base) I.ok.mod.kin hm.kp (thn (ha.run pos pins s1 σ H1 _ I1 q) fun us s2 ⟨vs, H2, I2, r, q2⟩ => ⟨I2.kIn, ?_⟩) hst hpl
  exact run_fn (us := .ref a :: us) (vs := .ref a :: vs) (dvs := []) F hr hb .nil hx I2 (.cons rfl r) (by rw [List.append_nil]; exact q2)
theorem pe_methD0 {alts : List (Addr × Sp)} (he : PE X o ta) (al : Alts X CX k m alts) (hr : Room k X.A) (hx : Passes CX X E)
    (ht : eval (.Call (.Attribute o m apos) [] [] pos) X.env = (do
      let ov ← eval o X.env
      standAt apos.atName
      let (f, first) ← holding [ov] (getMethod ov m pl)
      callWith pos f first (backTo pos (starEach [] X.env)) (backToKw pos (keywordEach [] X.env))) := by rfl) :
    PE X (.Call (.Attribute o m apos) [] [] pos) (tMethD alts m E ta tNil) := by
  refine ⟨fun pins s σ H Q I h => ?_⟩
  refine PySem.W.methodCall_KW (pl := pl) (thn (he.run pins s σ H _ I h) fun u s1 ⟨x, H1, I1, rx, a, C, dx, fs, sp, ex, ea, hin, l, q⟩ => ?_) ht
  subst ex
  obtain rfl : u = Value.ref a := rx
  obtain ⟨f, fd, ps, c, hm, F, hb⟩ := al.get hin
  refine getmeth_ok I1 ea c hm l ?_
  exact PySem.W.callWith_K0 (first := [.ref a]) I1.kIn hm.kp (run_fn (us := [.ref a]) (vs := [.ref a]) (dvs := []) F hr hb .nil hx I1 (.cons rfl .nil) q)
end

/-! ### on deep data -/
section
variable {K : PySem.W.Frag} {ρ ρ' : Env} {te ta tb : TE} {d e : D} {ds es : List D} {tt : TT} {R : DEnds} {C : Addr} {ns : List Str}
theorem look_zip {H : Hp} : ∀ {ns : List Str} {vs : List V} {ds : List D} {f : Str} {d : D}, RepL K H vs ds → (ns.zip ds).lookup f = some d → ∃ v, (ns.zip vs).lookup f = some v ∧ Rep K H v d
  | [], _, _, _, _, _, h => by simp at h
  | n :: ns, _, _, f, d, .nil, h => by simp at h
  | n :: ns, _, _, f, d, .cons (v := v) (d := d0) hv r, h => by
    rw [List.zip_cons_cons, List.lookup_cons] at h ⊢
    cases e : (f == n) with
    | true =>
      rw [e] at h
      have h' := Option.some.inj h
      subst h'
      exact ⟨v, rfl, hv⟩
    | false =>
      rw [e] at h
      exact look_zip r h
theorem look_none : ∀ {ns : List Str} {vs : List V} {m : Str}, ns.contains m = false → (ns.zip vs).lookup m = none
  | [], _, _, _ => by simp
  | n :: ns, [], _, _ => by simp
  | n :: ns, v :: vs, m, h => by
    rw [List.contains_cons, Bool.or_eq_false_iff] at h
    rw [List.zip_cons_cons, List.lookup_cons, h.1]
    exact look_none h.2
theorem ev_fld {f : Str} (h : EvD K ta ρ (.obj C ns ds)) (hc : Cls K C) (hn : NoAttr K C f) (hl : (ns.zip ds).lookup f = some d) : EvD K (tFld K ta f) ρ d := fun B Hs H σ r Q q =>
  h B Hs H σ r _ fun Hs1 H1 v g x => by
    cases x with
    | @obj a _ dx _ vs _ ha xs =>
      obtain ⟨w, h1, h2⟩ := look_zip xs hl
      exact ⟨a, C, dx, _, w, rfl, g.lv _ _ ha, hc, hn, h1, q Hs1 H1 w g h2⟩
theorem ev_methD {alts : List (Addr × Sp)} {m : Str} {E : XK} {t : TA} {α : Type} {pre : α → Prop} {arg : α → List D} {res : α → D} (x : α) (h : EvD K ta ρ (.obj C ns ds)) (ht : EvA K t ρ es) (hin : (C, spG K pre arg res) ∈ alts) (hm : ns.contains m = false)
    (ha : arg x = .obj C ns ds :: es) (p : pre x) : EvD K (tMethD alts m E ta t) ρ (res x) := fun B Hs H σ r Q q =>
  h B Hs H σ r _ fun Hs1 H1 v g1 xo => by
    cases xo with
    | @obj a _ dx _ vs _ hp xs =>
      refine ⟨a, C, dx, _, _, rfl, g1.lv _ _ hp, hin, look_none hm, ht B Hs1 H1 σ (r.grow g1) _ fun Hs2 H2 ws g2 ys => ?_⟩
      refine ⟨Hs2, x, ⟨g2.lv, (r.grow (g1.trans g2)).tb⟩, by rw [ha]; exact .cons (.obj (g2.sh _ _ hp) (xs.mono g2.sh)) ys, p, fun Hs' H' w d g y e => ?_⟩
      exact q Hs' H' w ((g1.trans g2).trans g) (e ▸ y)
theorem ef_methD {alts : List (Addr × Sp)} {m : Str} {E : XK} {t : TA} {α : Type} {pre : α → Prop} {arg : α → List D} {res : α → List D} (x : α) (h : EvD K ta ρ (.obj C ns ds)) (ht : EvA K t ρ es) (hin : (C, spF K pre arg res) ∈ alts) (hm : ns.contains m = false)
    (ha : arg x = .obj C ns ds :: es) (p : pre x) : EvF K (tMethD alts m E ta t) ρ (res x) := fun B Hs H σ r Q q =>
  h B Hs H σ r _ fun Hs1 H1 v g1 xo => by
    cases xo with
    | @obj a _ dx _ vs _ hp xs =>
      refine ⟨a, C, dx, _, _, rfl, g1.lv _ _ hp, hin, look_none hm, ht B Hs1 H1 σ (r.grow g1) _ fun Hs2 H2 ws g2 ys => ?_⟩
      refine ⟨Hs2, x, ⟨g2.lv, (r.grow (g1.trans g2)).tb⟩, by rw [ha]; exact .cons (.obj (g2.sh _ _ hp) (xs.mono g2.sh)) ys, p, fun Hs' H' l zs g n n2 e y => ?_⟩
      have gg := (g1.trans g2).trans g
      refine q Hs' H' l zs gg ?_ n2 e y
      exact ((g1.trans g2).new0 n).1
/-- a new instance: __init__ leaves it with the fields fs of the arguments' values -/
def spMk (C : Addr) (n : Nat) (fs : List V → List (Str × V)) (ok : PySem.W.Frag → List V → Hp → Prop) (K : PySem.W.Frag) : Sp := fun vs H Q _ => ∃ (p dx : Addr) (ws : List V), vs = .ref p :: ws ∧ ws.length = n ∧ H p = some (.ins C dx []) ∧ ok K ws H ∧ Q .non (upd H p (.ins C dx (fs ws)))
theorem ev_make {n : Nat} {fs : List V → List (Str × V)} {ok : PySem.W.Frag → List V → Hp → Prop} {E : XK} {t : TA} (h : EvA K t ρ ds) (hn : ds.length = n) (hok : ∀ Hs H ws, RepL K Hs ws ds → Ex Hs H → ok K ws H)
    (hf : ∀ Hs ws, RepL K Hs ws ds → ∃ vs, fs ws = ns.zip vs ∧ RepL K Hs vs es) : EvD K (tMake C (spMk C n fs ok K) [] E t) ρ (.obj C ns es) := fun B Hs H σ r Q q =>
  h B Hs H σ r _ fun Hs1 H1 ws g1 xs => fun x dx hx hdx ne => by
    rw [List.append_nil]
    have nx : Hs1 x = none := (gr_none (Gr.refl g1.lv) hx).2
    have ndx : Hs1 dx = none := (gr_none (Gr.refl g1.lv) hdx).2
    have hx2 : upd H1 dx (.own x) x = none := by rw [upd_ne (Ne.symm ne)]; exact hx
    have ex : Ex Hs1 (upd (upd H1 dx (.own x)) x (.ins C dx [])) := fun a o e => by
      rw [upd_ne (fun z => by rw [z, nx] at e; cases e), upd_ne (fun z => by rw [z, ndx] at e; cases e)]
      exact g1.lv a o e
    refine ⟨x, dx, ws, rfl, by rw [xs.length]; exact hn, upd_same, hok Hs1 _ ws xs ex, rfl, ?_⟩
    obtain ⟨vs, e1, y⟩ := hf Hs1 ws xs
    rw [upd_upd, e1]
    have ga : Gr Hs1 H1 H1 Hs1 (upd H1 dx (.own x)) := Gr.newO g1.lv hdx
    have gb := Gr.new (o := .ins C dx (ns.zip vs)) ga.lv hx2
    exact q _ _ _ ((g1.trans ga).trans gb) (.obj upd_same (y.mono (Ex.new nx)))
end
end DL

/-! DRange: list(range(a, b)) however great the bounds are. -/
namespace PySem
open Sem (wp)
open AutoSeq1 (wpAny_loadPart')
namespace LR
abbrev nm : String := "longrange_iterator"
theorem ownL : Manifest.owners.lookup (String.ofList ['r', 'o', 't', 'a', 'r', 'e', 't', 'i', '_', 'e', 'g', 'n', 'a', 'r', 'g', 'n', 'o', 'l'].reverse) = some Manifest.sig_longrange_iterator := by kernel_rfl
theorem slotNext : Slot nm "__next__" "longrange_iterator.__next__" := .of (owner := nm) (n := "__next__") (by rw [typeLookup_type, builtinLookup_eq_fast]; kernel_rfl) (by decide +kernel) (by decide +kernel) (by decide +kernel) (by first | exact .inl (by decide +kernel) | exact .inr (by decide +kernel)) (by rw [isSubtype_type]; kernel_rfl)
theorem slotIter : Slot nm "__iter__" "longrange_iterator.__iter__" := .of (owner := nm) (n := "__iter__") (by rw [typeLookup_type, builtinLookup_eq_fast]; kernel_rfl) (by decide +kernel) (by decide +kernel) (by decide +kernel) (by first | exact .inl (by decide +kernel) | exact .inr (by decide +kernel)) (by rw [isSubtype_type]; kernel_rfl)
theorem entNext : entryFor table "longrange_iterator.__next__" = some Builtin.«longrange_iterator.__next__» := entryFor_of_tree (by kernel_rfl)
theorem entIter : entryFor table "longrange_iterator.__iter__" = some Builtin.«dict_keyiterator.__iter__» := entryFor_alias (id' := "dict_keyiterator.__iter__") (by kernel_rfl) (by first | rfl | decide +kernel | (unfold String.splitOn; simp +decide [String.splitOnAux])) (by decide +kernel) (by kernel_rfl)
theorem argNext (x : Value) : argsOk "longrange_iterator.__next__" ⟨[x], []⟩ := by
  unfold argsOk; rw [signature?_of (id := "longrange_iterator.__next__") (n := ['_', '_', 't', 'x', 'e', 'n', '_', '_']) (o := ['r', 'o', 't', 'a', 'r', 'e', 't', 'i', '_', 'e', 'g', 'n', 'a', 'r', 'g', 'n', 'o', 'l']) (by kernel_rfl) ownL]; kernel_rfl
theorem argIter (x : Value) : argsOk "longrange_iterator.__iter__" ⟨[x], []⟩ := by
  unfold argsOk; rw [signature?_of (id := "longrange_iterator.__iter__") (n := ['_', '_', 'r', 'e', 't', 'i', '_', '_']) (o := ['r', 'o', 't', 'a', 'r', 'e', 't', 'i', '_', 'e', 'g', 'n', 'a', 'r', 'g', 'n', 'o', 'l']) (by kernel_rfl) ownL]; kernel_rfl
theorem boundNext {i : Addr} : bound "longrange_iterator.__next__" ⟨[.ref i], []⟩ = pure #[some (.ref i)] := by
  kernel_rfl
/-- a long iterator: the next number, how many are left, the step -/
abbrev Is (h : Heap) (i : Addr) (x n c : Int) : Prop := h.get? i = some { cls := .type nm, dict := none, data := .fields #[rawInt x, rawInt n, rawInt c], slots := #[] }
theorem nextMeets (i : Addr) (x n c : Int) (h0 : ¬n ≤ 0) : Meets (Builtin.«longrange_iterator.__next__» ⟨[.ref i], []⟩) (fun _ R s => Is s.heap i x n c ∧ R (.ok (.ret (Value.int x s.toks))) { s with heap := (s.heap.update i (Obj.mapFields fun z => z.setIfInBounds 0 (rawInt (x + c)))).update i (Obj.mapFields fun z => z.setIfInBounds 1 (rawInt (n - 1))), toks := s.toks + 1 }) :=
  .of_wp fun prog w A R s h => by obtain ⟨hp, g, d, tk, os⟩ := s; obtain ⟨hl, h⟩ := h; wp_walk; exact ⟨_, rfl, h⟩
section
variable {prog : Program} {w : World} {A : Around} {E : Value → Shared → Prop} {s : Shared} {i : Addr} {x n c : Int}
theorem item {Q : Option Value → Shared → Prop} (z : Is s.heap i x n c) (pos : 0 < n) (q : ∀ h', Is h' i (x + c) (n - 1) c → Heap.SameBut i s.heap h' → Q (some (.int x s.toks)) { s with heap := h', toks := s.toks + 1 }) : wpAny (model prog w) A (pyNext (.ref i)) Q E s := by
  have ty : s.TypeIs (.ref i) nm := ⟨_, z, rfl⟩
  unfold pyNext
  refine wpAny_bind (wpAny_attempt (wpAny_callSpecial?_slot (name := Str.ofString "__next__") ty slotNext (call_meets slotNext ty entNext (argNext _) (nextMeets i x n c (by omega)) ⟨z, ?_⟩)))
  exact wpAny_pure (q _ (Heap.get?_update_self _ (Heap.get?_update_self _ z rfl) rfl) ((Heap.SameBut.update ..).trans (Heap.SameBut.update ..)))
theorem fin {Q : Option Value → Shared → Prop} (hh : A.handled = none) (z : Is s.heap i x n c) (neg : n ≤ 0) (q : ∀ h', Heap.ExtBut i s.heap h' → Q none { s with heap := h' }) : wpAny (model prog w) A (pyNext (.ref i)) Q E s := by
  have ty : s.TypeIs (.ref i) nm := ⟨_, z, rfl⟩
  unfold pyNext
  refine wpAny_bind (wpAny_attempt (wpAny_callSpecial?_slot (name := Str.ofString "__next__") ty slotNext (wpAny_call_entry slotNext ty entNext ?_ (argNext _))))
  refine wpAny_bind (m := bound "longrange_iterator.__next__" ⟨[.ref i], []⟩) (wpAny_of_eq (a := #[some (.ref i)]) boundNext ?_)
  refine wpAny_bind (m := Builtin.Iterators_pickling.intField _ (.ref i) 0) (wpAny_bind (wpAny_field z rfl (x := rawInt x) rfl (wpAny_pure ?_)))
  refine wpAny_bind (m := Builtin.Iterators_pickling.intField _ (.ref i) 1) (wpAny_bind (wpAny_field z rfl (x := rawInt n) rfl (wpAny_pure ?_)))
  refine wpAny_bind (m := Builtin.Iterators_pickling.intField _ (.ref i) 2) (wpAny_bind (wpAny_field z rfl (x := rawInt c) rfl (wpAny_pure ?_)))
  show wpAny _ _ (if n ≤ 0 then _ else _) _ _ s
  rw [if_pos neg]
  refine wpAny_bind (wpAny_rule (wpAny_bind ?_))
  show wpAny _ _ (newExc (.type "StopIteration") [] >>= _) _ _ s
  refine wpAny_bind ?_
  simp only [newExc, newTuple]
  refine wpAny_bind (wpAny_newObj_type ?_ (by size_fits))
  refine wpAny_bind (m := firstArgMember _ _) (wpAny_of_eq (a := Value.none) (by first | rfl | (simp only [firstArgMember]; rfl)) (wpAny_newObj_type ?_ (by size_fits)))
  simp only [raiseNew]
  refine wpAny_pure ?_
  refine wpAny_bind (wpAny_bind (wpAny_handled ?_))
  first | rw [show A.in1.handled = none from hh] | rw [hh]
  refine (wpAny_throw (wpAny_bind (wpAny_isInstance (T := "StopIteration") (b := true) ⟨_, Heap.get?_push_size _ rfl, rfl⟩ isSubtype_stop ?_)))
  exact wpAny_pure (q _ (((Heap.ExtBut.refl i s.heap).push _).push _))
theorem own {Q : Value → Shared → Prop} (z : Is s.heap i x n c) (q : Q (.ref i) s) : wpAny (model prog w) A (pyIter (.ref i)) Q E s := by
  have ty : s.TypeIs (.ref i) nm := ⟨_, z, rfl⟩
  refine wpAny_pyIter_slot ty slotIter (wpAny_call_entry slotIter ty entIter (show wpAny _ _ (ret (.ref i)) _ _ s from ?_) (argIter _))
  exact wpAny_pure ⟨_, rfl, nm, _, ty, slotNext.lookup, q⟩
theorem iter {r : Addr} {a b : Int} {t u v : Tok} {Q : Value → Shared → Prop} (z : IsRange s.heap r a b c t u v) (big : ¬ Builtin.Range.small a b c = true)
    (q : Q (.ref s.heap.objs.size) { s with heap := s.heap.push { cls := .type nm, data := .fields #[rawInt a, rawInt (Builtin.Range.rangeSize a b c), rawInt c] } }) : wpAny (model prog w) A (pyIter (.ref r)) Q E s := by
  have ty : s.TypeIs (.ref r) "range" := ⟨_, z, rfl⟩
  refine wpAny_pyIter_slot ty F.slot_range_iter (call_meets F.slot_range_iter ty F.entry_range_iter (F.args_range_iter_1 _) (AutoRange.range___iter___range_0 r a b c t u v (by unfold Builtin.Range.small at big; rw [Bool.not_eq_true] at big; rw [big]; rfl)) ⟨z, ?_⟩)
  unfold Builtin.Range.small at big
  simp only [big, Bool.false_eq_true, if_false]
  exact ⟨nm, _, ⟨_, Heap.get?_push_size _ rfl, rfl⟩, slotNext.lookup, q⟩
end
theorem walks {prog : Program} {w : World} {A : Around} (hh : A.handled = none) (i : Addr) (a c : Int) (n : Nat) :
    Walks prog w A i [i] [i] n (fun k v => ∃ t, v = .int (a + k * c) t) (fun k h => Is h i (a + (k : Nat) * c) ((n : Int) - (k : Nat)) c) where
  sub := fun _ z => z
  frame := fun _ _ _ st z => z i (by simp) _ st
  item := fun k s Q E lt st q => by
    refine item st (by omega) fun h' z' y' => q _ h' _ ⟨_, rfl⟩ ?_ fun b o nb e => y'.extBut b o (fun h => nb (by simp [h])) e
    have e1 : a + ((k + 1 : Nat) : Int) * c = a + (k : Int) * c + c := by push_cast; rw [Int.add_mul, Int.one_mul, Int.add_assoc]
    have e2 : (n : Int) - ((k + 1 : Nat) : Int) = (n : Int) - (k : Int) - 1 := by push_cast; omega
    rw [e1, e2]; exact z'
  done := fun s Q E st q => fin hh st (by omega) fun h' e' => q h' s.toks fun b o nb e => e' b o (fun h => nb (by simp [h])) e
  self := fun _ _ _ _ st q => own st q
section
variable {prog : Program} {w : World} {A : Around} {E : Value → Shared → Prop} {s : Shared} {r : Addr} {a b c : Int} {t u v : Tok} {n : Nat}
abbrev Got (a c : Int) (n : Nat) (acc : Array Value) : Prop := ItemsOf (fun i v => ∃ t, v = .int (a + i * c) t) acc n
theorem extend {R : Result → Shared → Prop} (hh : A.handled = none) (z : IsRange s.heap r a b c t u v) (big : ¬ Builtin.Range.small a b c = true) (en : Builtin.Range.rangeSize a b c = n) (few : n ≤ 2 ^ 24) (S : Addr) (res : Value) (c₀ : Nat) (yS : s.heap.get? S = some { cls := .type "list", data := .seq #[] c₀ })
    (q : ∀ h' tk acc' c', (∀ b o, b ≠ S → s.heap.get? b = some o → h'.get? b = some o) → h'.get? S = some { cls := .type "list", dict := none, data := .seq acc' c', slots := #[] } → Got a c n acc' → R (.ok (.ret res)) { s with heap := h', toks := tk }) :
    wpAny (model prog w) A.in1 (Builtin.List.listExtendWith (.ref S) (.ref r) res) (fun fin s' => match fin with | .done f => R (.ok f) s' | .again c' => c'.quiet = true ∧ codeAny (model prog w) A c' R s') (fun e s' => R (.error e) s') s := by
  have nSr : S ≠ r := fun e => by rw [e, z] at yS; simp at yS
  have lS : S < s.heap.objs.size := Heap.lt_size yS
  have nSI : S ≠ s.heap.objs.size := Nat.ne_of_lt lS
  have nSf : S ∉ [s.heap.objs.size] := fun m => nSI (List.mem_singleton.mp m)
  have W := (walks (prog := prog) (w := w) (A := A.in1) hh s.heap.objs.size a c n).toS
  have key : ∀ (h : Heap) (c₁ tk : Nat), Is h s.heap.objs.size (a + ((0 : Nat) : Int) * c) ((n : Int) - ((0 : Nat) : Int)) c → (∀ b o, b ≠ S → s.heap.get? b = some o → h.get? b = some o) →
      h.get? S = some { cls := .type "list", data := .seq #[] c₁ } → codeAny (model prog w) A (.builtin "list.extend.loop" ⟨[.ref S, .ref s.heap.objs.size, res], []⟩) R { s with heap := h, toks := tk } := by
    intro h c₁ tk y1 hk y2
    refine codeAny_extend_loopS W (by rw [sizeLine_eq]; omega) S nSf res n 0 _ #[] c₁ rfl (Nat.zero_le _) y1 y2 (ItemsOf.nil _) fun s' acc' c' m y3 g => ?_
    rw [Moved.eq_with m]
    refine q s'.heap s'.toks acc' c' (fun b o nb e => m.heap b o (fun mm => ?_) (hk b o nb e)) y3 g
    rcases List.mem_cons.mp mm with e' | mm
    · exact nb e'
    · exact absurd (Heap.lt_size e) (by rw [List.mem_singleton.mp mm]; exact Nat.lt_irrefl _)
  unfold Builtin.List.listExtendWith
  refine wpAny_bind (wpAny_typeOf (T := "range") ⟨_, z, rfl⟩ ?_)
  have n1 : Builtin.List.listSameRef (.ref S) (.ref r) = false := by simp [Builtin.List.listSameRef, nSr]
  have n2 : (Value.type "range" == Value.type "list") = false := by decide
  have n3 : (Value.type "range" == Value.type "tuple") = false := by decide
  simp only [n1, n2, n3, Bool.or_false, Bool.false_eq_true, if_false]
  refine wpAny_bind (iter z big ?_)
  refine wpAny_bind (wpAny_holding (wpAny_hint_range (n := n) (Heap.get?_push_of_some _ z) en few ?_))
  have y1 : Is (s.heap.push { cls := .type nm, data := .fields #[rawInt a, rawInt (Builtin.Range.rangeSize a b c), rawInt c] }) s.heap.objs.size (a + ((0 : Nat) : Int) * c) ((n : Int) - ((0 : Nat) : Int)) c := by
    show Is _ _ _ _ _; rw [en]; simpa using Heap.get?_push_size _ rfl
  have y2 := Heap.get?_push_of_some { cls := .type nm, data := .fields #[rawInt a, rawInt (Builtin.Range.rangeSize a b c), rawInt c] } yS
  refine wpAny_ite_split (fun _ => ?_) (fun _ => wpAny_pure ⟨plainId_quiet F.plain_extend_loop _, key _ c₀ _ y1 (fun b o _ e => Heap.get?_push_of_some _ e) y2⟩)
  refine wpAny_bind (wpAny_rule (wpAny_bind ?_))
  show wpAny _ _ (updateSeq S (·.push .none) >>= fun _ => updateSeq S (·.pop)) _ _ _
  refine wpAny_bind (wpAny_updateSeq y2 rfl ?_)
  have y3 := Heap.get?_update_self (Obj.mapSeq (·.push Value.none)) y2 rfl
  refine wpAny_updateSeq (hz := by seq_fits) y3 rfl ?_
  have y4 := Heap.get?_update_self (Obj.mapSeq (·.pop)) y3 rfl
  refine wpAny_pure ⟨plainId_quiet F.plain_extend_loop _, key _ _ _ ?_ (fun b o nb e => ?_) y4⟩
  · exact (Heap.get?_update_other _ _ nSI).trans ((Heap.get?_update_other _ _ nSI).trans y1)
  · exact (Heap.get?_update_other _ _ (Ne.symm nb)).trans ((Heap.get?_update_other _ _ (Ne.symm nb)).trans (Heap.get?_push_of_some _ e))
theorem init {R : Result → Shared → Prop} (hh : A.handled = none) (z : IsRange s.heap r a b c t u v) (big : ¬ Builtin.Range.small a b c = true) (en : Builtin.Range.rangeSize a b c = n) (few : n ≤ 2 ^ 24) (S : Addr) (yS : s.heap.get? S = some { cls := .type "list", data := .seq #[] })
    (q : ∀ h' tk acc' c', (∀ b o, b ≠ S → s.heap.get? b = some o → h'.get? b = some o) → h'.get? S = some { cls := .type "list", dict := none, data := .seq acc' c', slots := #[] } → Got a c n acc' → R (.ok (.ret .none)) { s with heap := h', toks := tk }) :
    wpAny (model prog w) A.in1 (Builtin.«list.__init__» ⟨[.ref S, .ref r], []⟩) (fun fin s' => match fin with | .done f => R (.ok f) s' | .again c' => c'.quiet = true ∧ codeAny (model prog w) A c' R s') (fun e s' => R (.error e) s') s := by
  have nSr : S ≠ r := fun e => by rw [e, z] at yS; simp at yS
  show wpAny _ _ (do let old ← Builtin.List.listItems (.ref S); Builtin.List.listUpdate (.ref S) (fun _ => #[]); letGo old.toList.reverse; Builtin.List.listExtendWith (.ref S) (.ref r) .none) _ _ s
  refine wpAny_bind ?_
  unfold Builtin.List.listItems
  refine wpAny_bind (wpAny_seqItems yS rfl (wpAny_pure ?_))
  show wpAny _ _ (updateSeq S (fun _ => #[]) >>= fun _ => letGo (#[] : Array Value).toList.reverse >>= fun _ => Builtin.List.listExtendWith (.ref S) (.ref r) .none) _ _ s
  refine wpAny_bind (wpAny_updateSeq yS rfl ?_)
  have y2 := Heap.get?_update_self (Obj.mapSeq (fun _ => (#[] : Array Value))) yS rfl
  have oth : ∀ b o, b ≠ S → s.heap.get? b = some o → (s.heap.update S (Obj.mapSeq (fun _ => (#[] : Array Value)))).get? b = some o := fun b o nb e => (Heap.get?_update_other _ _ (Ne.symm nb)).trans e
  refine wpAny_bind (wpAny_letGo (extend hh (oth r _ (Ne.symm nSr) z) big en few S .none _ y2 fun h' tk acc' c' hk y3 g => ?_))
  exact q h' tk acc' c' (fun b o nb e => hk b o nb (oth b o nb e)) y3 g
theorem call_big {Q : Value → Shared → Prop} (hh : A.handled = none) (z : IsRange s.heap r a b c t u v) (big : ¬ Builtin.Range.small a b c = true) (en : Builtin.Range.rangeSize a b c = n) (few : n ≤ 2 ^ 24)
    (q : ∀ h' tk acc' c', (∀ b o, s.heap.get? b = some o → h'.get? b = some o) → h'.get? s.heap.objs.size = some { cls := .type "list", dict := none, data := .seq acc' c', slots := #[] } → Got a c n acc' → Q (.ref s.heap.objs.size) { s with heap := h', toks := tk }) :
    wpAny (model prog w) A (call (.type "list") [.ref r]) Q E s := by
  refine callType_codes (Q₁ := fun obj s₁ => obj = .ref s.heap.objs.size ∧ s₁ = { s with heap := s.heap.push { cls := .type "list", data := .seq #[] } }) F.called_list (F.typeCall_list_1 _) F.entry_list_init (code_list_new _ ⟨rfl, rfl⟩) fun obj s₁ h₁ => ?_
  obtain ⟨rfl, rfl⟩ := h₁
  have yS : (s.heap.push { cls := .type "list", data := .seq #[] }).get? s.heap.objs.size = some { cls := .type "list", data := .seq #[] } := Heap.get?_push_size _ rfl
  refine ⟨⟨_, yS, rfl⟩, F.args_list_init_2 _ _, init (A := A.in1) hh (Heap.get?_push_of_some _ z) big en few _ yS fun h' tk acc' c' hk y2 g => ?_⟩
  exact ⟨rfl, q h' tk acc' c' (fun b o e => hk b o (Nat.ne_of_lt (Heap.lt_size e)) (Heap.get?_push_of_some _ e)) y2 g⟩
/-- list(range(..)) of few numbers -/
theorem call_any {Q : Value → Shared → Prop} (hh : A.handled = none) (z : IsRange s.heap r a b c t u v) (en : Builtin.Range.rangeSize a b c = n) (few : n ≤ 2 ^ 24)
    (q : ∀ h' tk acc' c', (∀ b o, s.heap.get? b = some o → h'.get? b = some o) → h'.get? s.heap.objs.size = some { cls := .type "list", dict := none, data := .seq acc' c', slots := #[] } → Got a c n acc' → Q (.ref s.heap.objs.size) { s with heap := h', toks := tk }) :
    wpAny (model prog w) A (call (.type "list") [.ref r]) Q E s := by
  by_cases hs : Builtin.Range.small a b c = true
  · exact call_list_range hh z hs en few q
  · exact call_big hh z hs en few q
end
end LR
end PySem
namespace DL
open PySem L2 PyProof.Rows
variable [TbC]
section
variable {X : Cx} {e : Expr} {te : L2.St → Hp → (Int → Int → Hp → Prop) → Prop}
def tLstR (te : L2.St → Hp → (Int → Int → Hp → Prop) → Prop) : TE := fun σ H Q => te σ H fun a b H1 => (b - a).toNat ≤ 100000 ∧ ∀ q, H1 q = none → Q (.ref q) (upd H1 q (.lst (rgV a b)))
theorem pe_listR {p pos : Pos} (hc : X.calm = true) (hg : Gl X "list") (hm : X.mg "list" = none) (he : PRg X e te) (na : starEach [e] X.env = (false, eval e X.env) :: starEach [] X.env := by rfl) : PE X (.Call (.Name "list" p) [e] [] pos) (tLstR te) := by
  refine ⟨fun pins s σ H Q I h => ?_⟩
  refine Call_ (ld_blt I hg hm boot_list (PyProof.Rows.callWith_type1 (args_cons (thn (he pins s σ H _ I h) fun x s1 ⟨r, a, b, t, u, v, H1, ex, hr, I1, few, q⟩ => args_nil ?_) na) na))
  subst ex
  refine LR.call_any (n := (b - a).toNat) (I1.ok.hd hc) hr (rangeSize_nat a b) (Nat.le_trans few (by decide)) fun h' tk acc c' hk e' hi => ?_
  refine ⟨.ref s1.heap.objs.size, upd H1 s1.heap.objs.size (.lst (rgV a b)), I1.laid hk (Nat.le_refl _) ?_, rfl, q _ (I1.hok.fresh (Nat.le_refl _))⟩
  refine show ObjOk X.prog X.w _ _ _ (.lst (rgV a b)) from ⟨?_, acc.toList, c', vals_rg hi, by rw [Array.toArray_toList]; exact e'⟩
  rw [rgV_length, sizeLine_eq]
  omega
variable {K : PySem.W.Frag} {ρ : Env} {ta tb : TE}
theorem rgV_rep {H : Hp} (a b : Int) : RepL K H (rgV a b) (rng a (b - a).toNat) := by
  unfold rng
  have key : ∀ l : List Nat, RepL K H (l.map fun i : Nat => V.int (a + (i : Int))) (l.map fun i : Nat => D.int (a + (i : Int))) := by
    intro l
    induction l with
    | nil => exact .nil
    | cons x l ih => exact .cons (.int _) ih
  exact key _
theorem ef_listR2 {a b : Int} (ha : EvD K ta ρ (.int a)) (hb : EvD K tb ρ (.int b)) (hn : (b - a).toNat ≤ 100000) : EvF K (tLstR (tRg2 ta tb)) ρ (rng a (b - a).toNat) := fun B Hs H σ r Q q =>
  ha B Hs H σ r _ fun Hs1 H1 x g1 x1 => hb B Hs1 H1 σ (r.grow g1) _ fun Hs2 H2 y g2 y2 => by
    cases x1
    cases y2
    refine ⟨a, b, rfl, rfl, hn, fun l hl => ?_⟩
    have g := g1.trans g2
    obtain ⟨n1, n2⟩ := gr_none g hl
    exact q Hs2 _ l _ (g.trans (Gr.newO g2.lv hl)) n1 n2 upd_same (rgV_rep a b)
theorem ef_listR1 {b : Int} (hb : EvD K tb ρ (.int b)) (hn : b.toNat ≤ 100000) : EvF K (tLstR (tRg1 tb)) ρ (rng 0 b.toNat) := fun B Hs H σ r Q q =>
  hb B Hs H σ r _ fun Hs2 H2 y g2 y2 => by
    cases y2
    refine ⟨b, rfl, by rw [Int.sub_zero]; exact hn, fun l hl => ?_⟩
    obtain ⟨n1, n2⟩ := gr_none g2 hl
    have z := rgV_rep (K := K) (H := Hs2) 0 b
    rw [Int.sub_zero] at z
    exact q Hs2 _ l _ (g2.trans (Gr.newO g2.lv hl)) n1 n2 upd_same z
end
end DL
namespace DL
open PySem L2
variable [TbC]
theorem small_pos {lo hi c : Int} (h0 : 0 ≤ lo) (h1 : lo ≤ 1000000000000) (h2 : 0 ≤ hi) (h3 : hi ≤ 1000000000000) (h4 : 0 < c) (h5 : c ≤ 1000000000) : Builtin.Range.small lo hi c = true := by
  unfold Builtin.Range.small Builtin.Range.rangeFitsLong Builtin.Range.rangeSize
  have d0 : 0 ≤ (hi - lo - 1) / c ∨ ¬ lo < hi := by
    by_cases h : lo < hi
    · exact Or.inl (Int.ediv_nonneg (by omega) (by omega))
    · exact Or.inr h
  have d1 : (hi - lo - 1) / c ≤ 1000000000000 := Int.ediv_le_of_le_mul h4 (by
    have : (1000000000000 : Int) * 1 ≤ 1000000000000 * c := Int.mul_le_mul_of_nonneg_left (by omega) (by omega)
    omega)
  rw [if_pos h4]
  by_cases h : lo < hi
  · have d0' : 0 ≤ (hi - lo - 1) / c := Int.ediv_nonneg (by omega) (by omega)
    rw [if_pos h, if_pos h4]
    simp only [Bool.and_eq_true, Bool.or_eq_true, decide_eq_true_eq]
    omega
  · rw [if_neg h]
    simp only [Bool.and_eq_true, Bool.or_eq_true, decide_eq_true_eq, beq_iff_eq]
    refine ⟨⟨⟨⟨by omega, by omega⟩, by omega⟩, by omega⟩, Or.inl trivial⟩
/-- range(lo, hi, c), upwards -/
theorem rgc_pos {lo hi c : Int} (h0 : 0 ≤ lo) (h1 : lo ≤ 1000000000000) (h2 : 0 ≤ hi) (h3 : hi ≤ 1000000000000) (h4 : 0 < c) (h5 : c ≤ 1000000000) : RgC lo hi c (if lo < hi then (hi - lo - 1) / c + 1 else 0).toNat := by
  refine ⟨by omega, by omega, small_pos h0 h1 h2 h3 h4 h5, ?_⟩
  unfold Builtin.Range.rangeSize
  rw [if_pos h4]
  by_cases h : lo < hi
  · have d0' : 0 ≤ (hi - lo - 1) / c := Int.ediv_nonneg (by omega) (by omega)
    rw [if_pos h]
    omega
  · rw [if_neg h]
    rfl
theorem rngC_get {lo c : Int} {n i : Nat} {d : D} (h : (rngC lo c n)[i]? = some d) : i < n ∧ d = .int (lo + (i : Int) * c) := by
  unfold rngC at h
  rw [List.getElem?_map] at h
  obtain ⟨j, e1, e2⟩ := Option.map_eq_some_iff.mp h
  obtain ⟨hl, e3⟩ := List.getElem?_eq_some_iff.mp e1
  rw [List.length_range] at hl
  rw [List.getElem_range] at e3
  subst e3
  exact ⟨hl, e2.symm⟩
theorem rngC_length (lo c : Int) (n : Nat) : (rngC lo c n).length = n := by unfold rngC; rw [List.length_map, List.length_range]
/-- a place in a short written list of numbers -/
theorem atI2 {a b i : Int} (h0 : 0 ≤ i) (h1 : i < 2) : atI [D.int a, D.int b] i = some (.int ([a, b].getD i.toNat 0)) := atI_int (xs := [a, b]) h0 h1
theorem atI3 {a b c i : Int} (h0 : 0 ≤ i) (h1 : i < 3) : atI [D.int a, D.int b, D.int c] i = some (.int ([a, b, c].getD i.toNat 0)) := atI_int (xs := [a, b, c]) h0 h1
theorem atI4 {a b c d i : Int} (h0 : 0 ≤ i) (h1 : i < 4) : atI [D.int a, D.int b, D.int c, D.int d] i = some (.int ([a, b, c, d].getD i.toNat 0)) := atI_int (xs := [a, b, c, d]) h0 h1
theorem int4 {i : Int} (h0 : 0 ≤ i) (h1 : i < 4) : i = 0 ∨ i = 1 ∨ i = 2 ∨ i = 3 := by omega
theorem int3 {i : Int} (h0 : 0 ≤ i) (h1 : i < 3) : i = 0 ∨ i = 1 ∨ i = 2 := by omega
end DL
namespace DL
open PySem L2
variable [TbC]
/-- a, a + 1, .., n of them -/
def span (a n : Int) : List Int := (List.range n.toNat).map fun i : Nat => a + (i : Int)
theorem span_length (a n : Int) : (span a n).length = n.toNat := by unfold span; rw [List.length_map, List.length_range]
theorem rng_span (a n : Int) : rng a n.toNat = (span a n).map D.int := by
  unfold rng span
  rw [List.map_map]
  rfl
theorem rng_to (a b n : Int) (h : b = a + n) : rng a (b - a).toNat = (span a n).map D.int := by
  rw [h, show a + n - a = n by omega]
  exact rng_span a n
theorem span_get {a n : Int} {k : Nat} {x : Int} (h : (span a n)[k]? = some x) : a ≤ x ∧ x < a + n ∧ x = a + (k : Int) := by
  unfold span at h
  rw [List.getElem?_map] at h
  obtain ⟨j, e1, e2⟩ := Option.map_eq_some_iff.mp h
  obtain ⟨hl, e3⟩ := List.getElem?_eq_some_iff.mp e1
  rw [List.length_range] at hl
  rw [List.getElem_range] at e3
  subst e3
  omega
theorem span_mem {a n x : Int} : x ∈ span a n ↔ a ≤ x ∧ x < a + n := by
  unfold span
  rw [List.mem_map]
  constructor
  · rintro ⟨i, h1, rfl⟩
    have := List.mem_range.mp h1
    omega
  · rintro ⟨h1, h2⟩
    exact ⟨(x - a).toNat, List.mem_range.mpr (by omega), by omega⟩
section
variable {K : PySem.W.Frag} {ρ : Env} {te : TE} {ds : List D}
/-- a comprehension over numbers a .. a + n - 1 -/
theorem ef_lcR {a n : Int} {w : Int → D} {wi : TI} {g : TG} {vs : List Nat} {m : Nat} (h : EvI K wi ρ (rng a m)) (hm : m = n.toNat) (hz : n ≤ 50000)
    (hs : ∀ x : Int, a ≤ x → x < a + n → ∃ ρ2, EvGc K g (.int x) (wD ρ vs) ρ2 vs ∧ EvD K te ρ2 (w x)) : EvF K (tLc wi g tYes te vs) ρ ((span a n).map w) := by
  subst hm
  exact ef_lc0 (span a n) D.int w rfl (h.is (rng_span a n)) (by rw [span_length]; omega) fun k x hk => hs x (span_get hk).1 (span_get hk).2.1
end
end DL
namespace DL
open PySem L2
variable [TbC]
section
variable {K : PySem.W.Frag} {ρ : Env} {ta : TE} {α : Type} {f : α → D} {xs : List α}
theorem ev_lenM (ha : EvB K ta ρ (xs.map f)) : EvD K (tCB (rLenA K) (tCons ta tNil)) ρ (.int (xs.length : Int)) := (ev_lenLA ha).is (by rw [List.length_map])
theorem ev_lenMT (ha : EvD K ta ρ (.tup (xs.map f))) : EvD K (tCB (rLenA K) (tCons ta tNil)) ρ (.int (xs.length : Int)) := (ev_lenTA ha).is (by rw [List.length_map])
end
end DL

/-! DMore: short circuits, texts, tuples, sorted pairs, own lists emptied. -/
namespace DL
open PySem L2
variable [TbC]
section
variable {K : PySem.W.Frag} {ρ ρ' : Env} {te ti ta tb : TE} {d e : D} {ds es : List D} {tt tu : TT} {R : DEnds} {b : Bool}
theorem et_orT (h : EvT K tt ρ true) : EvT K (tOr tt tu) ρ true := et_or (b := true) h fun z => nomatch z
theorem et_orF (h : EvT K tt ρ false) (h2 : EvT K tu ρ b) : EvT K (tOr tt tu) ρ b := et_or h fun _ => h2
theorem et_andF (h : EvT K tt ρ false) : EvT K (tAnd tt tu) ρ false := et_and (b := true) h fun z => nomatch z
theorem et_andT (h : EvT K tt ρ true) (h2 : EvT K tu ρ b) : EvT K (tAnd tt tu) ρ b := et_and h fun _ => h2
theorem ev_orT (h : EvD K ta ρ (.bl true)) : EvD K (tOrV ta tb) ρ (.bl true) := ev_or (b := true) h fun z => nomatch z
theorem ev_orF (h : EvD K ta ρ (.bl false)) (h2 : EvD K tb ρ (.bl b)) : EvD K (tOrV ta tb) ρ (.bl b) := ev_or h fun _ => h2
theorem ev_andF (h : EvD K ta ρ (.bl false)) : EvD K (tAndV ta tb) ρ (.bl false) := ev_and (b := true) h fun z => nomatch z
theorem ev_andT (h : EvD K ta ρ (.bl true)) (h2 : EvD K tb ρ (.bl b)) : EvD K (tAndV ta tb) ρ (.bl b) := ev_and h fun _ => h2
theorem ev_ifT (h : EvT K tt ρ true) (h1 : EvD K ta ρ d) : EvD K (tIf tt ta tb) ρ d := ev_if h (fun _ => h1) fun z => nomatch z
theorem ev_ifF (h : EvT K tt ρ false) (h1 : EvD K tb ρ d) : EvD K (tIf tt ta tb) ρ d := ev_if h (fun z => nomatch z) fun _ => h1
/-! ### texts -/
theorem str_eqv (x y : Str) : PyData.eqv (D.str x).pd (D.str y).pd = decide (x = y) := by
  show (x == y) = _
  rw [Bool.beq_eq_decide_eq]
theorem ev_eqS {x y : Str} (ha : EvD K ta ρ (.str x)) (hb : EvD K tb ρ (.str y)) (fx : (D.str x).fit = true) (fy : (D.str y).fit = true) : EvD K (tOp (rEqD K) ta tb) ρ (.bl (decide (x = y))) := (ev_eq ha.r hb.r fx fy).is (by rw [str_eqv])
theorem ev_neS {x y : Str} (ha : EvD K ta ρ (.str x)) (hb : EvD K tb ρ (.str y)) (fx : (D.str x).fit = true) (fy : (D.str y).fit = true) : EvD K (tOp (rNeD K) ta tb) ρ (.bl (!decide (x = y))) := (ev_ne ha.r hb.r fx fy).is (by rw [str_eqv])
/-! ### tuples -/
theorem cutD_all (lo hi : Option Int) (h : HT.sIx ds.length 0 lo = 0 ∧ HT.sIx ds.length ds.length hi = ds.length) : cutD ds lo hi = ds := by
  unfold cutD
  rw [h.1, h.2, List.drop_zero, Nat.sub_zero, List.take_length]
theorem ev_slT {tl th : TO} {lo hi : Option Int} (ha : EvD K ta ρ (.tup ds)) (hl : EvO K tl ρ lo) (hh : EvO K th ρ hi) : EvD K (tSl (rSlA' K) ta tl th) ρ (.tup (cutD ds lo hi)) := fun B Hs H σ r Q q =>
  ha B Hs H σ r _ fun Hs1 H1 x g1 x1 => hl B Hs1 H1 σ (r.grow g1) _ fun Hs2 H2 g2 => hh B Hs2 H2 σ ((r.grow g1).grow g2) _ fun Hs3 H3 g3 => by
    cases x1 with
    | @tup p vs _ hp xs =>
      have g := (g1.trans g2).trans g3
      have hp3 : Hs3 p = some (.tup vs) := g3.sh _ _ (g2.sh _ _ hp)
      refine .inr ⟨p, vs, rfl, .of (g3.lv _ _ hp3), fun hf => ?_, fun hf l hn => ?_⟩
      · have e := cutD_all (ds := ds) lo hi (by rw [← xs.length]; exact hf)
        exact q Hs3 H3 _ g (by rw [e]; exact .tup hp3 (xs.mono (g2.sh.trans g3.sh)))
      · obtain ⟨n1, n2⟩ := gr_none g hn
        exact q _ _ _ (g.trans (Gr.new g3.lv hn)) (.tup upd_same (((xs.mono (g2.sh.trans g3.sh)).cut lo hi).mono (Ex.new n2)))
theorem ev_addT (ha : EvD K ta ρ (.tup ds)) (hb : EvD K tb ρ (.tup es)) (hl : ds.length + es.length ≤ 100000) : EvD K (tOp (rAddA K) ta tb) ρ (.tup (ds ++ es)) := fun B Hs H σ r Q q =>
  ha B Hs H σ r _ fun Hs1 H1 x g1 x1 => hb B Hs1 H1 σ (r.grow g1) _ fun Hs2 H2 y g2 y1 => by
    cases x1 with
    | @tup p vs _ hp xs =>
      cases y1 with
      | @tup p2 ws _ hp2 ys =>
        have g := g1.trans g2
        have hp' : Hs2 p = some (.tup vs) := g2.sh _ _ hp
        refine .inr (.inr (.inl ⟨p, p2, vs, ws, rfl, rfl, .of (g2.lv _ _ hp'), .of (g2.lv _ _ hp2), by rw [xs.length, ys.length]; exact sz_of hl, fun hf => ?_, fun _ hf => ?_, fun _ _ l hn => ?_⟩))
        · subst hf
          cases xs
          exact q Hs2 H2 _ g (.tup hp2 ys)
        · subst hf
          cases ys
          exact q Hs2 H2 _ g (by rw [List.append_nil]; exact .tup hp' (xs.mono g2.sh))
        · obtain ⟨n1, n2⟩ := gr_none g hn
          exact q _ _ _ (g.trans (Gr.new g2.lv hn)) (.tup upd_same (((xs.mono g2.sh).append ys).mono (Ex.new n2)))
/-- == and != with () -/
theorem ev_eqNT {xs : List D} (ha : EvR K ta ρ (.tup xs)) (hb : EvR K tb ρ (.tup [])) (fx : (D.tup xs).fit = true) : EvD K (tOp (rEqD K) ta tb) ρ (.bl xs.isEmpty) := (ev_eq ha hb fx rfl).is (by
  cases xs <;> rfl)
theorem ev_neNT {xs : List D} (ha : EvR K ta ρ (.tup xs)) (hb : EvR K tb ρ (.tup [])) (fx : (D.tup xs).fit = true) : EvD K (tOp (rNeD K) ta tb) ρ (.bl (!xs.isEmpty)) := (ev_ne ha hb fx rfl).is (by
  cases xs <;> rfl)
/-! ### int(True), divmod -/
abbrev rInt1 : List V → Hp → VK → Prop := fun xs H Q => (∃ i, xs = [V.int i] ∧ Q (.int i) H) ∨ ∃ k, xs = [V.bl k] ∧ Q (.int (if k then 1 else 0)) H
theorem ev_intI {i : Int} (ha : EvD K ta ρ (.int i)) : EvD K (tCB rInt1 (tCons ta tNil)) ρ (.int i) := fun B Hs H σ r Q q =>
  ha B Hs H σ r _ fun Hs1 H1 v g x => by
    cases x
    exact .inl ⟨i, rfl, q Hs1 H1 _ g (.int _)⟩
theorem ev_intB {k : Bool} (ha : EvD K ta ρ (.bl k)) : EvD K (tCB rInt1 (tCons ta tNil)) ρ (.int (if k then 1 else 0)) := fun B Hs H σ r Q q =>
  ha B Hs H σ r _ fun Hs1 H1 v g x => by
    cases x
    exact .inr ⟨k, rfl, q Hs1 H1 _ g (.int _)⟩
abbrev rDivmod : List V → Hp → VK → Prop := fun xs H Q => ∃ i j : Int, xs = [V.int i, V.int j] ∧ CDiv i j ∧ ∀ p, H p = none → Q (.ref p) (upd H p (.tup [V.int (i / j), V.int (i % j)]))
theorem ev_divmod {i j : Int} (ha : EvD K ta ρ (.int i)) (hb : EvD K tb ρ (.int j)) (hc : CDiv i j) : EvD K (tCB rDivmod (tCons ta (tCons tb tNil))) ρ (.tup [.int (i / j), .int (i % j)]) := fun B Hs H σ r Q q =>
  ha B Hs H σ r _ fun Hs1 H1 v g1 x => hb B Hs1 H1 σ (r.grow g1) _ fun Hs2 H2 w g2 y => by
    cases x
    cases y
    refine ⟨i, j, rfl, hc, fun p hn => ?_⟩
    have g := g1.trans g2
    obtain ⟨n1, n2⟩ := gr_none g hn
    exact q _ _ _ (g.trans (Gr.new g2.lv hn)) (.tup upd_same (.cons (.int _) (.cons (.int _) .nil)))
/-! ### xs[::-1] -/
theorem ef_rev (ha : EvB K ta ρ ds) : EvF K (tRevL K ta) ρ ds.reverse := fun B Hs H σ r Q q =>
  ha B Hs H σ r _ fun Hs1 H1 p vs g hp xs => ⟨p, vs, rfl, hp, fun l hn => by
    obtain ⟨n1, n2⟩ := gr_none g hn
    exact q Hs1 _ l _ (g.trans (Gr.newO g.lv hn)) n1 n2 upd_same xs.rev⟩
/-! ### sorted of pairs of numbers: some arrangement -/
theorem perm_reps {H : Hp} : ∀ {vs ws : List V}, ws.Perm vs → ∀ {ds : List D}, RepL K H vs ds → ∃ es, es.Perm ds ∧ RepL K H ws es := by
  intro vs ws hp
  induction hp with
  | nil => intro ds h; cases h; exact ⟨[], .nil, .nil⟩
  | cons x _ ih =>
    intro ds h
    cases h with
    | cons a b =>
      obtain ⟨es, p, r⟩ := ih b
      exact ⟨_ :: es, p.cons _, .cons a r⟩
  | swap x y l =>
    intro ds h
    cases h with
    | cons a b =>
      cases b with
      | cons c d => exact ⟨_, List.Perm.swap _ _ _, .cons c (.cons a d)⟩
  | trans _ _ ih1 ih2 =>
    intro ds h
    obtain ⟨es, p, r⟩ := ih2 h
    obtain ⟨fs, p2, r2⟩ := ih1 r
    exact ⟨fs, p2.trans p, r2⟩
theorem xs_sortP {i : Nat} {ps : List (Int × Int)} (ha : EvB K ta ρ (ps.map fun x => D.tup [.int x.1, .int x.2])) (q : ∀ qs : List (Int × Int), qs.Perm ps → R.nx (ρ.set i (some (.ol (qs.map fun x => D.tup [.int x.1, .int x.2]))))) :
    ExS K (tAsg (tCB (rSortedP K) (tCons ta tNil)) (gName i)) ρ R := fun B Hs H σ Dn r l =>
  ha B Hs H σ r _ fun Hs1 H1 p vs g hp xs => by
    refine ⟨p, vs, rfl, hp, fun x m => ?_, fun ys p2 pm hn => ?_⟩
    · obtain ⟨j, hj⟩ := List.mem_iff_getElem?.mp m
      obtain ⟨d, hd, rd⟩ := xs.get hj
      rw [List.getElem?_map] at hd
      obtain ⟨z, _, rfl⟩ := Option.map_eq_some_iff.mp hd
      cases rd with
      | @tup t ws _ ht rs =>
        have e := RepL.ints (ns := [z.1, z.2]) rs
        subst e
        exact ⟨t, z.1, z.2, rfl, g.lv _ _ ht⟩
    · obtain ⟨es, pe, re⟩ := perm_reps pm xs
      obtain ⟨n1, n2⟩ := gr_none g hn
      have key : ∀ {es ds : List D}, es.Perm ds → ∀ ps : List (Int × Int), ds = ps.map (fun x => D.tup [.int x.1, .int x.2]) → ∃ qs : List (Int × Int), qs.Perm ps ∧ es = qs.map fun x => D.tup [.int x.1, .int x.2] := by
        intro es ds hp
        induction hp with
        | nil =>
          intro ps e
          cases ps with
          | nil => exact ⟨[], .nil, rfl⟩
          | cons _ _ => cases e
        | cons x _ ih =>
          intro ps e
          cases ps with
          | nil => cases e
          | cons a ps =>
            have e1 := (List.cons.inj e).1
            obtain ⟨qs, h1, h2⟩ := ih ps (List.cons.inj e).2
            exact ⟨a :: qs, h1.cons _, by rw [e1, h2]; rfl⟩
        | swap x y l =>
          intro ps e
          match ps, e with
          | a :: b :: ps, e =>
            have e1 := (List.cons.inj e).1
            have e2 := (List.cons.inj (List.cons.inj e).2).1
            have e3 := (List.cons.inj (List.cons.inj e).2).2
            exact ⟨b :: a :: ps, List.Perm.swap _ _ _, by rw [e1, e2, e3]; rfl⟩
        | trans _ _ ih1 ih2 =>
          intro ps e
          obtain ⟨qs, h1, h2⟩ := ih2 ps e
          obtain ⟨rs, h3, h4⟩ := ih1 qs h2
          exact ⟨rs, h3.trans h1, h4⟩
      obtain ⟨qs, h1, rfl⟩ := key pe ps rfl
      exact l.nx _ _ _ _ (r.setO (g.trans (Gr.newO g.lv hn)) i n1 upd_same n2 re) (q qs h1)
/-! ### own lists -/
/-- xs.clear() -/
theorem xs_clear {i : Nat} (hx : ρ[i]? = some (some (.ol ds))) (q : R.nx (ρ.set i (some (.ol [])))) : ExS K (tDrop (tBM0 K "list" rClear (tVar i))) ρ R := fun B Hs H σ Dn r l => by
  obtain ⟨p, vs, e, hp, x, m⟩ := r.mutL i hx
  refine ⟨.ref p, e, .inl ⟨rfl, _, .of hp⟩, p, vs, rfl, rfl, hp, ?_⟩
  exact l.nx Hs _ _ _ (m _ _ .nil) q
/-- an own list comes back as a new one -/
theorem xs_retV {i : Nat} (hi : ρ[i]? = some (some (.ol ds))) (q : R.rf ds) : ExS K (tRet (tVar i)) ρ R := fun B Hs H σ Dn r l => by
  obtain ⟨S, h1, h2, h3, h4⟩ := id r.reg
  obtain ⟨v, hv, p, vs, e1, e2, x⟩ := h1 i _ hi
  subst e1
  have hp : S i p = some (.lst vs) := by rw [e2]; exact if_pos rfl
  exact ⟨.ref p, hv, l.rf Hs H p vs ds r.gr (h4 i _ p hi rfl (by rw [hp]; exact fun z => nomatch z)) (h2 i p _ hp).2.1 (h2 i p _ hp).1 x q⟩
/-- what follows is shown once, whatever way came ahead -/
theorem xs_cut {ts us : TS} (I : Env → Prop) (h1 : ExS K ts ρ { R with nx := I }) (h2 : ∀ ρ', I ρ' → ExS K us ρ' R) : ExS K (tSeq ts us) ρ R := fun B Hs H σ Dn r l =>
  h1 B Hs H σ _ r ⟨fun Hs' H' σ' ρ' r' q => h2 ρ' q B Hs' H' σ' Dn r' l, l.rt, l.rf, l.bk, l.ct, l.ro, l.ex, l.rn⟩
/-- a value of which only something is known -/
theorem xs_asgR {α : Type} {pre : α → Prop} {arg : α → List D} {post : α → D → Prop} {E : XK} {ta : TA} {i : Nat} (x : α) (h : EvA K ta ρ (arg x)) (p : pre x) (q : ∀ d, post x d → R.nx (ρ.set i (some (.sh d)))) :
    ExS K (tAsg (tCall (spR K pre arg post) [] E ta) (gName i)) ρ R := fun B Hs H σ Dn r l =>
  h B Hs H σ r _ fun Hs1 H1 vs g1 xs => by
    rw [List.append_nil]
    exact ⟨Hs1, x, ⟨g1.lv, (r.grow g1).tb⟩, xs, p, fun Hs' H' v d g y e => l.nx Hs' H' _ _ ((r.grow (g1.trans g)).set i y) (q d e)⟩
theorem xs_retR {α : Type} {pre : α → Prop} {arg : α → List D} {post : α → D → Prop} {E : XK} {ta : TA} (x : α) (h : EvA K ta ρ (arg x)) (p : pre x) (q : ∀ d, post x d → R.rt d) :
    ExS K (tRet (tCall (spR K pre arg post) [] E ta)) ρ R := fun B Hs H σ Dn r l =>
  h B Hs H σ r _ fun Hs1 H1 vs g1 xs => by
    rw [List.append_nil]
    exact ⟨Hs1, x, ⟨g1.lv, (r.grow g1).tb⟩, xs, p, fun Hs' H' v d g y e => l.rt Hs' H' v d (r.gr.trans (g1.trans g)) y (q d e)⟩
theorem ev_lenS1 {α : Type} {f : α → D} {xs : List α} {d : D} (ha : EvB K ta ρ (xs.map f ++ [d])) : EvD K (tCB (rLenA K) (tCons ta tNil)) ρ (.int ((xs.length : Int) + 1)) := (ev_lenLA ha).is (by simp)
/-! ### in -/
theorem inV_ints (i : Int) : ∀ xs : List Int, inV (.int i) (xs.map V.int) = decide (i ∈ xs)
  | [] => rfl
  | x :: xs => by
    have ih := inV_ints i xs
    unfold inV at ih ⊢
    rw [List.map_cons, List.any_cons, ih]
    by_cases h : x = i
    · subst h
      simp [eqV]
    · have h2 : (x == i) = false := by simpa using h
      have h3 : ¬ i = x := fun z => h z.symm
      simp [eqV, h2, h3]
theorem ev_inI {i : Int} {xs : List Int} (ha : EvD K ta ρ (.int i)) (hb : EvB K tb ρ (xs.map D.int)) : EvD K (tOp (rInA K) ta tb) ρ (.bl (decide (i ∈ xs))) := fun B Hs H σ r Q q =>
  ha B Hs H σ r _ fun Hs1 H1 x g1 x1 => hb B Hs1 H1 σ (r.grow g1) _ fun Hs2 H2 p vs g2 hp ys => by
    cases x1
    have e := ys.ints
    subst e
    refine .inl ⟨p, xs.map V.int, rfl, .inl hp, rfl, by simp [flatV], ?_⟩
    rw [if_neg (by decide), inV_ints]
    exact q Hs2 H2 _ (g1.trans g2) (.bl _)
theorem ev_notInI {i : Int} {xs : List Int} (ha : EvD K ta ρ (.int i)) (hb : EvB K tb ρ (xs.map D.int)) : EvD K (tOp (rNotInA K) ta tb) ρ (.bl (!decide (i ∈ xs))) := fun B Hs H σ r Q q =>
  ha B Hs H σ r _ fun Hs1 H1 x g1 x1 => hb B Hs1 H1 σ (r.grow g1) _ fun Hs2 H2 p vs g2 hp ys => by
    cases x1
    have e := ys.ints
    subst e
    refine .inl ⟨p, xs.map V.int, rfl, .inl hp, rfl, by simp [flatV], ?_⟩
    rw [if_pos rfl, inV_ints]
    exact q Hs2 H2 _ (g1.trans g2) (.bl _)
/-- in a list of data of a kind -/
theorem any_cod {α : Type} [DecidableEq α] {n : Nat} {f : α → D} (c : Cod n f) (x : α) : ∀ xs : List α, (D.pds (xs.map f)).any (fun z => PyData.eqv z (f x).pd) = decide (x ∈ xs)
  | [] => rfl
  | y :: ys => by
    have ih := any_cod c x ys
    show (PyData.eqv (f y).pd (f x).pd || (D.pds (ys.map f)).any fun z => PyData.eqv z (f x).pd) = _
    rw [ih, c.eq]
    by_cases h : y = x
    · subst h
      simp
    · have h3 : ¬ x = y := fun z => h z.symm
      simp [h, h3]
theorem ev_inC {α : Type} [DecidableEq α] {n : Nat} {f : α → D} (c : Cod n f) (hn : n < 64) {x : α} {xs : List α} (ha : EvR K ta ρ (f x)) (hb : EvR K tb ρ (.lst (xs.map f))) : EvD K (tOp (rInA K) ta tb) ρ (.bl (decide (x ∈ xs))) := fun B Hs H σ r Q q =>
  ha B Hs H σ r _ fun Hs1 H1 x g1 x1 => hb B Hs1 H1 σ (r.grow g1) _ fun Hs2 H2 y g2 y1 => by
    have f1 := c.fit (by omega) ‹α›
    have f2 := c.lst.fit (by omega) xs
    unfold D.fit at f1 f2
    rw [Bool.and_eq_true] at f1 f2
    refine .inr (.inl ⟨_, _, (x1.monoN g2.fr).dp f1.1, y1.dp f2.1, f1.2, f2.2, ?_⟩)
    rw [any_cod c]
    exact q Hs2 H2 _ (g1.trans g2) (.bl _)
/-! ### the same data on both sides -/
mutual
theorem D.eqv_refl : ∀ d : D, PyData.eqv d.pd d.pd = true
  | .non => rfl
  | .bl b => by show (b == b) = true; exact beq_self_eq_true b
  | .int i => by show (i == i) = true; exact beq_self_eq_true i
  | .str s => by rw [str_eqv]; exact decide_eq_true rfl
  | .ty _ => rfl
  | .fn _ => rfl
  | .clo _ _ _ => rfl
  | .lst xs => D.eqv_refls xs
  | .scr xs => D.eqv_refls xs
  | .tup xs => D.eqv_refls xs
  | .obj _ _ _ => rfl
theorem D.eqv_refls : ∀ ds : List D, PyData.eqvAll (D.pds ds) (D.pds ds) = true
  | [] => rfl
  | d :: ds => by
    show (PyData.eqv d.pd d.pd && PyData.eqvAll (D.pds ds) (D.pds ds)) = true
    rw [D.eqv_refl d, D.eqv_refls ds]
    rfl
end
structure Ft (n : Nat) (d : D) : Prop where
  pl : d.pl = true
  lay : d.pd.canLay0 = true
  dp : d.pd.depth ≤ n
theorem Ft.fit {n : Nat} {d : D} (f : Ft n d) (hn : n ≤ 64) : d.fit = true := by
  unfold D.fit SeqAt.shaped
  have h2 : decide (d.pd.depth ≤ 64) = true := decide_eq_true (Nat.le_trans f.dp hn)
  rw [f.pl, f.lay, h2]
  rfl
theorem Ft.up {n m : Nat} {d : D} (f : Ft n d) (h : n ≤ m) : Ft m d := ⟨f.pl, f.lay, Nat.le_trans f.dp h⟩
theorem ft_int (i : Int) : Ft 0 (.int i) := ⟨rfl, rfl, Nat.le_refl _⟩
theorem ft_bl (i : Bool) : Ft 0 (.bl i) := ⟨rfl, rfl, Nat.le_refl _⟩
theorem ft_non : Ft 0 .non := ⟨rfl, rfl, Nat.le_refl _⟩
theorem ft_str {x : Str} (h : (D.str x).pd.canLay0 = true) : Ft 0 (.str x) := ⟨rfl, h, Nat.le_refl _⟩
theorem ft_alls {n : Nat} : ∀ ds : List D, (∀ d ∈ ds, Ft n d) → D.pls ds = true ∧ PyData.canLayAll0 (D.pds ds) = true ∧ PyData.depthAll (D.pds ds) ≤ n
  | [], _ => ⟨rfl, rfl, Nat.zero_le _⟩
  | d :: ds, h => by
    obtain ⟨h1, h2, h3⟩ := ft_alls ds fun x hx => h x (List.mem_cons_of_mem _ hx)
    have f := h d List.mem_cons_self
    refine ⟨?_, ?_, ?_⟩
    · show (D.pl d && D.pls ds) = true
      rw [f.pl, h1]
      rfl
    · show (PyData.canLay0 d.pd && PyData.canLayAll0 (D.pds ds)) = true
      rw [f.lay, h2]
      rfl
    · have := f.dp
      show PyData.depthAll (d.pd :: D.pds ds) ≤ n
      simp only [PyData.depthAll]
      omega
theorem ft_tup {n : Nat} {ds : List D} (h : ∀ d ∈ ds, Ft n d) : Ft (n + 1) (.tup ds) := by
  obtain ⟨h1, h2, h3⟩ := ft_alls ds h
  refine ⟨h1, h2, ?_⟩
  show PyData.depthAll (D.pds ds) + 1 ≤ n + 1
  omega
theorem ft_lst {n : Nat} {ds : List D} (h : ∀ d ∈ ds, Ft n d) : Ft (n + 1) (.lst ds) := by
  obtain ⟨h1, h2, h3⟩ := ft_alls ds h
  refine ⟨h1, h2, ?_⟩
  show PyData.depthAll (D.pds ds) + 1 ≤ n + 1
  omega
theorem ft_ints (xs : List Int) : Ft 1 (.lst (xs.map .int)) := ft_lst fun d h => by
  obtain ⟨i, _, rfl⟩ := List.mem_map.mp h
  exact ft_int i
theorem ft_tints (xs : List Int) : Ft 1 (.tup (xs.map .int)) := ft_tup fun d h => by
  obtain ⟨i, _, rfl⟩ := List.mem_map.mp h
  exact ft_int i
theorem ev_eqX {d : D} (ha : EvR K ta ρ d) (hb : EvR K tb ρ d) (f : d.fit = true) : EvD K (tOp (rEqD K) ta tb) ρ (.bl true) := (ev_eq ha hb f f).is (by rw [D.eqv_refl])
theorem ev_neX {d : D} (ha : EvR K ta ρ d) (hb : EvR K tb ρ d) (f : d.fit = true) : EvD K (tOp (rNeD K) ta tb) ρ (.bl false) := (ev_ne ha hb f f).is (by rw [D.eqv_refl]; rfl)
/-- stretches of a .. a + n - 1 -/
theorem span_take (a n : Int) (m : Nat) : (span a n).take m = span a (min (m : Int) n) := by
  unfold span
  rw [← List.map_take, List.take_range]
  congr 2
  omega
theorem span_drop (a n : Int) (m : Nat) : (span a n).drop m = span (a + m) (n - m) := by
  unfold span
  apply List.ext_getElem
  · simp only [List.length_drop, List.length_map, List.length_range]
    omega
  · intro i h1 h2
    simp only [List.getElem_drop, List.getElem_map, List.getElem_range]
    omega
theorem filter_perm {α : Type} (p : α → Bool) : ∀ xs : List α, (xs.filter p ++ xs.filter fun x => !p x).Perm xs
  | [] => .nil
  | x :: xs => by
    have ih := filter_perm p xs
    cases h : p x with
    | true =>
      rw [List.filter_cons_of_pos h, List.filter_cons_of_neg (by simp [h])]
      exact ih.cons x
    | false =>
      rw [List.filter_cons_of_neg (by simp [h]), List.filter_cons_of_pos (by simp [h])]
      exact List.perm_middle.trans (ih.cons x)
theorem get_span {α : Type} (xs : List α) (d : α) : (span 0 (xs.length : Int)).map (fun k => xs.getD k.toNat d) = xs := by
  unfold span
  rw [List.map_map]
  apply List.ext_getElem
  · simp
  · intro i h1 h2
    simp only [List.getElem_map, List.getElem_range, Function.comp_apply]
    rw [show ((0 : Int) + (i : Int)).toNat = i by omega, List.getD_eq_getElem?_getD, List.getElem?_eq_getElem h2]
    rfl
/-- f(g(..)), of g's answer only something is known -/
theorem ev_call_R {α β : Type} {pre : α → Prop} {arg : α → List D} {post : α → D → Prop} {pre2 : β → Prop} {arg2 : β → List D} {res2 : β → D} {E E2 : XK} {ta : TA} (x : α) (h : EvA K ta ρ (arg x)) (p : pre x) (k : ∀ e, post x e → ∃ y : β, arg2 y = [e] ∧ pre2 y ∧ res2 y = d) :
    EvD K (tCall (spG K pre2 arg2 res2) [] E2 (tCons (tCall (spR K pre arg post) [] E ta) tNil)) ρ d := fun B Hs H σ r Q q =>
  h B Hs H σ r _ fun Hs1 H1 vs g1 xs => by
    rw [List.append_nil]
    refine ⟨Hs1, x, ⟨g1.lv, (r.grow g1).tb⟩, xs, p, fun Hs' H' v e g y z => ?_⟩
    obtain ⟨b, e1, e2, e3⟩ := k e z
    show spG K pre2 arg2 res2 ([v] ++ []) H' Q E2
    exact ⟨Hs', b, ⟨g.lv, (r.grow (g1.trans g)).tb⟩, by rw [e1]; exact .cons y .nil, e2, fun Hs2 H2 u f g2 y2 z2 => q Hs2 H2 u ((g1.trans g).trans g2) (by rw [z2, e3] at y2; exact y2)⟩
/-- a statement that is never reached -/
theorem xs_never (h : False) {t : TS} : ExS K t ρ R := h.elim
end
section
variable {X : Cx} {K : PySem.W.Frag}
theorem revLK (h : X.K = K) {e : Expr} {te : TE} {k : Nat} {p1 p2 p3 pos : Pos} (he : PE X e te) : PE X (.Subscript e (.Slice none none (some (.UnaryOp .USub (.Constant (.int 1) k p1) p2)) p3) pos) (tRevL K te) := by subst h; exact pe_revL he
theorem sortPK (h : X.K = K) : CallR X (.builtin "sorted") (rSortedP K) := by subst h; exact cr_sortedP
end
end DL

/-! DTree: slots that hold trees: reading at a path, changing there, new trees, freezing. -/
namespace DL
open PySem L2
variable [TbC]
/-- whether made in this frame; which value it is, where that is told -/
structure Nw where
  b : Bool
  pv : Option V
instance : Coe Bool Nw := ⟨fun b => ⟨b, none⟩⟩
@[reducible] def SV.tr (K : PySem.W.Frag) (nw : Nw) (o : O) : SV := .ow nw.b (fun Hs v R => (∀ w, nw.pv = some w → v = w) ∧ Own K Hs v o R) fun _ _ _ h => h.2.pl
theorem nopv {v : V} {b : Bool} : ∀ w, (⟨b, none⟩ : Nw).pv = some w → v = w := fun _ z => nomatch z
section
variable {K : PySem.W.Frag} {B : Base} {Hs H Hs' H' : Hp} {σ : St} {ρ ρ' : Env} {nw : Nw} {o o1 : O} {i : Nat} {p : List Nat}
/-- what lies at a path of slot i's tree, and how it may be changed -/
theorem RS.part (r : RS K B Hs H σ ρ) {R : Nat → Hp} (rg : Reg K B Hs H σ ρ R) (hi : ρ[i]? = some (some (.tr K nw o))) (hp : o.at_ p = some o1) :
    ∃ v0 v1 S, σ[i]? = some (some v0) ∧ VAt H v0 p v1 ∧ Own K Hs v1 o1 S ∧ (∀ a u, S a = some u → H a = some u ∧ Hs a = none ∧ R i a ≠ none) ∧
      ∀ {H' S' : Hp} {o' : O}, Own K Hs v1 o' S' → (∀ a u, S' a = some u → H' a = some u ∧ (S a ≠ none ∨ Fresh B Hs R a)) → (∀ a u, S a = none → H a = some u → H' a = some u) → (∀ a, H a ≠ none → H' a ≠ none) → Ch H H' → RS K B Hs H' σ (ρ.set i (some (.tr K nw (o.put p o')))) := by
  obtain ⟨v0, hv, hh⟩ := rg.1 i _ hi
  have ow : Own K Hs v0 o (R i) := (hh Hs (Ex.refl Hs)).2
  obtain ⟨v1, S, T, va, h1, d1, e1, k1⟩ := ow.part hp
  have sub : ∀ a u, S a = some u → R i a = some u := fun a u e => by rw [e1, jn_l e]
  refine ⟨v0, v1, S, hv, va.mono fun a u e => (rg.2.1 i a u e).1, h1, fun a u e => ⟨(rg.2.1 i a u (sub a u e)).1, (rg.2.1 i a u (sub a u e)).2.1, by rw [sub a u e]; exact fun z => nomatch z⟩, fun {H' S' o'} h' c1 c2 c3 c4 => ?_⟩
  have dT : ∀ a, S' a ≠ none → T a = none := fun a ha => by
    cases z : S' a with
    | none => exact absurd z ha
    | some u =>
      rcases (c1 a u z).2 with y | y
      · exact d1 a y
      · have := y.1 i
        rw [e1] at this
        exact (jn_none.mp this).2
  refine r.mutR rg i hi (fun z => z) hv (T := jn S' T) (fun Hs1 x => ⟨(hh Hs (Ex.refl Hs)).1, (k1 (Ex.refl Hs) h' dT).mono x⟩) (fun a u e => ?_) (fun a u e e' => ?_) c3 c4
  · cases z : S' a with
    | some w =>
      rw [jn_l z] at e
      have e' := Option.some.inj e
      subst e'
      refine ⟨(c1 a w z).1, (c1 a w z).2.imp (fun y => ?_) id⟩
      rw [e1]
      intro q
      exact y (jn_none.mp q).1
    | none =>
      rw [jn_r z] at e
      have hS : S a = none := by
        cases y : S a with
        | none => rfl
        | some w =>
          rw [d1 a (by rw [y]; exact fun z => nomatch z)] at e
          cases e
      have hR : R i a = some u := by rw [e1, jn_r hS, e]
      exact ⟨c2 a u hS (rg.2.1 i a u hR).1, .inl (by rw [hR]; exact fun z => nomatch z)⟩
  · rw [e1] at e
    exact c2 a u (jn_none.mp e).1 e'
/-! ### freezing -/
mutual
def O.toD : O → D
  | .sh d => d
  | .ol xs => .lst (O.toDs xs)
  | .ob C ns xs => .obj C ns (O.toDs xs)
  | .dg _ _ => .non
def O.toDs : List O → List D
  | [] => []
  | x :: xs => x.toD :: O.toDs xs
end
mutual
/-- no dict in it -/
def O.frz : O → Bool
  | .sh _ => true
  | .ol xs => O.frzs xs
  | .ob _ _ xs => O.frzs xs
  | .dg _ _ => false
def O.frzs : List O → Bool
  | [] => true
  | x :: xs => x.frz && O.frzs xs
end
theorem jn_ex {R S Hs : Hp} (h : ∀ a u, R a = some u → S a = some u) : Ex (jn R Hs) (jn S Hs) → Ex (jn R Hs) (jn S Hs) := id
mutual
theorem Own.fz : ∀ {v : V} {o : O} {R : Hp}, Own K Hs v o R → o.frz = true → (∀ a u, R a = some u → Hs a = none) → ∀ G, (∀ a u, R a = some u → G a = some u) → Ex Hs G → Rep K G v o.toD
  | _, _, _, .sh h, _, _, G, _, e => by
    unfold O.toD
    exact h.mono e
  | _, _, _, .ol (p := p) (vs := vs) (R := R1) n h, f, d, G, g, e => by
    unfold O.toD
    refine .lst (g p _ upd_same) (OwnL.fz h (by unfold O.frz at f; exact f) (fun a u z => ?_) G (fun a u z => ?_) e)
    · have na : a ≠ p := fun y => by rw [y, n] at z; cases z
      exact d a u (by rw [upd_ne na]; exact z)
    · have na : a ≠ p := fun y => by rw [y, n] at z; cases z
      exact g a u (by rw [upd_ne na]; exact z)
  | _, _, _, .ob (p := p) (vs := vs) (R := R1) n l h, f, d, G, g, e => by
    unfold O.toD
    refine .obj (g p _ upd_same) (OwnL.fz h (by unfold O.frz at f; exact f) (fun a u z => ?_) G (fun a u z => ?_) e)
    · have na : a ≠ p := fun y => by rw [y, n] at z; cases z
      exact d a u (by rw [upd_ne na]; exact z)
    · have na : a ≠ p := fun y => by rw [y, n] at z; cases z
      exact g a u (by rw [upd_ne na]; exact z)
  | _, _, _, .dg _, f, _, _, _, _ => by cases f
theorem OwnL.fz : ∀ {vs : List V} {os : List O} {R : Hp}, OwnL K Hs vs os R → O.frzs os = true → (∀ a u, R a = some u → Hs a = none) → ∀ G, (∀ a u, R a = some u → G a = some u) → Ex Hs G → RepL K G vs (O.toDs os)
  | _, _, _, .nil, _, _, G, _, _ => by
    unfold O.toDs
    exact .nil
  | _, _, _, .cons (R := R1) (S := R2) h r c, f, d, G, g, e => by
    unfold O.toDs
    unfold O.frzs at f
    rw [Bool.and_eq_true] at f
    refine .cons (Own.fz h f.1 (fun a u z => d a u (jn_l z)) G (fun a u z => g a u (jn_l z)) e) (OwnL.fz r f.2 (fun a u z => ?_) G (fun a u z => ?_) e)
    · have : R1 a = none := by
        cases y : R1 a with
        | none => rfl
        | some w =>
          rw [c a (by rw [y]; exact fun q => nomatch q)] at z
          cases z
      exact d a u (by rw [jn_r this]; exact z)
    · have : R1 a = none := by
        cases y : R1 a with
        | none => rfl
        | some w =>
          rw [c a (by rw [y]; exact fun q => nomatch q)] at z
          cases z
      exact g a u (by rw [jn_r this]; exact z)
end
theorem Own.fzJ {v : V} {R : Hp} (h : Own K Hs v o R) (f : o.frz = true) (d : ∀ a u, R a = some u → Hs a = none) : Rep K (jn R Hs) v o.toD :=
  h.fz f d (jn R Hs) (fun a u z => jn_l z) fun a u z => by
    rw [jn_r]
    · exact z
    · cases y : R a with
      | none => rfl
      | some w =>
        rw [d a w y] at z
        cases z
theorem RS.fzT (r : RS K B Hs H σ ρ) (hi : ρ[i]? = some (some (.tr K nw o))) (hn : nw.b = true ∨ ∀ a, ¬ Pn B.h a) (f : o.frz = true) : ∃ Hs2, Ex Hs Hs2 ∧ Ex Hs2 H ∧ RS K B Hs2 H σ (ρ.set i (some (.sh o.toD))) :=
  r.fzR i hi hn fun v R hh d => Own.fzJ (hh Hs (Ex.refl Hs)).2 f d
end
section
variable {K : PySem.W.Frag} {ρ ρ' : Env} {nw : Nw} {o o1 o2 : O} {i : Nat} {p : List Nat} {te ta tb ti tw : TE} {d : D} {ds es : List D} {tt : TT} {R : DEnds} {xs : List O}
theorem xs_frz {ts : TS} (i : Nat) (hi : ρ[i]? = some (some (.tr K true o))) (f : o.frz = true) (h : ExS K ts (ρ.set i (some (.sh o.toD))) R) : ExS K ts ρ R := fun B Hs H σ Dn r l => by
  obtain ⟨Hs2, e1, e2, r2⟩ := r.fzT hi (.inl rfl) f
  exact h B Hs2 H σ Dn r2 l
theorem EvD.thawT (i : Nat) (hi : ρ[i]? = some (some (.tr K nw o))) (f : o.frz = true) (h : EvD K te (ρ.set i (some (.sh o.toD))) d) (hd : d.scal = true) : EvD K te ρ d := fun B Hs H σ r Q q => by
  obtain ⟨Hs2, e1, e2, r2⟩ := r.temp.fzT hi (.inr fun _ => npl_pn _) f
  exact h _ Hs2 H σ r2 Q fun Hs' H' v g x => q Hs H' v (gr_thaw e1 g) (x.scal hd)
theorem EvT.thawT (i : Nat) {b : Bool} (hi : ρ[i]? = some (some (.tr K nw o))) (f : o.frz = true) (h : EvT K tt (ρ.set i (some (.sh o.toD))) b) : EvT K tt ρ b := fun B Hs H σ r Q q => by
  obtain ⟨Hs2, e1, e2, r2⟩ := r.temp.fzT hi (.inr fun _ => npl_pn _) f
  exact h _ Hs2 H σ r2 Q fun Hs' H' g => q Hs H' (gr_thaw e1 g)
theorem EvF.thawT (i : Nat) (hi : ρ[i]? = some (some (.tr K nw o))) (f : o.frz = true) (h : EvF K te (ρ.set i (some (.sh o.toD))) es) (hd : es.all D.scal = true) : EvF K te ρ es := fun B Hs H σ r Q q => by
  obtain ⟨Hs2, e1, e2, r2⟩ := r.temp.fzT hi (.inr fun _ => npl_pn _) f
  refine h _ Hs2 H σ r2 Q fun Hs' H' p vs g n ns e x => q Hs H' p vs (gr_thaw e1 g) n ?_ e (x.scal hd)
  cases z : Hs p with
  | none => rfl
  | some o =>
    rw [r.ex p o z] at n
    cases n
/-! ### reading at a path -/
/-- te gives what lies at the path p of slot i -/
def EvW (K : PySem.W.Frag) (te : TE) (ρ : Env) (i : Nat) (p : List Nat) : Prop := ∀ B Hs H σ, RS K B Hs H σ ρ → ∀ Q : VK, (∀ Hs' H' v0 v, Gr Hs H H Hs' H' → σ[i]? = some (some v0) → VAt H' v0 p v → Q v H') → te σ H Q
theorem ew_var (hi : ρ[i]? = some (some (.tr K nw o))) : EvW K (tVar i) ρ i [] := fun B Hs H σ r Q q => by
  obtain ⟨R, rg⟩ := r.reg
  obtain ⟨v0, hv, _⟩ := rg.1 i _ hi
  exact ⟨v0, hv, q Hs H v0 v0 (Gr.refl r.ex) hv .nil⟩
theorem Own.ob_inv {Hs : Hp} {v : V} {C : Addr} {ns : List Str} {S : Hp} (h : Own K Hs v (.ob C ns xs) S) : ∃ q dx vs R1, v = .ref q ∧ R1 q = none ∧ ns.length = xs.length ∧ OwnL K Hs vs xs R1 ∧ S = upd R1 q (.ins C dx (ns.zip vs)) := by
  cases h with
  | ob n l h => exact ⟨_, _, _, _, rfl, n, l, h, rfl⟩
theorem Own.ol_inv {Hs : Hp} {v : V} {S : Hp} (h : Own K Hs v (.ol xs) S) : ∃ q vs R1, v = .ref q ∧ R1 q = none ∧ OwnL K Hs vs xs R1 ∧ S = upd R1 q (.lst vs) := by
  cases h with
  | ol n h => exact ⟨_, _, _, rfl, n, h, rfl⟩
theorem look_zipN {f : Str} : ∀ {ns : List Str} {vs : List V} {j : Nat}, ns.findIdx? (· == f) = some j → ns.length = vs.length → ∃ u, (ns.zip vs).lookup f = some u ∧ vs[j]? = some u
  | [], vs, j, h, _ => by simp at h
  | n :: ns, [], j, _, hl => by simp at hl
  | n :: ns, v :: vs, j, h, hl => by
    rw [List.findIdx?_cons] at h
    rw [List.zip_cons_cons, List.lookup_cons]
    by_cases e : (n == f) = true
    · rw [if_pos e] at h
      have h' := Option.some.inj h
      subst h'
      have e2 : (f == n) = true := by rw [beq_iff_eq] at e ⊢; exact e.symm
      rw [e2]
      exact ⟨v, rfl, rfl⟩
    · rw [if_neg e] at h
      obtain ⟨k, hk, rfl⟩ := Option.map_eq_some_iff.mp h
      have e2 : (f == n) = false := by
        cases z : (f == n) with
        | false => rfl
        | true => rw [beq_iff_eq] at z; exact absurd (by rw [z]; exact beq_self_eq_true n) e
      rw [e2]
      exact look_zipN (j := k) hk (by simpa using hl)
theorem ew_fld {f : Str} {C : Addr} {ns : List Str} {j : Nat} (h : EvW K te ρ i p) (hi : ρ[i]? = some (some (.tr K nw o))) (hp : o.at_ p = some (.ob C ns xs)) (hj : ns.findIdx? (· == f) = some j) (hc : Cls K C) (hn : NoAttr K C f) : EvW K (tFld K te f) ρ i (p ++ [j]) := fun B Hs H σ r Q q =>
  h B Hs H σ r _ fun Hs1 H1 v0 v g hv va => by
    have r1 := r.grow g
    obtain ⟨R, rg⟩ := r1.reg
    obtain ⟨v0', v1, S, hv', va', ow, sub, _⟩ := r1.part rg hi hp
    rw [hv] at hv'
    cases hv'
    have e := va.det va'
    subst e
    obtain ⟨a, dx, vs, R1, rfl, n, l, hl, rfl⟩ := ow.ob_inv
    obtain ⟨u, h1, h2⟩ := look_zipN hj (by rw [hl.length]; exact l)
    have ha := (sub a _ upd_same).1
    refine ⟨a, C, dx, _, u, rfl, ha, hc, hn, h1, q Hs1 H1 v0 u g hv (va.app ?_)⟩
    obtain ⟨f', hf⟩ := zip_get (ns := ns) (by rw [hl.length]; exact l) h2
    exact .ins ha hf .nil
theorem ew_ix {n : Int} {j : Nat} (h : EvW K te ρ i p) (hi : ρ[i]? = some (some (.tr K nw o))) (hp : o.at_ p = some (.ol xs)) (hk : EvD K ti ρ (.int n)) (hj : ixN xs.length n = some j) (hl : j < xs.length) : EvW K (tOp (rIx K) te ti) ρ i (p ++ [j]) := fun B Hs H σ r Q q =>
  h B Hs H σ r _ fun Hs1 H1 v0 v g hv va => hk B Hs1 H1 σ (r.grow g) _ fun Hs2 H2 y g2 y2 => by
    cases y2
    have r2 := (r.grow g).grow g2
    obtain ⟨R, rg⟩ := r2.reg
    obtain ⟨v0', v1, S, hv', va', ow, sub, _⟩ := r2.part rg hi hp
    rw [hv] at hv'
    cases hv'
    have va2 := va.monoN g2.fr
    have e := va2.det va'
    subst e
    obtain ⟨a, vs, R1, rfl, nn, hl', rfl⟩ := ow.ol_inv
    have ha := (sub a _ upd_same).1
    have hjv : j < vs.length := by rw [hl'.length]; exact hl
    refine .inl ⟨a, vs, n, vs[j], rfl, rfl, .of ha, ?_, q Hs2 H2 v0 _ (g.trans g2) hv (va2.app (.lst ha (List.getElem?_eq_getElem hjv) .nil))⟩
    unfold atI
    rw [hl'.length, hj]
    exact List.getElem?_eq_getElem hjv
theorem ev_W (h : EvW K te ρ i p) (hi : ρ[i]? = some (some (.tr K nw o))) (hp : o.at_ p = some (.sh d)) : EvD K te ρ d := fun B Hs H σ r Q q =>
  h B Hs H σ r _ fun Hs1 H1 v0 v g hv va => by
    have r1 := r.grow g
    obtain ⟨R, rg⟩ := r1.reg
    obtain ⟨v0', v1, S, hv', va', ow, sub, _⟩ := r1.part rg hi hp
    rw [hv] at hv'
    cases hv'
    have e := va.det va'
    subst e
    cases ow with
    | sh x => exact q Hs1 H1 v g x
theorem em_W (h : EvW K te ρ i p) (hi : ρ[i]? = some (some (.tr K nw o))) (hp : o.at_ p = some (.ol (ds.map .sh))) : EvM K te ρ ds := fun B Hs H σ r Q q =>
  h B Hs H σ r _ fun Hs1 H1 v0 v g hv va => by
    have r1 := r.grow g
    obtain ⟨R, rg⟩ := r1.reg
    obtain ⟨v0', v1, S, hv', va', ow, sub, _⟩ := r1.part rg hi hp
    rw [hv] at hv'
    cases hv'
    have e := va.det va'
    subst e
    obtain ⟨a, vs, R1, rfl, nn, hl', rfl⟩ := ow.ol_inv
    exact q Hs1 H1 a vs g (sub a _ upd_same).1 hl'.reps.1
/-- how many a list at a path has -/
theorem ev_lenW (h : EvW K te ρ i p) (hi : ρ[i]? = some (some (.tr K nw o))) (hp : o.at_ p = some (.ol xs)) : EvD K (tCB (rLenA K) (tCons te tNil)) ρ (.int (xs.length : Int)) := fun B Hs H σ r Q q =>
  h B Hs H σ r _ fun Hs1 H1 v0 v g hv va => by
    have r1 := r.grow g
    obtain ⟨R, rg⟩ := r1.reg
    obtain ⟨v0', v1, S, hv', va', ow, sub, _⟩ := r1.part rg hi hp
    rw [hv] at hv'
    cases hv'
    have e := va.det va'
    subst e
    obtain ⟨a, vs, R1, rfl, nn, hl', rfl⟩ := ow.ol_inv
    refine .inl ⟨a, vs, rfl, .inl (.of (sub a _ upd_same).1), ?_⟩
    rw [hl'.length]
    exact q Hs1 H1 _ g (.int _)
theorem ev_inW {P : Int → Bool} {n : Nat} {k : Int} (hk : EvD K ta ρ (.int k)) (h : EvW K te ρ i p) (hi : ρ[i]? = some (some (.tr K nw o))) (hp : o.at_ p = some (.dk P n)) : EvD K (tOp (rInA K) ta te) ρ (.bl (P k)) := fun B Hs H σ r Q q =>
  hk B Hs H σ r _ fun Hs0 H0 y g0 y0 => h B Hs0 H0 σ (r.grow g0) _ fun Hs1 H1 v0 v g hv va => by
    cases y0
    have r1 := (r.grow g0).grow g
    obtain ⟨R, rg⟩ := r1.reg
    obtain ⟨v0', v1, S, hv', va', ow, sub, _⟩ := r1.part rg hi hp
    rw [hv] at hv'
    cases hv'
    have e := va.det va'
    subst e
    cases ow with
    | @dg a _ _ kvs hk =>
      refine .inr (.inr (.inl ⟨a, _, rfl, DGet.k (k := (Sum.inl k : Key)) (sub a _ upd_same).1, ?_⟩))
      rw [hk.2 k]
      exact q Hs1 H1 _ (g0.trans g) (.bl _)
theorem ev_notInW {P : Int → Bool} {n : Nat} {k : Int} (hk : EvD K ta ρ (.int k)) (h : EvW K te ρ i p) (hi : ρ[i]? = some (some (.tr K nw o))) (hp : o.at_ p = some (.dk P n)) : EvD K (tOp (rNotInA K) ta te) ρ (.bl (!P k)) := fun B Hs H σ r Q q =>
  hk B Hs H σ r _ fun Hs0 H0 y g0 y0 => h B Hs0 H0 σ (r.grow g0) _ fun Hs1 H1 v0 v g hv va => by
    cases y0
    have r1 := (r.grow g0).grow g
    obtain ⟨R, rg⟩ := r1.reg
    obtain ⟨v0', v1, S, hv', va', ow, sub, _⟩ := r1.part rg hi hp
    rw [hv] at hv'
    cases hv'
    have e := va.det va'
    subst e
    cases ow with
    | @dg a _ _ kvs hk =>
      refine .inr (.inr (.inl ⟨a, _, rfl, DGet.k (k := (Sum.inl k : Key)) (sub a _ upd_same).1, ?_⟩))
      rw [hk.2 k]
      exact q Hs1 H1 _ (g0.trans g) (.bl _)
/-! ### new trees -/
def EvN (K : PySem.W.Frag) (te : TE) (ρ : Env) (o : O) : Prop := ∀ B Hs H σ, RS K B Hs H σ ρ → ∀ Q : VK, (∀ Hs' H' v S, Gr Hs H H Hs' H' → Own K Hs' v o S → (∀ a u, S a = some u → H' a = some u ∧ H a = none ∧ Hs' a = none) → Q v H') → te σ H Q
theorem EvF.n (h : EvF K te ρ ds) : EvN K te ρ (.ol (ds.map .sh)) := fun B Hs H σ r Q q => h B Hs H σ r _ fun Hs1 H1 p vs g n ns e x => by
  refine q Hs1 H1 _ _ g (.ol rfl (ownL_sh x)) fun a u z => ?_
  by_cases y : a = p
  · subst y
    rw [upd_same] at z
    cases z
    exact ⟨e, n, ns⟩
  · rw [upd_ne y] at z
    cases z
theorem EvN.is (h : EvN K te ρ o) (e : o = o1) : EvN K te ρ o1 := e ▸ h
theorem EvN.v (h : EvN K te ρ o) (f : o.frz = true) : EvD K te ρ o.toD := fun B Hs H σ r Q q => h B Hs H σ r _ fun Hs1 H1 v S g ow sub => by
  have d : ∀ a u, S a = some u → Hs1 a = none := fun a u e => (sub a u e).2.2
  have ex1 : Ex Hs1 (jn S Hs1) := fun a u e => by
    rw [jn_r]
    · exact e
    · cases y : S a with
      | none => rfl
      | some w =>
        rw [d a w y] at e
        cases e
  have ex2 : Ex (jn S Hs1) H1 := fun a u e => by
    cases y : S a with
    | some w =>
      rw [jn_l y] at e
      have e' := Option.some.inj e
      subst e'
      exact (sub a w y).1
    | none =>
      rw [jn_r y] at e
      exact g.lv a u e
  refine q (jn S Hs1) H1 v ⟨g.fr, g.sh.trans ex1, ex2, fun a x => ?_, g.dm, g.fd, g.dp, fun t a ps e => ?_, g.tb⟩ (ow.fzJ f d)
  · cases y : S a with
    | some w => exact absurd (sub a w y).2.1 x.ne
    | none =>
      rw [jn_r y]
      exact g.nw a x
  · cases y : S a with
    | some w =>
      rw [jn_l y] at e
      cases e
      have z := ow.pl a _ y
      cases z
    | none =>
      rw [jn_r y] at e
      exact g.nt t a ps e
theorem en_dict : EvN K tDNewK ρ (.dk (fun _ => false) 0) := fun B Hs H σ r Q q => fun p hp => by
  obtain ⟨n1, n2⟩ := gr_none (Gr.refl r.ex) hp
  refine q Hs _ _ _ (Gr.newO r.ex hp) (.dg (kvs := []) ⟨Nat.le_refl _, fun i => rfl⟩) fun a u z => ?_
  by_cases y : a = p
  · subst y
    rw [upd_same] at z ⊢
    exact ⟨z, hp, n2⟩
  · rw [upd_ne y] at z
    cases z
theorem xs_asgN (h : EvN K te ρ o) (q : R.nx (ρ.set i (some (.tr K true o)))) : ExS K (tAsg te (gName i)) ρ R := fun B Hs H σ Dn r l =>
  h B Hs H σ r _ fun Hs1 H1 v S g ow sub => l.nx Hs1 H1 _ _ (r.setR g i (sv := .tr K true o) (T := S) (fun a u e => ⟨(sub a u e).2.1, (sub a u e).1, (sub a u e).2.2⟩) (fun Hs2 x => ⟨nopv, ow.mono x⟩)) q
/-! ### changes at a path -/
theorem upd_keep {H : Hp} {q a : Addr} {x y : HO} (h : H q = some x) (e : H a ≠ none) : upd H q y a ≠ none := by
  by_cases z : a = q
  · rw [z, upd_same]
    exact fun w => nomatch w
  · rw [upd_ne z]
    exact e
/-- .append(e) at a path -/
theorem xs_appW (hw : EvW K te ρ i p) (hi : ρ[i]? = some (some (.tr K nw o))) (hp : o.at_ p = some (.ol xs)) (h : EvD K ta ρ d) (hz : xs.length < 100000) (q : R.nx (ρ.set i (some (.tr K nw (o.put p (.ol (xs ++ [.sh d]))))))) :
    ExS K (tDrop (tBM K "list" rAppend te (tCons ta tNil))) ρ R := fun B Hs H σ Dn r l =>
  hw B Hs H σ r _ fun Hs1 H1 v0 v g hv va => by
    have r1 := r.grow g
    obtain ⟨R1, rg1⟩ := r1.reg
    obtain ⟨v0', v1, S, hv', va', ow, sub, _⟩ := r1.part rg1 hi hp
    rw [hv] at hv'
    cases hv'
    have e := va.det va'
    subst e
    obtain ⟨a, vs, Ra, rfl, nn, hl', rfl⟩ := ow.ol_inv
    refine ⟨.inl ⟨rfl, _, .of (sub a _ upd_same).1⟩, h B Hs1 H1 σ r1 _ fun Hs2 H2 w g2 y => ?_⟩
    have r2 := r1.grow g2
    have rg2 : Reg K B Hs2 H2 σ ρ R1 := Reg.grow rg1 g2
    obtain ⟨v0', v1, S, hv', va', ow, sub, k⟩ := r2.part rg2 hi hp
    rw [hv] at hv'
    cases hv'
    have e := (va.monoN g2.fr).det va'
    subst e
    obtain ⟨a', vs, Ra, ea, nn, hl', rfl⟩ := ow.ol_inv
    cases ea
    have ha := (sub a _ upd_same).1
    refine ⟨a, vs, w, rfl, rfl, ha, by rw [hl'.length]; exact sz_lt hz, l.nx Hs2 _ _ _ (k (S' := upd Ra a (.lst (vs ++ [w]))) (o' := .ol (xs ++ [.sh d])) (.ol nn ?_) (fun b u z => ?_) (fun b u z e => ?_) (fun b e => upd_keep ha e) Ch.upd) q⟩
    · have c := OwnL.snoc (Own.sh y) hl' fun a ha => absurd rfl ha
      rw [jn_em] at c
      exact c
    · by_cases eb : b = a
      · subst eb
        rw [upd_same] at z ⊢
        exact ⟨z, .inl (by rw [upd_same]; exact fun q => nomatch q)⟩
      · rw [upd_ne eb] at z ⊢
        exact ⟨(sub b u (by rw [upd_ne eb]; exact z)).1, .inl (by rw [upd_ne eb, z]; exact fun q => nomatch q)⟩
    · rw [upd_ne (fun eb => by rw [eb, upd_same] at z; cases z)]
      exact e
/-- .append(a new tree) at a path -/
theorem xs_appWN (hw : EvW K te ρ i p) (hi : ρ[i]? = some (some (.tr K nw o))) (hp : o.at_ p = some (.ol xs)) (h : EvN K ta ρ o2) (hz : xs.length < 100000) (q : R.nx (ρ.set i (some (.tr K nw (o.put p (.ol (xs ++ [o2]))))))) :
    ExS K (tDrop (tBM K "list" rAppend te (tCons ta tNil))) ρ R := fun B Hs H σ Dn r l =>
  hw B Hs H σ r _ fun Hs1 H1 v0 v g hv va => by
    have r1 := r.grow g
    obtain ⟨R1, rg1⟩ := r1.reg
    obtain ⟨v0', v1, S, hv', va', ow, sub, _⟩ := r1.part rg1 hi hp
    rw [hv] at hv'
    cases hv'
    have e := va.det va'
    subst e
    obtain ⟨a, vs, Ra, rfl, nn, hl', rfl⟩ := ow.ol_inv
    refine ⟨.inl ⟨rfl, _, .of (sub a _ upd_same).1⟩, h B Hs1 H1 σ r1 _ fun Hs2 H2 w Sn g2 own subn => ?_⟩
    have r2 := r1.grow g2
    have rg2 : Reg K B Hs2 H2 σ ρ R1 := Reg.grow rg1 g2
    obtain ⟨v0', v1, S, hv', va', ow, sub, k⟩ := r2.part rg2 hi hp
    rw [hv] at hv'
    cases hv'
    have e := (va.monoN g2.fr).det va'
    subst e
    obtain ⟨a', vs, Ra, ea, nn, hl', rfl⟩ := ow.ol_inv
    cases ea
    have ha := (sub a _ upd_same).1
    have hRa : ∀ b u, Ra b = some u → b ≠ a := fun b u z eb => by rw [eb, nn] at z; cases z
    have disj : ∀ b, Sn b ≠ none → upd Ra a (.lst vs) b = none := fun b hb => by
      cases z : Sn b with
      | none => exact absurd z hb
      | some u =>
        cases y : upd Ra a (.lst vs) b with
        | none => rfl
        | some w =>
          have := (r1.fresh rg1 (subn b u z).2.1).1 i
          exact absurd this (sub b w y).2.2
    have nSa : Sn a = none := by
      cases z : Sn a with
      | none => rfl
      | some u =>
        have := disj a (by rw [z]; exact fun q => nomatch q)
        rw [upd_same] at this
        cases this
    refine ⟨a, vs, w, rfl, rfl, ha, by rw [hl'.length]; exact sz_lt hz, l.nx Hs2 _ _ _ (k (S' := upd (jn Sn Ra) a (.lst (vs ++ [w]))) (o' := .ol (xs ++ [o2])) (.ol (jn_none.mpr ⟨nSa, nn⟩) ?_) (fun b u z => ?_) (fun b u z e => ?_) (fun b e => upd_keep ha e) Ch.upd) q⟩
    · refine OwnL.snoc own hl' fun b hb => ?_
      have := disj b hb
      by_cases eb : b = a
      · subst eb
        exact nn
      · rw [upd_ne eb] at this
        exact this
    · by_cases eb : b = a
      · subst eb
        rw [upd_same] at z ⊢
        exact ⟨z, .inl (by rw [upd_same]; exact fun q => nomatch q)⟩
      · rw [upd_ne eb] at z ⊢
        cases y : Sn b with
        | some w' =>
          rw [jn_l y] at z
          have z' := Option.some.inj z
          subst z'
          exact ⟨(subn b w' y).1, .inr ((r1.fresh rg1 (subn b w' y).2.1).grow (subn b w' y).2.2)⟩
        | none =>
          rw [jn_r y] at z
          exact ⟨(sub b u (by rw [upd_ne eb]; exact z)).1, .inl (by rw [upd_ne eb, z]; exact fun q => nomatch q)⟩
    · rw [upd_ne (fun eb => by rw [eb, upd_same] at z; cases z)]
      exact e
/-- d[k] = v, a dict of numbers at a path -/
theorem xs_putW {P : Int → Bool} {n : Nat} {k : Int} (h : EvD K ta ρ d) (hw : EvW K te ρ i p) (hi : ρ[i]? = some (some (.tr K nw o))) (hp : o.at_ p = some (.dk P n)) (hk : EvD K ti ρ (.int k)) (hz : n < 100000) (q : R.nx (ρ.set i (some (.tr K nw (o.put p (.dk (fun x => P x || decide (x = k)) (n + 1))))))) :
    ExS K (tAsg ta (gSub te ti rSetA)) ρ R := fun B Hs H σ Dn r l =>
  h B Hs H σ r _ fun Hs0 H0 w g0 y0 => hw B Hs0 H0 σ (r.grow g0) _ fun Hs1 H1 v0 v g hv va => hk B Hs1 H1 σ ((r.grow g0).grow g) _ fun Hs2 H2 z g2 z2 => by
    cases z2
    have r2 := ((r.grow g0).grow g).grow g2
    obtain ⟨R2, rg2⟩ := r2.reg
    obtain ⟨v0', v1, S, hv', va', ow, sub, kk⟩ := r2.part rg2 hi hp
    rw [hv] at hv'
    cases hv'
    have e := (va.monoN g2.fr).det va'
    subst e
    cases ow with
    | @dg a _ _ kvs hkv =>
      have ha := (sub a _ upd_same).1
      refine .inr ⟨a, _, rfl, DPut.k (k := (Sum.inl k : Key)) ha (Nat.lt_of_le_of_lt hkv.1 (sz_lt hz)), l.nx Hs2 _ _ _ (kk (S' := upd em a (.dK (putK kvs (Sum.inl k : Key) w))) (.dg ⟨?_, fun x => ?_⟩) (fun b u z => ?_) (fun b u z e => ?_) (fun b e => upd_keep ha e) Ch.upd) q⟩
      · have := length_putK kvs (Sum.inl k : Key) w
        have := hkv.1
        omega
      · rw [valV_put]
        by_cases e : x = k
        · subst e
          rw [if_pos rfl]
          simp
        · rw [if_neg (fun z => e (Sum.inl.inj z)), hkv.2 x]
          simp [e]
      · by_cases eb : b = a
        · subst eb
          rw [upd_same] at z ⊢
          exact ⟨z, .inl (by rw [upd_same]; exact fun q => nomatch q)⟩
        · rw [upd_ne eb] at z
          cases z
      · rw [upd_ne (fun eb => by rw [eb, upd_same] at z; cases z)]
        exact e
end
end DL
namespace DL
open PySem L2
open PyProof.Rows (envOfC)
variable [TbC]
section
variable {K : PySem.W.Frag} {ρ ρ' : Env} {nw : Nw} {o o1 o2 : O} {i : Nat} {p : List Nat} {te ta tb ti tw : TE} {d : D} {ds es : List D} {tt : TT} {R : DEnds} {xs : List O}
/-! ### defs that give a new tree -/
def spN (K : PySem.W.Frag) {α : Type} (pre : α → Prop) (arg : α → List D) (res : α → O) : Sp := fun vs H Q _ => ∃ (Hs : Hp) (x : α), (Ex Hs H ∧ NT Hs ∧ TB H) ∧ RepL K Hs vs (arg x) ∧ pre x ∧
  ∀ Hs' H' v S, Gr Hs H H Hs' H' → Own K Hs' v (res x) S → (∀ a u, S a = some u → H' a = some u ∧ H a = none ∧ Hs' a = none) → Q v H'
theorem en_call {α : Type} {pre : α → Prop} {arg : α → List D} {res : α → O} {E : XK} {ta : TA} (x : α) (h : EvA K ta ρ (arg x)) (p : pre x) : EvN K (tCall (spN K pre arg res) [] E ta) ρ (res x) := fun B Hs H σ r Q q =>
  h B Hs H σ r _ fun Hs1 H1 vs g1 xs => by
    rw [List.append_nil]
    refine ⟨Hs1, x, ⟨g1.lv, (r.grow g1).tb⟩, xs, p, fun Hs' H' v S g ow c => q Hs' H' v S (g1.trans g) ow fun a u e => ⟨(c a u e).1, ?_, (c a u e).2.2⟩⟩
    have n := (c a u e).2.1
    exact (g1.new0 n).1
theorem xs_retN' (h : EvN K te ρ o) (q : R.rn o) : ExS K (tRet te) ρ R := fun B Hs H σ Dn r l =>
  h B Hs H σ r _ fun Hs1 H1 v S g ow c => l.rn Hs1 H1 v o S (r.gr.trans g) ow (fun a u e => ⟨(c a u e).1, by
    have n := (c a u e).2.1
    cases z : B.h a with
    | none => rfl
    | some w => exact absurd n (r.gr.dm a (by rw [z]; exact fun y => nomatch y)), (c a u e).2.2⟩) q
theorem xs_retT (hi : ρ[i]? = some (some (.tr K true o))) (q : R.rn o) : ExS K (tRet (tVar i)) ρ R := fun B Hs H σ Dn r l => by
  obtain ⟨S, rg⟩ := r.reg
  obtain ⟨v0, hv, hh⟩ := rg.1 i _ hi
  exact ⟨v0, hv, l.rn Hs H v0 o (S i) r.gr (hh Hs (Ex.refl Hs)).2 (fun a u e => ⟨(rg.2.1 i a u e).1, rg.2.2.2 i _ a hi rfl (by rw [e]; exact fun z => nomatch z), (rg.2.1 i a u e).2.1⟩) q⟩
variable {P : Program} {w : World} {mg : Str → Option Value} {base : Heap} {x qual : Str} {st : Stmt} {f : Addr} {fd : FuncData} {N ps : List Str} {k : Nat} {α : Type} {pre : α → Prop} {arg : α → List D}
theorem fn_n {res : α → O} (F : Fun K x qual st f fd) (S : FnScope N ps (defScope st)) (hl : ∀ x, (arg x).length = ps.length) {t : TS}
    (hb : ∀ (cdv : Value) (A : Around) (outer : List PySem.Env) (s : Shared) (H : Hp) (E : XK), Room k (A.deeper (envOfC qual (defScope st) s.heap.objs.size f cdv)) → PSs (cxOf CX0 P w K mg base N qual (defScope st) f cdv A outer s H E).nox (defBody st) t)
    (hd : ∀ x, pre x → ExS K t (entry N (arg x)) { nx := fun _ => False, rt := fun _ => False, rn := fun o => o = res x }) : FnOk P w K mg base CX0 (k + 1) f fd ps (spN K pre arg res) := by
  have hN : ps.length ≤ N.length := by have := congrArg List.length S.pre; rw [List.length_take] at this; omega
  refine F.ok S (fun vs H Q E h => ?_) (fun cdv A outer s H vs Q E hr h => ?_)
  · obtain ⟨Hs, x, _, r, _⟩ := h
    rw [r.length, hl]
  · obtain ⟨Hs, x, e, r, hp, q⟩ := h
    refine ⟨t, hb cdv A outer s H E hr, ?_⟩
    exact hd x hp ⟨Hs, H, H, e.2⟩ Hs H (L2.start N vs) _ (rs_entry e r (by rw [hl]; exact hN))
      ⟨fun Hs' H' σ ρ r' z => z.elim, fun Hs' H' v d g x z => z.elim, fun Hs' H' p ws ds g n ns e x z => z.elim, fun _ _ _ _ _ z => z.elim, fun _ _ _ _ _ z => z.elim, fun _ _ _ _ _ _ _ _ z => z.elim, fun _ _ _ _ _ _ _ _ _ z => z.elim,
        fun Hs' H' v o S g ow c z => q Hs' H' v S g (z ▸ ow) c⟩
/-- an own list is a tree -/
theorem RS.tree {B : Base} {Hs H : Hp} {σ : St} (r : RS K B Hs H σ ρ) (hi : ρ[i]? = some (some (.ol ds))) : RS K B Hs H σ (ρ.set i (some (.tr K true (.ol (ds.map .sh))))) := by
  obtain ⟨S, rg⟩ := r.reg
  obtain ⟨v0, hv, pp, vs, rfl, e2, q⟩ := rg.1 i _ hi
  refine r.mutR rg i hi (fun _ => rfl) hv (T := S i) (fun Hs1 x => ?_) (fun a u e => ⟨(rg.2.1 i a u e).1, .inl (by rw [e]; exact fun z => nomatch z)⟩) (fun a u _ e => e) fun a e => e
  have e : S i = upd em pp (.lst vs) := by
    rw [e2]
    funext a
    by_cases z : a = pp
    · rw [if_pos z, z, upd_same]
    · rw [if_neg z, upd_ne z]
      rfl
  refine ⟨nopv, ?_⟩
  rw [e]
  exact .ol rfl (ownL_sh (q.mono x))
theorem xs_tree {ts : TS} (i : Nat) (hi : ρ[i]? = some (some (.ol ds))) (h : ExS K ts (ρ.set i (some (.tr K true (.ol (ds.map .sh))))) R) : ExS K ts ρ R := fun B Hs H σ Dn r l => h B Hs H σ Dn (r.tree hi) l
/-- .insert(0, e) at a path -/
abbrev rInsert : V → List V → Hp → VK → Prop := fun x vs H Q => ∃ (l : Addr) (xs : List V) (i : Int) (y : V), x = .ref l ∧ vs = [.int i, y] ∧ H l = some (.lst xs) ∧ xs.length < sizeLine ∧ 0 ≤ i ∧ i < 2 ^ 63 ∧ Q .non (upd H l (.lst (xs.take i.toNat ++ [y] ++ xs.drop i.toNat)))
theorem OwnL.ins0 {Hs : Hp} {v : V} {vs : List V} {S : Hp} (h : OwnL K Hs vs xs S) (x : Rep K Hs v d) : OwnL K Hs (v :: vs) (.sh d :: xs) S := by
  have c := OwnL.cons (Own.sh x) h fun a ha => absurd rfl ha
  rw [jn_em] at c
  exact c
theorem xs_insW (hw : EvW K te ρ i p) (hi : ρ[i]? = some (some (.tr K nw o))) (hp : o.at_ p = some (.ol xs)) (hk : EvD K ti ρ (.int 0)) (h : EvD K ta ρ d) (hz : xs.length < 100000) (q : R.nx (ρ.set i (some (.tr K nw (o.put p (.ol (.sh d :: xs))))))) :
    ExS K (tDrop (tBM K "list" rInsert te (tCons ti (tCons ta tNil)))) ρ R := fun B Hs H σ Dn r l =>
  hw B Hs H σ r _ fun Hs1 H1 v0 v g hv va => by
    have r1 := r.grow g
    obtain ⟨R1, rg1⟩ := r1.reg
    obtain ⟨v0', v1, S, hv', va', ow, sub, _⟩ := r1.part rg1 hi hp
    rw [hv] at hv'
    cases hv'
    have e := va.det va'
    subst e
    obtain ⟨a, vs, Ra, rfl, nn, hl', rfl⟩ := ow.ol_inv
    refine ⟨.inl ⟨rfl, _, .of (sub a _ upd_same).1⟩, hk B Hs1 H1 σ r1 _ fun Hs0 H0 z0 g0 y0 => h B Hs0 H0 σ (r1.grow g0) _ fun Hs2 H2 w g2 y => ?_⟩
    cases y0
    have r2 := (r1.grow g0).grow g2
    have rg2 : Reg K B Hs2 H2 σ ρ R1 := Reg.grow (Reg.grow rg1 g0) g2
    obtain ⟨v0', v1, S, hv', va', ow, sub, k⟩ := r2.part rg2 hi hp
    rw [hv] at hv'
    cases hv'
    have e := (va.monoN (g0.fr.trans g2.fr)).det va'
    subst e
    obtain ⟨a', vs, Ra, ea, nn, hl', rfl⟩ := ow.ol_inv
    cases ea
    have ha := (sub a _ upd_same).1
    refine ⟨a, vs, 0, w, rfl, rfl, ha, by rw [hl'.length]; exact sz_lt hz, by decide, by decide, l.nx Hs2 _ _ _ (k (S' := upd Ra a (.lst (w :: vs))) (o' := .ol (.sh d :: xs)) (.ol nn (hl'.ins0 y)) (fun b u z => ?_) (fun b u z e => ?_) (fun b e => upd_keep ha e) Ch.upd) q⟩
    · by_cases eb : b = a
      · subst eb
        rw [upd_same] at z ⊢
        exact ⟨z, .inl (by rw [upd_same]; exact fun q => nomatch q)⟩
      · rw [upd_ne eb] at z ⊢
        exact ⟨(sub b u (by rw [upd_ne eb]; exact z)).1, .inl (by rw [upd_ne eb, z]; exact fun q => nomatch q)⟩
    · rw [upd_ne (fun eb => by rw [eb, upd_same] at z; cases z)]
      exact e
/-- trees that are lists of lists -/
def llO (dss : List (List D)) : O := .ol (dss.map fun ds : List D => O.ol (ds.map .sh))
theorem toDs_sh : ∀ ds : List D, O.toDs (ds.map .sh) = ds
  | [] => rfl
  | d :: ds => by
    show O.toD (.sh d) :: O.toDs (ds.map .sh) = d :: ds
    rw [toDs_sh ds]
    rfl
theorem frzs_sh : ∀ ds : List D, O.frzs (ds.map .sh) = true
  | [] => rfl
  | d :: ds => by
    show (O.frz (.sh d) && O.frzs (ds.map .sh)) = true
    rw [frzs_sh ds]
    rfl
theorem llO_toD : ∀ dss : List (List D), (llO dss).toD = .lst (dss.map D.lst) := by
  intro dss
  show D.lst (O.toDs _) = _
  congr 1
  induction dss with
  | nil => rfl
  | cons ds dss ih =>
    show D.lst (O.toDs (ds.map .sh)) :: O.toDs _ = _
    rw [toDs_sh, ih]
    rfl
theorem llO_frz : ∀ dss : List (List D), (llO dss).frz = true := by
  intro dss
  show O.frzs _ = true
  induction dss with
  | nil => rfl
  | cons ds dss ih =>
    show (O.frzs (ds.map .sh) && O.frzs _) = true
    rw [frzs_sh, ih]
    rfl
theorem llO_kid {dss : List (List D)} {j : Nat} {ds : List D} (h : dss[j]? = some ds) : (llO dss).at_ [j] = some (.ol (ds.map .sh)) := by
  show ((dss.map fun ds : List D => O.ol (ds.map .sh))[j]?).bind (fun x => x.at_ []) = _
  rw [List.getElem?_map, h]
  rfl
theorem llO_put {dss : List (List D)} {j : Nat} {ds es : List D} (h : dss[j]? = some ds) : (llO dss).put [j] (.ol (es.map .sh)) = llO (dss.set j es) := by
  show (match (dss.map fun ds : List D => O.ol (ds.map .sh))[j]? with
    | none => llO dss
    | some x => (llO dss).wk ((dss.map fun ds : List D => O.ol (ds.map .sh)).set j (x.put [] (.ol (es.map .sh))))) = _
  rw [List.getElem?_map, h]
  show O.ol _ = O.ol _
  congr 1
  rw [List.map_set]
  rfl
end
end DL
namespace DL
open PySem L2
variable [TbC]
/-- an own list at a known address -/
@[reducible] def SV.trA (K : PySem.W.Frag) (a : Addr) (ds : List D) : SV := .ow true (fun Hs v R => v = .ref a ∧ ∃ vs, RepL K Hs vs ds ∧ R = upd em a (.lst vs)) fun _ _ _ h => by
  obtain ⟨_, vs, _, e⟩ := h
  rw [e]
  exact PlR.em.upd
/-- a tree without what lies at p; that is at a -/
@[reducible] def SV.hole (K : PySem.W.Frag) (o : O) (p : List Nat) (a : Addr) (u : V) : SV := .ow true (fun Hs v R => (v = u ∧ ∀ (o' : O) (S' : Hp), Own K Hs (.ref a) o' S' → (∀ b, S' b ≠ none → R b = none) → Own K Hs v (o.put p o') (jn S' R)) ∧ PlR R) fun _ _ _ h => h.2
section
variable {K : PySem.W.Frag} {B : Base} {Hs H Hs' H' : Hp} {σ : St} {ρ ρ' : Env} {o : O} {i j : Nat} {p : List Nat} {ds es : List D} {R : DEnds} {te ta : TE} {d : D}
/-- the regions of two slots dealt out anew -/
theorem RS.deal (r : RS K B Hs H σ ρ) {R : Nat → Hp} (rg : Reg K B Hs H σ ρ R) (hij : i ≠ j) {vi : V} {svi : SV} {oj : Option SV} {xj : Option V} (hl : i < ρ.length) {T S : Hp} (ht : ∀ a u, T a = some u → R i a = some u ∨ R j a = some u) (hs : ∀ a u, S a = some u → R i a = some u ∨ R j a = some u)
    (hd : ∀ a, T a ≠ none → S a = none) (h1 : Holds K Hs T vi svi) (h2 : ∀ sv, oj = some sv → ∃ v, xj = some v ∧ Holds K Hs S v sv) (hb : ∀ a, T a ≠ none ∨ S a ≠ none → B.h a = none) :
    RS K B Hs H ((σ.set j xj).set i (some vi)) ((ρ.set j oj).set i (some svi)) := by
  obtain ⟨g1, g2, g3, g4⟩ := rg
  have sub : ∀ (m : Nat) (a : Addr), (if m = i then T else if m = j then S else R m) a ≠ none → ∃ m', (m = i ∨ m = j → m' = i ∨ m' = j) ∧ (m ≠ i → m ≠ j → m' = m) ∧ R m' a = (if m = i then T else if m = j then S else R m) a := fun m a ha => by
    by_cases q : m = i
    · rw [if_pos q] at ha ⊢
      cases z : T a with
      | none => exact absurd z ha
      | some u =>
        rcases ht a u z with y | y
        · exact ⟨i, fun _ => .inl rfl, fun n => absurd q n, y⟩
        · exact ⟨j, fun _ => .inr rfl, fun n => absurd q n, y⟩
    · rw [if_neg q] at ha ⊢
      by_cases q' : m = j
      · rw [if_pos q'] at ha ⊢
        cases z : S a with
        | none => exact absurd z ha
        | some u =>
          rcases hs a u z with y | y
          · exact ⟨i, fun _ => .inl rfl, fun _ n => absurd q' n, y⟩
          · exact ⟨j, fun _ => .inr rfl, fun _ n => absurd q' n, y⟩
      · rw [if_neg q']
        exact ⟨m, fun z => by
          rcases z with z | z
          · exact absurd z q
          · exact absurd z q', fun _ _ => rfl, rfl⟩
  refine ⟨r.gr, by rw [List.length_set, List.length_set, List.length_set, List.length_set, r.len], fun m => if m = i then T else if m = j then S else R m, fun m sv e => ?_, fun m a u e => ?_, fun m l a e1 e2 => ?_, fun m sv a e1 e0 e2 => ?_⟩
  · by_cases q : m = i
    · subst q
      rw [List.getElem?_set_self (by rw [List.length_set]; exact hl)] at e
      cases e
      refine ⟨vi, List.getElem?_set_self (by rw [List.length_set, r.len]; exact hl), ?_⟩
      dsimp only
      rw [if_pos rfl]
      exact h1
    · rw [List.getElem?_set_ne (Ne.symm q)] at e ⊢
      dsimp only
      rw [if_neg q]
      by_cases q' : m = j
      · subst q'
        have hl' : m < ρ.length := by
          have := (List.getElem?_eq_some_iff.mp e).1
          rwa [List.length_set] at this
        rw [List.getElem?_set_self hl'] at e
        obtain ⟨v, e1, e2⟩ := h2 sv (Option.some.inj e)
        refine ⟨v, by rw [List.getElem?_set_self (by rw [r.len]; exact hl'), e1], ?_⟩
        rw [if_pos rfl]
        exact e2
      · rw [List.getElem?_set_ne (Ne.symm q')] at e ⊢
        rw [if_neg q']
        exact g1 m sv e
  · dsimp only at e
    obtain ⟨m', _, _, e3⟩ := sub m a (by rw [e]; exact fun z => nomatch z)
    rw [e] at e3
    exact g2 m' a u e3
  · obtain ⟨m1, a1, a2, a3⟩ := sub m a e1
    obtain ⟨m2, b1, b2, b3⟩ := sub l a e2
    have same : m1 = m2 := g3 m1 m2 a (by rw [a3]; exact e1) (by rw [b3]; exact e2)
    dsimp only at e1 e2
    by_cases q : m = i
    · by_cases q' : l = i
      · rw [q, q']
      · by_cases q'' : l = j
        · rw [if_pos q] at e1
          rw [if_neg q', if_pos q''] at e2
          exact absurd (hd a e1) e2
        · have e := b2 q' q''
          rcases a1 (.inl q) with z | z
          · exact absurd (by rw [← e, ← same, z]) q'
          · exact absurd (by rw [← e, ← same, z]) q''
    · by_cases q1 : m = j
      · by_cases q' : l = i
        · rw [if_pos q'] at e2
          rw [if_neg q, if_pos q1] at e1
          exact absurd (hd a e2) e1
        · by_cases q'' : l = j
          · rw [q1, q'']
          · have e := b2 q' q''
            rcases a1 (.inr q1) with z | z
            · exact absurd (by rw [← e, ← same, z]) q'
            · exact absurd (by rw [← e, ← same, z]) q''
      · have e := a2 q q1
        by_cases q' : l = i
        · rcases b1 (.inl q') with z | z
          · exact absurd (by rw [← e, same, z]) q
          · exact absurd (by rw [← e, same, z]) q1
        · by_cases q'' : l = j
          · rcases b1 (.inr q'') with z | z
            · exact absurd (by rw [← e, same, z]) q
            · exact absurd (by rw [← e, same, z]) q1
          · rw [← e, ← b2 q' q'', same]
  · dsimp only at e2
    by_cases q : m = i
    · rw [if_pos q] at e2
      exact hb a (.inl e2)
    · rw [if_neg q] at e2
      rw [List.getElem?_set_ne (Ne.symm q)] at e1
      by_cases q' : m = j
      · rw [if_pos q'] at e2
        exact hb a (.inr e2)
      · rw [if_neg q'] at e2
        rw [List.getElem?_set_ne (Ne.symm q')] at e1
        exact g4 m sv a e1 e0 e2
theorem set_id {α : Type} {l : List α} {i : Nat} {x : α} (h : l[i]? = some x) : l.set i x = l := by
  apply List.ext_getElem?
  intro m
  by_cases q : m = i
  · subst q
    rw [List.getElem?_set_self (List.getElem?_eq_some_iff.mp h).1, h]
  · rw [List.getElem?_set_ne (Ne.symm q)]
/-- a list in a tree comes into a slot of its own -/
theorem RS.split (r : RS K B Hs H σ ρ) (hi : ρ[i]? = some (some (.tr K true o))) (hp : o.at_ p = some (.ol (ds.map .sh))) (hij : i ≠ j) :
    ∃ v0 a, σ[i]? = some (some v0) ∧ VAt H v0 p (.ref a) ∧ RS K B Hs H (σ.set j (some (.ref a))) ((ρ.set j (some (.trA K a ds))).set i (some (.hole K o p a v0))) := by
  obtain ⟨R, rg⟩ := r.reg
  obtain ⟨v0, hv, hh⟩ := rg.1 i _ hi
  have ow : Own K Hs v0 o (R i) := (hh Hs (Ex.refl Hs)).2
  obtain ⟨v1, S, T, va, h1, d1, e1, k1⟩ := ow.part hp
  obtain ⟨a, vs, Ra, rfl, nn, hl, rfl⟩ := h1.ol_inv
  obtain ⟨rs, rfl⟩ := hl.reps
  have sub : ∀ b u, upd em a (.lst vs) b = some u → R i b = some u := fun b u e => by rw [e1, jn_l e]
  have dT : ∀ b, T b ≠ none → upd em a (.lst vs) b = none := fun b hb => by
    cases z : upd em a (.lst vs) b with
    | none => rfl
    | some u => exact absurd (d1 b (by rw [z]; exact fun y => nomatch y)) hb
  have subT : ∀ b u, T b = some u → R i b = some u := fun b u e => by
    rw [e1, jn_r (dT b (by rw [e]; exact fun y => nomatch y)), e]
  have q := r.deal rg hij (vi := v0) (svi := .hole K o p a v0) (oj := some (.trA K a ds)) (xj := some (.ref a)) (List.getElem?_eq_some_iff.mp hi).1 (T := T) (S := upd em a (.lst vs)) (fun b u e => .inl (subT b u e)) (fun b u e => .inl (sub b u e)) dT
    (fun G eg => ⟨⟨rfl, fun o' S' h' d' => k1 eg h' d'⟩, fun b u e => (rg.2.1 i b u (subT b u e)).2.2.2⟩) (fun sv e => by
      cases e
      exact ⟨.ref a, rfl, fun G eg => ⟨rfl, vs, rs.mono eg, rfl⟩⟩) (fun b hb => by
      refine rg.2.2.2 i _ b hi rfl ?_
      rcases hb with hb | hb
      · cases z : T b with
        | none => exact absurd z hb
        | some u => rw [subT b u z]; exact fun y => nomatch y
      · cases z : upd em a (.lst vs) b with
        | none => exact absurd z hb
        | some u => rw [sub b u z]; exact fun y => nomatch y)
  refine ⟨v0, a, hv, va.mono fun b u e => (rg.2.1 i b u e).1, ?_⟩
  rw [set_id (l := σ.set j (some (.ref a))) (i := i) (by rw [List.getElem?_set_ne (Ne.symm hij), hv])] at q
  exact q
/-- .. and goes back -/
theorem RS.join {a : Addr} {u : V} (r : RS K B Hs H σ ρ) (hi : ρ[i]? = some (some (.hole K o p a u))) (hj : ρ[j]? = some (some (.trA K a es))) (hij : i ≠ j) : σ[i]? = some (some u) ∧ RS K B Hs H σ ((ρ.set j none).set i (some (.tr K true (o.put p (.ol (es.map .sh)))))) := by
  obtain ⟨R, rg⟩ := r.reg
  obtain ⟨v0, hv, hh⟩ := rg.1 i _ hi
  obtain ⟨w, hw, hk⟩ := rg.1 j _ hj
  obtain ⟨rfl, vs, rs, eR⟩ := hk Hs (Ex.refl Hs)
  obtain ⟨⟨rfl, _⟩, _⟩ := hh Hs (Ex.refl Hs)
  refine ⟨hv, ?_⟩
  have dj : ∀ b, R j b ≠ none → R i b = none := fun b hb => by
    cases z : R i b with
    | none => rfl
    | some u => exact absurd (rg.2.2.1 i j b (by rw [z]; exact fun y => nomatch y) hb) hij
  have own : ∀ G, Ex Hs G → Own K G v0 (o.put p (.ol (es.map .sh))) (jn (R j) (R i)) := fun G eg => by
    have c : Own K G (.ref a) (.ol (es.map .sh)) (R j) := by
      rw [eR]
      exact .ol rfl (ownL_sh (rs.mono eg))
    exact (hh G eg).1.2 _ _ c dj
  have q := r.deal rg hij (vi := v0) (svi := .tr K true (o.put p (.ol (es.map .sh)))) (oj := none) (xj := some (.ref a)) (List.getElem?_eq_some_iff.mp hi).1 (T := jn (R j) (R i)) (S := em) (fun b u e => by
      cases z : R j b with
      | some y =>
        rw [jn_l z] at e
        exact .inr (by rw [← e])
      | none =>
        rw [jn_r z] at e
        exact .inl e) (fun b u e => nomatch e) (fun b _ => rfl) (fun G eg => ⟨nopv, own G eg⟩) (fun sv e => nomatch e) (fun b hb => by
      rcases hb with hb | hb
      · cases z : R j b with
        | some y => exact rg.2.2.2 j _ b hj rfl (by rw [z]; exact fun y => nomatch y)
        | none =>
          rw [jn_r z] at hb
          exact rg.2.2.2 i _ b hi rfl hb
      · exact absurd rfl hb)
  rw [set_id (l := σ) (i := j) (x := some (V.ref a)) hw, set_id (l := σ) (i := i) (x := some v0) hv] at q
  exact q
/-- .append(e), the own list at a known address -/
theorem xs_appA {a : Addr} (hi : ρ[i]? = some (some (.trA K a ds))) (h : EvD K ta ρ d) (hz : ds.length < 100000) (q : R.nx (ρ.set i (some (.trA K a (ds ++ [d]))))) : ExS K (tDrop (tBM K "list" rAppend (tVar i) (tCons ta tNil))) ρ R := fun B Hs H σ Dn r l => by
  obtain ⟨R0, rg0⟩ := r.reg
  obtain ⟨w, hw, hk⟩ := rg0.1 i _ hi
  obtain ⟨rfl, vs0, rs0, eR0⟩ := hk Hs (Ex.refl Hs)
  have ha0 : H a = some (.lst vs0) := (rg0.2.1 i a _ (by rw [eR0]; exact upd_same)).1
  refine ⟨.ref a, hw, .inl ⟨rfl, _, .of ha0⟩, h B Hs H σ r _ fun Hs1 H1 x g y => ?_⟩
  have r1 := r.grow g
  have rg : Reg K B Hs1 H1 σ ρ R0 := Reg.grow rg0 g
  obtain ⟨w', hw', hk⟩ := rg.1 i _ hi
  obtain ⟨rfl, vs, rs, eR⟩ := hk Hs1 (Ex.refl Hs1)
  have ha : H1 a = some (.lst vs) := (rg.2.1 i a _ (by rw [eR]; exact upd_same)).1
  refine ⟨a, vs, x, rfl, rfl, ha, by rw [rs.length]; exact sz_lt hz, l.nx Hs1 _ _ _ (r1.mutR rg i hi (sv' := .trA K a (ds ++ [d])) (fun _ => rfl) hw (T := upd em a (.lst (vs ++ [x]))) (fun G eg => ⟨rfl, _, (rs.mono eg).append (.cons (y.mono eg) .nil), rfl⟩) (fun b u z => ?_) (fun b u z e => ?_) (fun b e => upd_keep ha e) Ch.upd) q⟩
  · by_cases eb : b = a
    · subst eb
      rw [upd_same] at z ⊢
      exact ⟨z, .inl (by rw [eR, upd_same]; exact fun q => nomatch q)⟩
    · rw [upd_ne eb] at z
      cases z
  · rw [upd_ne (fun eb => by rw [eb, eR, upd_same] at z; cases z)]
    exact e
theorem er_A {a : Addr} (hi : ρ[i]? = some (some (.trA K a ds))) : EvR K (tVar i) ρ (.lst ds) := fun B Hs H σ r Q q => by
  obtain ⟨R0, rg0⟩ := r.reg
  obtain ⟨w, hw, hk⟩ := rg0.1 i _ hi
  obtain ⟨rfl, vs0, rs0, eR0⟩ := hk Hs (Ex.refl Hs)
  exact ⟨.ref a, hw, q Hs H _ (Gr.refl r.ex) (.lst (rg0.2.1 i a _ (by rw [eR0]; exact upd_same)).1 (rs0.mono r.ex))⟩
theorem Reg.drop {Q : Nat → Hp} (rg : Reg K B Hs H σ ρ Q) (j : Nat) : Reg K B Hs H σ (ρ.set j none) (fun m => if m = j then em else Q m) := by
  obtain ⟨g1, g2, g3, g4⟩ := rg
  refine ⟨fun m sv e => ?_, fun m a u e => ?_, fun m l a e1 e2 => ?_, fun m sv a e1 e0 e2 => ?_⟩
  · by_cases q : m = j
    · subst q
      by_cases hl : m < ρ.length
      · rw [List.getElem?_set_self hl] at e
        cases e
      · rw [List.getElem?_eq_none (by rw [List.length_set]; omega)] at e
        cases e
    · rw [List.getElem?_set_ne (Ne.symm q)] at e
      dsimp only
      rw [if_neg q]
      exact g1 m sv e
  · dsimp only at e
    by_cases q : m = j
    · rw [if_pos q] at e
      cases e
    · rw [if_neg q] at e
      exact g2 m a u e
  · dsimp only at e1 e2
    by_cases q : m = j
    · rw [if_pos q] at e1
      exact absurd rfl e1
    · rw [if_neg q] at e1
      by_cases q' : l = j
      · rw [if_pos q'] at e2
        exact absurd rfl e2
      · rw [if_neg q'] at e2
        exact g3 m l a e1 e2
  · dsimp only at e2
    by_cases q : m = j
    · rw [if_pos q] at e2
      exact absurd rfl e2
    · rw [if_neg q] at e2
      rw [List.getElem?_set_ne (Ne.symm q)] at e1
      exact g4 m sv a e1 e0 e2
/-- xs.append(y), y the frame's own: it belongs to xs from now on -/
theorem xs_appMv {xs : List O} {o2 : O} (hij : i ≠ j) (hi : ρ[i]? = some (some (.tr K true (.ol xs)))) (hj : ρ[j]? = some (some (.tr K true o2))) (hz : xs.length < 100000) (q : R.nx ((ρ.set j none).set i (some (.tr K true (.ol (xs ++ [o2])))))) :
    ExS K (tDrop (tBM K "list" rAppend (tVar i) (tCons (tVar j) tNil))) ρ R := fun B Hs H σ Dn r l => by
  obtain ⟨Q, rg⟩ := r.reg
  obtain ⟨v0, hv, hh⟩ := rg.1 i _ hi
  obtain ⟨w, hw, hk⟩ := rg.1 j _ hj
  have own := hk Hs (Ex.refl Hs)
  obtain ⟨a, vs, Ra, rfl, nn, hl, eR⟩ := (hh Hs (Ex.refl Hs)).2.ol_inv
  have ha : H a = some (.lst vs) := (rg.2.1 i a _ (by rw [eR]; exact upd_same)).1
  refine ⟨.ref a, hv, .inl ⟨rfl, _, .of ha⟩, w, hw, a, vs, w, rfl, rfl, ha, by rw [hl.length]; exact sz_lt hz, ?_⟩
  have dis : ∀ b, Q j b ≠ none → Q i b = none := fun b hb => by
    cases z : Q i b with
    | none => rfl
    | some u => exact absurd (rg.2.2.1 i j b (by rw [z]; exact fun y => nomatch y) hb) hij
  have nja : Q j a = none := by
    cases z : Q j a with
    | none => rfl
    | some u =>
      have := dis a (by rw [z]; exact fun y => nomatch y)
      rw [eR, upd_same] at this
      cases this
  have r2 := r.forget j (some w)
  rw [set_id hw] at r2
  have e1 : (if i = j then em else Q i) = Q i := if_neg hij
  refine l.nx Hs _ _ _ (r2.mutR (Reg.drop (ρ := ρ) rg j) i (by rw [List.getElem?_set_ne (Ne.symm hij)]; exact hi) (sv' := .tr K true (.ol (xs ++ [o2]))) (fun _ => rfl) hv (T := upd (jn (Q j) Ra) a (.lst (vs ++ [w]))) (fun G eg => ?_) (fun b u z => ?_) (fun b u z e => ?_) fun b e => upd_keep ha e) q
  · refine ⟨nopv, .ol (jn_none.mpr ⟨nja, nn⟩) (OwnL.snoc (own.2.mono eg) (hl.mono eg) fun b hb => ?_)⟩
    have := dis b hb
    rw [eR] at this
    by_cases eb : b = a
    · rw [eb]
      exact nn
    · rw [upd_ne eb] at this
      exact this
  · rw [e1]
    by_cases eb : b = a
    · subst eb
      rw [upd_same] at z ⊢
      exact ⟨z, .inl (by rw [eR, upd_same]; exact fun q => nomatch q)⟩
    · rw [upd_ne eb] at z ⊢
      cases y : Q j b with
      | some u' =>
        rw [jn_l y] at z
        have z' := Option.some.inj z
        subst z'
        have g := rg.2.1 j b u' y
        refine ⟨g.1, .inr ⟨fun m => ?_, g.2.1, g.2.2.1, rg.2.2.2 j _ b hj rfl (by rw [y]; exact fun q => nomatch q)⟩⟩
        dsimp only
        by_cases qm : m = j
        · rw [if_pos qm]
          rfl
        · rw [if_neg qm]
          cases z2 : Q m b with
          | none => rfl
          | some u2 => exact absurd (rg.2.2.1 m j b (by rw [z2]; exact fun q => nomatch q) (by rw [y]; exact fun q => nomatch q)) qm
      | none =>
        rw [jn_r y] at z
        have hq : Q i b = some u := by rw [eR, upd_ne eb]; exact z
        exact ⟨(rg.2.1 i b u hq).1, .inl (by rw [hq]; exact fun q => nomatch q)⟩
  · rw [e1] at z
    rw [upd_ne (fun eb => by rw [eb, eR, upd_same] at z; cases z)]
    exact e
/-- for x in xs, xs an own list of own lists: x is changed in the body -/
theorem xs_forLL {tb : TS} (hij : i ≠ j) {dss : List (List D)} (I : Nat → List (List D) → Env → Prop) (hi : ρ[i]? = some (some (.tr K true (llO dss)))) (h0 : I 0 dss ρ)
    (hI : ∀ k dss' ρ1, I k dss' ρ1 → ρ1[i]? = some (some (.tr K true (llO dss'))) ∧ dss'.length = dss.length)
    (hs : ∀ k dss' ρ1 ds a u, I k dss' ρ1 → dss'[k]? = some ds → ExS K tb ((ρ1.set j (some (.trA K a ds))).set i (some (.hole K (llO dss') [k] a u))) { R with
      nx := fun ρ2 => ∃ ds', ρ2[i]? = some (some (.hole K (llO dss') [k] a u)) ∧ ρ2[j]? = some (some (.trA K a ds')) ∧ I (k + 1) (dss'.set k ds') ((ρ2.set j none).set i (some (.tr K true (llO (dss'.set k ds'))))), ct := fun _ => False, bk := fun _ => False })
    (hd : ∀ dss' ρ1, I dss.length dss' ρ1 → R.nx ρ1) : ExS K (tFor (iSeq K (tVar i)) (gName j) tb) ρ R := fun B Hs H σ Dn r l => by
  obtain ⟨R0, rg0⟩ := r.reg
  obtain ⟨v0, hv, hh⟩ := rg0.1 i _ hi
  obtain ⟨a0, vs, Ra, rfl, nn, hl, eR⟩ := (hh Hs (Ex.refl Hs)).2.ol_inv
  have ha0 : H a0 = some (.lst vs) := (rg0.2.1 i a0 _ (by rw [eR]; exact upd_same)).1
  refine ⟨.ref a0, hv, a0, rfl, .inl ⟨⟨vs, .of ha0⟩, ?_⟩⟩
  refine ⟨fun k m σ' H' => m = dss.length - k ∧ k ≤ dss.length ∧ σ'[i]? = some (some (.ref a0)) ∧ ∃ Hs2 dss' ρ1, RS K B Hs2 H' σ' ρ1 ∧ I k dss' ρ1, ⟨dss.length, rfl, Nat.zero_le _, hv, Hs, dss, ρ, r, h0⟩, ?_⟩
  rintro k m σ2 H2 ⟨rfl, hk, hv2, Hs2, dss', ρ1, r2, hI2⟩
  obtain ⟨hi2, hlen⟩ := hI k dss' ρ1 hI2
  obtain ⟨R2, rg2⟩ := r2.reg
  obtain ⟨w0, hw, hh2⟩ := rg2.1 i _ hi2
  rw [hv2] at hw
  cases hw
  obtain ⟨a0', vs2, Ra2, ea, nn2, hl2, eR2⟩ := (hh2 Hs2 (Ex.refl Hs2)).2.ol_inv
  cases ea
  have ha2 : H2 a0 = some (.lst vs2) := (rg2.2.1 i a0 _ (by rw [eR2]; exact upd_same)).1
  have hvl : vs2.length = dss.length := by rw [hl2.length, List.length_map, hlen]
  by_cases hlt : k < dss.length
  · have hdk : dss'[k]? = some (dss'[k]'(by omega)) := List.getElem?_eq_getElem (by omega)
    obtain ⟨v0', a, hv', va, r3⟩ := r2.split hi2 (llO_kid hdk) hij
    rw [hv2] at hv'
    cases hv'
    have hva : vs2[k]? = some (.ref a) := by
      cases va with
      | lst h g n =>
        rw [ha2] at h
        cases h
        cases n
        exact g
      | ins h g n =>
        rw [ha2] at h
        cases h
    refine .inr ⟨⟨vs2, .ref a, .of ha2, hva⟩, fun σ' H' => σ'[i]? = some (some (.ref a0)) ∧ ∃ Hs3 dss3 ρ3, RS K B Hs3 H' σ' ρ3 ∧ I (k + 1) dss3 ρ3, fun σ' H' ⟨e, Hs3, dss3, ρ3, r3, i3⟩ => ⟨dss.length - (k + 1), by omega, rfl, hlt, e, Hs3, dss3, ρ3, r3, i3⟩, fun x H3 y => ?_⟩
    obtain ⟨rfl, y⟩ := y
    have z := y vs2 (.of ha2)
    rw [hva] at z
    cases z
    show tb _ (σ2.set j (some (.ref a))) H3
    exact hs k dss' ρ1 _ a (.ref a0) hI2 hdk B Hs2 H3 _ _ r3 ⟨fun Hs5 H5 σ5 ρ5 r5 ⟨ds', e1, e2, e3⟩ => by
      obtain ⟨e4, q⟩ := r5.join e1 e2 hij
      rw [llO_put hdk] at q
      exact ⟨e4, Hs5, _, _, q, e3⟩, l.rt, l.rf, fun _ _ _ _ _ z => z.elim, fun _ _ _ _ _ z => z.elim, l.ro, l.ex, l.rn⟩
  · have e : k = dss.length := by omega
    subst e
    exact .inl ⟨⟨vs2, .of ha2, by rw [hvl]; exact Nat.le_refl _⟩, l.nx Hs2 H2 σ2 ρ1 r2 (hd dss' ρ1 hI2)⟩
end
end DL
namespace DL
open PySem L2
variable [TbC]
section
variable {K : PySem.W.Frag} {ρ ρ' : Env} {te ta tb : TE} {d e : D} {ds es : List D} {R : DEnds} {C : Addr} {ns : List Str} {o : O}
theorem en_methD {alts : List (Addr × Sp)} {m : Str} {E : XK} {t : TA} {α : Type} {pre : α → Prop} {arg : α → List D} {res : α → O} (x : α) (h : EvD K ta ρ (.obj C ns ds)) (ht : EvA K t ρ es) (hin : (C, spN K pre arg res) ∈ alts) (hm : ns.contains m = false)
    (ha : arg x = .obj C ns ds :: es) (p : pre x) : EvN K (tMethD alts m E ta t) ρ (res x) := fun B Hs H σ r Q q =>
  h B Hs H σ r _ fun Hs1 H1 v g1 xo => by
    cases xo with
    | @obj a _ dx _ vs _ hp xs =>
      refine ⟨a, C, dx, _, _, rfl, g1.lv _ _ hp, hin, look_none hm, ht B Hs1 H1 σ (r.grow g1) _ fun Hs2 H2 ws g2 ys => ?_⟩
      refine ⟨Hs2, x, ⟨g2.lv, (r.grow (g1.trans g2)).tb⟩, by rw [ha]; exact .cons (.obj (g2.sh _ _ hp) (xs.mono g2.sh)) ys, p, fun Hs' H' w S g ow c => ?_⟩
      have gg := (g1.trans g2).trans g
      refine q Hs' H' w S gg ow fun b u e => ⟨(c b u e).1, ?_, (c b u e).2.2⟩
      have n := (c b u e).2.1
      exact ((g1.trans g2).new0 n).1
/-- [a new tree] -/
theorem en_one (h : EvN K te ρ o) : EvN K (tLst (tCons te tNil)) ρ (.ol [o]) := fun B Hs H σ r Q q =>
  h B Hs H σ r _ fun Hs1 H1 v S g ow c => by
    refine ⟨Nat.le_of_ble_eq_true rfl, fun p hp => ?_⟩
    obtain ⟨n1, n2⟩ := gr_none g hp
    have nS : S p = none := by
      cases z : S p with
      | none => rfl
      | some u =>
        rw [(c p u z).1] at hp
        cases hp
    have l1 : OwnL K Hs1 [v] [o] (jn S em) := .cons ow .nil fun _ _ => rfl
    rw [jn_em'] at l1
    refine q Hs1 _ _ _ (g.trans (Gr.newO g.lv hp)) (.ol nS l1) fun a u e => ?_
    by_cases y : a = p
    · subst y
      rw [upd_same] at e ⊢
      exact ⟨e, n1, n2⟩
    · rw [upd_ne y] at e ⊢
      exact c a u e
theorem ixN_last {n : Nat} (h : 0 < n) : ixN n (-1) = some (n - 1) := by
  unfold ixN
  rw [if_neg (by decide), if_pos (by omega)]
  congr 1
  omega
end
end DL

/-! DExc: defs that exceptions leave; try. -/
namespace DL
open PySem L2
open PyProof.Rows (envOfC)
variable [TbC]
theorem passX0 {X : Cx} : Passes (L2.CX X.prog X.w) X E0 := fun _ _ _ _ _ _ _ ⟨_, _, _, _, _, _, _, _, _, _, _, _, z⟩ => z.elim
/-- called with arg x, where pre x: gives something of post x, or an exception of exc x leaves -/
def spX (K : PySem.W.Frag) {α : Type} (pre : α → Prop) (arg : α → List D) (post : α → D → Prop) (exc : α → Value → Option (List (Str × D)) → Prop) : Sp := fun vs H Q E => ∃ (Hs : Hp) (x : α), (Ex Hs H ∧ NT Hs ∧ TB H) ∧ RepL K Hs vs (arg x) ∧ pre x ∧
  (∀ Hs' H' v d, Gr Hs H H Hs' H' → Rep K Hs' v d → post x d → Q v H') ∧ ∀ Hs' H' cls dd fs, Gr Hs H H Hs' H' → XRep K Hs' H' dd fs → exc x cls fs → E cls dd H'
section
variable {K : PySem.W.Frag} {ρ ρ' : Env} {te ta tb : TE} {d e : D} {ds es : List D} {tt : TT} {R : DEnds}
variable {P : Program} {w : World} {mg : Str → Option Value} {base : Heap} {x qual : Str} {st : Stmt} {f : Addr} {fd : FuncData} {N ps : List Str} {k : Nat} {α : Type} {pre : α → Prop} {arg : α → List D}
theorem fn_x {post : α → D → Prop} {exc : α → Value → Option (List (Str × D)) → Prop} (F : Fun K x qual st f fd) (S : FnScope N ps (defScope st)) (hl : ∀ x, (arg x).length = ps.length) {t : XK → TS}
    (hb : ∀ (cdv : Value) (A : Around) (outer : List PySem.Env) (s : Shared) (H : Hp) (E : XK), Room k (A.deeper (envOfC qual (defScope st) s.heap.objs.size f cdv)) → PSs (cxOf (L2.CX P w) P w K mg base N qual (defScope st) f cdv A outer s H E) (defBody st) (t E))
    (hd : ∀ x, pre x → ∀ E : XK, ExS K (t E) (entry N (arg x)) { nx := fun _ => post x .non, rt := post x, ex := fun _ cls fs => exc x cls fs, W := fun cls dd _ H => E cls dd H }) : FnOk P w K mg base (L2.CX P w) (k + 1) f fd ps (spX K pre arg post exc) := by
  have hN : ps.length ≤ N.length := by have := congrArg List.length S.pre; rw [List.length_take] at this; omega
  refine F.okX S (fun vs H Q E h => ?_) (fun cdv A outer s H vs Q E hr h => ?_)
  · obtain ⟨Hs, x, _, r, _⟩ := h
    rw [r.length, hl]
  · obtain ⟨Hs, x, e, r, hp, q, qx⟩ := h
    refine ⟨t E, hb cdv A outer s H E hr, ?_⟩
    exact hd x hp E ⟨Hs, H, H, e.2⟩ Hs H (L2.start N vs) _ (rs_entry e r (by rw [hl]; exact hN))
      ⟨fun Hs' H' σ ρ r' z => q Hs' H' .non .non r'.gr .non z, fun Hs' H' v d g x z => q Hs' H' v d g x z, fun _ _ _ _ _ _ _ _ _ _ z => z.elim, fun _ _ _ _ _ z => z.elim, fun _ _ _ _ _ z => z.elim, fun _ _ _ _ _ _ _ _ z => z.elim,
        fun Hs' H' σ ρ cls dd fs r' y z => qx Hs' H' cls dd fs r'.gr y z, fun _ _ _ _ _ _ _ _ z => z.elim⟩
/-- the defs that no exception leaves, where others are left by some -/
theorem fn_rX {post : α → D → Prop} (F : Fun K x qual st f fd) (S : FnScope N ps (defScope st)) (hl : ∀ x, (arg x).length = ps.length) {t : TS}
    (hb : ∀ (cdv : Value) (A : Around) (outer : List PySem.Env) (s : Shared) (H : Hp) (E : XK), Room k (A.deeper (envOfC qual (defScope st) s.heap.objs.size f cdv)) → PSs (cxOf (L2.CX P w) P w K mg base N qual (defScope st) f cdv A outer s H E) (defBody st) t)
    (hd : ∀ x, pre x → ExS K t (entry N (arg x)) { nx := fun _ => post x .non, rt := post x }) : FnOk P w K mg base (L2.CX P w) (k + 1) f fd ps (spR K pre arg post) := by
  have hN : ps.length ≤ N.length := by have := congrArg List.length S.pre; rw [List.length_take] at this; omega
  refine F.okX S (fun vs H Q E h => ?_) (fun cdv A outer s H vs Q E hr h => ?_)
  · obtain ⟨Hs, x, _, r, _⟩ := h
    rw [r.length, hl]
  · obtain ⟨Hs, x, e, r, hp, q⟩ := h
    refine ⟨t, hb cdv A outer s H E hr, ?_⟩
    exact hd x hp ⟨Hs, H, H, e.2⟩ Hs H (L2.start N vs) _ (rs_entry e r (by rw [hl]; exact hN))
      ⟨fun Hs' H' σ ρ r' z => q Hs' H' .non .non r'.gr .non z, fun Hs' H' v d g x z => q Hs' H' v d g x z, fun _ _ _ _ _ _ _ _ _ _ z => z.elim, fun _ _ _ _ _ z => z.elim, fun _ _ _ _ _ z => z.elim, fun _ _ _ _ _ _ _ _ z => z.elim,
        fun _ _ _ _ _ _ _ _ _ z => z.elim, fun _ _ _ _ _ _ _ _ z => z.elim⟩
theorem fn_fX {res : α → List D} (F : Fun K x qual st f fd) (S : FnScope N ps (defScope st)) (hl : ∀ x, (arg x).length = ps.length) {t : TS}
    (hb : ∀ (cdv : Value) (A : Around) (outer : List PySem.Env) (s : Shared) (H : Hp) (E : XK), Room k (A.deeper (envOfC qual (defScope st) s.heap.objs.size f cdv)) → PSs (cxOf (L2.CX P w) P w K mg base N qual (defScope st) f cdv A outer s H E) (defBody st) t)
    (hd : ∀ x, pre x → ExS K t (entry N (arg x)) { nx := fun _ => False, rt := fun _ => False, rf := fun ds => ds = res x }) : FnOk P w K mg base (L2.CX P w) (k + 1) f fd ps (spF K pre arg res) := by
  have hN : ps.length ≤ N.length := by have := congrArg List.length S.pre; rw [List.length_take] at this; omega
  refine F.okX S (fun vs H Q E h => ?_) (fun cdv A outer s H vs Q E hr h => ?_)
  · obtain ⟨Hs, x, _, r, _⟩ := h
    rw [r.length, hl]
  · obtain ⟨Hs, x, e, r, hp, q⟩ := h
    refine ⟨t, hb cdv A outer s H E hr, ?_⟩
    exact hd x hp ⟨Hs, H, H, e.2⟩ Hs H (L2.start N vs) _ (rs_entry e r (by rw [hl]; exact hN))
      ⟨fun Hs' H' σ ρ r' z => z.elim, fun Hs' H' v d g x z => z.elim, fun Hs' H' p ws ds g n ns e x z => q Hs' H' p ws g n ns e (z ▸ x), fun _ _ _ _ _ z => z.elim, fun _ _ _ _ _ z => z.elim, fun _ _ _ _ _ _ _ _ z => z.elim,
        fun _ _ _ _ _ _ _ _ _ z => z.elim, fun _ _ _ _ _ _ _ _ z => z.elim⟩
/-! ### calls that may raise -/
theorem xs_asgX {post : α → D → Prop} {exc : α → Value → Option (List (Str × D)) → Prop} {W : WX} {ta : TA} {i : Nat} (x : α) (h : EvA K ta ρ (arg x)) (p : pre x) (hW : R.W = W) (q : ∀ d, post x d → R.nx (ρ.set i (some (.sh d)))) (qx : ∀ cls fs, exc x cls fs → R.ex ρ cls fs) :
    ExS K (tAsg (tCallS (spX K pre arg post exc) (WE W) ta) (gName i)) ρ R := fun B Hs H σ Dn r l =>
  h B Hs H σ r _ fun Hs1 H1 vs g1 xs => ⟨Hs1, x, ⟨g1.lv, (r.grow g1).tb⟩, xs, p, fun Hs' H' v d g y e => l.nx Hs' H' _ _ ((r.grow (g1.trans g)).set i y) (q d e), fun Hs' H' cls dd fs g y e => by
    subst hW
    exact l.ex Hs' H' σ ρ cls dd fs (r.grow (g1.trans g)) y (qx cls fs e)⟩
theorem xs_dropX {post : α → D → Prop} {exc : α → Value → Option (List (Str × D)) → Prop} {W : WX} {ta : TA} (x : α) (h : EvA K ta ρ (arg x)) (p : pre x) (hW : R.W = W) (q : ∀ d, post x d → R.nx ρ) (qx : ∀ cls fs, exc x cls fs → R.ex ρ cls fs) :
    ExS K (tDrop (tCallS (spX K pre arg post exc) (WE W) ta)) ρ R := fun B Hs H σ Dn r l =>
  h B Hs H σ r _ fun Hs1 H1 vs g1 xs => ⟨Hs1, x, ⟨g1.lv, (r.grow g1).tb⟩, xs, p, fun Hs' H' v d g y e => l.nx Hs' H' _ _ (r.grow (g1.trans g)) (q d e), fun Hs' H' cls dd fs g y e => by
    subst hW
    exact l.ex Hs' H' σ ρ cls dd fs (r.grow (g1.trans g)) y (qx cls fs e)⟩
theorem xs_retX {post : α → D → Prop} {exc : α → Value → Option (List (Str × D)) → Prop} {W : WX} {ta : TA} (x : α) (h : EvA K ta ρ (arg x)) (p : pre x) (hW : R.W = W) (q : ∀ d, post x d → R.rt d) (qx : ∀ cls fs, exc x cls fs → R.ex ρ cls fs) :
    ExS K (tRet (tCallS (spX K pre arg post exc) (WE W) ta)) ρ R := fun B Hs H σ Dn r l =>
  h B Hs H σ r _ fun Hs1 H1 vs g1 xs => ⟨Hs1, x, ⟨g1.lv, (r.grow g1).tb⟩, xs, p, fun Hs' H' v d g y e => l.rt Hs' H' v d (r.gr.trans (g1.trans g)) y (q d e), fun Hs' H' cls dd fs g y e => by
    subst hW
    exact l.ex Hs' H' σ ρ cls dd fs (r.grow (g1.trans g)) y (qx cls fs e)⟩
/-- no exception comes of these arguments -/
theorem ev_callX {post : α → D → Prop} {exc : α → Value → Option (List (Str × D)) → Prop} {E : St → XK} {ta : TA} (x : α) (h : EvA K ta ρ (arg x)) (p : pre x) (hp : ∀ e, post x e → e = d) (hx : ∀ cls fs, ¬ exc x cls fs) :
    EvD K (tCallS (spX K pre arg post exc) E ta) ρ d := fun B Hs H σ r Q q =>
  h B Hs H σ r _ fun Hs1 H1 vs g1 xs => ⟨Hs1, x, ⟨g1.lv, (r.grow g1).tb⟩, xs, p, fun Hs' H' v d g y e => q Hs' H' v (g1.trans g) (hp d e ▸ y), fun Hs' H' cls dd fs g y e => absurd e (hx cls fs)⟩
theorem ev_callX0 {post : α → D → Prop} {exc : α → Value → Option (List (Str × D)) → Prop} {E : XK} {ta : TA} (x : α) (h : EvA K ta ρ (arg x)) (p : pre x) (hp : ∀ e, post x e → e = d) (hx : ∀ cls fs, ¬ exc x cls fs) :
    EvD K (tCall (spX K pre arg post exc) [] E ta) ρ d := fun B Hs H σ r Q q =>
  h B Hs H σ r _ fun Hs1 H1 vs g1 xs => by
    rw [List.append_nil]
    exact ⟨Hs1, x, ⟨g1.lv, (r.grow g1).tb⟩, xs, p, fun Hs' H' v d g y e => q Hs' H' v (g1.trans g) (hp d e ▸ y), fun Hs' H' cls dd fs g y e => absurd e (hx cls fs)⟩
/-- raise C('..'), C an own class without fields -/
def tRaise (C : Addr) (W : WX) : TS := fun _ σ H => W (.ref C) none σ H
theorem xs_raise {C : Addr} {W : WX} (hW : R.W = W) (q : R.ex ρ (.ref C) none) : ExS K (tRaise C W) ρ R := fun B Hs H σ Dn r l => by
  subst hW
  exact l.ex Hs H σ ρ (.ref C) none none r trivial q
theorem ps_raiseO {X : Cx} {C : Addr} {W : WX} {m x : Str} {j : Nat} {p p2 pos pos' : Pos} {newId initId : String} {B : String} {bmB : List Value} (hc : X.calm = true) (tk : Takes X W) (F : ExcBaseFacts B newId initId bmB) (q : PySem.W.excIn X.K C bmB newId = true) (gC : X.mg x = some (.ref C)) (kC : PySem.W.keepIn X.K (.ref C) = true)
    (r : Raises X (.ref C)) (hg : Gl X x) (hdb : (x == ("__debug__" : Str)) = false := by decide) : PS X (.Raise (some (.Call (.Name x p) [.Constant (.str m) j p2] [] pos)) none pos') (tRaise C W) := ps_raise hc tk (pmk_own F q gC kC r hg hdb)
/-! ### try -/
/-- a slot holds the exception at a -/
@[reducible] def SV.exv (a : Addr) : SV := .ow false (fun _ v R => v = .ref a ∧ R = em) fun _ _ _ h => by
  rw [h.2]
  exact PlR.em
theorem RS.setE {B : Base} {Hs H : Hp} {σ : St} (r : RS K B Hs H σ ρ) (i : Nat) (a : Addr) : RS K B Hs H (σ.set i (some (.ref a))) (ρ.set i (some (.exv a))) :=
  r.setR (Gr.refl r.ex) i (T := em) (fun _ _ z => nomatch z) (sv := .exv a) fun _ _ => ⟨rfl, rfl⟩
def tTryO (K : PySem.W.Frag) (c : Value) (tb : WX → TS) (ts : Addr → Value → Option Addr → TS) (Wout : WX) : TS := fun D σ H => tb (wOnly K c ts Wout D) D σ H
def tTryA (K : PySem.W.Frag) (c : Value) (i : Nat) (tb : WX → TS) (ts : Addr → Value → Option Addr → TS) (Wout : WX) : TS := fun D σ H => tb (wAs K c i ts Wout D) D σ H
/-- try: .. except c: .. -/
theorem xs_tryO {c : Value} {tb : WX → TS} {ts : Addr → Value → Option Addr → TS} {Wout : WX} (EX : Env → Value → Option (List (Str × D)) → Prop) (hb : ∀ W, ExS K (tb W) ρ { R with ex := EX, W := W })
    (hx : ∀ ρ' cls fs, EX ρ' cls fs → ∃ b, PySem.W.exmOne K cls c = some b ∧ (b = true → ∀ a dd, (fs = none → dd = none) → ExS K (ts a cls dd) ρ' R) ∧ (b = false → R.W = Wout ∧ R.ex ρ' cls fs)) : ExS K (tTryO K c tb ts Wout) ρ R := fun B Hs H σ Dn r l =>
  hb _ B Hs H σ Dn r ⟨l.nx, l.rt, l.rf, l.bk, l.ct, l.ro, fun Hs' H' σ' ρ' cls dd fs r' y q => by
    obtain ⟨b, h1, h2, h3⟩ := hx ρ' cls fs q
    refine ⟨b, h1, fun hb a ha => h2 hb a dd (fun e => by
      subst e
      cases dd with
      | none => rfl
      | some a => exact y.elim) B Hs' H' σ' Dn r' l, fun hb => ?_⟩
    obtain ⟨e1, e2⟩ := h3 hb
    subst e1
    exact l.ex Hs' H' σ' ρ' cls dd fs r' y e2, l.rn⟩
/-- try: .. except c as e: .., e at slot i -/
theorem xs_tryA {c : Value} {i : Nat} {tb : WX → TS} {ts : Addr → Value → Option Addr → TS} {Wout : WX} (EX : Env → Value → Option (List (Str × D)) → Prop) (hb : ∀ W, ExS K (tb W) ρ { R with ex := EX, W := W })
    (hx : ∀ ρ' cls fs, EX ρ' cls fs → ∃ b, PySem.W.exmOne K cls c = some b ∧ (b = true → ∀ a dd, (fs = none → dd = none) → ExS K (ts a cls dd) (ρ'.set i (some (.exv a))) { R with nx := fun ρ2 => R.nx (ρ2.set i none), bk := fun ρ2 => R.bk (ρ2.set i none), ct := fun ρ2 => R.ct (ρ2.set i none) }) ∧ (b = false → R.W = Wout ∧ R.ex ρ' cls fs)) :
    ExS K (tTryA K c i tb ts Wout) ρ R := fun B Hs H σ Dn r l =>
  hb _ B Hs H σ Dn r ⟨l.nx, l.rt, l.rf, l.bk, l.ct, l.ro, fun Hs' H' σ' ρ' cls dd fs r' y q => by
    obtain ⟨b, h1, h2, h3⟩ := hx ρ' cls fs q
    refine ⟨b, h1, fun hb a ha => h2 hb a dd (fun e => ?_) B Hs' H' _ _ (r'.setE i a) ⟨fun Hs2 H2 σ2 ρ2 r2 q2 => l.nx Hs2 H2 _ _ (r2.forget i none) q2, l.rt, l.rf, fun Hs2 H2 σ2 ρ2 r2 q2 => l.bk Hs2 H2 _ _ (r2.forget i none) q2, fun Hs2 H2 σ2 ρ2 r2 q2 => l.ct Hs2 H2 _ _ (r2.forget i none) q2, l.ro, l.ex, l.rn⟩, fun hb => ?_⟩
    · subst e
      cases dd with
      | none => rfl
      | some a => exact y.elim
    · obtain ⟨e1, e2⟩ := h3 hb
      subst e1
      exact l.ex Hs' H' σ' ρ' cls dd fs r' y e2, l.rn⟩
/-- what is known of an exception's class, told to its suite -/
def tKnown (p : Prop) (t : TS) : TS := fun D σ H => p ∧ t D σ H
theorem pss_known {X : Cx} {p : Prop} {sts : List Stmt} {t : TS} (h : p → PSs X sts t) : PSs X sts (tKnown p t) := ⟨fun pins s σ H D I q => (h q.1).run pins s σ H D I q.2⟩
theorem xs_known {p : Prop} {t : TS} (h : p) (q : ExS K t ρ R) : ExS K (tKnown p t) ρ R := fun B Hs H σ Dn r l => ⟨h, q B Hs H σ Dn r l⟩
/-- isinstance(e, c) in the suite -/
theorem ev_isE {C a : Addr} {i : Nat} {c : V} {cv : Value} {b : Bool} (hi : ρ[i]? = some (some (.exv a))) (hc : ∀ u, RelV c u → u = cv) (hk : PySem.W.kitOne K (.ref C) cv = some b) : EvD K (tCB (rIsE K C a) (tCons (tVar i) (tCons (tC c) tNil))) ρ (.bl b) := fun B Hs H σ r Q q => by
  obtain ⟨S, rg⟩ := r.reg
  obtain ⟨v0, hv, hh⟩ := rg.1 i _ hi
  obtain ⟨rfl, _⟩ := hh Hs (Ex.refl Hs)
  exact ⟨.ref a, hv, c, cv, b, rfl, hc, hk, q Hs H _ (Gr.refl r.ex) (.bl b)⟩
/-- what is asked of an own class, so that isinstance asks its instances rightly -/
structure InsC (K : PySem.W.Frag) (C : Addr) : Prop where
  cl : Cls K C
  ha : PySem.W.findIn K (.ref C) "__class__" = some (some (.builtin "object.__class__"))
  hn : PySem.W.specialIn K (.builtin "object.__class__") "__get__" = some (some (.builtin "getset_descriptor.__get__"))
  ht : PySem.W.takesIn K (.builtin "object.__class__") = some true
  hm : PySem.W.mroIn K C (.type "object") = some true
theorem ev_isiO {C Dc : Addr} {ns : List Str} {b : Bool} (ha : EvD K ta ρ (.obj C ns ds)) (I : InsC K C) (hk : PySem.W.kitOne K (.ref C) (.ref Dc) = some b) : EvD K (tCB (rIsi K) (tCons ta (tCons (tC (.ref Dc)) tNil))) ρ (.bl b) := fun B Hs H σ r Q q =>
  ha B Hs H σ r _ fun Hs1 H1 v g x => by
    cases x with
    | obj hp xs => exact ⟨_, .ref Dc, .ref C, .ref Dc, b, rfl, .own Dc, .base (.ins (g.lv _ _ hp) I.cl I.ha I.hn I.ht I.hm), hk, q Hs1 H1 _ g (.bl b)⟩
/-- isinstance of a built-in class, the data of any kind -/
theorem ev_isiD {n : String} {b : Bool} (ha : EvR K ta ρ d) (hk : kitB d.tyn n = some b) (hd : d.tyn ≠ "") : EvD K (tCB (rIsi K) (tCons ta (tCons (tC (.ty n)) tNil))) ρ (.bl b) := ev_isi ha rfl hk hd
end
section
variable {X : Cx} {K : PySem.W.Frag}
theorem isEK {a C : Addr} {oe : Obj} {pn : List (Addr × Obj)} (h : X.K = K) (Cc : ExcC K C) (hz : Zc (.ref C) none oe) (hf : ∃ vs, oe.data = .fields vs) : CallR (X.suite a ((a, oe) :: pn)) (.builtin "isinstance") (rIsE K C a) := by subst h; exact call_isE Cc hz hf
theorem tryAK {x n : Str} {c : Value} {i : Nat} {body suite : List Stmt} {b₀ : Stmt} {np pos pos' : Pos} {tb : WX → TS} {ts : Addr → Value → Option Addr → TS} {Wout : WX} (h : X.K = K) (hs : X.stack = X.env :: X.outer) (hf : X.env.frame = some X.env.locals) (hN : X.N.Nodup) (hi : X.N[i]? = some n) (hln : X.env.kindOf n = some .local) (hc : Names X x c) (tk : Takes X Wout)
    (hb : ∀ (W : WX) (pn : List (Addr × Obj)) (xe : Value → Shared → Prop), Takes (X.tr pn xe) W → PassesOwn (model X.prog X.w) X.A X.env xe → PSs (X.tr pn xe) body (tb W))
    (hsu : ∀ (a : Addr) (oe : Obj) (cls : Value) (d : Option Addr) (pn : List (Addr × Obj)), Zc cls d oe → (∃ vs, oe.data = .fields vs) → PSs (X.suite a ((a, oe) :: pn)) (b₀ :: suite) (ts a cls d)) :
    PS X (.Try body [.ExceptHandler (some (.Name x np)) (some n) (b₀ :: suite) pos'] [] [] pos) (tTryA K c i tb ts Wout) := by subst h; exact ps_try_as hs hf hN hi hln hc tk hb hsu
theorem tryOK {x : Str} {c : Value} {body suite : List Stmt} {b₀ : Stmt} {np pos pos' : Pos} {tb : WX → TS} {ts : Addr → Value → Option Addr → TS} {Wout : WX} (h : X.K = K) (hs : X.stack = X.env :: X.outer) (hf : X.env.frame = some X.env.locals) (hc : Names X x c) (tk : Takes X Wout)
    (hb : ∀ (W : WX) (pn : List (Addr × Obj)) (xe : Value → Shared → Prop), Takes (X.tr pn xe) W → PassesOwn (model X.prog X.w) X.A X.env xe → PSs (X.tr pn xe) body (tb W))
    (hsu : ∀ (a : Addr) (oe : Obj) (cls : Value) (d : Option Addr) (pn : List (Addr × Obj)), Zc cls d oe → (∃ vs, oe.data = .fields vs) → PSs (X.suite a ((a, oe) :: pn)) (b₀ :: suite) (ts a cls d)) :
    PS X (.Try body [.ExceptHandler (some (.Name x np)) none (b₀ :: suite) pos'] [] [] pos) (tTryO K c tb ts Wout) := by subst h; exact ps_try_only hs hf hc tk hb hsu
end
end DL

/-! DDict: enumerate of lists and tuples; dicts from numbers to numbers; min, max of three; insert. -/
namespace DL
open PySem L2 PySem.Spec PyProof.Rows
variable [TbC]
/-! ### enumerate(tuple) -/
def Itet (K : PySem.W.Frag) (a : Addr) : It :=
  ⟨fun i H => ∃ (xs : List V) (x : V), SqT K H a xs ∧ xs[i]? = some x, fun i H v H' => ∃ T x, v = .ref T ∧ H T = none ∧ H' = upd H T (.tup [.int (i : Nat), x]) ∧ ∀ xs, SqT K H a xs → xs[i]? = some x, fun i H => ∃ xs : List V, SqT K H a xs ∧ xs.length = i⟩
theorem meets_enumerate_1B {v : Value} {o : Obj} {H : Heap → Prop} (B : Begins v o H) :
    Meets (Builtin.«enumerate.__new__» ⟨[.type "enumerate", v], []⟩) (fun _ R s => H s.heap ∧
      R (.ok (.ret (.ref (s.heap.push o).objs.size))) { s with heap := (s.heap.push o).push { cls := .type "enumerate", data := .fields #[.none, .bool false, .ref s.heap.objs.size, rawInt 0, .none, .none] } }) :=
  .of_wp fun prog w A R s h => by
    obtain ⟨hp, g, d, tk, os⟩ := s; obtain ⟨h1, h⟩ := h
    have hsub := sub_enumerate
    have q1 : ∀ {A' : Around} {E : Value → Shared → Prop} {Q : Value → Shared → Prop}, Q (.ref hp.objs.size) ⟨hp.push o, g, d, tk, os⟩ → wpAny (model prog w) A' (pyIter v) Q E ⟨hp, g, d, tk, os⟩ :=
      fun q => B.iter prog w _ _ ⟨hp, g, d, tk, os⟩ _ h1 q
    wp_walk using q1
    refine wpAny_stack_any fun st => wpAny_pure ?_
    split
    · rename_i c _ _ _ _ _
      cases (c == Value.type "enumerate")
      · wp_walk using q1
        exact ⟨_, rfl, h⟩
      · wp_walk using q1
        exact ⟨_, rfl, h⟩
    · wp_walk using q1
      exact ⟨_, rfl, h⟩
section
variable {prog : Program} {w : World} {A : Around} {E : Value → Shared → Prop} {s : Shared}
theorem enum_begins1 {v : Value} {o : Obj} {H : Heap → Prop} {Q : Value → Shared → Prop} (B : Begins v o H) (h1 : H s.heap)
    (h : ∀ h', IsEnum h' (s.heap.objs.size + 1) s.heap.objs.size 0 .none → h'.get? s.heap.objs.size = some o → h'.objs.size = s.heap.objs.size + 2 →
      (∀ b o, s.heap.get? b = some o → h'.get? b = some o) → Q (.ref (s.heap.objs.size + 1)) { s with heap := h' }) :
    wpAny (model prog w) A (call (.type "enumerate") [v]) Q E s := by
  refine callType_new F.called_enumerate (by decide) (F.typeCall_enumerate_1 _) (F.newCall_enumerate_1 _) (fun obj => F.args_object_init_2 obj _) F.entry_enumerate_new
    (meets_enumerate_1B B) ⟨h1, ?_⟩
  have hz : (s.heap.push o).objs.size = s.heap.objs.size + 1 := Heap.size_push ..
  show _ ∧ _
  rw [hz]
  have he : IsEnum ((s.heap.push o).push { cls := .type "enumerate", data := .fields #[.none, .bool false, .ref s.heap.objs.size, rawInt 0, .none, .none] }) (s.heap.objs.size + 1) s.heap.objs.size 0 .none := by
    have := Heap.get?_push_size (s.heap.push o) (o := { cls := .type "enumerate", data := .fields #[.none, .bool false, .ref s.heap.objs.size, rawInt 0, .none, .none] }) rfl
    rw [hz] at this; exact this
  refine ⟨⟨_, he, rfl⟩, h _ he (Heap.get?_push_of_some _ (Heap.get?_push_size _ B.free)) (by rw [Heap.size_push, hz]) fun b o x => Heap.get?_push_of_some _ (Heap.get?_push_of_some _ x)⟩
end
theorem turn_enumT {P : Program} {w : World} {K : PySem.W.Frag} {elts : List Expr} {kk : Nat} {tpos : Pos} (a e it : Addr) :
    Turn P w K (.Tuple elts kk tpos) (Itet K a) [e, it] e (fun i h => (∃ old, IsEnum h e it ((i : Nat) : Int) old) ∧ h.IsTupleIter it a i ∧ e ≠ it) where
  mem := by simp
  obj := fun i h st b hb => by
    obtain ⟨⟨old, he⟩, ⟨o, ho, hc, hd⟩, _⟩ := st
    have e' : b = e ∨ b = it := by simpa using hb
    rcases e' with z | z
    · rw [z]; exact ⟨_, he, fun v q => nomatch q⟩
    · rw [z]; exact ⟨o, ho, fun v q => by rw [hd] at q; cases q⟩
  keep := fun i h h' st k => let ⟨⟨old, he⟩, hi, hne⟩ := st; ⟨⟨old, k e (by simp) _ he⟩, hi.at fun o q => k it (by simp) o q, hne⟩
  item := by
    intro X hP hw hK hc i pins s σ H E I hf st hg
    subst hP hw hK
    obtain ⟨⟨old, he⟩, hit, hne⟩ := st
    obtain ⟨xs, x, hq, hx⟩ := hg
    obtain ⟨its, rv, p, hz⟩ := I.tuple hq
    obtain ⟨u, hu, ru⟩ := rv.get hx
    have hel : e < s.heap.objs.size := Heap.lt_size he
    have hil : it < s.heap.objs.size := by obtain ⟨_, q, _⟩ := hit; exact Heap.lt_size q
    have pT : s.heap.IsTuple a its.toArray := p
    have ha1 : a ≠ it := fun z => by
      obtain ⟨o, q1, q2, _⟩ := hit
      obtain ⟨o', q1', q2', _⟩ := pT
      rw [z, q1] at q1'
      cases q1'
      rw [q2] at q2'
      exact absurd (Value.type.inj q2') (by decide)
    have ha2 : e ≠ a := fun z => by
      obtain ⟨o', q1', q2', _⟩ := pT
      rw [← z, he] at q1'
      cases q1'
      exact absurd (Value.type.inj q2') (by decide)
    have hilt : i < its.toArray.size := by
      have := (List.getElem?_eq_some_iff.mp hu).1
      simpa using this
    refine wpAny_pyNext_enum_itemD (Draws.tuple (A := X.A.in1) (I.ok.hd hc) it a ha1 its.toArray) he ⟨hit, pT⟩ hilt hne (by simp [hne, ha2]) fun x0 h' tk hP ho hit' hT hsz hk => ?_
    have hx0 : x0 = u := by
      have e1 : its.toArray[i]? = some x0 := hP
      have e2 : its.toArray[i]? = some u := by simpa using hu
      rw [e1] at e2
      exact Option.some.inj e2
    subst hx0
    refine ⟨_, rfl, wpAny_letOwnedTupleGo_enum (s := { s with heap := h', toks := tk + 1 }) ho fun h'' he' sb => ?_⟩
    have hT2 : h''.get? s.heap.objs.size = some { cls := .type "tuple", data := .seq #[.int i tk, x0] } := (sb.2 _ (Nat.ne_of_gt hel)).trans hT
    have new : ObjOk X.prog X.w (upd H s.heap.objs.size (.tup [.int (i : Nat), x])) h'' s.heap.objs.size (.tup [.int (i : Nat), x]) :=
      ⟨by show 2 ≤ sizeLine; decide, [.int i tk, x0], .cons ⟨_, rfl⟩ (.cons ru .nil), ⟨_, hT2, rfl, _, rfl⟩⟩
    have I1 : Inv X pins σ (upd H s.heap.objs.size (.tup [.int (i : Nat), x])) { s with heap := h'', toks := tk + 1 } :=
      I.turnedNew (ch := [e, it]) (fun b ob hb q => (sb.2 b (fun z => hb (by simp [z]))).trans (hk b ob (fun z => hb (by simp [z])) (fun z => hb (by simp [z])) q)) hf (Nat.le_refl _) new
    refine ⟨.ref s.heap.objs.size, _, I1, rfl, ⟨_, x, rfl, I.hok.fresh (Nat.le_refl _), rfl, fun ys hy => by rw [I.tuple_inj hy hq]; exact hx⟩, ⟨⟨x0, ?_⟩, hit'.1.at fun o q => (sb.2 it (Ne.symm hne)).trans q, hne⟩, fun b hb => ?_⟩
    · have e1 : ((i + 1 : Nat) : Int) = (i : Int) + 1 := by omega
      rw [e1]; exact he'
    · have hb' : b < s.heap.objs.size := by
        have e' : b = e ∨ b = it := by simpa using hb
        rcases e' with z | z
        · rw [z]; exact hel
        · rw [z]; exact hil
      rw [upd_ne (Nat.ne_of_lt hb')]
      exact (hf b hb).1
  done := by
    intro X hP hw hK hc i pins s σ H E I hf st hg
    subst hP hw hK
    obtain ⟨⟨old, he⟩, hit, hne⟩ := st
    obtain ⟨xs, hq, hx⟩ := hg
    obtain ⟨its, rv, p, hz⟩ := I.tuple hq
    obtain ⟨f0, f1, f2, f3, f4, f5⟩ := hf it (by simp)
    have hl := rv.length
    have pT : s.heap.IsTuple a its.toArray := p
    have ha1 : a ≠ it := fun z => by
      obtain ⟨o, q1, q2, _⟩ := hit
      obtain ⟨o', q1', q2', _⟩ := pT
      rw [z, q1] at q1'
      cases q1'
      rw [q2] at q2'
      exact absurd (Value.type.inj q2') (by decide)
    have hi : i = its.toArray.size := by simp; omega
    exact wpAny_pyNext_enum_endD (Draws.tuple (A := X.A.in1) (I.ok.hd hc) it a ha1 its.toArray) he ⟨hi ▸ hit, pT⟩ fun h' eb => ⟨rfl, I.turned (t' := s.toks) (fun b o hb e => eb b o hb e) f0 f1 f3 f4 f5⟩
  self := fun A i s Q E st h => let ⟨⟨_, he⟩, _⟩ := st; wpAny_pyIter_enum he h
def iEnumA (K : PySem.W.Frag) (ta : TA) : TI := fun σ H R => ta σ H fun vs H1 => ∃ a, vs = [.ref a] ∧ (((∃ xs, SqL K H1 a xs) ∧ R (Ite K a) H1) ∨ ((∃ xs, SqT K H1 a xs) ∧ R (Itet K a) H1))
theorem pi_enumA {X : Cx} {e : Expr} {ta : TA} {p pos tpos : Pos} {elts : List Expr} {kk : Nat} (hg : Gl X "enumerate") (hm : X.mg "enumerate" = none) (ha : PA X [e] ta) (hs : starEach [e] X.env = [(false, eval e X.env)] := by rfl) :
    PI X (.Tuple elts kk tpos) (.Call (.Name "enumerate" p) [e] [] pos) (iEnumA X.K ta) := by
  refine ⟨fun pins s σ H R I h => ?_⟩
  refine Call_ (ld_blt I hg hm boot_enumerate (PyProof.Rows.callWith_type1 (thn (ha.run pos pins s σ H _ I h) fun us s1 ⟨vs, H1, I1, r1, q1⟩ => ?_) hs rfl))
  obtain ⟨a, ex, q⟩ := q1
  subst ex
  cases r1 with
  | cons r rr =>
    cases rr
    cases r
    have fp : ∀ b ∈ [s1.heap.objs.size + 1, s1.heap.objs.size], FpOk X pins H1 b := fun b hb => by
      have e' : b = s1.heap.objs.size + 1 ∨ b = s1.heap.objs.size := by simpa using hb
      have hle : s1.heap.objs.size ≤ b := by
        rcases e' with z | z
        · rw [z]; exact Nat.le_add_right _ _
        · rw [z]; exact Nat.le_refl _
      exact I1.fpOk hle (I1.hok.fresh hle)
    rcases q with ⟨⟨xs, hq⟩, q⟩ | ⟨⟨xs, hq⟩, q⟩
    · obtain ⟨its, rv, p', hz⟩ := I1.list hq
      refine call_enumerate_list p'.isList fun h' he hit hsz hk => wpAny_pyIter_enum he ?_
      have I2 : Inv X pins σ H1 { s1 with heap := h' } := I1.kept (t' := s1.toks) hk
      exact ⟨s1.heap.objs.size + 1, [s1.heap.objs.size + 1, s1.heap.objs.size], _, _, H1, rfl, I2, turn_enum a (s1.heap.objs.size + 1) s1.heap.objs.size, ⟨⟨.none, he⟩, hit, Nat.succ_ne_self _⟩, fp, q⟩
    · obtain ⟨its, rv, p', hz⟩ := I1.tuple hq
      refine enum_begins1 (begins_tuple a its.toArray) p' fun h' he hit hsz hk => wpAny_pyIter_enum he ?_
      have I2 : Inv X pins σ H1 { s1 with heap := h' } := I1.kept (t' := s1.toks) hk
      exact ⟨s1.heap.objs.size + 1, [s1.heap.objs.size + 1, s1.heap.objs.size], _, _, H1, rfl, I2, turn_enumT a (s1.heap.objs.size + 1) s1.heap.objs.size, ⟨⟨.none, he⟩, ⟨_, hit, rfl, rfl⟩, Nat.succ_ne_self _⟩, fp, q⟩
theorem dgetK {X : Cx} {o i : Expr} {pos : Pos} {td ty : TE} (hu : X.A.units + 65 < cLine) (ho : PE X o td) (hi : PE X i ty) (hs : NoSl i) : PE X (.Subscript o i pos) (tDGet td ty) := pe_dget (by omega) ho hi hs
theorem enumAK {X : Cx} {K : PySem.W.Frag} (h : X.K = K) {e : Expr} {ta : TA} {p pos tpos : Pos} {elts : List Expr} {kk : Nat} (hg : Gl X "enumerate") (hm : X.mg "enumerate" = none) (ha : PA X [e] ta) (hs : starEach [e] X.env = [(false, eval e X.env)] := by rfl) :
    PI X (.Tuple elts kk tpos) (.Call (.Name "enumerate" p) [e] [] pos) (iEnumA K ta) := by subst h; exact pi_enumA hg hm ha hs
section
variable {K : PySem.W.Frag} {ρ ρ' : Env} {nw : Nw} {te ta tb tc tw ti : TE} {d e : D} {ds es : List D} {tt : TT} {R : DEnds} {o : O} {i : Nat} {p : List Nat}
theorem ei_enumL (h : EvD K ta ρ (.lst ds)) : EvI K (iEnumA K (tCons ta tNil)) ρ (numD 0 ds) := fun B Hs H σ r R q => h B Hs H σ r _ fun Hs1 H1 v g x => by
  cases x with
  | @lst p vs _ hp' xs =>
    have hp : SqL K Hs1 p vs := .of hp'
    refine ⟨p, rfl, .inl ⟨⟨vs, g.lv.sl hp⟩, q _ Hs1 H1 g fun i Hs2 H2 e1 e2 => ⟨fun d hd => ?_, fun hi => ?_⟩⟩⟩
    · rw [numD_get, Nat.zero_add] at hd
      obtain ⟨d0, e3, e4⟩ := Option.map_eq_some_iff.mp hd
      subst e4
      have hq := (e1.trans e2).sl hp
      obtain ⟨v, hv, xv⟩ := xs.at e3
      refine ⟨⟨vs, v, hq, hv⟩, fun x H3 y => ?_⟩
      obtain ⟨T, w, rfl, hT, rfl, y⟩ := y
      have z := y vs hq
      rw [hv] at z
      cases z
      have n2 : Hs2 T = none := by
        cases q : Hs2 T with
        | none => rfl
        | some u =>
          rw [e2 T u q] at hT
          cases hT
      exact ⟨_, Gr.new e2 hT, .tup upd_same (.cons (.int _) (.cons (xv.mono (e1.trans (Ex.new n2))) .nil))⟩
    · rw [numD_length] at hi
      exact ⟨vs, (e1.trans e2).sl hp, by rw [xs.length]; omega⟩
theorem ei_enumT (h : EvD K ta ρ (.tup ds)) : EvI K (iEnumA K (tCons ta tNil)) ρ (numD 0 ds) := fun B Hs H σ r R q => h B Hs H σ r _ fun Hs1 H1 v g x => by
  cases x with
  | @tup p vs _ hp' xs =>
    have hp : SqT K Hs1 p vs := .of hp'
    refine ⟨p, rfl, .inr ⟨⟨vs, g.lv.st hp⟩, q _ Hs1 H1 g fun i Hs2 H2 e1 e2 => ⟨fun d hd => ?_, fun hi => ?_⟩⟩⟩
    · rw [numD_get, Nat.zero_add] at hd
      obtain ⟨d0, e3, e4⟩ := Option.map_eq_some_iff.mp hd
      subst e4
      have hq := (e1.trans e2).st hp
      obtain ⟨v, hv, xv⟩ := xs.at e3
      refine ⟨⟨vs, v, hq, hv⟩, fun x H3 y => ?_⟩
      obtain ⟨T, w, rfl, hT, rfl, y⟩ := y
      have z := y vs hq
      rw [hv] at z
      cases z
      have n2 : Hs2 T = none := by
        cases q : Hs2 T with
        | none => rfl
        | some u =>
          rw [e2 T u q] at hT
          cases hT
      exact ⟨_, Gr.new e2 hT, .tup upd_same (.cons (.int _) (.cons (xv.mono (e1.trans (Ex.new n2))) .nil))⟩
    · rw [numD_length] at hi
      exact ⟨vs, (e1.trans e2).st hp, by rw [xs.length]; omega⟩
/-! ### dicts from numbers to numbers -/
theorem en_dictV : EvN K tDNewK ρ (.dv (fun _ => none) 0) := fun B Hs H σ r Q q => fun p hp => by
  obtain ⟨n1, n2⟩ := gr_none (Gr.refl r.ex) hp
  refine q Hs _ _ _ (Gr.newO r.ex hp) (.dg (kvs := []) ⟨Nat.le_refl _, fun i => rfl⟩) fun a u z => ?_
  by_cases y : a = p
  · subst y
    rw [upd_same] at z ⊢
    exact ⟨z, hp, n2⟩
  · rw [upd_ne y] at z
    cases z
theorem ev_inV {f : Int → Option Int} {n : Nat} {k : Int} (hk : EvD K ta ρ (.int k)) (h : EvW K te ρ i p) (hi : ρ[i]? = some (some (.tr K nw o))) (hp : o.at_ p = some (.dv f n)) : EvD K (tOp (rInA K) ta te) ρ (.bl (f k).isSome) := fun B Hs H σ r Q q =>
  hk B Hs H σ r _ fun Hs0 H0 y g0 y0 => h B Hs0 H0 σ (r.grow g0) _ fun Hs1 H1 v0 v g hv va => by
    cases y0
    have r1 := (r.grow g0).grow g
    obtain ⟨R, rg⟩ := r1.reg
    obtain ⟨v0', v1, S, hv', va', ow, sub, _⟩ := r1.part rg hi hp
    rw [hv] at hv'
    cases hv'
    have e := va.det va'
    subst e
    cases ow with
    | @dg a _ _ kvs hk =>
      refine .inr (.inr (.inl ⟨a, _, rfl, DGet.k (k := (Sum.inl k : Key)) (sub a _ upd_same).1, ?_⟩))
      rw [hk.2 k, Option.isSome_map]
      exact q Hs1 H1 _ (g0.trans g) (.bl _)
theorem ev_notInV {f : Int → Option Int} {n : Nat} {k : Int} (hk : EvD K ta ρ (.int k)) (h : EvW K te ρ i p) (hi : ρ[i]? = some (some (.tr K nw o))) (hp : o.at_ p = some (.dv f n)) : EvD K (tOp (rNotInA K) ta te) ρ (.bl (!(f k).isSome)) := fun B Hs H σ r Q q =>
  hk B Hs H σ r _ fun Hs0 H0 y g0 y0 => h B Hs0 H0 σ (r.grow g0) _ fun Hs1 H1 v0 v g hv va => by
    cases y0
    have r1 := (r.grow g0).grow g
    obtain ⟨R, rg⟩ := r1.reg
    obtain ⟨v0', v1, S, hv', va', ow, sub, _⟩ := r1.part rg hi hp
    rw [hv] at hv'
    cases hv'
    have e := va.det va'
    subst e
    cases ow with
    | @dg a _ _ kvs hk =>
      refine .inr (.inr (.inl ⟨a, _, rfl, DGet.k (k := (Sum.inl k : Key)) (sub a _ upd_same).1, ?_⟩))
      rw [hk.2 k, Option.isSome_map]
      exact q Hs1 H1 _ (g0.trans g) (.bl _)
/-- d[k] -/
theorem ev_getV {f : Int → Option Int} {n : Nat} {k v : Int} (h : EvW K te ρ i p) (hk : EvD K ta ρ (.int k)) (hi : ρ[i]? = some (some (.tr K nw o))) (hp : o.at_ p = some (.dv f n)) (hf : f k = some v) : EvD K (tDGet te ta) ρ (.int v) := fun B Hs H σ r Q q =>
  h B Hs H σ r _ fun Hs0 H0 v0 v g0 hv va => hk B Hs0 H0 σ (r.grow g0) _ fun Hs1 H1 y g y0 => by
    cases y0
    have r1 := (r.grow g0).grow g
    obtain ⟨R, rg⟩ := r1.reg
    obtain ⟨v0', v1, S, hv', va', ow, sub, _⟩ := r1.part rg hi hp
    rw [hv] at hv'
    cases hv'
    have e := (va.monoN g.fr).det va'
    subst e
    cases ow with
    | @dg a _ _ kvs hk =>
      refine ⟨a, _, rfl, ?_, q Hs1 H1 _ (g0.trans g) (.int _)⟩
      have := DGet.k (k := (Sum.inl k : Key)) (sub a _ upd_same).1
      rw [hk.2 k, hf] at this
      exact this
/-- d[k] = v -/
theorem xs_putV {f : Int → Option Int} {n : Nat} {k x : Int} (h : EvD K te ρ (.int x)) (hw : EvW K tw ρ i p) (hi : ρ[i]? = some (some (.tr K nw o))) (hp : o.at_ p = some (.dv f n)) (hk : EvD K ti ρ (.int k)) (hz : n < 100000) (q : R.nx (ρ.set i (some (.tr K nw (o.put p (.dv (fun y => if y = k then some x else f y) (n + 1))))))) :
    ExS K (tAsg te (gSub tw ti rSetA)) ρ R := fun B Hs H σ Dn r l =>
  h B Hs H σ r _ fun Hs0 H0 w g0 y0 => hw B Hs0 H0 σ (r.grow g0) _ fun Hs1 H1 v0 v g hv va => hk B Hs1 H1 σ ((r.grow g0).grow g) _ fun Hs2 H2 z g2 z2 => by
    cases z2
    cases y0
    have r2 := ((r.grow g0).grow g).grow g2
    obtain ⟨R2, rg2⟩ := r2.reg
    obtain ⟨v0', v1, S, hv', va', ow, sub, kk⟩ := r2.part rg2 hi hp
    rw [hv] at hv'
    cases hv'
    have e := (va.monoN g2.fr).det va'
    subst e
    cases ow with
    | @dg a _ _ kvs hkv =>
      have ha := (sub a _ upd_same).1
      refine .inr ⟨a, _, rfl, DPut.k (k := (Sum.inl k : Key)) ha (Nat.lt_of_le_of_lt hkv.1 (sz_lt hz)), l.nx Hs2 _ _ _ (kk (S' := upd em a (.dK (putK kvs (Sum.inl k : Key) (.int x)))) (.dg ⟨?_, fun y => ?_⟩) (fun b u z => ?_) (fun b u z e => ?_) (fun b e => upd_keep ha e) Ch.upd) q⟩
      · have := length_putK kvs (Sum.inl k : Key) (.int x)
        have := hkv.1
        omega
      · rw [valV_put]
        by_cases e : y = k
        · subst e
          rw [if_pos rfl]
          show some (V.int x) = Option.map V.int (if y = y then some x else f y)
          rw [if_pos rfl]
          rfl
        · rw [if_neg (fun z => e (Sum.inl.inj z)), hkv.2 y]
          show Option.map V.int (f y) = Option.map V.int (if y = k then some x else f y)
          rw [if_neg e]
      · by_cases eb : b = a
        · subst eb
          rw [upd_same] at z ⊢
          exact ⟨z, .inl (by rw [upd_same]; exact fun q => nomatch q)⟩
        · rw [upd_ne eb] at z
          cases z
      · rw [upd_ne (fun eb => by rw [eb, upd_same] at z; cases z)]
        exact e
/-! ### min, max of three -/
theorem nuMin2_int (x y : Int) : nuMin2 (.int x) (.int y) = some (.int (min x y)) := by
  show some (if decide (y < x) = true then V.int y else V.int x) = _
  by_cases h : y < x
  · rw [if_pos (decide_eq_true h), Int.min_eq_right (by omega)]
  · rw [if_neg (by simpa using h), Int.min_eq_left (by omega)]
theorem nuMin3_int (x y z : Int) : nuMin3 (.int x) (.int y) (.int z) = some (.int (min (min x y) z)) := by
  show (nuMin2 (.int x) (.int y)).bind (fun m => nuMin2 m (.int z)) = _
  rw [nuMin2_int]
  exact nuMin2_int _ _
theorem ev_min3 {x y z : Int} (ha : EvD K ta ρ (.int x)) (hb : EvD K tb ρ (.int y)) (hc : EvD K tc ρ (.int z)) : EvD K (tCB (rNuC3 nuMin3) (tCons ta (tCons tb (tCons tc tNil)))) ρ (.int (min (min x y) z)) := fun B Hs H σ r Q q =>
  ha B Hs H σ r _ fun Hs1 H1 v1 g1 x1 => hb B Hs1 H1 σ (r.grow g1) _ fun Hs2 H2 v2 g2 x2 => hc B Hs2 H2 σ ((r.grow g1).grow g2) _ fun Hs3 H3 v3 g3 x3 => by
    cases x1
    cases x2
    cases x3
    refine ⟨_, _, _, .int (min (min x y) z), rfl, ?_, q Hs3 H3 _ ((g1.trans g2).trans g3) (.int _)⟩
    exact nuMin3_int x y z
/-- xs.insert(k, x), an own list -/
theorem xs_insO {k : Int} (hx : ρ[i]? = some (some (.ol ds))) (hk : EvD K ti ρ (.int k)) (h : EvD K te ρ d) (hz : ds.length < 100000) (h0 : 0 ≤ k) (h1 : k < 1000000000) (q : R.nx (ρ.set i (some (.ol (ds.take k.toNat ++ [d] ++ ds.drop k.toNat))))) :
    ExS K (tDrop (tBM K "list" rInsert (tVar i) (tCons ti (tCons te tNil)))) ρ R := fun B Hs H σ Dn r l => by
  obtain ⟨p, vs, e, hp, x, _⟩ := r.mutL i hx
  refine ⟨.ref p, e, .inl ⟨rfl, _, .of hp⟩, hk B Hs H σ r _ fun Hs1 H1 w1 g1 y1 => h B Hs1 H1 σ (r.grow g1) _ fun Hs2 H2 w g2 y => ?_⟩
  cases y1
  obtain ⟨p', vs', e', hp', x', m⟩ := ((r.grow g1).grow g2).mutL i hx
  rw [e] at e'
  cases e'
  refine ⟨p, vs', k, w, rfl, rfl, hp', by rw [x'.length]; exact sz_lt hz, h0, by omega, ?_⟩
  exact l.nx Hs2 _ _ _ (m _ _ (((x'.take _).append (.cons y .nil)).append (x'.drop _))) q
end
end DL

/-! DRev: list(reversed(l)); l.index(i); a.append(b.pop(i)); len(set(l)). -/
namespace PySem
open Sem (wp)
open AutoSeq1 (wpAny_loadPart')
namespace RV
theorem nolen : typeLookup (.type "list_reverseiterator") "__len__" = pure none := by rw [typeLookup_type, builtinLookup_eq_fast]; kernel_rfl
theorem hint : typeLookup (.type "list_reverseiterator") "__length_hint__" = pure (some (.builtin "list_reverseiterator.__length_hint__")) := by rw [typeLookup_type, builtinLookup_eq_fast]; kernel_rfl
section
variable {prog : Program} {w : World} {A : Around} {E : Value → Shared → Prop} {s : Shared} {I l : Addr} {items : Array Value}
abbrev Got (items : Array Value) (acc : Array Value) : Prop := ItemsOf (fun i v => items[items.size - 1 - i]? = some v) acc items.size
theorem extend {R : Result → Shared → Prop} (hh : A.handled = none) (zi : s.heap.IsRevIter I l ((items.size : Int) - 1)) (zl : s.heap.IsList l items) (few : items.size ≤ sizeLine) (S : Addr) (res : Value) (c₀ : Nat) (yS : s.heap.get? S = some { cls := .type "list", data := .seq #[] c₀ }) (hSl : S ≠ l)
    (q : ∀ h' tk acc' c', (∀ b o, b ≠ S → b ≠ I → s.heap.get? b = some o → h'.get? b = some o) → h'.get? S = some { cls := .type "list", dict := none, data := .seq acc' c', slots := #[] } → Got items acc' → R (.ok (.ret res)) { s with heap := h', toks := tk }) :
    wpAny (model prog w) A.in1 (Builtin.List.listExtendWith (.ref S) (.ref I) res) (fun fin s' => match fin with | .done f => R (.ok f) s' | .again c' => c'.quiet = true ∧ codeAny (model prog w) A c' R s') (fun e s' => R (.error e) s') s := by
  obtain ⟨oi, hi1, hi2, hi3⟩ := id zi
  obtain ⟨ol, hl1, hl2, hl3⟩ := id zl
  have nSI : S ≠ I := fun e => by
    rw [e, hi1] at yS
    have := Option.some.inj yS
    rw [this] at hi2
    exact absurd (Value.type.inj hi2) (by decide)
  have nlI : l ≠ I := fun e => by
    rw [e, hi1] at hl1
    have := Option.some.inj hl1
    rw [this, hl2] at hi2
    exact absurd (Value.type.inj hi2) (by decide)
  have nSf : S ∉ [I, l] := by simp [nSI, hSl]
  have W := (Walks.listRev (prog := prog) (w := w) (A := A.in1) hh I l nlI items).toS
  have st0 : 0 ≤ items.size ∧ s.heap.IsRevIter I l ((items.size : Int) - 1 - ((0 : Nat) : Int)) ∧ s.heap.IsList l items := ⟨Nat.zero_le _, by simpa using zi, zl⟩
  have hT : s.TypeIs (.ref I) "list_reverseiterator" := zi.typeIs
  have h1 : Builtin.List.listSameRef (.ref S) (.ref I) = false := by simp [Builtin.List.listSameRef, nSI]
  unfold Builtin.List.listExtendWith
  refine wpAny_bind (wpAny_typeOf hT ?_)
  rw [if_neg (by rw [h1]; decide)]
  refine wpAny_bind (wpAny_pyIter_revIter zi ?_)
  refine wpAny_bind (wpAny_holding ?_)
  unfold Builtin.List.listLengthHint
  refine wpAny_bind (wpAny_specialOf hT nolen ?_)
  show wpAny _ A.in1 (specialOf (Value.ref I) (Str.ofString "__length_hint__") >>= _) _ _ _
  refine wpAny_bind (wpAny_specialOf hT hint ?_)
  generalize hid : ("list_reverseiterator.__length_hint__" : String) = id0
  wp_delta
  rw [show splitId id0 = some ("list_reverseiterator", "__length_hint__") from by subst hid; decide +kernel]
  subst hid
  refine wpAny_bind (wpAny_isInstance (b := true) hT (by rw [isSubtype_type]; kernel_rfl) ?_)
  refine wpAny_pure ?_
  rw [if_neg (by decide)]
  refine wpAny_pure ⟨plainId_quiet F.plain_extend_loop _, codeAny_extend_loopS W few S nSf res items.size 0 _ #[] c₀ rfl (Nat.zero_le _) st0 yS (ItemsOf.nil _) fun s' acc' c' m y3 g => ?_⟩
  rw [Moved.eq_with m]
  refine q s'.heap s'.toks acc' c' (fun b o nb nI e => m.heap b o (fun mm => ?_) e) y3 g
  rcases List.mem_cons.mp mm with e' | mm
  · exact nb e'
  · exact nI (List.mem_singleton.mp mm)
theorem init {R : Result → Shared → Prop} (hh : A.handled = none) (zi : s.heap.IsRevIter I l ((items.size : Int) - 1)) (zl : s.heap.IsList l items) (few : items.size ≤ sizeLine) (S : Addr) (yS : s.heap.get? S = some { cls := .type "list", data := .seq #[] }) (hSl : S ≠ l)
    (q : ∀ h' tk acc' c', (∀ b o, b ≠ S → b ≠ I → s.heap.get? b = some o → h'.get? b = some o) → h'.get? S = some { cls := .type "list", dict := none, data := .seq acc' c', slots := #[] } → Got items acc' → R (.ok (.ret .none)) { s with heap := h', toks := tk }) :
    wpAny (model prog w) A.in1 (Builtin.«list.__init__» ⟨[.ref S, .ref I], []⟩) (fun fin s' => match fin with | .done f => R (.ok f) s' | .again c' => c'.quiet = true ∧ codeAny (model prog w) A c' R s') (fun e s' => R (.error e) s') s := by
  obtain ⟨oi, hi1, hi2, hi3⟩ := id zi
  have nSI : S ≠ I := fun e => by
    rw [e, hi1] at yS
    have := Option.some.inj yS
    rw [this] at hi2
    exact absurd (Value.type.inj hi2) (by decide)
  show wpAny _ _ (do let old ← Builtin.List.listItems (.ref S); Builtin.List.listUpdate (.ref S) (fun _ => #[]); letGo old.toList.reverse; Builtin.List.listExtendWith (.ref S) (.ref I) .none) _ _ s
  refine wpAny_bind ?_
  unfold Builtin.List.listItems
  refine wpAny_bind (wpAny_seqItems yS rfl (wpAny_pure ?_))
  show wpAny _ _ (updateSeq S (fun _ => #[]) >>= fun _ => letGo (#[] : Array Value).toList.reverse >>= fun _ => Builtin.List.listExtendWith (.ref S) (.ref I) .none) _ _ s
  refine wpAny_bind (wpAny_updateSeq yS rfl ?_)
  have y2 := Heap.get?_update_self (Obj.mapSeq (fun _ => (#[] : Array Value))) yS rfl
  have oth : ∀ b o, b ≠ S → s.heap.get? b = some o → (s.heap.update S (Obj.mapSeq (fun _ => (#[] : Array Value)))).get? b = some o := fun b o nb e => (Heap.get?_update_other _ _ (Ne.symm nb)).trans e
  refine wpAny_bind (wpAny_letGo (extend hh (zi.at fun o e => oth I o (Ne.symm nSI) e) (zl.at fun o e => oth l o (Ne.symm hSl) e) few S .none _ y2 hSl fun h' tk acc' c' hk y3 g => ?_))
  exact q h' tk acc' c' (fun b o nb nI e => hk b o nb nI (oth b o nb e)) y3 g
theorem call_rev {Q : Value → Shared → Prop} (hh : A.handled = none) (zi : s.heap.IsRevIter I l ((items.size : Int) - 1)) (zl : s.heap.IsList l items) (few : items.size ≤ sizeLine)
    (q : ∀ h' tk acc' c', (∀ b o, b ≠ I → s.heap.get? b = some o → h'.get? b = some o) → h'.get? s.heap.objs.size = some { cls := .type "list", dict := none, data := .seq acc' c', slots := #[] } → Got items acc' → Q (.ref s.heap.objs.size) { s with heap := h', toks := tk }) :
    wpAny (model prog w) A (call (.type "list") [.ref I]) Q E s := by
  refine callType_codes (Q₁ := fun obj s₁ => obj = .ref s.heap.objs.size ∧ s₁ = { s with heap := s.heap.push { cls := .type "list", data := .seq #[] } }) F.called_list (F.typeCall_list_1 _) F.entry_list_init (code_list_new _ ⟨rfl, rfl⟩) fun obj s₁ h₁ => ?_
  obtain ⟨rfl, rfl⟩ := h₁
  have yS : (s.heap.push { cls := .type "list", data := .seq #[] }).get? s.heap.objs.size = some { cls := .type "list", data := .seq #[] } := Heap.get?_push_size _ rfl
  have hll : l < s.heap.objs.size := by obtain ⟨o, h, _⟩ := id zl; exact Heap.lt_size h
  refine ⟨⟨_, yS, rfl⟩, F.args_list_init_2 _ _, init (A := A.in1) hh (zi.at fun o e => Heap.get?_push_of_some _ e) (zl.at fun o e => Heap.get?_push_of_some _ e) few _ yS (Ne.symm (Nat.ne_of_lt hll)) fun h' tk acc' c' hk y2 g => ?_⟩
  exact ⟨rfl, q h' tk acc' c' (fun b o nI e => hk b o (Nat.ne_of_lt (Heap.lt_size e)) nI (Heap.get?_push_of_some _ e)) y2 g⟩
end
end RV
end PySem
namespace DL
open PySem L2 PySem.Spec PyProof.Rows
variable [TbC]
def tListRev (K : PySem.W.Frag) (te : TE) : TE := fun σ H Q => te σ H fun v H1 => ∃ (a : Addr) (xs : List V), v = .ref a ∧ SqL K H1 a xs ∧ ∀ q, H1 q = none → Q (.ref q) (upd H1 q (.lst xs.reverse))
section
variable {X : Cx}
theorem pe_listRev {e : Expr} {te : TE} {p p2 pos pos2 : Pos} (hc : X.calm = true) (hg : Gl X "list") (hm : X.mg "list" = none) (hg2 : Gl X "reversed") (hm2 : X.mg "reversed" = none) (he : PE X e te)
    (hs : starEach [e] X.env = (false, eval e X.env) :: starEach [] X.env := by rfl)
    (hs2 : starEach [.Call (.Name "reversed" p2) [e] [] pos2] X.env = (false, eval (.Call (.Name "reversed" p2) [e] [] pos2) X.env) :: starEach [] X.env := by rfl) :
    PE X (.Call (.Name "list" p) [.Call (.Name "reversed" p2) [e] [] pos2] [] pos) (tListRev X.K te) := by
  refine ⟨fun pins s σ H Q I h => ?_⟩
  refine Call_ (ld_blt I hg hm boot_list (PyProof.Rows.callWith_type1 (args_cons (Call_ (ld_blt I hg2 hm2 PyProof.Rows.boot_reversed (PyProof.Rows.callWith_type1 (args_cons (thn (he.run pins s σ H _ I h) fun u s1 ⟨v, H1, I1, r1, q1⟩ => args_nil ?_) hs) hs rfl))) hs2) hs2 rfl))
  obtain ⟨a, xs, ev, hq, q⟩ := q1
  subst ev
  obtain rfl : u = Value.ref a := r1
  obtain ⟨its, rv, p', hz⟩ := I1.list hq
  refine call_reversed_list p'.isList (args_nil ?_)
  have k0 : ∀ b o, s1.heap.get? b = some o → (s1.heap.push (revObj a ((its.toArray.size : Int) - 1))).get? b = some o := fun b o e => Heap.get?_push_of_some _ e
  have I2 : Inv X pins σ H1 { s1 with heap := s1.heap.push (revObj a ((its.toArray.size : Int) - 1)) } := I1.kept (t' := s1.toks) k0
  obtain ⟨f0, f1, f2, f3, f4, f5⟩ := I1.fpOk (H' := H1) (b := s1.heap.objs.size) (Nat.le_refl _) (I1.hok.fresh (Nat.le_refl _))
  have hl := p'.isList
  obtain ⟨ol, hol, _⟩ := id hl
  have hne : a ≠ s1.heap.objs.size := Nat.ne_of_lt (Heap.lt_size hol)
  have hn : its.toArray.size ≤ sizeLine := by rw [List.size_toArray, ← rv.length]; exact hz
  refine RV.call_rev (s := { s1 with heap := s1.heap.push (revObj a ((its.toArray.size : Int) - 1)) }) (I := s1.heap.objs.size) (l := a) (items := its.toArray) (I1.ok.hd hc) ⟨_, Heap.get?_push_size _ rfl, rfl, rfl⟩ (hl.push _) hn fun h' tk acc c' hk hS hi => ?_
  have hfp : ∀ b ∈ [s1.heap.objs.size], FpOk X pins H1 b := fun b hb => by
    obtain rfl := List.mem_singleton.mp hb
    exact ⟨f0, f1, f2, f3, f4, f5⟩
  have I3 : Inv X pins σ (upd H1 (s1.heap.push (revObj a ((its.toArray.size : Int) - 1))).objs.size (.lst xs.reverse)) { s1 with heap := h', toks := tk } :=
    I2.turnedNew (t' := tk) (ch := [s1.heap.objs.size]) (fun b o hb e => hk b o (fun z => hb (by simp [z])) e) hfp (Nat.le_refl _)
      (show ObjOk X.prog X.w _ h' _ (.lst xs.reverse) from ⟨by rw [List.length_reverse]; exact hz, acc.toList, c', RT.vals_rev rv hi, by rw [Array.toArray_toList]; exact hS⟩)
  exact ⟨.ref (s1.heap.push (revObj a ((its.toArray.size : Int) - 1))).objs.size, _, I3, rfl, q _ (I2.hok.fresh (Nat.le_refl _))⟩
end
theorem listRevK {X : Cx} {K : PySem.W.Frag} {e : Expr} {te : TE} {p p2 pos pos2 : Pos} (h : X.K = K) (hg : Gl X "list") (hm : X.mg "list" = none) (hg2 : Gl X "reversed") (hm2 : X.mg "reversed" = none) (he : PE X e te) (hc : X.calm = true := by rfl)
    (hs : starEach [e] X.env = (false, eval e X.env) :: starEach [] X.env := by rfl)
    (hs2 : starEach [.Call (.Name "reversed" p2) [e] [] pos2] X.env = (false, eval (.Call (.Name "reversed" p2) [e] [] pos2) X.env) :: starEach [] X.env := by rfl) :
    PE X (.Call (.Name "list" p) [.Call (.Name "reversed" p2) [e] [] pos2] [] pos) (tListRev K te) := by subst h; exact pe_listRev hc hg hm hg2 hm2 he hs hs2
theorem lenSetK {X : Cx} {K : PySem.W.Frag} {a : Expr} {ta : TE} {p p2 q pos : Pos} (h : X.K = K) (hg : Gl X "len") (hm : X.mg "len" = none) (hg2 : Gl X "set") (hm2 : X.mg "set" = none) (ha : PE X a ta) (hc : X.calm = true := by rfl)
    (na : starEach [a] X.env = (false, eval a X.env) :: starEach [] X.env := by rfl) : PE X (.Call (.Name "len" p) [.Call (.Name "set" p2) [a] [] q] [] pos) (RZ.tLenSetI K ta) := by subst h; exact RZ.pe_lenSetI hg hm hg2 hm2 ha hc na
theorem indexK {X : Cx} {K : PySem.W.Frag} (h : X.K = K) : MtR X "list.index" (rIndex K) := by subst h; exact mt_index
section
variable {K : PySem.W.Frag} {ρ ρ' : Env} {te ta tb ti : TE} {d e : D} {ds es : List D} {tt : TT} {R : DEnds}
theorem ef_listRev (ha : EvB K ta ρ ds) : EvF K (tListRev K ta) ρ ds.reverse := fun B Hs H σ r Q q =>
  ha B Hs H σ r _ fun Hs1 H1 p vs g1 hp xs => ⟨p, vs, rfl, hp, fun l hn => by
    obtain ⟨n1, n2⟩ := gr_none g1 hn
    exact q Hs1 _ l _ (g1.trans (Gr.newO g1.lv hn)) n1 n2 upd_same xs.rev⟩
theorem ev_lenSet {xs : List Int} (ha : EvB K ta ρ (xs.map .int)) (hn : xs.Nodup) (hl : xs.length ≤ 4000) : EvD K (RZ.tLenSetI K ta) ρ (.int (xs.length : Nat)) := fun B Hs H σ r Q q =>
  ha B Hs H σ r _ fun Hs1 H1 p vs g1 hp x => by
    have x9 := RepL.ints x; subst x9
    exact ⟨p, xs, rfl, hp, hn, hl, q _ _ _ g1 (.int _)⟩
theorem idxOf_lt_ne {y : Int} : ∀ {xs : List Int} {m : Nat} {z : Int}, m < xs.idxOf y → xs[m]? = some z → (z == y) = false
  | [], m, z, h, e => by cases e
  | x :: xs, m, z, h, e => by
    rw [List.idxOf_cons] at h
    cases hb : (x == y) with
    | true => rw [hb] at h; exact absurd h (Nat.not_lt_zero _)
    | false =>
      rw [hb] at h
      cases m with
      | zero => cases e; exact hb
      | succ m => exact idxOf_lt_ne (Nat.lt_of_succ_lt_succ h) e
theorem ev_index {xs : List Int} {y : Int} (hb : EvB K tb ρ (xs.map .int)) (hy : EvD K te ρ (.int y)) (hm : y ∈ xs) : EvD K (tBM K "list" (rIndex K) tb (tCons te tNil)) ρ (.int (xs.idxOf y : Nat)) := fun B Hs H σ r Q q =>
  hb B Hs H σ r _ fun Hs1 H1 p vs g1 hp x => by
    refine ⟨.inl ⟨rfl, _, hp⟩, hy B Hs1 H1 σ (r.grow g1) _ fun Hs2 H2 w g2 yw => ?_⟩
    cases yw
    have x9 := RepL.ints x; subst x9
    have hp2 := g2.fr.sl hp
    have hi : xs.idxOf y < xs.length := List.idxOf_lt_length_of_mem hm
    refine ⟨p, xs.map V.int, .int y, xs.idxOf y, .int y, rfl, rfl, hp2, rfl, by simp [flatV], ?_, by simp [eqV], ?_, q _ _ _ (g1.trans g2) (.int _)⟩
    · rw [List.getElem?_map, List.getElem?_eq_getElem hi, List.getElem_idxOf hi]
      rfl
    · intro m z' hlt hz
      rw [List.getElem?_map] at hz
      obtain ⟨z, hz2, rfl⟩ := Option.map_eq_some_iff.mp hz
      exact idxOf_lt_ne hlt hz2
/-- a.append(b.pop(k)) -/
theorem xs_appPop {i j : Nat} {k : Int} {n : Nat} (hij : i ≠ j) (hx : ρ[i]? = some (some (.ol ds))) (hy : ρ[j]? = some (some (.ol es))) (hk : EvD K ti ρ (.int k)) (hb : -(2 ^ 63) ≤ k ∧ k < 2 ^ 63) (hn : seqIndex? k es.length = some n) (he : es[n]? = some d) (hz : ds.length < 100000)
    (q : R.nx ((ρ.set j (some (.ol (es.eraseIdx n)))).set i (some (.ol (ds ++ [d]))))) :
    ExS K (tDrop (tBM K "list" rAppend (tVar i) (tCons (tBM K "list" rPopAt (tVar j) (tCons ti tNil)) tNil))) ρ R := fun B Hs H σ Dn r l => by
  obtain ⟨p, vs, e, hp, x, _⟩ := r.mutL i hx
  obtain ⟨p2, vs2, e2, hp2, x2, _⟩ := r.mutL j hy
  refine ⟨.ref p, e, .inl ⟨rfl, _, .of hp⟩, .ref p2, e2, .inl ⟨rfl, _, .of hp2⟩, hk B Hs H σ r _ fun Hs1 H1 w g y => ?_⟩
  cases y
  obtain ⟨p3, vs3, e3, hp3, x3, m3⟩ := (r.grow g).mutL j hy
  rw [e2] at e3
  cases e3
  obtain ⟨u, hu, xu⟩ := x3.at he
  refine ⟨p2, vs3, k, n, u, rfl, rfl, hp3, hb.1, hb.2, by rw [x3.length]; exact hn, hu, ?_⟩
  have r2 := m3 _ (es.eraseIdx n) (x3.erase n)
  obtain ⟨p4, vs4, e4, hp4, x4, m4⟩ := r2.mutL i (by rw [List.getElem?_set_ne (Ne.symm hij)]; exact hx)
  rw [e] at e4
  cases e4
  refine ⟨p, vs4, u, rfl, rfl, hp4, by rw [x4.length]; exact sz_lt hz, ?_⟩
  exact l.nx _ _ _ _ (m4 _ _ (x4.append (.cons xu .nil))) q
end
end DL

/-! DClo: closures: made, handed to other defs, called there. -/
namespace DL
open PySem L2
open PyProof.Rows (envOfC)
variable [TbC]
/-! ### the base grown by the running frame's cells -/
theorem funFrames_none {h base base' : Heap} : ∀ {l : List PySem.Env}, h.FunFrames base l → (∀ b ∈ frs l, base'.get? b = none) → h.FunFrames base' l
  | [], _, _ => trivial
  | env :: rest, hl, k => by
    obtain ⟨h1, ⟨L, o, h2, h3, h4, h5⟩, h6⟩ := hl
    have hm : frs (env :: rest) = L :: frs rest := by
      unfold frs
      rw [List.filterMap_cons, h2]
    refine ⟨h1, ⟨L, o, h2, k L (by rw [hm]; exact List.mem_cons_self ..), h4, h5⟩, funFrames_none h6 fun b hb => k b (by rw [hm]; exact List.mem_cons_of_mem _ hb)⟩
theorem restrictS (h : Heap) (p : Addr → Bool) : ∃ G : Heap, (∀ b, p b = true → G.get? b = h.get? b) ∧ (∀ b, p b = false → G.get? b = none) ∧ G.objs.size = h.objs.size := by
  have hm : ∀ b, b ∈ (List.range h.objs.size).filter (fun b => !p b) ↔ b < h.objs.size ∧ p b = false := fun b => by
    rw [List.mem_filter, List.mem_range, Bool.not_eq_true']
  generalize (List.range h.objs.size).filter (fun b => !p b) = away at hm
  refine ⟨PySem.W.hideAll h away, fun b hb => ?_, fun b hb => ?_, PySem.W.hideAll_size away h⟩
  · cases e : h.get? b with
    | some o =>
      refine PySem.W.hideAll_get away e fun z => ?_
      have := ((hm b).mp z).2
      rw [this] at hb
      cases hb
    | none =>
      refine Option.eq_none_iff_forall_ne_some.mpr fun o q => ?_
      have := PySem.W.of_hideAll away q
      rw [e] at this
      cases this
  · refine Option.eq_none_iff_forall_ne_some.mpr fun o q => ?_
    have hl := Heap.lt_size (PySem.W.of_hideAll away q)
    rw [PySem.W.hideAll_none away ((hm b).mpr ⟨hl, hb⟩)] at q
    cases q
section
variable {X : Cx} {pins : List (Addr × Obj)} {σ : L2.St} {H : Hp} {s : Shared} {cl : List (Str × Addr)} {fr : List Str} {js : List Nat}
/-- base' has what base has, and the cells of the running frame -/
structure Up (X : Cx) (s : Shared) (base' : Heap) : Prop where
  sub : ∀ b o, X.base.get? b = some o → base'.get? b = some o
  at_ : ∀ b o, base'.get? b = some o → s.heap.get? b = some o
theorem ns_cell {h : Heap} {a : Addr} {m : Str → Option Value} {v : Option Value} (n : h.Ns a m) (c : h.IsCell a v) : False := by
  obtain ⟨o, es, ep, e, d, _⟩ := n
  obtain ⟨o', e', d'⟩ := c
  rw [e] at e'
  cases e'
  rw [d] at d'
  cases d'
theorem Inv.up (I : Inv X pins σ H s) (hfn : ∀ y, X.fn y = true) (hst : X.stack = X.env :: X.outer) (hfr : X.env.frame = some X.env.locals) (cp : NdefX.Caps X cl fr js) :
    ∃ base', Up X s base' ∧ NdefX.CellsAt cl fr (js.map (NdefX.slotAt σ)) base' em ∧ Env0 X.prog X.w X.K X.mg base' X.A X.stack s H := by
  classical
  obtain ⟨G, g1, g2, g3⟩ := restrictS s.heap fun b => decide ((∃ o, X.base.get? b = some o) ∨ ∃ y, X.env.cells.lookup y = some b)
  have gk : ∀ b, ((∃ o, X.base.get? b = some o) ∨ ∃ y, X.env.cells.lookup y = some b) → G.get? b = s.heap.get? b := fun b hb => g1 b (decide_eq_true hb)
  have gs : ∀ b o, G.get? b = some o → s.heap.get? b = some o ∧ H b = none := fun b o e => by
    by_cases hb : (∃ o, X.base.get? b = some o) ∨ ∃ y, X.env.cells.lookup y = some b
    · rw [gk b hb] at e
      refine ⟨e, ?_⟩
      rcases hb with ⟨u, hu⟩ | ⟨y, hy⟩
      · exact (I.bs b u hu).2
      · exact I.freeC y b hy
    · rw [g2 b (decide_eq_false hb)] at e
      cases e
  have sub : ∀ b o, X.base.get? b = some o → G.get? b = some o := fun b o e => by
    rw [gk b (.inl ⟨o, e⟩)]
    exact (I.bs b o e).1
  have nsK : ∀ {b : Addr} {m : Str → Option Value}, X.base.Ns b m → G.Ns b m := fun {b m} ⟨o, es, ep, e, d, r⟩ => ⟨o, es, ep, sub _ _ e, d, r⟩
  have hM : L2.Mod X.K X.mg G := ⟨fun b o e => sub b o (I.ok.mod.kin b o e), nsK I.ok.mod.glob, let ⟨mb, h1, h2⟩ := I.ok.mod.blt; ⟨mb, nsK h1, h2⟩, let ⟨mc, h1, h2⟩ := I.ok.mod.nolimit; ⟨mc, nsK h1, h2⟩⟩
  have noF : ∀ b ∈ frs X.stack, G.get? b = none := fun b hb => by
    refine g2 b (decide_eq_false fun z => ?_)
    rcases z with ⟨o, e⟩ | ⟨y, hy⟩
    · have := (I.stack.mem hb).1
      rw [e] at this
      cases this
    · rw [hst] at hb
      have hm : frs (X.env :: X.outer) = X.env.locals :: frs X.outer := by
        unfold frs
        rw [List.filterMap_cons, hfr]
      rw [hm] at hb
      obtain ⟨v, hc⟩ := I.cell y b hy
      rcases List.mem_cons.mp hb with e | e
      · subst e
        obtain ⟨m, hn, _⟩ := I.loc
        exact ns_cell hn hc
      · obtain ⟨_, o, ho, _⟩ := I.ok.funs.mem e
        exact absurd (Heap.lt_size ho) (Nat.not_lt_of_le (I.ok.cab y b (hfn y) hy))
  have C := NdefX.cells_of I cp
  refine ⟨G, ⟨sub, fun b o e => (gs b o e).1⟩, ⟨C.len, fun y c e => ⟨rfl, ?_⟩, C.inj, fun i y e => ?_⟩, ⟨I.ok.frames, hM, gs, ?_, funFrames_none I.stack noF, I.stkFree, I.hok, I.bare⟩⟩
  · obtain ⟨_, v, o, ho, hd⟩ := C.all y c e
    exact ⟨v, o, by rw [gk c (.inr ⟨y, cp.sub y c e⟩)]; exact ho, hd⟩
  · obtain ⟨c, hc, hv⟩ := C.has i y e
    refine ⟨c, hc, fun v ev => ?_⟩
    obtain ⟨u, r, o, ho, hd⟩ := hv v ev
    exact ⟨u, r, o, by rw [gk c (.inr ⟨y, cp.sub y c hc⟩)]; exact ho, hd⟩
  · rw [g3]
    exact Nat.le_refl _
end
/-! ### calls of defs that get closures of the running frame -/
section
variable {X : Cx} {CX : CXT} {k : Nat} {f C : Addr} {fd : FuncData} {ps : List Str} {sp : Sp} {E : XK} {m x : Str} {pos apos p : Pos} {e o : Expr} {es : List Expr} {ta : TE} {t : TA} {pl : Sem Bool} {cl : List (Str × Addr)} {fr : List Str} {js : List Nat}
theorem run_fnU {pins : List (Addr × Obj)} {σ : St} {H : Hp} {s : Shared} {Q : VK} {us : List Value} {vs : List V} {base' : Heap} (e0 : Env0 X.prog X.w X.K X.mg base' X.A X.stack s H) (F : FnOk X.prog X.w X.K X.mg base' CX k f fd ps sp) (hr : Room k X.A) (hb : Binds X.K fd ps []) (hx : Passes CX X E)
    (I : Inv X pins σ H s) (r : Vals vs us) (h : sp vs H Q E) : wpAny (model X.prog X.w) X.A (call (.ref f) us) (EP X pins σ Q) X.xe s := by
  have hl : us.length = ps.length := by rw [← r.length]; exact F.len _ _ _ _ h
  have b := hb s us I.kIn (by rw [List.append_nil]; exact hl)
  rw [List.append_nil] at b
  refine wpAny_call (codeAny_mono (F.run X.A X.stack s H ⟨us, []⟩ us vs Q E hr e0 b r h) fun r s' hq => ?_)
  cases r with
  | error e => exact hx pins σ H s e s' I hq
  | ok fl =>
    cases fl with
    | ret u => exact I.after hq
    | next => exact False.elim hq
    | brk => exact False.elim hq
    | cont => exact False.elim hq
/-- methods by class, over any base -/
inductive AltsG (X : Cx) (base : Heap) (CX : CXT) (k : Nat) (m : Str) : List (Addr × Sp) → Prop
  | nil : AltsG X base CX k m []
  | cons {C f : Addr} {fd : FuncData} {ps : List Str} {sp : Sp} {r : List (Addr × Sp)} {j : Nat} (hj : j ≤ k) (c : Cls X.K C) (hm : Meth X.K C m f) (F : FnOk X.prog X.w X.K X.mg base CX j f fd ps sp) (hb : Binds X.K fd ps []) (h : AltsG X base CX k m r) : AltsG X base CX k m ((C, sp) :: r)
theorem AltsG.get {base : Heap} {alts : List (Addr × Sp)} (h : AltsG X base CX k m alts) : ∀ {C : Addr} {sp : Sp}, (C, sp) ∈ alts → ∃ f fd ps, Cls X.K C ∧ Meth X.K C m f ∧ FnOk X.prog X.w X.K X.mg base CX k f fd ps sp ∧ Binds X.K fd ps [] := by
  induction h with
  | nil => intro C sp h; cases h
  | cons hj c hm F hb _ ih =>
    intro C sp h
    rcases List.mem_cons.mp h with e | e
    · cases e
      exact ⟨_, _, _, c, hm, F.mono hj, hb⟩
    · exact ih e
/-- o.m(..): closures of the running frame among the arguments; js: where what they capture stands -/
def tMethU (js : List Nat) (alts : List V → List (Addr × Sp)) (m : Str) (E : XK) (ta : TE) (t : TA) : TE := fun σ H Q => ta σ H fun x H1 => ∃ a C dx fs us sp, x = .ref a ∧ H1 a = some (.ins C dx fs) ∧ js.map (NdefX.slotAt σ) = us.map some ∧ (C, sp) ∈ alts us ∧ fs.lookup m = none ∧
  t σ H1 fun vs H2 => sp (x :: vs) H2 Q E
theorem pe_methU {alts : List V → List (Addr × Sp)} (he : PE X o ta) (hfn : ∀ y, X.fn y = true) (hst : X.stack = X.env :: X.outer) (hfr : X.env.frame = some X.env.locals) (cp : X.Ok → NdefX.Caps X cl fr js)
    (al : ∀ base' (us : List V), (∀ b o, X.base.get? b = some o → base'.get? b = some o) → NdefX.CellsAt cl fr (us.map some) base' em → AltsG X base' CX k m (alts us)) (hr : Room k X.A) (hx : Passes CX X E) (ha : PA X (e :: es) t)
    (hs : starEach (e :: es) X.env = (false, eval e X.env) :: starEach es X.env := by rfl) (hpl : (backTo pos (starEach es X.env)).any (·.1) = false := by rfl)
    (ht : eval (.Call (.Attribute o m apos) (e :: es) [] pos) X.env = (do
      let ov ← eval o X.env
      standAt apos.atName
      let (f, first) ← holding [ov] (getMethod ov m pl)
      callWith pos f first (backTo pos (starEach (e :: es) X.env)) (backToKw pos (keywordEach [] X.env))) := by rfl) :
    PE X (.Call (.Attribute o m apos) (e :: es) [] pos) (tMethU js alts m E ta t) := by
  refine ⟨fun pins s σ H Q I h => ?_⟩
  refine PySem.W.methodCall_KW (pl := pl) (thn (he.run pins s σ H _ I h) fun u s1 ⟨x, H1, I1, rx, a, C, dx, fs, vs0, sp, ex, ea, hus, hin, l, q⟩ => ?_) ht
  subst ex
  obtain rfl : u = Value.ref a := rx
  obtain ⟨base1, up1, C1, _⟩ := Inv.up I1 hfn hst hfr (cp I1.ok)
  rw [hus] at C1
  obtain ⟨f, fd, ps, c, hm, _, hb⟩ := (al base1 vs0 up1.sub C1).get hin
  refine getmeth_ok I1 ea c hm l ?_
  refine PySem.W.callWith_K (first := [.ref a]) (h₀ := X.base) I.ok.mod.kin hm.kp (thn (ha.run pos pins s1 σ H1 _ I1 q) fun us s2 ⟨vs, H2, I2, r, q2⟩ => ⟨I2.kIn, ?_⟩) hs hpl
  obtain ⟨base2, up2, C2, e2⟩ := Inv.up I2 hfn hst hfr (cp I2.ok)
  rw [hus] at C2
  obtain ⟨f2, fd2, ps2, _, hm2, F2, hb2⟩ := (al base2 vs0 up2.sub C2).get hin
  obtain rfl : f = f2 := by
    have e1 := hm.1.symm.trans hm2.1
    cases e1
    rfl
  exact run_fnU (us := .ref a :: us) (vs := .ref a :: vs) e2 F2 hr hb2 hx I2 (.cons rfl r) q2
/-- f(..), closures of the running frame among the arguments -/
def tCallU (js : List Nat) (sp : List V → Sp) (E : XK) (t : TA) : TE := fun σ H Q => t σ H fun vs H1 => ∃ us, js.map (NdefX.slotAt σ) = us.map some ∧ sp us vs H1 Q E
theorem pe_callU {sp : List V → Sp} (F : ∀ base' (us : List V), (∀ b o, X.base.get? b = some o → base'.get? b = some o) → NdefX.CellsAt cl fr (us.map some) base' em → FnOk X.prog X.w X.K X.mg base' CX k f fd ps (sp us)) (hfn : ∀ y, X.fn y = true) (hst : X.stack = X.env :: X.outer) (hfr : X.env.frame = some X.env.locals) (cp : X.Ok → NdefX.Caps X cl fr js)
    (hr : Room k X.A) (hg : Gl X x) (hm : X.mg x = some (.ref f)) (hk : PySem.W.keepIn X.K (.ref f) = true) (hb : Binds X.K fd ps []) (hx : Passes CX X E) (ha : PA X (e :: es) t)
    (hdb : (x == ("__debug__" : Str)) = false := by decide) (hs : starEach (e :: es) X.env = (false, eval e X.env) :: starEach es X.env := by rfl) (hpl : (backTo pos (starEach es X.env)).any (·.1) = false := by rfl) :
    PE X (.Call (.Name x p) (e :: es) [] pos) (tCallU js sp E t) := by
  refine ⟨fun pins s σ H Q I h => ?_⟩
  refine wpAny_Call_Name_kw (ld_glob I hg hm ?_ hdb)
  refine PySem.W.callWith_K (h₀ := X.base) I.ok.mod.kin hk (thn (ha.run pos pins s σ H _ I h) fun us s1 ⟨vs, H1, I1, r, vs0, hus, q⟩ => ⟨I1.kIn, ?_⟩) hs hpl
  obtain ⟨base2, up2, C2, e2⟩ := Inv.up I1 hfn hst hfr (cp I1.ok)
  rw [hus] at C2
  exact run_fnU e2 (F base2 vs0 up2.sub C2) hr hb hx I1 r q
/-! ### a closure that came as an argument is called; the base has its cells -/
theorem CellsAt.live {pins : List (Addr × Obj)} {σ : St} {H : Hp} {s : Shared} {ws : List (Option V)} (C : NdefX.CellsAt cl fr ws X.base em) (I : Inv X pins σ H s) : NdefX.CellsAt cl fr ws s.heap H := by
  refine ⟨C.len, fun y c e => ?_, C.inj, fun i y e => ?_⟩
  · obtain ⟨_, v, o, ho, hd⟩ := C.all y c e
    exact ⟨(I.bs c o ho).2, v, o, (I.bs c o ho).1, hd⟩
  · obtain ⟨c, hc, hv⟩ := C.has i y e
    refine ⟨c, hc, fun v ev => ?_⟩
    obtain ⟨u, r, o, ho, hd⟩ := hv v ev
    exact ⟨u, r, o, (I.bs c o ho).1, hd⟩
def tCallP (mk : Addr → CF) (i : Nat) (sp : Sp) (E : XK) (t : TA) : TE := fun σ H Q => ∃ f c', σ[i]? = some (some (.ref f)) ∧ H f = some ((mk c').ob f) ∧
  t σ H fun vs H1 => H1 f = some ((mk c').ob f) ∧ H1 (mk c').c = some (LamX.CodeO (mk c').c (mk c').qual) ∧ sp vs H1 Q E
theorem pe_callP {mk : Addr → CF} {i j : Nat} {us : List V} {spn : List (Option V) → Sp} (Fn : ∀ f c', COk X.prog X.w X.K X.mg X.base CX j f (mk c') ps fr spn) (C : NdefX.CellsAt cl fr (us.map some) X.base em) (hcl : ∀ c', (mk c').cl = cl) (hr : Room k X.A) (hk : j ≤ k) (hx : Passes CX X E)
    (hN : X.N[i]? = some x) (hv : Vis X.env.scope x) (ha : PA X (e :: es) t)
    (hd : (x == ("__debug__" : Str)) = false := by decide) (hcd : (x == ("__classdict__" : Str)) = false := by decide)
    (hs : starEach (e :: es) X.env = (false, eval e X.env) :: starEach es X.env := by rfl) (hpl : (backTo pos (starEach es X.env)).any (·.1) = false := by rfl) :
    PE X (.Call (.Name x p) (e :: es) [] pos) (tCallP mk i (spn (us.map some)) E t) := by
  refine ⟨fun pins s σ H Q I h => ?_⟩
  obtain ⟨f, c', hs', hf, ht⟩ := h
  refine wpAny_Call_Name_kw (thn ((pe_var (pos := p) hN hv hd hcd).run pins s σ H (fun v H1 => v = .ref f ∧ H1 = H) I ⟨.ref f, hs', rfl, rfl⟩) fun u s1 ⟨v, H1, I1, r1, ev, eH⟩ => ?_)
  subst ev
  subst eH
  obtain rfl : u = Value.ref f := r1
  refine PySem.W.callWith_F (first := []) (cfAt_of I1 hf) (thn (ha.run pos pins s1 σ _ _ I1 ht) fun ws s2 ⟨vs, H2, I2, r, h1, h2, q⟩ => ⟨cfAt_of I2 h1, ?_⟩) hs hpl
  show wpAny _ _ (call (.ref f) ws) _ _ _
  have C2 := CellsAt.live C I2
  rw [← hcl c'] at C2
  refine wpAny_call (codeAny_mono ((Fn f c').run X.A X.stack s2 H2 ws vs (us.map some) Q E (hr.mono hk) I2.env0 h1 h2 C2 r q) fun r s' hq => ?_)
  cases r with
  | error e => exact hx pins σ H2 s2 e s' I2 hq
  | ok fl =>
    cases fl with
    | ret u => exact I2.after hq
    | next => exact False.elim hq
    | brk => exact False.elim hq
    | cont => exact False.elim hq
end
theorem _root_.LamX.TabB.up {base base' : Heap} {mg : Str → Option Value} {c P : Addr} (t : LamX.TabB base mg c P) (k : ∀ b o, base.get? b = some o → base'.get? b = some o) : LamX.TabB base' mg c P :=
  ⟨t.code.keeps k, let ⟨bm, o, h1, h2, h3, h4, h5, h6⟩ := t.bm; ⟨bm, o, h1, h2, h3, h4, k _ _ h5, h6⟩, t.gP⟩
section
variable {X : Cx} {cl0 : List (Str × Addr)} {fr : List Str} {js : List Nat} {st : Stmt}
theorem capsC (hB : NdefX.ndefB X.env.scope (C8.fnScope st) fr = true) (hjs : js.map (fun j => X.N[j]?) = fr.map some) (hcl : X.env.cells = cl0) : X.Ok → NdefX.Caps X (cloFrom cl0 (C8.fnScope st).names []) fr js := fun ok => by
  subst hcl
  exact NdefX.Caps.made ok (NdefX.ndef_free hB) (NdefX.ndef_fr hB) hjs
theorem ps_ndefC {T : List NdefX.NTab} {nm : Nat → Nat → Str} {c P : Addr} {name q : Str} {pos : Pos} {i : Nat} (hst : st = .FunctionDef name (C8.fnArgs st) (C8.fnBody st) [] none [] (C8.fnScope st) none name pos) (TB : LamX.TabB X.base X.mg c P) (hcode : X.env.code = .ref c) (hm : (P, nm) ∈ T) (hn : nm pos.line pos.col = q) (hq : X.env.qual ++ name = q)
    (hu : ∀ p ∈ T, p.1 = P → p.2 = nm) (hB : NdefX.ndefB X.env.scope (C8.fnScope st) fr = true) (hd0 : (C8.fnArgs st).defaults = []) (hk0 : (C8.fnArgs st).kw_defaults = []) (ha : annTrees (C8.fnArgs st) none X.env = [])
    (hN : X.N.Nodup) (hi : X.N[i]? = some name) (hx : Loc X.env.scope name) (hf : X.fn name = true) (hcl : X.env.cells = cl0) : PS X st (NdefX.tNdefM T i (NdefX.NF.of st name q (cloFrom cl0 (C8.fnScope st).names []))) := by
  subst hcl hq
  exact NdefX.ps_ndefMS hst TB hcode hm hn hu (NdefX.ndef_free hB) hd0 hk0 ha hN hi hx (.inl hf)
end
/-! ### on deep data -/
section
variable {K : PySem.W.Frag} {ρ ρ' : Env} {te ta tb : TE} {d e : D} {ds es cs : List D} {tt : TT} {R : DEnds} {C : Addr} {ns : List Str}
/-- def name(..): .. in a body -/
theorem xs_ndef {i : Nat} {mk : Addr → NdefX.NF} (hc : ∀ c, (mk c).c = c) (q : ∀ c, R.nx (ρ.set i (some (.sh (.clo (CF.n (mk c)) [] []))))) : ExS K (NdefX.tNdefM TbC.T i mk) ρ R := fun B Hs H σ Dn r l => by
  refine ⟨r.tb.2, fun f c' H1 eN dm T1 f0 f1 c1 => ?_⟩
  have nt := r.tb.1
  have nHs : Hs f = none := by
    cases z : Hs f with
    | none => rfl
    | some u =>
      rw [r.ex f u z] at f0
      cases f0
  have old : ∀ a o, Hs a = some o → H1 a = some o := fun a o z => eN a o (r.ex a o z) fun ps z2 => nt a ps (by rw [z, z2])
  have g : Gr Hs H H (fun a => if a = f ∨ a = c' then H1 a else Hs a) H1 := by
    refine ⟨eN, fun a o z => ?_, fun a o z => ?_, fun a z => ?_, fun a z y => z (dm a y), fun a z y => z (dm a y), fun a z => ?_, fun _ a ps z => ?_, fun _ => T1⟩
    · show (if a = f ∨ a = c' then H1 a else Hs a) = some o
      split
      · exact old a o z
      · exact z
    · have z : (if a = f ∨ a = c' then H1 a else Hs a) = some o := z
      split at z
      · exact z
      · exact old a o z
    · show (if a = f ∨ a = c' then H1 a else Hs a) = Hs a
      obtain ⟨o, e1, e2⟩ := z
      refine if_neg fun y => ?_
      have e3 := eN a o e1 (pln_tbl e2)
      rcases y with y | y
      · rw [y, f0] at e1
        cases e1
      · rw [y, c1] at e3
        cases e3
        cases e2
    · obtain ⟨o, e1, e2⟩ := z
      exact ⟨o, eN a o e1 (pln_tbl e2), e2⟩
    · have z : (if a = f ∨ a = c' then H1 a else Hs a) = some (.tbl ps) := z
      split at z
      · rename_i y
        rcases y with y | y
        · rw [y, f1] at z
          cases z
        · rw [y, c1] at z
          cases z
      · exact nt a ps z
  refine l.nx _ H1 _ _ ((r.grow g).set i (.clo ?_ ?_ .nil)) (q c')
  · show (if f = f ∨ f = c' then H1 f else Hs f) = _
    rw [if_pos (.inl rfl)]
    exact f1
  · show (if (mk c').c = f ∨ (mk c').c = c' then H1 (mk c').c else Hs (mk c').c) = _
    rw [if_pos (.inr (hc c')), hc c']
    refine c1.trans ?_
    show some (LamX.CodeO c' (mk c').qual) = some (LamX.CodeO (mk c').c (mk c').qual)
    rw [hc c']
/-- a closure's captured values are told -/
def dress (us : List V) (cs : List D) : D → D
  | .clo F _ _ => .clo F us cs
  | d => d
theorem Rep.dress {H : Hp} {us : List V} (h : RepL K H us cs) {v : V} {d : D} (x : Rep K H v d) : Rep K H v (dress us cs d) := by
  cases x with
  | clo a b c => exact .clo a b h
  | non => exact .non
  | bl b => exact .bl b
  | int i => exact .int i
  | str x => exact .str x
  | ty n => exact .ty n
  | fn a => exact .fn a
  | lst a b => exact .lst a b
  | scr a b => exact .scr a b
  | tup a b => exact .tup a b
  | obj a b => exact .obj a b
theorem RepL.dress {H : Hp} {us : List V} (h : RepL K H us cs) : ∀ {vs : List V} {ds : List D}, RepL K H vs ds → RepL K H vs (ds.map (dress us cs))
  | _, _, .nil => .nil
  | _, _, .cons a b => .cons (a.dress h) (RepL.dress h b)
/-- the slots js hold shared data -/
theorem RS.gets {B : Base} {Hs H : Hp} {σ : St} (r : RS K B Hs H σ ρ) : ∀ {js : List Nat} {cs : List D}, js.map (fun j => ρ[j]?) = cs.map (fun d => some (some (.sh d))) → ∃ us, js.map (NdefX.slotAt σ) = us.map some ∧ RepL K Hs us cs
  | [], [], _ => ⟨[], rfl, .nil⟩
  | [], _ :: _, h => by simp at h
  | _ :: _, [], h => by simp at h
  | j :: js, c :: cs, h => by
    rw [List.map_cons, List.map_cons] at h
    obtain ⟨h1, h2⟩ := List.cons.inj h
    obtain ⟨us, e1, e2⟩ := RS.gets r h2
    obtain ⟨v, e3, e4⟩ := r.get h1
    exact ⟨v :: us, by rw [List.map_cons, List.map_cons, e1, NdefX.slotAt_of e3], .cons e4 e2⟩
theorem ev_methU {js : List Nat} {alts : List V → List (Addr × Sp)} {m : Str} {E : XK} {t : TA} {α : Type} {pre : α → Prop} {arg : List V → α → List D} {res : α → D} (x : α) (h : EvD K ta ρ (.obj C ns ds)) (ht : EvA K t ρ es) (hj : js.map (fun j => ρ[j]?) = cs.map (fun d => some (some (.sh d)))) (hin : ∀ us, (C, spG K pre (arg us) res) ∈ alts us) (hm : ns.contains m = false)
    (ha : ∀ us, arg us x = .obj C ns ds :: es.map (dress us cs)) (p : pre x) : EvD K (tMethU js alts m E ta t) ρ (res x) := fun B Hs H σ r Q q =>
  h B Hs H σ r _ fun Hs1 H1 v g1 xo => by
    cases xo with
    | @obj a _ dx _ vs _ hp xs =>
      obtain ⟨us, e1, e2⟩ := r.gets hj
      refine ⟨a, C, dx, _, us, _, rfl, g1.lv _ _ hp, e1, hin us, look_none hm, ht B Hs1 H1 σ (r.grow g1) _ fun Hs2 H2 ws g2 ys => ?_⟩
      refine ⟨Hs2, x, ⟨g2.lv, (r.grow (g1.trans g2)).tb⟩, by rw [ha us]; exact .cons (.obj (g2.sh _ _ hp) (xs.mono g2.sh)) (RepL.dress (e2.mono (g1.trans g2).sh) ys), p, fun Hs' H' w d g y e => ?_⟩
      exact q Hs' H' w ((g1.trans g2).trans g) (e ▸ y)
/-- what a closure promises: us what its cells hold -/
def spCl (K : PySem.W.Frag) {α : Type} (pre : α → Prop) (arg cap : α → List D) (res : α → D) (us : List V) : Sp := fun vs H Q _ => ∃ (Hs : Hp) (x : α), (Ex Hs H ∧ NT Hs ∧ TB H) ∧ RepL K Hs vs (arg x) ∧ RepL K Hs us (cap x) ∧ pre x ∧
  ∀ Hs' H' v, Gr Hs H H Hs' H' → Rep K Hs' v (res x) → Q v H'
def spN_ (sp : List V → Sp) (ws : List (Option V)) : Sp := fun vs H Q E => ∃ us, ws = us.map some ∧ sp us vs H Q E
theorem ev_callP {mk : Addr → CF} {i : Nat} {us : List V} {E : XK} {t : TA} {α : Type} {pre : α → Prop} {arg cap : α → List D} {res : α → D} (x : α) {c : Addr} (hi : ρ[i]? = some (some (.sh (.clo (mk c) us (cap x))))) (ht : EvA K t ρ (arg x)) (p : pre x) :
    EvD K (tCallP mk i (spN_ (spCl K pre arg cap res) (us.map some)) E t) ρ (res x) := fun B Hs H σ r Q q => by
  obtain ⟨v, e, xv⟩ := r.get hi
  cases xv with
  | @clo f _ _ _ h1 h2 h3 =>
    refine ⟨f, c, e, r.ex _ _ h1, ht B Hs H σ r _ fun Hs1 H1 vs g ys => ?_⟩
    exact ⟨g.lv _ _ (g.sh _ _ h1), g.lv _ _ (g.sh _ _ h2), us, rfl, Hs1, x, ⟨g.lv, (r.grow g).tb⟩, ys, h3.mono g.sh, p, fun Hs' H' w g2 y => q Hs' H' w (g.trans g2) y⟩
/-- a closure by its body -/
theorem nok_r {P : Program} {w : World} {mg : Str → Option Value} {base : Heap} {N ps fr : List Str} {F : NdefX.NF} {f : Addr} {k : Nat} {α : Type} {pre : α → Prop} {arg cap : α → List D} {res : α → D} (S : NdefX.NScope N ps fr F.scope)
    (hb : ∀ (doc pm ctv : Value) (us : List Value), us.length = ps.length → bindArgs (F.fd doc pm ctv) ⟨us, []⟩ = pure (ps.zip us)) (hl : ∀ x, (arg x).length = ps.length) (hc : ∀ x, (cap x).length = fr.length) {t : TS}
    (hp : ∀ (A : Around) (outer : List PySem.Env) (s : Shared) (H : Hp) (E : XK), Room k (A.deeper (NdefX.envF F f s.heap.objs.size)) → PSs (NdefX.ncx CX0 P w K mg base N F f A outer s H E).nox F.body t)
    (hd : ∀ x, pre x → ExS K t (entry N (arg x ++ cap x)) { nx := fun _ => False, rt := fun d => d = res x }) : COk P w K mg base CX0 (k + 1) f (CF.n F) ps fr (spN_ (spCl K pre arg cap res)) := by
  refine COk.of <| NdefX.nok_of S hb (fun ws vs H Q E h => ?_) (fun A outer s H vs ws Q E hr h1 h2 h3 h => ?_)
  · obtain ⟨us, _, Hs, x, _, r, _⟩ := h
    rw [r.length, hl]
  · obtain ⟨us, e1, Hs, x, e, r, r2, hpx, q⟩ := h
    refine ⟨t, (hp A outer s H E hr).nox, ?_⟩
    have hN : (arg x ++ cap x).length ≤ N.length := by
      have := congrArg List.length S.pre
      rw [List.length_take, List.length_append] at this
      rw [List.length_append, hl, hc]
      omega
    have es : NdefX.startF N vs ws = L2.start N (vs ++ us) := by
      unfold NdefX.startF L2.start
      rw [e1, List.map_append, List.length_map, List.length_append, List.append_assoc, Nat.sub_sub]
    rw [es]
    exact hd x hpx ⟨Hs, H, H, e.2⟩ Hs H (L2.start N (vs ++ us)) _ (rs_entry e (r.append r2) hN)
      ⟨fun Hs' H' σ ρ r' z => z.elim, fun Hs' H' v d g x z => q Hs' H' v g (z ▸ x), fun _ _ _ _ _ _ _ _ _ _ z => z.elim, fun _ _ _ _ _ z => z.elim, fun _ _ _ _ _ z => z.elim, fun _ _ _ _ _ _ _ _ z => z.elim, fun _ _ _ _ _ _ _ _ _ z => z.elim, fun _ _ _ _ _ _ _ _ z => z.elim⟩
end
/-! ### defs that make closures -/
/-- a def whose code object is at c -/
structure FunC (K : PySem.W.Frag) (x qual : Str) (st : Stmt) (f : Addr) (fd : FuncData) (c : Addr) : Prop where
  ex : ∃ (oc : Value) (od : Option Addr) (kV doc pm : Value) (an : Option Addr) (ct : Value) (osl : Array (Option Value)),
    fd = PySem.W.fnOf x qual (defArgs st) (defBody st) (defScope st) .none kV doc pm an (.ref c) ct ∧ K.lookup f = some ⟨oc, od, .func fd, osl⟩ ∧ PySem.W.codeIn K (.ref c) qual = true
  kp : PySem.W.keepIn K (.ref f) = true
section
variable {P : Program} {w : World} {K : PySem.W.Frag} {mg : Str → Option Value} {base : Heap} {x qual : Str} {st : Stmt} {f c : Addr} {fd : FuncData} {N ps : List Str} {k : Nat} {sp : Sp} {α : Type} {pre : α → Prop} {arg : α → List D}
theorem FunC.fun (F : FunC K x qual st f fd c) : Fun K x qual st f fd := by
  obtain ⟨oc, od, kV, doc, pm, an, ct, osl, h1, h2, h3⟩ := F.ex
  exact ⟨⟨oc, od, kV, doc, pm, an, _, ct, osl, h1, h2, h3⟩, F.kp⟩
theorem FunC.ok (F : FunC K x qual st f fd c) (S : FnScope N ps (defScope st)) (len : ∀ vs H Q E, sp vs H Q E → vs.length = ps.length)
    (hbody : ∀ (A : Around) (outer : List PySem.Env) (s : Shared) (H : Hp) (vs : List V) (Q : VK) (E : XK), Room k (A.deeper (envOfC qual (defScope st) s.heap.objs.size f (.ref c))) → sp vs H Q E →
      ∃ t, PSs (cxOf CX0 P w K mg base N qual (defScope st) f (.ref c) A outer s H E).nox (defBody st) t ∧ t { nx := fun _ H' => Q .non H', rt := Q } (L2.start N vs) H) : FnOk P w K mg base CX0 (k + 1) f fd ps sp := by
  obtain ⟨oc, od, kV, doc, pm, an, ct, osl, rfl, lk, hcd⟩ := F.ex
  refine fn_of lk hcd S len fun A outer s H vs Q E hr hsp => ?_
  obtain ⟨t, h, q⟩ := hbody A outer s H vs Q E hr hsp
  exact ⟨t, h.nox, q⟩
/-- the cells of its frame -/
abbrev cellsOf (st : Stmt) (s : Shared) : List (Str × Addr) := cellsFrom (s.heap.objs.size + 1) (defScope st).names []
theorem fn_rC {post : α → D → Prop} (F : FunC K x qual st f fd c) (S : FnScope N ps (defScope st)) (hl : ∀ x, (arg x).length = ps.length) {t : List (Str × Addr) → TS}
    (hb : ∀ (A : Around) (outer : List PySem.Env) (s : Shared) (H : Hp) (E : XK) (cl : List (Str × Addr)), cellsOf st s = cl → Room k (A.deeper (envOfC qual (defScope st) s.heap.objs.size f (.ref c))) → PSs (cxOf CX0 P w K mg base N qual (defScope st) f (.ref c) A outer s H E).nox (defBody st) (t cl))
    (hd : ∀ cl x, pre x → ExS K (t cl) (entry N (arg x)) { nx := fun _ => post x .non, rt := post x }) : FnOk P w K mg base CX0 (k + 1) f fd ps (spR K pre arg post) := by
  have hN : ps.length ≤ N.length := by have := congrArg List.length S.pre; rw [List.length_take] at this; omega
  refine F.ok S (fun vs H Q E h => ?_) (fun A outer s H vs Q E hr h => ?_)
  · obtain ⟨Hs, x, _, r, _⟩ := h
    rw [r.length, hl]
  · obtain ⟨Hs, x, e, r, hp, q⟩ := h
    refine ⟨_, hb A outer s H E _ rfl hr, ?_⟩
    exact hd _ x hp ⟨Hs, H, H, e.2⟩ Hs H (L2.start N vs) _ (rs_entry e r (by rw [hl]; exact hN))
      ⟨fun Hs' H' σ ρ r' z => q Hs' H' .non .non r'.gr .non z, fun Hs' H' v d g x z => q Hs' H' v d g x z, fun _ _ _ _ _ _ _ _ _ _ z => z.elim, fun _ _ _ _ _ z => z.elim, fun _ _ _ _ _ z => z.elim, fun _ _ _ _ _ _ _ _ z => z.elim, fun _ _ _ _ _ _ _ _ _ z => z.elim, fun _ _ _ _ _ _ _ _ z => z.elim⟩
theorem fn_fC {res : α → List D} (F : FunC K x qual st f fd c) (S : FnScope N ps (defScope st)) (hl : ∀ x, (arg x).length = ps.length) {t : List (Str × Addr) → TS}
    (hb : ∀ (A : Around) (outer : List PySem.Env) (s : Shared) (H : Hp) (E : XK) (cl : List (Str × Addr)), cellsOf st s = cl → Room k (A.deeper (envOfC qual (defScope st) s.heap.objs.size f (.ref c))) → PSs (cxOf CX0 P w K mg base N qual (defScope st) f (.ref c) A outer s H E).nox (defBody st) (t cl))
    (hd : ∀ cl x, pre x → ExS K (t cl) (entry N (arg x)) { nx := fun _ => False, rt := fun _ => False, rf := fun ds => ds = res x }) : FnOk P w K mg base CX0 (k + 1) f fd ps (spF K pre arg res) := by
  have hN : ps.length ≤ N.length := by have := congrArg List.length S.pre; rw [List.length_take] at this; omega
  refine F.ok S (fun vs H Q E h => ?_) (fun A outer s H vs Q E hr h => ?_)
  · obtain ⟨Hs, x, _, r, _⟩ := h
    rw [r.length, hl]
  · obtain ⟨Hs, x, e, r, hp, q⟩ := h
    refine ⟨_, hb A outer s H E _ rfl hr, ?_⟩
    exact hd _ x hp ⟨Hs, H, H, e.2⟩ Hs H (L2.start N vs) _ (rs_entry e r (by rw [hl]; exact hN))
      ⟨fun Hs' H' σ ρ r' z => z.elim, fun Hs' H' v d g x z => z.elim, fun Hs' H' p ws ds g n ns e x z => q Hs' H' p ws g n ns e (z ▸ x), fun _ _ _ _ _ z => z.elim, fun _ _ _ _ _ z => z.elim, fun _ _ _ _ _ _ _ _ z => z.elim, fun _ _ _ _ _ _ _ _ _ z => z.elim, fun _ _ _ _ _ _ _ _ z => z.elim⟩
theorem funC_mk {oc : Value} {od an : Option Addr} {osl : Array (Option Value)} {kV doc pm ct : Value} (l : K.lookup f = some ⟨oc, od, .func (PySem.W.fnOf x qual (defArgs st) (defBody st) (defScope st) .none kV doc pm an (.ref c) ct), osl⟩)
    (h : PySem.W.codeIn K (.ref c) qual = true) (k : PySem.W.keepIn K (.ref f) = true) : FunC K x qual st f (PySem.W.fnOf x qual (defArgs st) (defBody st) (defScope st) .none kV doc pm an (.ref c) ct) c := ⟨⟨oc, od, kV, doc, pm, an, ct, osl, rfl, l, h⟩, k⟩
end
end DL

/-! DIo: own things handed to other defs, that may change them. -/
namespace DL
open PySem L2
open PyProof.Rows (envOfC)
variable [TbC]
/-- an argument: shared data; an own tree; a closure over own trees -/
inductive AV where
  | d (x : D)
  | o (t : O)
  | c (F : CF) (us : List V) (os : List O)
def Is (K : PySem.W.Frag) (Hs : Hp) (v : V) (R : Hp) : AV → Prop
  | .d x => Rep K Hs v x ∧ R = em
  | .o t => Own K Hs v t R
  | .c F us os => ∃ f, v = .ref f ∧ Hs f = some (F.ob f) ∧ Hs F.c = some (LamX.CodeO F.c F.qual) ∧ OwnL K Hs us os R
/-- a slot that holds a closure over own trees -/
@[reducible] def SV.cb (K : PySem.W.Frag) (v0 : V) (F : CF) (us : List V) (os : List O) : SV := .ow false (fun Hs v R => v = v0 ∧ ∃ f, v = .ref f ∧ Hs f = some (F.ob f) ∧ Hs F.c = some (LamX.CodeO F.c F.qual) ∧ OwnL K Hs us os R) fun _ _ _ h => by
  obtain ⟨_, _, _, _, _, h⟩ := h
  exact h.pl
def AV.sv (K : PySem.W.Frag) (v : V) : AV → SV
  | .d x => .sh x
  | .o t => .tr K ⟨false, some v⟩ t
  | .c F us os => .cb K v F us os
theorem Is.mono {K : PySem.W.Frag} {Hs Hs' : Hp} (e : Ex Hs Hs') {v : V} {R : Hp} : ∀ {a : AV}, Is K Hs v R a → Is K Hs' v R a
  | .d _, h => ⟨h.1.mono e, h.2⟩
  | .o _, h => Own.mono e h
  | .c _ _ _, ⟨f, h1, h2, h3, h4⟩ => ⟨f, h1, e _ _ h2, e _ _ h3, h4.mono e⟩
theorem Is.holds {K : PySem.W.Frag} {Hs : Hp} {v : V} {R : Hp} : ∀ {a : AV}, Is K Hs v R a → Holds K Hs R v (a.sv K v)
  | .d _, h => ⟨h.1, fun a => by rw [h.2]; rfl⟩
  | .o _, h => fun Hs1 e => ⟨fun w z => Option.some.inj z, Own.mono e h⟩
  | .c _ _ _, ⟨f, h1, h2, h3, h4⟩ => fun Hs1 e => ⟨rfl, f, h1, e _ _ h2, e _ _ h3, h4.mono e⟩
structure IsL (K : PySem.W.Frag) (Hs H : Hp) (vs : List V) (as : List AV) (Rs : Nat → Hp) : Prop where
  len : vs.length = as.length
  is : ∀ (i : Nat) v a, vs[i]? = some v → as[i]? = some a → Is K Hs v (Rs i) a
  reg : ∀ i a o, Rs i a = some o → i < vs.length ∧ H a = some o ∧ Hs a = none ∧ o.pln = true
  dis : ∀ i j a, Rs i a ≠ none → Rs j a ≠ none → i = j
def AV.own : AV → Bool
  | .d _ => false
  | _ => true
/-- behind the call -/
structure IsB (K : PySem.W.Frag) (H Hs' H' : Hp) (vs : List V) (as : List AV) (Rs Rs' : Nat → Hp) : Prop where
  len : vs.length = as.length
  is : ∀ (i : Nat) v a, vs[i]? = some v → as[i]? = some a → a.own = true → Is K Hs' v (Rs' i) a
  reg : ∀ i a o, Rs' i a = some o → i < vs.length ∧ H' a = some o ∧ Hs' a = none ∧ o.pln = true ∧ ((∃ k, Rs k a ≠ none) ∨ H a = none)
  dis : ∀ i j a, Rs' i a ≠ none → Rs' j a ≠ none → i = j
open Classical in
noncomputable def cut (H : Hp) (Rs : Nat → Hp) : Hp := fun a => if ∃ i, Rs i a ≠ none then none else H a
theorem cut_le {H : Hp} {Rs : Nat → Hp} {a : Addr} {o : HO} (h : cut H Rs a = some o) : H a = some o ∧ ∀ i, Rs i a = none := by
  unfold cut at h
  split at h
  · cases h
  · rename_i z
    exact ⟨h, fun i => Classical.byContradiction fun y => z ⟨i, y⟩⟩
theorem cut_of {H : Hp} {Rs : Nat → Hp} {a : Addr} (h : ∀ i, Rs i a = none) : cut H Rs a = H a := by
  unfold cut
  exact if_neg fun ⟨i, z⟩ => z (h i)
/-- called with arg x, where pre x: gives d, the own things then being as, where post x d as; or an exception leaves -/
def spB (K : PySem.W.Frag) {α : Type} (pre : α → Prop) (arg : α → List AV) (post : α → D → List AV → Prop) (exc : α → Value → Option (List (Str × D)) → List AV → Prop) : Sp := fun vs H Q E => ∃ (Hs : Hp) (x : α) (Rs : Nat → Hp), (Ex Hs H ∧ NT Hs ∧ TB H) ∧ IsL K Hs H vs (arg x) Rs ∧ pre x ∧
  (∀ Hs' H' v d as Rs', Gr Hs (cut H Rs) H Hs' H' → IsB K H Hs' H' vs as Rs Rs' → Rep K Hs' v d → post x d as → Q v H') ∧
  ∀ Hs' H' cls dd fs as Rs', Gr Hs (cut H Rs) H Hs' H' → IsB K H Hs' H' vs as Rs Rs' → XRep K Hs' H' dd fs → exc x cls fs as → E cls dd H'
/-- a frame at its entry -/
def entB (K : PySem.W.Frag) (N : List Str) (vs : List V) (as : List AV) : Env := (List.zipWith (fun v a => some (AV.sv K v a)) vs as) ++ List.replicate (N.length - as.length) none
/-- the own things in the frame's first slots -/
def outs (K : PySem.W.Frag) : List V → Env → List AV → Prop
  | [], _, [] => True
  | _ :: vs, _ :: ρ, .d _ :: as => outs K vs ρ as
  | v :: vs, s :: ρ, .o t :: as => s = some (.tr K ⟨false, some v⟩ t) ∧ outs K vs ρ as
  | v :: vs, s :: ρ, .c F us os :: as => s = some (.cb K v F us os) ∧ outs K vs ρ as
  | _, _, _ => False
theorem outs_len {K : PySem.W.Frag} : ∀ {vs : List V} {ρ : Env} {as : List AV}, outs K vs ρ as → vs.length = as.length
  | [], _, [], _ => rfl
  | [], _, _ :: _, h => by cases h
  | _ :: _, [], _, h => by
    unfold outs at h
    exact h.elim
  | _ :: _, _ :: _, [], h => by cases h
  | _ :: vs, _ :: ρ, .d _ :: as, h => congrArg (· + 1) (outs_len (vs := vs) (ρ := ρ) (as := as) h)
  | _ :: vs, _ :: ρ, .o _ :: as, h => congrArg (· + 1) (outs_len (vs := vs) (ρ := ρ) (as := as) h.2)
  | _ :: vs, _ :: ρ, .c _ _ _ :: as, h => congrArg (· + 1) (outs_len (vs := vs) (ρ := ρ) (as := as) h.2)
theorem outs_get {K : PySem.W.Frag} : ∀ {vs : List V} {ρ : Env} {as : List AV} {i : Nat} {v : V} {a : AV}, outs K vs ρ as → vs[i]? = some v → as[i]? = some a → a.own = true → ρ[i]? = some (some (a.sv K v))
  | [], _, _, i, _, _, _, h1, _, _ => by simp at h1
  | _ :: _, _, [], i, _, _, _, _, h2, _ => by simp at h2
  | _ :: _, [], _ :: _, _, _, _, h, _, _, _ => by
    unfold outs at h
    exact h.elim
  | v :: vs, s :: ρ, a :: as, 0, w, b, h, h1, h2, h3 => by
    cases h1
    cases h2
    cases a with
    | d x => cases h3
    | o t => exact congrArg some h.1
    | c F us os => exact congrArg some h.1
  | v :: vs, s :: ρ, a :: as, i + 1, w, b, h, h1, h2, h3 => by
    rw [List.getElem?_cons_succ] at h1 h2 ⊢
    cases a with
    | d x => exact outs_get (vs := vs) (ρ := ρ) (as := as) h h1 h2 h3
    | o t => exact outs_get (vs := vs) (ρ := ρ) (as := as) h.2 h1 h2 h3
    | c F us os => exact outs_get (vs := vs) (ρ := ρ) (as := as) h.2 h1 h2 h3
section
variable {K : PySem.W.Frag} {ρ ρ' : Env} {te ta tb : TE} {d e : D} {ds es : List D} {tt tu : TT} {R : DEnds} {B : Base} {Hs H Hs' H' : Hp} {σ : St}
theorem rs_entB {N : List Str} {vs : List V} {as : List AV} {Rs : Nat → Hp} (e : Ex Hs H ∧ NT Hs ∧ TB H) (x : IsL K Hs H vs as Rs) (hN : as.length ≤ N.length) : RS K ⟨Hs, cut H Rs, H, e.2⟩ Hs H (L2.start N vs) (entB K N vs as) := by
  have hl := x.len
  have hz : (List.zipWith (fun v a => some (AV.sv K v a)) vs as).length = as.length := by rw [List.length_zipWith, hl, Nat.min_self]
  refine ⟨⟨fun a o z _ => (cut_le z).1, Ex.refl Hs, e.1, fun _ _ => rfl, fun _ z => z, fun a z => ?_, fun _ z => z, id, id⟩, ?_, Rs, fun i sv h => ?_, fun i a o h => ?_, x.dis, fun i sv a h h0 h1 => ?_⟩
  · cases q : cut H Rs a with
    | none => exact absurd q z
    | some o =>
      rw [(cut_le q).1]
      exact fun y => nomatch y
  · unfold L2.start entB
    rw [List.length_append, List.length_append, List.length_map, hz, List.length_replicate, List.length_replicate, hl]
  · unfold entB at h
    by_cases hi : i < as.length
    · rw [List.getElem?_append_left (by rw [hz]; exact hi), List.getElem?_zipWith] at h
      have hv : vs[i]? = some vs[i] := List.getElem?_eq_getElem (by omega)
      have ha : as[i]? = some as[i] := List.getElem?_eq_getElem hi
      rw [hv, ha] at h
      cases h
      refine ⟨vs[i], ?_, (x.is i _ _ hv ha).holds⟩
      unfold L2.start
      rw [List.getElem?_append_left (by rw [List.length_map, hl]; exact hi), List.getElem?_map, hv]
      rfl
    · rw [List.getElem?_append_right (by omega), List.getElem?_replicate] at h
      split at h <;> cases h
  · obtain ⟨h1, h2, h3, h4⟩ := x.reg i a o h
    refine ⟨h2, h3, ?_, h4⟩
    unfold cut
    exact if_pos ⟨i, by rw [h]; exact fun y => nomatch y⟩
  · unfold entB at h
    by_cases hi : i < as.length
    · rw [List.getElem?_append_left (by rw [hz]; exact hi), List.getElem?_zipWith] at h
      have hv : vs[i]? = some vs[i] := List.getElem?_eq_getElem (by omega)
      have ha : as[i]? = some as[i] := List.getElem?_eq_getElem hi
      rw [hv, ha] at h
      cases h
      have y := x.is i _ _ hv ha
      generalize as[i] = q at y h0
      cases q with
      | d z => exact absurd (by rw [y.2]; rfl) h1
      | o z => cases h0
      | c F us os => cases h0
    · rw [List.getElem?_append_right (by omega), List.getElem?_replicate] at h
      split at h <;> cases h
def regO (R : Nat → Hp) (as : List AV) (i : Nat) : Hp := match as[i]? with
  | some a => if a.own = true then R i else em
  | none => em
theorem regO_own {R : Nat → Hp} {as : List AV} {i : Nat} {a : AV} (h : as[i]? = some a) (w : a.own = true) : regO R as i = R i := by
  unfold regO
  rw [h]
  exact if_pos w
theorem regO_some {R : Nat → Hp} {as : List AV} {i : Nat} {a : Addr} {o : HO} (h : regO R as i a = some o) : i < as.length ∧ R i a = some o := by
  cases z : as[i]? with
  | none =>
    have e : regO R as i = em := by
      unfold regO
      rw [z]
    rw [e] at h
    cases h
  | some b =>
    cases w : b.own with
    | true =>
      rw [regO_own z w] at h
      exact ⟨(List.getElem?_eq_some_iff.mp z).1, h⟩
    | false =>
      have e : regO R as i = em := by
        unfold regO
        rw [z]
        exact if_neg (by rw [w]; decide)
      rw [e] at h
      cases h
theorem ne_some {R : Hp} {a : Addr} (h : R a ≠ none) : ∃ o, R a = some o := by
  cases z : R a with
  | none => exact absurd z h
  | some o => exact ⟨o, rfl⟩
theorem some_ne {R : Hp} {a : Addr} {o : HO} (h : R a = some o) : R a ≠ none := by
  rw [h]
  exact fun z => nomatch z
/-- the own things of a frame, as they are told behind it -/
theorem RS.told {vs : List V} {Rs : Nat → Hp} {as : List AV} {Hs0 H0 : Hp} {t : NT Hs0 ∧ TB H0} (r : RS K ⟨Hs0, cut H0 Rs, H0, t⟩ Hs' H' σ ρ) (o : outs K vs ρ as) : ∃ Rs', IsB K H0 Hs' H' vs as Rs Rs' := by
  obtain ⟨R, h1, h2, h3, h4⟩ := r.reg
  have hl := outs_len o
  refine ⟨regO R as, hl, fun i v a hv ha hw => ?_, fun i a u h => ?_, fun i j a e1 e2 => ?_⟩
  · rw [regO_own ha hw]
    have e := outs_get o hv ha hw
    obtain ⟨w, e1, e2⟩ := h1 i _ e
    cases a with
    | d x => cases hw
    | o t =>
      obtain ⟨e3, e4⟩ := e2 Hs' (Ex.refl _)
      rw [e3 v rfl] at e4
      exact e4
    | c F us os =>
      obtain ⟨e3, e4⟩ := e2 Hs' (Ex.refl _)
      subst e3
      exact e4
  · obtain ⟨hi, h⟩ := regO_some h
    obtain ⟨e1, e2, e3, e4⟩ := h2 i a u h
    refine ⟨by rw [hl]; exact hi, e1, e2, e4, ?_⟩
    by_cases z : ∃ k, Rs k a ≠ none
    · exact .inl z
    · refine .inr ?_
      have e3 : cut H0 Rs a = none := e3
      rw [cut_of fun k => Classical.byContradiction fun y => z ⟨k, y⟩] at e3
      exact e3
  · obtain ⟨_, e1⟩ := ne_some e1
    obtain ⟨_, e2⟩ := ne_some e2
    exact h3 i j a (some_ne (regO_some e1).2) (some_ne (regO_some e2).2)
variable {P : Program} {w : World} {mg : Str → Option Value} {base : Heap} {x qual : Str} {st : Stmt} {f c : Addr} {fd : FuncData} {N ps : List Str} {k : Nat} {α : Type} {pre : α → Prop} {arg : α → List AV} {post : α → D → List AV → Prop} {exc : α → Value → Option (List (Str × D)) → List AV → Prop}
/-- what is wanted of the body -/
abbrev endB (K : PySem.W.Frag) {α : Type} (post : α → D → List AV → Prop) (x : α) (vs : List V) : DEnds := { nx := fun ρ => ∃ as, post x .non as ∧ outs K vs ρ as, rt := fun _ => False, ro := fun ρ d => ∃ as, post x d as ∧ outs K vs ρ as }
theorem lk_b {x : α} {vs : List V} {H : Hp} {Q : VK} {E : XK} {Rs : Nat → Hp} {t : NT Hs ∧ TB H} (q : ∀ Hs' H' v d as Rs', Gr Hs (cut H Rs) H Hs' H' → IsB K H Hs' H' vs as Rs Rs' → Rep K Hs' v d → post x d as → Q v H') :
    Lk K ⟨Hs, cut H Rs, H, t⟩ (endB K post x vs) { nx := fun _ H' => Q .non H', rt := Q } :=
  ⟨fun Hs' H' σ ρ r' ⟨as, z1, z2⟩ => by
      obtain ⟨Rs', b⟩ := r'.told z2
      exact q Hs' H' .non .non as Rs' r'.gr b .non z1, fun _ _ _ _ _ _ z => z.elim, fun _ _ _ _ _ _ _ _ _ _ z => z.elim, fun _ _ _ _ _ z => z.elim, fun _ _ _ _ _ z => z.elim,
    fun Hs' H' σ ρ v d r' y ⟨as, z1, z2⟩ => by
      obtain ⟨Rs', b⟩ := r'.told z2
      exact q Hs' H' v d as Rs' r'.gr b y z1, fun _ _ _ _ _ _ _ _ _ z => z.elim, fun _ _ _ _ _ _ _ _ z => z.elim⟩
theorem fn_b (F : Fun K x qual st f fd) (S : FnScope N ps (defScope st)) (hl : ∀ x, (arg x).length = ps.length) {t : TS}
    (hb : ∀ (cdv : Value) (A : Around) (outer : List PySem.Env) (s : Shared) (H : Hp) (E : XK), Room k (A.deeper (envOfC qual (defScope st) s.heap.objs.size f cdv)) → PSs (cxOf CX0 P w K mg base N qual (defScope st) f cdv A outer s H E).nox (defBody st) t)
    (hd : ∀ x vs, vs.length = ps.length → pre x → ExS K t (entB K N vs (arg x)) (endB K post x vs)) : FnOk P w K mg base CX0 (k + 1) f fd ps (spB K pre arg post exc) := by
  have hN : ps.length ≤ N.length := by have := congrArg List.length S.pre; rw [List.length_take] at this; omega
  refine F.ok S (fun vs H Q E h => ?_) (fun cdv A outer s H vs Q E hr h => ?_)
  · obtain ⟨Hs, x, Rs, _, r, _⟩ := h
    rw [r.len, hl]
  · obtain ⟨Hs, x, Rs, e, r, hp, q, _⟩ := h
    exact ⟨t, hb cdv A outer s H E hr, hd x vs (by rw [r.len, hl]) hp _ Hs H (L2.start N vs) _ (rs_entB e r (by rw [hl]; exact hN)) (lk_b (E := E) q)⟩
theorem fn_bC (F : FunC K x qual st f fd c) (S : FnScope N ps (defScope st)) (hl : ∀ x, (arg x).length = ps.length) {t : List (Str × Addr) → TS}
    (hb : ∀ (A : Around) (outer : List PySem.Env) (s : Shared) (H : Hp) (E : XK) (cl : List (Str × Addr)), cellsOf st s = cl → Room k (A.deeper (envOfC qual (defScope st) s.heap.objs.size f (.ref c))) → PSs (cxOf CX0 P w K mg base N qual (defScope st) f (.ref c) A outer s H E).nox (defBody st) (t cl))
    (hd : ∀ cl x vs, vs.length = ps.length → pre x → ExS K (t cl) (entB K N vs (arg x)) (endB K post x vs)) : FnOk P w K mg base CX0 (k + 1) f fd ps (spB K pre arg post exc) := by
  have hN : ps.length ≤ N.length := by have := congrArg List.length S.pre; rw [List.length_take] at this; omega
  refine F.ok S (fun vs H Q E h => ?_) (fun A outer s H vs Q E hr h => ?_)
  · obtain ⟨Hs, x, Rs, _, r, _⟩ := h
    rw [r.len, hl]
  · obtain ⟨Hs, x, Rs, e, r, hp, q, _⟩ := h
    exact ⟨_, hb A outer s H E _ rfl hr, hd _ x vs (by rw [r.len, hl]) hp _ Hs H (L2.start N vs) _ (rs_entB e r (by rw [hl]; exact hN)) (lk_b (E := E) q)⟩
/-! ### the caller -/
theorem RS.io {R : Nat → Hp} (r : RS K B Hs H σ ρ) (rg : Reg K B Hs H σ ρ R) (S : Nat → Prop) {C : Hp} (g : Gr Hs C H Hs' H') (hC : ∀ a, (∀ i, S i → R i a = none) → C a = H a) (hlen : ρ'.length = ρ.length) (R' : Nat → Hp)
    (h1 : ∀ i sv, ρ'[i]? = some (some sv) → (¬ S i ∧ ρ[i]? = some (some sv)) ∨ (S i ∧ ∃ v, σ[i]? = some (some v) ∧ Holds K Hs' (R' i) v sv ∧ (sv.nw = true → ∀ k, S k → ∃ sv0, ρ[k]? = some (some sv0) ∧ sv0.nw = true)))
    (h2 : ∀ i a o, S i → R' i a = some o → H' a = some o ∧ Hs' a = none ∧ o.pln = true ∧ ((∃ k, S k ∧ R k a ≠ none) ∨ H a = none))
    (h3 : ∀ i j a, S i → S j → R' i a ≠ none → R' j a ≠ none → i = j) : RS K B Hs' H' σ ρ' := by
  classical
  have keep : ∀ j a o, ¬ S j → R j a = some o → H' a = some o := fun j a o nj e => by
    obtain ⟨e1, e2, e3, e4⟩ := rg.2.1 j a o e
    refine g.fr.pl ?_ e4
    rw [hC a fun i si => ?_]
    · exact e1
    · cases z : R i a with
      | none => rfl
      | some u =>
        have := rg.2.2.1 i j a (by rw [z]; exact fun y => nomatch y) (by rw [e]; exact fun y => nomatch y)
        subst this
        exact absurd si nj
  have bf : ∀ a o, B.f a = some o → ∀ i, R i a = none := fun a o e i => by
    cases z : R i a with
    | none => rfl
    | some u =>
      rw [(rg.2.1 i a u z).2.2.1] at e
      cases e
  refine ⟨⟨fun a o e n => ?_, r.gr.sh.trans g.sh, g.lv, fun a z => (g.nw a (r.gr.dp a z)).trans (r.gr.nw a z), fun a z => g.dm a (r.gr.dm a z), fun a z => g.dm a (r.gr.fd a z), fun a z => g.dp a (r.gr.dp a z), fun t => g.nt (r.gr.nt t), fun t => g.tb (r.gr.tb t)⟩,
    r.len.trans hlen.symm, fun i => if S i then R' i else R i, fun i sv e => ?_, fun i a o e => ?_, fun i j a e1 e2 => ?_, fun i sv a e e0 e1 => ?_⟩
  · refine g.fr a o ?_ n
    rw [hC a fun i _ => bf a o e i]
    exact r.gr.fr a o e n
  · rcases h1 i sv e with ⟨ns, e1⟩ | ⟨s, v, e1, e2, _⟩
    · obtain ⟨v, e2, e3⟩ := rg.1 i sv e1
      refine ⟨v, e2, ?_⟩
      dsimp only
      rw [if_neg ns]
      exact e3.mono g.sh
    · refine ⟨v, e1, ?_⟩
      dsimp only
      rw [if_pos s]
      exact e2
  · dsimp only at e
    by_cases s : S i
    · rw [if_pos s] at e
      obtain ⟨e1, e2, e3, e4⟩ := h2 i a o s e
      refine ⟨e1, e2, ?_, e3⟩
      rcases e4 with ⟨k, _, z⟩ | z
      · cases y : R k a with
        | none => exact absurd y z
        | some u => exact (rg.2.1 k a u y).2.2.1
      · exact (r.gr.new0 z).2
    · rw [if_neg s] at e
      obtain ⟨e1, e2, e3, e4⟩ := rg.2.1 i a o e
      refine ⟨keep i a o s e, ?_, e3, e4⟩
      rw [g.nw a (.of e1 e4)]
      exact e2
  · dsimp only at e1 e2
    have mix : ∀ i j, S i → ¬ S j → R' i a ≠ none → R j a ≠ none → False := fun i j si sj y1 y2 => by
      cases z : R' i a with
      | none => exact y1 z
      | some o =>
        rcases (h2 i a o si z).2.2.2 with ⟨k, sk, z2⟩ | z2
        · have := rg.2.2.1 k j a z2 y2
          subst this
          exact sj sk
        · cases y : R j a with
          | none => exact y2 y
          | some u =>
            rw [(rg.2.1 j a u y).1] at z2
            cases z2
    by_cases si : S i
    · rw [if_pos si] at e1
      by_cases sj : S j
      · rw [if_pos sj] at e2
        exact h3 i j a si sj e1 e2
      · rw [if_neg sj] at e2
        exact (mix i j si sj e1 e2).elim
    · rw [if_neg si] at e1
      by_cases sj : S j
      · rw [if_pos sj] at e2
        exact (mix j i sj si e2 e1).elim
      · rw [if_neg sj] at e2
        exact rg.2.2.1 i j a e1 e2
  · dsimp only at e1
    rcases h1 i sv e with ⟨ns, e2⟩ | ⟨s, v, _, _, e3⟩
    · rw [if_neg ns] at e1
      exact rg.2.2.2 i sv a e2 e0 e1
    · rw [if_pos s] at e1
      cases z : R' i a with
      | none => exact absurd z e1
      | some o =>
        rcases (h2 i a o s z).2.2.2 with ⟨k, sk, z2⟩ | z2
        · obtain ⟨sv0, y1, y2⟩ := e3 e0 k sk
          exact rg.2.2.2 k sv0 a y1 y2 z2
        · exact (r.gr.new0 z2).1
/-- an argument in a call: shared data, or a slot that holds a tree -/
abbrev AR := D ⊕ (Nat × Nw)
def VsOk (K : PySem.W.Frag) (Hs : Hp) (σ : St) : List V → List AR → Prop
  | [], [] => True
  | v :: vs, .inl d :: ar => Rep K Hs v d ∧ VsOk K Hs σ vs ar
  | v :: vs, .inr j :: ar => σ[j.1]? = some (some v) ∧ VsOk K Hs σ vs ar
  | _, _ => False
def ArgOk (K : PySem.W.Frag) (ρ : Env) : List AR → List AV → Prop
  | [], [] => True
  | .inl d :: ar, .d d' :: as => d = d' ∧ ArgOk K ρ ar as
  | .inr j :: ar, .o t :: as => ρ[j.1]? = some (some (.tr K j.2 t)) ∧ ArgOk K ρ ar as
  | _, _ => False
def Shp : List AR → List AV → Prop
  | [], [] => True
  | .inl _ :: ar, .d _ :: as => Shp ar as
  | .inr _ :: ar, .o _ :: as => Shp ar as
  | _, _ => False
def allOf : List AR → Bool
  | [] => true
  | .inl _ :: ar => allOf ar
  | .inr j :: ar => j.2.b && allOf ar
def sepB : List AR → Bool
  | [] => true
  | .inl _ :: ar => sepB ar
  | .inr j :: ar => !(ar.any fun x => match x with
    | .inl _ => false
    | .inr j' => j'.1 == j.1) && sepB ar
/-- the slots behind the call -/
def back (K : PySem.W.Frag) (all : Bool) : List AR → List AV → Env → Env
  | .inr j :: ar, .o t :: as, ρ => back K all ar as (ρ.set j.1 (some (.tr K ⟨j.2.b && all, j.2.pv⟩ t)))
  | _ :: ar, _ :: as, ρ => back K all ar as ρ
  | _, _, ρ => ρ
theorem VsOk.length : ∀ {vs : List V} {ar : List AR}, VsOk K Hs σ vs ar → vs.length = ar.length
  | [], [], _ => rfl
  | [], _ :: _, h => by cases h
  | _ :: _, [], h => by cases h
  | _ :: vs, .inl _ :: ar, h => congrArg (· + 1) (VsOk.length (vs := vs) (ar := ar) h.2)
  | _ :: vs, .inr _ :: ar, h => congrArg (· + 1) (VsOk.length (vs := vs) (ar := ar) h.2)
theorem VsOk.getL : ∀ {vs : List V} {ar : List AR} {i : Nat} {v : V} {d : D}, VsOk K Hs σ vs ar → vs[i]? = some v → ar[i]? = some (.inl d) → Rep K Hs v d
  | [], _, _, _, _, _, h, _ => by simp at h
  | _ :: _, [], _, _, _, _, _, h => by simp at h
  | _ :: vs, .inl _ :: ar, 0, _, _, h, h1, h2 => by cases h1; cases h2; exact h.1
  | _ :: vs, .inr _ :: ar, 0, _, _, h, h1, h2 => by cases h2
  | _ :: vs, .inl _ :: ar, i + 1, _, _, h, h1, h2 => VsOk.getL (vs := vs) (ar := ar) (i := i) h.2 h1 h2
  | _ :: vs, .inr _ :: ar, i + 1, _, _, h, h1, h2 => VsOk.getL (vs := vs) (ar := ar) (i := i) h.2 h1 h2
theorem VsOk.getR : ∀ {vs : List V} {ar : List AR} {i : Nat} {v : V} {j : Nat × Nw}, VsOk K Hs σ vs ar → vs[i]? = some v → ar[i]? = some (.inr j) → σ[j.1]? = some (some v)
  | [], _, _, _, _, _, h, _ => by simp at h
  | _ :: _, [], _, _, _, _, _, h => by simp at h
  | _ :: vs, .inl _ :: ar, 0, _, _, h, h1, h2 => by cases h2
  | _ :: vs, .inr _ :: ar, 0, _, _, h, h1, h2 => by cases h1; cases h2; exact h.1
  | _ :: vs, .inl _ :: ar, i + 1, _, _, h, h1, h2 => VsOk.getR (vs := vs) (ar := ar) (i := i) h.2 h1 h2
  | _ :: vs, .inr _ :: ar, i + 1, _, _, h, h1, h2 => VsOk.getR (vs := vs) (ar := ar) (i := i) h.2 h1 h2
theorem ArgOk.length : ∀ {ar : List AR} {as : List AV}, ArgOk K ρ ar as → ar.length = as.length
  | [], [], _ => rfl
  | [], _ :: _, h => by cases h
  | .inl _ :: _, [], h => by cases h
  | .inr _ :: _, [], h => by cases h
  | .inl _ :: ar, .d _ :: as, h => congrArg (· + 1) (ArgOk.length (ar := ar) (as := as) h.2)
  | .inr _ :: ar, .o _ :: as, h => congrArg (· + 1) (ArgOk.length (ar := ar) (as := as) h.2)
  | .inl _ :: _, .o _ :: _, h => by cases h
  | .inl _ :: _, .c _ _ _ :: _, h => by cases h
  | .inr _ :: _, .d _ :: _, h => by cases h
  | .inr _ :: _, .c _ _ _ :: _, h => by cases h
theorem ArgOk.get : ∀ {ar : List AR} {as : List AV} {i : Nat} {a : AV}, ArgOk K ρ ar as → as[i]? = some a → (∃ d, a = .d d ∧ ar[i]? = some (.inl d)) ∨ ∃ j t, a = .o t ∧ ar[i]? = some (.inr j) ∧ ρ[j.1]? = some (some (.tr K j.2 t))
  | [], [], _, _, _, h => by simp at h
  | [], _ :: _, _, _, h, _ => by cases h
  | .inl _ :: _, [], _, _, h, _ => by cases h
  | .inr _ :: _, [], _, _, h, _ => by cases h
  | .inl d :: ar, .d d' :: as, 0, _, h, e => by
    cases e
    exact .inl ⟨d', rfl, by rw [h.1]; rfl⟩
  | .inr j :: ar, .o t :: as, 0, _, h, e => by
    cases e
    exact .inr ⟨j, t, rfl, rfl, h.1⟩
  | .inl d :: ar, .d d' :: as, i + 1, _, h, e => ArgOk.get (ar := ar) (as := as) (i := i) h.2 e
  | .inr j :: ar, .o t :: as, i + 1, _, h, e => ArgOk.get (ar := ar) (as := as) (i := i) h.2 e
  | .inl _ :: _, .o _ :: _, _, _, h, _ => by cases h
  | .inl _ :: _, .c _ _ _ :: _, _, _, h, _ => by cases h
  | .inr _ :: _, .d _ :: _, _, _, h, _ => by cases h
  | .inr _ :: _, .c _ _ _ :: _, _, _, h, _ => by cases h
theorem sep_get : ∀ {ar : List AR} {i i' : Nat} {j j' : Nat × Nw}, sepB ar = true → ar[i]? = some (.inr j) → ar[i']? = some (.inr j') → j.1 = j'.1 → i = i'
  | [], _, _, _, _, _, h, _, _ => by simp at h
  | .inl _ :: ar, 0, _, _, _, _, h, _, _ => by cases h
  | .inl _ :: ar, _ + 1, 0, _, _, _, _, h, _ => by cases h
  | .inl _ :: ar, i + 1, i' + 1, _, _, h, h1, h2, h3 => congrArg (· + 1) (sep_get (ar := ar) (i := i) (i' := i') h h1 h2 h3)
  | .inr _ :: ar, 0, 0, _, _, _, _, _, _ => rfl
  | .inr j0 :: ar, 0, i' + 1, j, j', h, h1, h2, h3 => by
    cases h1
    unfold sepB at h
    rw [Bool.and_eq_true, Bool.not_eq_true', List.any_eq_false] at h
    exact absurd (by show (j'.1 == j0.1) = true; rw [h3]; exact beq_self_eq_true _) (h.1 _ (List.mem_of_getElem? h2))
  | .inr j0 :: ar, i + 1, 0, j, j', h, h1, h2, h3 => by
    cases h2
    unfold sepB at h
    rw [Bool.and_eq_true, Bool.not_eq_true', List.any_eq_false] at h
    exact absurd (by show (j.1 == j0.1) = true; rw [h3]; exact beq_self_eq_true _) (h.1 _ (List.mem_of_getElem? h1))
  | .inr j0 :: ar, i + 1, i' + 1, _, _, h, h1, h2, h3 => by
    unfold sepB at h
    rw [Bool.and_eq_true] at h
    exact congrArg (· + 1) (sep_get (ar := ar) (i := i) (i' := i') h.2 h1 h2 h3)
theorem all_get : ∀ {ar : List AR} {i : Nat} {j : Nat × Nw}, allOf ar = true → ar[i]? = some (.inr j) → j.2.b = true
  | [], _, _, _, h => by simp at h
  | .inl _ :: ar, 0, _, _, h => by cases h
  | .inl _ :: ar, i + 1, _, h, h1 => all_get (ar := ar) (i := i) h h1
  | .inr _ :: ar, 0, _, h, h1 => by
    cases h1
    unfold allOf at h
    rw [Bool.and_eq_true] at h
    exact h.1
  | .inr _ :: ar, i + 1, _, h, h1 => by
    unfold allOf at h
    rw [Bool.and_eq_true] at h
    exact all_get (ar := ar) (i := i) h.2 h1
theorem back_len {all : Bool} : ∀ {ar : List AR} {as : List AV} {ρ : Env}, (back K all ar as ρ).length = ρ.length
  | [], _, _ => rfl
  | _ :: _, [], _ => by unfold back; split <;> first | rfl | contradiction
  | .inl d :: ar, .d _ :: as, ρ => back_len (ar := ar) (as := as) (ρ := ρ)
  | .inl d :: ar, .o _ :: as, ρ => back_len (ar := ar) (as := as) (ρ := ρ)
  | .inl d :: ar, .c _ _ _ :: as, ρ => back_len (ar := ar) (as := as) (ρ := ρ)
  | .inr j :: ar, .d _ :: as, ρ => back_len (ar := ar) (as := as) (ρ := ρ)
  | .inr j :: ar, .c _ _ _ :: as, ρ => back_len (ar := ar) (as := as) (ρ := ρ)
  | .inr j :: ar, .o t :: as, ρ => by
    show (back K all ar as (ρ.set j.1 _)).length = _
    rw [back_len, List.length_set]
theorem back_get {all : Bool} : ∀ {ar : List AR} {as : List AV} {ρ : Env} {i : Nat} {sv : SV}, Shp ar as → (back K all ar as ρ)[i]? = some (some sv) → ((∀ (m : Nat) (j : Nat × Nw), ar[m]? = some (Sum.inr j) → j.1 ≠ i) ∧ ρ[i]? = some (some sv)) ∨ ∃ (m : Nat) (j : Nat × Nw) (t : O), ar[m]? = some (Sum.inr j) ∧ j.1 = i ∧ as[m]? = some (AV.o t) ∧ sv = .tr K ⟨j.2.b && all, j.2.pv⟩ t
  | [], [], _, _, _, _, h => .inl ⟨fun m j z => by simp at z, h⟩
  | [], _ :: _, _, _, _, h, _ => by cases h
  | .inl _ :: _, [], _, _, _, h, _ => by cases h
  | .inr _ :: _, [], _, _, _, h, _ => by cases h
  | .inl _ :: _, .o _ :: _, _, _, _, h, _ => by cases h
  | .inl _ :: _, .c _ _ _ :: _, _, _, _, h, _ => by cases h
  | .inr _ :: _, .d _ :: _, _, _, _, h, _ => by cases h
  | .inr _ :: _, .c _ _ _ :: _, _, _, _, h, _ => by cases h
  | .inl d :: ar, .d d' :: as, ρ, i, sv, h, e => by
    rcases back_get (ar := ar) (as := as) (ρ := ρ) (i := i) h e with ⟨z1, z2⟩ | ⟨m, j, t, z⟩
    · refine .inl ⟨fun m j y => ?_, z2⟩
      cases m with
      | zero => cases y
      | succ m => exact z1 m j y
    · exact .inr ⟨m + 1, j, t, z⟩
  | .inr j0 :: ar, .o t0 :: as, ρ, i, sv, h, e => by
    rcases back_get (ar := ar) (as := as) (ρ := ρ.set j0.1 (some (.tr K ⟨j0.2.b && all, j0.2.pv⟩ t0))) (i := i) h e with ⟨z1, z2⟩ | ⟨m, j, t, z⟩
    · by_cases q : j0.1 = i
      · refine .inr ⟨0, j0, t0, rfl, q, rfl, ?_⟩
        subst q
        have hl : j0.1 < ρ.length := by
          have := (List.getElem?_eq_some_iff.mp z2).1
          rwa [List.length_set] at this
        rw [List.getElem?_set_self hl] at z2
        exact (Option.some.inj (Option.some.inj z2)).symm
      · rw [List.getElem?_set_ne q] at z2
        refine .inl ⟨fun m j y => ?_, z2⟩
        cases m with
        | zero => cases y; exact q
        | succ m => exact z1 m j y
    · exact .inr ⟨m + 1, j, t, z⟩
/-- arguments, some of which are slots that hold trees -/
def EvAS (K : PySem.W.Frag) (ta : TA) (ρ : Env) (ar : List AR) : Prop := ∀ B Hs H σ, RS K B Hs H σ ρ → ∀ Q : List V → Hp → Prop, (∀ Hs' H' vs, Gr Hs H H Hs' H' → VsOk K Hs' σ vs ar → Q vs H') → ta σ H Q
theorem eas_nil : EvAS K tNil ρ [] := fun B Hs H σ r Q q => q Hs H [] (Gr.refl r.ex) trivial
theorem VsOk.mono (e : Ex Hs Hs') : ∀ {vs : List V} {ar : List AR}, VsOk K Hs σ vs ar → VsOk K Hs' σ vs ar
  | [], [], _ => trivial
  | [], _ :: _, h => by cases h
  | _ :: _, [], h => by cases h
  | _ :: vs, .inl _ :: ar, h => ⟨h.1.mono e, VsOk.mono e (vs := vs) (ar := ar) h.2⟩
  | _ :: vs, .inr _ :: ar, h => ⟨h.1, VsOk.mono e (vs := vs) (ar := ar) h.2⟩
theorem eas_d {ta : TE} {t : TA} {ar : List AR} (h : EvD K ta ρ d) (hs : EvAS K t ρ ar) : EvAS K (tCons ta t) ρ (.inl d :: ar) := fun B Hs H σ r Q q =>
  h B Hs H σ r _ fun Hs1 H1 v g x => hs B Hs1 H1 σ (r.grow g) _ fun Hs2 H2 vs g2 xs => q Hs2 H2 (v :: vs) (g.trans g2) ⟨x.mono g2.sh, xs⟩
theorem eas_s {j : Nat} {nw : Nw} {t : TA} {o : O} {ar : List AR} (h : ρ[j]? = some (some (.tr K nw o))) (hs : EvAS K t ρ ar) : EvAS K (tCons (tVar j) t) ρ (.inr (j, nw) :: ar) := fun B Hs H σ r Q q => by
  obtain ⟨R, rg⟩ := r.reg
  obtain ⟨v, e, _⟩ := rg.1 j _ h
  exact ⟨v, e, hs B Hs H σ r _ fun Hs2 H2 vs g2 xs => q Hs2 H2 (v :: vs) g2 ⟨e, xs⟩⟩
/-- te gives d, and leaves the slots as ρ' -/
def EvE (K : PySem.W.Frag) (te : TE) (ρ : Env) (Z : D → Env → Prop) : Prop := ∀ B Hs H σ, RS K B Hs H σ ρ → ∀ Q : VK, (∀ Hs' H' v d ρ', Ex Hs Hs' → RS K B Hs' H' σ ρ' → Rep K Hs' v d → Z d ρ' → Q v H') → te σ H Q
def regA (R : Nat → Hp) (ar : List AR) (i : Nat) : Hp := match ar[i]? with
  | some (.inr j) => R j.1
  | _ => em
theorem regA_r {R : Nat → Hp} {ar : List AR} {i : Nat} {j : Nat × Nw} (h : ar[i]? = some (.inr j)) : regA R ar i = R j.1 := by
  unfold regA
  rw [h]
theorem regA_l {R : Nat → Hp} {ar : List AR} {i : Nat} {d : D} (h : ar[i]? = some (.inl d)) : regA R ar i = em := by
  unfold regA
  rw [h]
theorem regA_some {R : Nat → Hp} {ar : List AR} {i : Nat} {a : Addr} {o : HO} (h : regA R ar i a = some o) : ∃ j, ar[i]? = some (.inr j) ∧ R j.1 a = some o := by
  cases z : ar[i]? with
  | none =>
    have e : regA R ar i = em := by
      unfold regA
      rw [z]
    rw [e] at h
    cases h
  | some b =>
    cases b with
    | inl d =>
      rw [regA_l z] at h
      cases h
    | inr j =>
      rw [regA_r z] at h
      exact ⟨j, rfl, h⟩
/-- the call's arguments as they lie in the heap -/
theorem RS.lay {R : Nat → Hp} {vs : List V} {ar : List AR} {as : List AV} (r : RS K B Hs H σ ρ) (rg : Reg K B Hs H σ ρ R) (hv : VsOk K Hs σ vs ar) (ha : ArgOk K ρ ar as) (sep : sepB ar = true) : IsL K Hs H vs as (regA R ar) := by
  have hl := hv.length
  refine ⟨hl.trans ha.length, fun i v a e1 e2 => ?_, fun i a o e => ?_, fun i i' a e1 e2 => ?_⟩
  · rcases ha.get e2 with ⟨d, rfl, z⟩ | ⟨j, t, rfl, z, y⟩
    · rw [regA_l z]
      exact ⟨hv.getL e1 z, rfl⟩
    · rw [regA_r z]
      obtain ⟨w, y1, y2⟩ := rg.1 j.1 _ y
      rw [hv.getR e1 z] at y1
      cases y1
      exact (y2 Hs (Ex.refl _)).2
  · obtain ⟨j, z, e⟩ := regA_some e
    obtain ⟨e1, e2, _, e4⟩ := rg.2.1 j.1 a o e
    exact ⟨by rw [hl]; exact (List.getElem?_eq_some_iff.mp z).1, e1, e2, e4⟩
  · obtain ⟨_, e1⟩ := ne_some e1
    obtain ⟨_, e2⟩ := ne_some e2
    obtain ⟨j, z, e1⟩ := regA_some e1
    obtain ⟨j', z', e2⟩ := regA_some e2
    exact sep_get sep z z' (rg.2.2.1 _ _ a (some_ne e1) (some_ne e2))
/-- .. and behind it -/
theorem RS.behind {R : Nat → Hp} {vs : List V} {ar : List AR} {as' : List AV} {Rs' : Nat → Hp} (r : RS K B Hs H σ ρ) (rg : Reg K B Hs H σ ρ R) (hv : VsOk K Hs σ vs ar) {as : List AV} (ha : ArgOk K ρ ar as) (sep : sepB ar = true) (sh : Shp ar as')
    (g : Gr Hs (cut H (regA R ar)) H Hs' H') (b : IsB K H Hs' H' vs as' (regA R ar) Rs') : RS K B Hs' H' σ (DL.back K (allOf ar) ar as' ρ) := by
  classical
  have hl := hv.length
  have at_ : ∀ (i m : Nat) (j : Nat × Nw), ar[m]? = some (Sum.inr j) → j.1 = i → ∀ n : Nat, (∃ j' : Nat × Nw, ar[n]? = some (Sum.inr j') ∧ j'.1 = i) → n = m := fun i m j e1 e2 n ⟨j', e3, e4⟩ => sep_get sep e3 e1 (by rw [e4, e2])
  have hR : ∀ i (h : ∃ (m : Nat) (j : Nat × Nw), ar[m]? = some (Sum.inr j) ∧ j.1 = i), (fun i => if h : ∃ (m : Nat) (j : Nat × Nw), ar[m]? = some (Sum.inr j) ∧ j.1 = i then Rs' h.choose else em) i = Rs' h.choose := fun i h => dif_pos h
  refine r.io rg (fun i => ∃ (m : Nat) (j : Nat × Nw), ar[m]? = some (Sum.inr j) ∧ j.1 = i) g (fun a z => cut_of fun m => ?_) back_len (fun i => if h : ∃ (m : Nat) (j : Nat × Nw), ar[m]? = some (Sum.inr j) ∧ j.1 = i then Rs' h.choose else em) (fun i sv e => ?_) (fun i a o s e => ?_) (fun i j a si sj e1 e2 => ?_)
  · cases y : regA R ar m a with
    | none => rfl
    | some o =>
      obtain ⟨j, y1, y2⟩ := regA_some y
      rw [z j.1 ⟨m, j, y1, rfl⟩] at y2
      cases y2
  · rcases back_get sh e with ⟨z1, z2⟩ | ⟨m, j, t, z1, z2, z3, z4⟩
    · exact .inl ⟨fun ⟨m, j, y1, y2⟩ => z1 m j y1 y2, z2⟩
    · refine .inr ⟨⟨m, j, z1, z2⟩, ?_⟩
      have hex : ∃ (m : Nat) (j : Nat × Nw), ar[m]? = some (Sum.inr j) ∧ j.1 = i := ⟨m, j, z1, z2⟩
      have hm : hex.choose = m := at_ i m j z1 z2 _ hex.choose_spec
      have hlt : m < vs.length := by rw [hl]; exact (List.getElem?_eq_some_iff.mp z1).1
      have hvm : vs[m]? = some vs[m] := List.getElem?_eq_getElem hlt
      have y := b.is m vs[m] (.o t) hvm z3 rfl
      have y2 := hv.getR hvm z1
      rw [z2] at y2
      refine ⟨vs[m], y2, ?_, fun nw k ⟨m', j', w1, w2⟩ => ?_⟩
      · rw [dif_pos hex, hm, z4]
        intro Hs1 e1
        refine ⟨fun w ew => ?_, Own.mono e1 y⟩
        have ew : j.2.pv = some w := ew
        have lm : m < as.length := by rw [← ha.length, ← hl]; exact hlt
        rcases ha.get (List.getElem?_eq_getElem lm) with ⟨d, _, z⟩ | ⟨j2, t2, _, z, y3⟩
        · rw [z1] at z
          cases z
        · rw [z1] at z
          cases z
          obtain ⟨w2, y4, y5⟩ := rg.1 j.1 _ y3
          rw [hv.getR hvm z1] at y4
          cases y4
          exact (y5 Hs (Ex.refl _)).1 w ew
      · rw [z4] at nw
        have nw : (j.2.b && allOf ar) = true := nw
        rw [Bool.and_eq_true] at nw
        have y6 := all_get nw.2 w1
        have lm : m' < as.length := by rw [← ha.length]; exact (List.getElem?_eq_some_iff.mp w1).1
        rcases ha.get (List.getElem?_eq_getElem lm) with ⟨d, _, z⟩ | ⟨j2, t2, _, z, y3⟩
        · rw [w1] at z
          cases z
        · rw [w1] at z
          cases z
          rw [w2] at y3
          exact ⟨_, y3, y6⟩
  · rw [dif_pos s] at e
    obtain ⟨e1, e2, e3, e4, e5⟩ := b.reg _ a o e
    refine ⟨e2, e3, e4, ?_⟩
    rcases e5 with ⟨k, z⟩ | z
    · obtain ⟨_, z⟩ := ne_some z
      obtain ⟨j, y, z⟩ := regA_some z
      exact .inl ⟨j.1, ⟨k, j, y, rfl⟩, some_ne z⟩
    · exact .inr z
  · rw [dif_pos si] at e1
    rw [dif_pos sj] at e2
    have e3 := b.dis _ _ a e1 e2
    obtain ⟨j1, w1, w2⟩ := si.choose_spec
    obtain ⟨j2, w3, w4⟩ := sj.choose_spec
    rw [e3, w3] at w1
    cases w1
    rw [← w2, ← w4]
theorem ev_callB {ar : List AR} {ta : TA} {E : XK} (x : α) (ht : EvAS K ta ρ ar) (ha : ArgOk K ρ ar (arg x)) (p : pre x) (sep : sepB ar = true := by rfl) (sh : ∀ d as, post x d as → Shp ar as) (hx : ∀ cls fs as, ¬ exc x cls fs as) :
    EvE K (tCall (spB K pre arg post exc) [] E ta) ρ (fun d ρ' => ∃ as, post x d as ∧ ρ' = back K (allOf ar) ar as ρ) := fun B Hs H σ r Q q =>
  ht B Hs H σ r _ fun Hs1 H1 vs g xs => by
    rw [List.append_nil]
    have r1 := r.grow g
    obtain ⟨R, rg⟩ := r1.reg
    refine ⟨Hs1, x, _, ⟨g.lv, r1.tb⟩, r1.lay rg xs ha sep, p, fun Hs' H' v d as Rs' g2 b y z => ?_, fun _ _ cls _ fs as _ _ _ _ z => (hx cls fs as z).elim⟩
    exact q Hs' H' v d _ (g.sh.trans g2.sh) (r1.behind rg xs ha sep (sh d as z) g2 b) y ⟨as, z, rfl⟩
/-! ### statements with such calls -/
theorem EvD.eff (h : EvD K te ρ d) : EvE K te ρ (fun d' ρ' => d' = d ∧ ρ' = ρ) := fun B Hs H σ r Q q => h B Hs H σ r Q fun Hs' H' v g x => q Hs' H' v d ρ g.sh (r.grow g) x ⟨rfl, rfl⟩
theorem xs_asgE {i : Nat} {Z : D → Env → Prop} (h : EvE K te ρ Z) (q : ∀ d ρ', Z d ρ' → R.nx (ρ'.set i (some (.sh d)))) : ExS K (tAsg te (gName i)) ρ R := fun B Hs H σ Dn r l =>
  h B Hs H σ r _ fun Hs' H' v d ρ' _ r' x z => l.nx Hs' H' _ _ (r'.set i x) (q d ρ' z)
theorem xs_dropE {Z : D → Env → Prop} (h : EvE K te ρ Z) (q : ∀ d ρ', Z d ρ' → R.nx ρ') : ExS K (tDrop te) ρ R := fun B Hs H σ Dn r l =>
  h B Hs H σ r _ fun Hs' H' v d ρ' _ r' x z => l.nx Hs' H' _ _ r' (q d ρ' z)
theorem xs_retE {Z : D → Env → Prop} (h : EvE K te ρ Z) (q : ∀ d ρ', Z d ρ' → R.rt d) : ExS K (tRet te) ρ R := fun B Hs H σ Dn r l =>
  h B Hs H σ r _ fun Hs' H' v d ρ' _ r' x z => l.rt Hs' H' v d r'.gr x (q d ρ' z)
theorem xs_retEO {Z : D → Env → Prop} (h : EvE K te ρ Z) (q : ∀ d ρ', Z d ρ' → R.ro ρ' d) : ExS K (tRet te) ρ R := fun B Hs H σ Dn r l =>
  h B Hs H σ r _ fun Hs' H' v d ρ' _ r' x z => l.ro Hs' H' σ ρ' v d r' x (q d ρ' z)
/-- a test that leaves the slots as ρ' -/
def EvTE (K : PySem.W.Frag) (tt : TT) (ρ : Env) (Z : Bool → Env → Prop) : Prop := ∀ B Hs H σ, RS K B Hs H σ ρ → ∀ Q : Bool → Hp → Prop, (∀ Hs' H' b ρ', Ex Hs Hs' → RS K B Hs' H' σ ρ' → Z b ρ' → Q b H') → tt σ H Q
theorem EvT.eff {b : Bool} (h : EvT K tt ρ b) : EvTE K tt ρ (fun b' ρ' => b' = b ∧ ρ' = ρ) := fun B Hs H σ r Q q => h B Hs H σ r Q fun Hs' H' g => q Hs' H' b ρ g.sh (r.grow g) ⟨rfl, rfl⟩
theorem ete_t {Z : D → Env → Prop} {Y : Bool → Env → Prop} (h : EvE K te ρ Z) (k : ∀ d ρ', Z d ρ' → ∃ b, d = .bl b ∧ Y b ρ') : EvTE K (tTest te) ρ Y := fun B Hs H σ r Q q => h B Hs H σ r _ fun Hs' H' v d ρ' e r' x z => by
  obtain ⟨b, rfl, y⟩ := k d ρ' z
  cases x
  exact ⟨b, rfl, q Hs' H' b ρ' e r' y⟩
theorem ete_not {Y : Bool → Env → Prop} (h : EvTE K tt ρ Y) : EvTE K (tNot tt) ρ (fun b ρ' => Y (!b) ρ') := fun B Hs H σ r Q q => h B Hs H σ r _ fun Hs' H' b ρ' e r' z => q Hs' H' (!b) ρ' e r' (by show Y (!!b) ρ'; rw [Bool.not_not]; exact z)
theorem xs_ifE {t u : TS} {Y : Bool → Env → Prop} (h : EvTE K tt ρ Y) (h1 : ∀ ρ', Y true ρ' → ExS K t ρ' R) (h2 : ∀ ρ', Y false ρ' → ExS K u ρ' R) : ExS K (tIfS tt t u) ρ R := fun B Hs H σ Dn r l =>
  h B Hs H σ r _ fun Hs' H' b ρ' e r' z => by
    cases b with
    | true =>
      show t Dn σ H'
      exact h1 ρ' z B Hs' H' σ Dn r' l
    | false =>
      show u Dn σ H'
      exact h2 ρ' z B Hs' H' σ Dn r' l
/-- t[k] = d, t a list of shared data in a tree -/
theorem xs_setW {i : Nat} {nw : Nw} {o : O} {p : List Nat} {tw ti : TE} {k : Int} {j : Nat} (h : EvD K te ρ d) (hw : EvW K tw ρ i p) (hi : ρ[i]? = some (some (.tr K nw o))) (hp : o.at_ p = some (.ol (ds.map .sh))) (hk : EvD K ti ρ (.int k)) (hj : ixN ds.length k = some j) (q : R.nx (ρ.set i (some (.tr K nw (o.put p (.ol ((ds.set j d).map .sh))))))) :
    ExS K (tAsg te (gSub tw ti rSetA)) ρ R := fun B Hs0 H0 σ Dn r0 l =>
  h B Hs0 H0 σ r0 _ fun Hs H w g0 y => by
    refine hw B Hs H σ (r0.grow g0) _ fun Hs1 H1 v0 v g hv va => ?_
    have r1 := (r0.grow g0).grow g
    refine hk B Hs1 H1 σ r1 _ fun Hs2 H2 z g2 z2 => ?_
    cases z2
    have r2 := r1.grow g2
    obtain ⟨R1, rg2⟩ := r2.reg
    obtain ⟨v0', v1, S, hv', va', ow, sub, kk⟩ := r2.part rg2 hi hp
    rw [hv] at hv'
    cases hv'
    have e := (va.monoN g2.fr).det va'
    subst e
    obtain ⟨a, vs, Ra, rfl, nn, hl', rfl⟩ := ow.ol_inv
    obtain ⟨rs, rfl⟩ := hl'.reps
    have ha := (sub a _ upd_same).1
    refine .inl ⟨a, vs, k, j, rfl, rfl, ha, by rw [rs.length]; exact hj, l.nx Hs2 _ _ _ (kk (S' := upd em a (.lst (vs.set j w))) (o' := .ol ((ds.set j d).map .sh)) (.ol rfl (ownL_sh (rs.set (y.mono (g.sh.trans g2.sh)) j))) (fun b u z => ?_) (fun b u z e => ?_) (fun b e => upd_keep ha e) Ch.upd) q⟩
    · by_cases eb : b = a
      · subst eb
        rw [upd_same] at z ⊢
        exact ⟨z, .inl (by rw [upd_same]; exact fun q => nomatch q)⟩
      · rw [upd_ne eb] at z
        cases z
    · by_cases eb : b = a
      · subst eb
        rw [upd_same] at z
        cases z
      · rw [upd_ne eb]
        exact e
/-! ### closures over own trees -/
theorem OwnL.regs : ∀ {us : List V} {os : List O} {R : Hp}, OwnL K Hs us os R → ∃ Rs : Nat → Hp, (∀ (k : Nat) v o, us[k]? = some v → os[k]? = some o → Own K Hs v o (Rs k)) ∧ (∀ k a u, Rs k a = some u → k < us.length ∧ R a = some u) ∧ (∀ k l a, Rs k a ≠ none → Rs l a ≠ none → k = l) ∧ ∀ a u, R a = some u → ∃ k, Rs k a = some u
  | _, _, _, .nil => ⟨fun _ => em, fun k v o h => by simp at h, fun k a u h => (nomatch h), fun k l a h => absurd rfl h, fun a u h => (nomatch h)⟩
  | _, _, _, .cons (v := v) (o := o) (vs := vs) (os := os) (R := R1) (S := R2) h hs d => by
    obtain ⟨Rs, h1, h2, h3, h4⟩ := OwnL.regs hs
    refine ⟨fun k => match k with
      | 0 => R1
      | k + 1 => Rs k, fun k w p e1 e2 => ?_, fun k a u e => ?_, fun k l a e1 e2 => ?_, fun a u e => ?_⟩
    · cases k with
      | zero =>
        cases e1
        cases e2
        exact h
      | succ k => exact h1 k w p e1 e2
    · cases k with
      | zero => exact ⟨Nat.zero_lt_succ _, jn_l e⟩
      | succ k =>
        obtain ⟨z1, z2⟩ := h2 k a u e
        refine ⟨Nat.succ_lt_succ z1, ?_⟩
        rw [jn_r]
        · exact z2
        · cases q : R1 a with
          | none => rfl
          | some w =>
            have := d a (by rw [q]; exact fun y => nomatch y)
            rw [z2] at this
            cases this
    · have no : ∀ l, R1 a ≠ none → Rs l a ≠ none → False := fun l y1 y2 => by
        obtain ⟨u, hu⟩ := ne_some y2
        have := d a y1
        rw [(h2 l a u hu).2] at this
        cases this
      cases k with
      | zero =>
        cases l with
        | zero => rfl
        | succ l => exact (no l e1 e2).elim
      | succ k =>
        cases l with
        | zero => exact (no k e2 e1).elim
        | succ l => exact congrArg (· + 1) (h3 k l a e1 e2)
    · cases q : R1 a with
      | some w =>
        rw [jn_l q] at e
        cases e
        exact ⟨0, q⟩
      | none =>
        rw [jn_r q] at e
        obtain ⟨k, hk⟩ := h4 a u e
        exact ⟨k + 1, hk⟩
theorem OwnL.ofRegs : ∀ {us : List V} {os : List O} {Rs : Nat → Hp}, us.length = os.length → (∀ (k : Nat) v o, us[k]? = some v → os[k]? = some o → Own K Hs v o (Rs k)) → (∀ k l a, Rs k a ≠ none → Rs l a ≠ none → k = l) → ∃ R, OwnL K Hs us os R ∧ (∀ a u, R a = some u → ∃ k, k < us.length ∧ Rs k a = some u) ∧ ∀ k a u, k < us.length → Rs k a = some u → R a = some u
  | [], [], _, _, _, _ => ⟨em, .nil, fun a u h => (nomatch h), fun k a u h => absurd h (Nat.not_lt_zero _)⟩
  | [], _ :: _, _, h, _, _ => by cases h
  | _ :: _, [], _, h, _, _ => by cases h
  | v :: us, o :: os, Rs, hl, h, hd => by
    obtain ⟨R, h1, h2, h3⟩ := OwnL.ofRegs (us := us) (os := os) (Rs := fun k => Rs (k + 1)) (Nat.succ.inj hl) (fun k w p e1 e2 => h (k + 1) w p e1 e2) (fun k l a e1 e2 => Nat.succ.inj (hd (k + 1) (l + 1) a e1 e2))
    have dis : ∀ a, Rs 0 a ≠ none → R a = none := fun a ha => by
      cases q : R a with
      | none => rfl
      | some u =>
        obtain ⟨k, _, hk⟩ := h2 a u q
        exact absurd (hd 0 (k + 1) a ha (some_ne hk)) (by omega)
    refine ⟨jn (Rs 0) R, .cons (h 0 v o rfl rfl) h1 dis, fun a u e => ?_, fun k a u hk e => ?_⟩
    · cases q : Rs 0 a with
      | some w =>
        rw [jn_l q] at e
        cases e
        exact ⟨0, Nat.zero_lt_succ _, q⟩
      | none =>
        rw [jn_r q] at e
        obtain ⟨k, h4, h5⟩ := h2 a u e
        exact ⟨k + 1, Nat.succ_lt_succ h4, h5⟩
    · cases k with
      | zero => exact jn_l e
      | succ k =>
        rw [jn_r]
        · exact h3 k a u (Nat.lt_of_succ_lt_succ hk) e
        · cases q : Rs 0 a with
          | none => rfl
          | some w => exact absurd (hd 0 (k + 1) a (some_ne q) (some_ne e)) (by omega)
/-- the promise of a closure whose cells hold us: its arguments, then these -/
def spCB (sp : Sp) (ws : List (Option V)) : Sp := fun vs H Q E => ∃ us, ws = us.map some ∧ sp (vs ++ us) H Q E
theorem nok_b {N ps fr : List Str} {F : NdefX.NF} {f : Addr} {nc : Nat} (S : NdefX.NScope N ps fr F.scope) (hb : ∀ (doc pm ctv : Value) (us : List Value), us.length = ps.length → bindArgs (F.fd doc pm ctv) ⟨us, []⟩ = pure (ps.zip us)) (hl : ∀ x, (arg x).length = ps.length + fr.length) {t : TS}
    (hp : ∀ (A : Around) (outer : List PySem.Env) (s : Shared) (H : Hp) (E : XK), Room k (A.deeper (NdefX.envF F f s.heap.objs.size)) → PSs (NdefX.ncx CX0 P w K mg base N F f A outer s H E).nox F.body t)
    (hd : ∀ x vs, vs.length = ps.length + fr.length → pre x → ExS K t (entB K N vs (arg x)) (endB K post x vs)) : COk P w K mg base CX0 (k + 1) f (CF.n F) ps fr (fun ws vs H Q E => vs.length = ps.length ∧ ws.length = fr.length ∧ spCB (spB K pre arg post exc) ws vs H Q E) := by
  refine COk.of <| NdefX.nok_of S hb (fun ws vs H Q E h => h.1) (fun A outer s H vs ws Q E hr h1 h2 h3 h => ?_)
  obtain ⟨g1, g2, us, e1, Hs, x, Rs, e, r, hpx, q, _⟩ := h
  refine ⟨t, (hp A outer s H E hr).nox, ?_⟩
  have hN : ps.length + fr.length ≤ N.length := by
    have := congrArg List.length S.pre
    rw [List.length_take, List.length_append] at this
    omega
  have es : NdefX.startF N vs ws = L2.start N (vs ++ us) := by
    unfold NdefX.startF L2.start
    rw [e1, List.map_append, List.length_map, List.length_append, List.append_assoc, Nat.sub_sub]
  rw [es]
  exact hd x (vs ++ us) (by rw [r.len, hl]) hpx _ Hs H (L2.start N (vs ++ us)) _ (rs_entB e r (by rw [hl]; exact hN)) (lk_b (E := E) q)
/-- a closure over own trees, that came as an argument, is called -/
theorem ev_callPB {mk : Addr → CF} {i : Nat} {v0 : V} {us : List V} {os : List O} {E : XK} {t : TA} {np nf : Nat} (x : α) {cc : Addr} (hi : ρ[i]? = some (some (.cb K v0 (mk cc) us os))) (ht : EvA K t ρ es) (p : pre x) (ha : arg x = es.map AV.d ++ os.map AV.o) (hnp : es.length = np) (hno : os.length = nf) (Z : D → List O → Prop)
    (sh : ∀ d as, post x d as → ∃ os', (∀ k : Nat, k < os.length → as[es.length + k]? = (os'.map AV.o)[k]?) ∧ os'.length = os.length ∧ Z d os') (hx : ∀ cls fs as, ¬ exc x cls fs as) :
    EvE K (tCallP mk i (fun vs H Q E => vs.length = np ∧ (us.map some).length = nf ∧ spCB (spB K pre arg post exc) (us.map some) vs H Q E) E t) ρ (fun d ρ' => ∃ os', Z d os' ∧ ρ' = ρ.set i (some (.cb K v0 (mk cc) us os'))) := fun B Hs H σ r Q q => by
  classical
  obtain ⟨R0, rg0⟩ := r.reg
  obtain ⟨v, hv, hh⟩ := rg0.1 i _ hi
  obtain ⟨ev, f, ef, f1, f2, _⟩ := hh Hs (Ex.refl _)
  subst ev
  subst ef
  refine ⟨f, cc, hv, r.ex _ _ f1, ht B Hs H σ r _ fun Hs1 H1 vs g ys => ?_⟩
  have r1 := r.grow g
  have rg : Reg K B Hs1 H1 σ ρ R0 := Reg.grow rg0 g
  have hvl := ys.length
  obtain ⟨_, f', ef', g1, g2, ol⟩ := hh Hs1 g.sh
  have hlo := ol.length
  obtain ⟨Rs, s1, s2, s3, s4⟩ := OwnL.regs ol
  refine ⟨g.lv _ _ (g.sh _ _ f1), g.lv _ _ (g.sh _ _ f2), by rw [hvl, hnp], by rw [List.length_map, hlo, hno], us, rfl, Hs1, x, fun m => if m < vs.length then em else Rs (m - vs.length), ⟨g.lv, r1.tb⟩, ?_, p, fun Hs' H' w d as Rs' gg b y z => ?_, fun _ _ cls _ fs as _ _ _ _ z => (hx cls fs as z).elim⟩
  · rw [ha]
    refine ⟨by rw [List.length_append, List.length_append, List.length_map, List.length_map, hvl, hlo], fun m u a e1 e2 => ?_, fun m a o e => ?_, fun m l a e1 e2 => ?_⟩
    · by_cases hm : m < vs.length
      · rw [List.getElem?_append_left hm] at e1
        rw [List.getElem?_append_left (by rw [List.length_map, ← hvl]; exact hm), List.getElem?_map] at e2
        obtain ⟨d0, e3, rfl⟩ := Option.map_eq_some_iff.mp e2
        obtain ⟨d1, e4, e5⟩ := ys.get e1
        rw [e3] at e4
        cases e4
        exact ⟨e5, if_pos hm⟩
      · rw [List.getElem?_append_right (Nat.le_of_not_lt hm)] at e1
        rw [List.getElem?_append_right (by rw [List.length_map, ← hvl]; exact Nat.le_of_not_lt hm), List.getElem?_map, List.length_map, ← hvl] at e2
        obtain ⟨t0, e3, rfl⟩ := Option.map_eq_some_iff.mp e2
        show Own K Hs1 u t0 (if m < vs.length then em else Rs (m - vs.length))
        rw [if_neg hm]
        exact s1 _ _ _ e1 e3
    · by_cases hm : m < vs.length
      · rw [if_pos hm] at e
        cases e
      · rw [if_neg hm] at e
        obtain ⟨z1, z2⟩ := s2 _ a o e
        obtain ⟨e1, e2, _, e4⟩ := rg.2.1 i a o z2
        exact ⟨by rw [List.length_append]; omega, e1, e2, e4⟩
    · by_cases hm : m < vs.length
      · rw [if_pos hm] at e1
        exact absurd rfl e1
      · by_cases hm' : l < vs.length
        · rw [if_pos hm'] at e2
          exact absurd rfl e2
        · rw [if_neg hm] at e1
          rw [if_neg hm'] at e2
          have := s3 _ _ a e1 e2
          omega
  · obtain ⟨os', w1, w2, w3⟩ := sh d as z
    have bl := b.len
    rw [List.length_append] at bl
    obtain ⟨R', o1, o2, o3⟩ := OwnL.ofRegs (K := K) (Hs := Hs') (us := us) (os := os') (Rs := fun k => Rs' (vs.length + k)) (by rw [hlo, w2]) (fun k u o e1 e2 => by
      have hk : k < os.length := by rw [← w2]; exact (List.getElem?_eq_some_iff.mp e2).1
      exact b.is (vs.length + k) u (.o o) (by rw [List.getElem?_append_right (Nat.le_add_right _ _), Nat.add_sub_cancel_left]; exact e1) (by rw [hvl, w1 k hk, List.getElem?_map, e2]; rfl) rfl) (fun k l a e1 e2 => by
      have := b.dis _ _ a e1 e2
      omega)
    have off : ∀ a, (∀ m, (fun m => if m < vs.length then em else Rs (m - vs.length)) m a = none) ↔ R0 i a = none := fun a => by
      constructor
      · intro h
        cases q0 : R0 i a with
        | none => rfl
        | some u =>
          obtain ⟨k, hk⟩ := s4 a u q0
          have := h (vs.length + k)
          dsimp only at this
          rw [if_neg (by omega), Nat.add_sub_cancel_left, hk] at this
          cases this
      · intro h m
        dsimp only
        by_cases hm : m < vs.length
        · rw [if_pos hm]
          rfl
        · rw [if_neg hm]
          cases q0 : Rs (m - vs.length) a with
          | none => rfl
          | some u =>
            rw [(s2 _ a u q0).2] at h
            cases h
    refine q Hs' H' w d _ (g.sh.trans gg.sh) (r1.io rg (fun j => j = i) gg (fun a z => cut_of ((off a).mpr (z i rfl))) (by rw [List.length_set]) (fun _ => R') (fun j sv e => ?_) (fun j a o ej e => ?_) (fun j l a ej el _ _ => by rw [ej, el])) y ⟨os', w3, rfl⟩
    · by_cases ej : j = i
      · subst ej
        have hl : j < ρ.length := by
          have := (List.getElem?_eq_some_iff.mp e).1
          rwa [List.length_set] at this
        rw [List.getElem?_set_self hl] at e
        cases e
        exact .inr ⟨rfl, _, hv, fun Hs2 e2 => ⟨rfl, f, rfl, e2 _ _ (gg.sh _ _ (g.sh _ _ f1)), e2 _ _ (gg.sh _ _ (g.sh _ _ f2)), o1.mono e2⟩, fun nn => nomatch nn⟩
      · rw [List.getElem?_set_ne (Ne.symm ej)] at e
        exact .inl ⟨ej, e⟩
    · obtain ⟨k, _, z2⟩ := o2 a o e
      obtain ⟨_, e1, e2, e3, e4⟩ := b.reg _ a o z2
      refine ⟨e1, e2, e3, ?_⟩
      rcases e4 with ⟨m, z3⟩ | z3
      · refine .inl ⟨i, rfl, fun q0 => z3 ((off a).mpr q0 m)⟩
      · exact .inr z3
/-- o.m(..), the last argument a closure over own trees of the running frame -/
theorem ev_methUB {js : List Nat} {alts : List V → List (Addr × Sp)} {m : Str} {E : XK} {t : TA} {C : Addr} {ns : List Str} {ds0 es0 : List D} {F : CF} {os : List O} {arg : List V → α → List AV} {post : List V → α → D → List AV → Prop} (x : α) (h : EvD K ta ρ (.obj C ns ds0)) (ht : EvA K t ρ (es0 ++ [.clo F [] []])) (jl : List (Nat × Nw)) (hjs : js = jl.map (·.1))
    (hj : ArgOk K ρ (jl.map Sum.inr) (os.map AV.o)) (sep : sepB (jl.map Sum.inr) = true) (hin : ∀ us, (C, spB K pre (arg us) (post us) exc) ∈ alts us) (hm : ns.contains m = false)
    (ha : ∀ us, arg us x = .d (.obj C ns ds0) :: (es0.map AV.d ++ [.c F us os])) (p : pre x) (Z : D → List O → Prop) (sh : ∀ us d as, post us x d as → ∃ os', as[es0.length + 1]? = some (.c F us os') ∧ os'.length = os.length ∧ Z d os') (hx : ∀ cls fs as, ¬ exc x cls fs as) :
    EvE K (tMethU js alts m E ta t) ρ (fun d ρ' => ∃ os', Z d os' ∧ ρ' = back K (allOf (jl.map Sum.inr)) (jl.map Sum.inr) (os'.map AV.o) ρ) := fun B Hs H σ r Q q =>
  h B Hs H σ r _ fun Hs1 H1 v g1 xo => by
    cases xo with
    | @obj a _ dx _ vs _ hp xs =>
      have r1 := r.grow g1
      obtain ⟨R0, rg0⟩ := r1.reg
      -- what the captured slots hold
      have hus : ∀ (jl : List (Nat × Nw)) (os : List O), ArgOk K ρ (jl.map Sum.inr) (os.map AV.o) → ∃ us : List V, (jl.map (·.1)).map (NdefX.slotAt σ) = us.map some ∧ ∀ Hs, VsOk K Hs σ us (jl.map Sum.inr) := by
        intro jl
        induction jl with
        | nil =>
          intro os hj
          exact ⟨[], rfl, fun _ => trivial⟩
        | cons j jl ih =>
          intro os hj
          cases os with
          | nil => cases hj
          | cons o os =>
            obtain ⟨us, e1, e2⟩ := ih os hj.2
            obtain ⟨w, e3, _⟩ := rg0.1 j.1 _ hj.1
            exact ⟨w :: us, by rw [List.map_cons, List.map_cons, List.map_cons, e1, NdefX.slotAt_of e3], fun Hs => ⟨e3, e2 Hs⟩⟩
      obtain ⟨us, e1, e2⟩ := hus jl os hj
      refine ⟨a, C, dx, _, us, _, rfl, g1.lv _ _ hp, by rw [hjs]; exact e1, hin us, look_none hm, ht B Hs1 H1 σ r1 _ fun Hs2 H2 ws g2 ys => ?_⟩
      have r2 := r1.grow g2
      have rg : Reg K B Hs2 H2 σ ρ R0 := Reg.grow rg0 g2
      have lay := r2.lay rg (e2 Hs2) hj sep
      have hul : us.length = os.length := by rw [lay.len, List.length_map]
      obtain ⟨RU, u1, u2, u3⟩ := OwnL.ofRegs (K := K) (Hs := Hs2) (us := us) (os := os) (Rs := regA R0 (jl.map Sum.inr)) hul (fun k u o e3 e4 => lay.is k u (.o o) e3 (by rw [List.getElem?_map, e4]; rfl)) lay.dis
      have hwl := ys.length
      rw [List.length_append, List.length_singleton] at hwl
      have isReg : ∀ m a u, (if m = es0.length + 1 then RU else em) a = some u → m = es0.length + 1 ∧ RU a = some u := fun m a u e => by
        by_cases q0 : m = es0.length + 1
        · rw [if_pos q0] at e
          exact ⟨q0, e⟩
        · rw [if_neg q0] at e
          cases e
      refine ⟨Hs2, x, fun m => if m = es0.length + 1 then RU else em, ⟨g2.lv, r2.tb⟩, ?_, p, fun Hs' H' w d as Rs' gg b y z => ?_, fun _ _ cls _ fs as _ _ _ _ z => (hx cls fs as z).elim⟩
      · rw [ha us]
        refine ⟨by simp only [List.length_cons, List.length_append, List.length_map, List.length_nil]; omega, fun m u b e3 e4 => ?_, fun m c o e => ?_, fun m l c e3 e4 => ?_⟩
        · cases m with
          | zero =>
            cases e3
            cases e4
            exact ⟨.obj (g2.sh _ _ hp) (xs.mono g2.sh), if_neg (by omega)⟩
          | succ m =>
            rw [List.getElem?_cons_succ] at e3 e4
            by_cases hmm : m < es0.length
            · rw [List.getElem?_append_left (by rw [List.length_map]; exact hmm), List.getElem?_map] at e4
              obtain ⟨d0, e5, rfl⟩ := Option.map_eq_some_iff.mp e4
              obtain ⟨d1, e6, e7⟩ := ys.get e3
              rw [List.getElem?_append_left hmm, e5] at e6
              cases e6
              exact ⟨e7, if_neg (by omega)⟩
            · rw [List.getElem?_append_right (by rw [List.length_map]; omega), List.length_map] at e4
              have hz : m - es0.length = 0 := by
                have := (List.getElem?_eq_some_iff.mp e4).1
                rw [List.length_singleton] at this
                omega
              rw [hz] at e4
              cases e4
              obtain ⟨d1, e6, e7⟩ := ys.get e3
              rw [List.getElem?_append_right (by omega), hz] at e6
              cases e6
              cases e7 with
              | @clo f _ _ _ c1 c2 c3 =>
                refine ⟨f, rfl, c1, c2, ?_⟩
                rw [if_pos (by omega)]
                exact u1
        · obtain ⟨z1, z2⟩ := isReg m c o e
          obtain ⟨k, _, z3⟩ := u2 c o z2
          obtain ⟨_, z4, z5, z6⟩ := lay.reg k c o z3
          exact ⟨by rw [List.length_cons]; omega, z4, z5, z6⟩
        · obtain ⟨_, e3⟩ := ne_some e3
          obtain ⟨_, e4⟩ := ne_some e4
          rw [(isReg m c _ e3).1, (isReg l c _ e4).1]
      · obtain ⟨os', w1, w2, w3⟩ := sh us d as z
        have hlt : es0.length + 1 < (V.ref a :: ws).length := by rw [b.len]; exact (List.getElem?_eq_some_iff.mp w1).1
        have yc := b.is _ _ _ (List.getElem?_eq_getElem hlt) w1 rfl
        obtain ⟨f, _, _, _, ol⟩ := yc
        obtain ⟨Rt, t1, t2, t3, t4⟩ := OwnL.regs ol
        have same : cut H2 (fun m => if m = es0.length + 1 then RU else em) = cut H2 (regA R0 (jl.map Sum.inr)) := by
          funext c
          unfold cut
          congr 1
          apply propext
          constructor
          · rintro ⟨m, hm⟩
            obtain ⟨u, hu⟩ := ne_some hm
            obtain ⟨k, _, hk⟩ := u2 c u (isReg m c u hu).2
            exact ⟨k, some_ne hk⟩
          · rintro ⟨k, hk⟩
            obtain ⟨u, hu⟩ := ne_some hk
            refine ⟨es0.length + 1, ?_⟩
            show (if es0.length + 1 = es0.length + 1 then RU else em) c ≠ none
            rw [if_pos rfl]
            exact some_ne (u3 k c u (lay.reg k c u hu).1 hu)
        rw [same] at gg
        refine q Hs' H' w d _ ((g1.sh.trans g2.sh).trans gg.sh) (r2.behind rg (e2 Hs2) hj sep ?_ gg ⟨by rw [List.length_map, w2, hul], fun k u b' e3 e4 e5 => ?_, fun k c o e => ?_, t3⟩) y ⟨os', w3, rfl⟩
        · have key : ∀ (jl : List (Nat × Nw)) (xs : List O), jl.length = xs.length → Shp (jl.map Sum.inr) (xs.map AV.o) := by
            intro jl
            induction jl with
            | nil =>
              intro xs hh
              cases xs with
              | nil => trivial
              | cons _ _ => cases hh
            | cons j jl ih =>
              intro xs hh
              cases xs with
              | nil => cases hh
              | cons o xs => exact ih xs (Nat.succ.inj hh)
          refine key jl os' ?_
          have := hj.length
          rw [List.length_map, List.length_map] at this
          omega
        · rw [List.getElem?_map] at e4
          obtain ⟨o, e6, rfl⟩ := Option.map_eq_some_iff.mp e4
          exact t1 k u o e3 e6
        · obtain ⟨z1, z2⟩ := t2 k c o e
          obtain ⟨_, z4, z5, z6, z7⟩ := b.reg _ c o z2
          refine ⟨z1, z4, z5, z6, ?_⟩
          rcases z7 with ⟨m, hm⟩ | z7
          · obtain ⟨u, hu⟩ := ne_some hm
            obtain ⟨k', _, hk'⟩ := u2 c u (isReg m c u hu).2
            exact .inl ⟨k', some_ne hk'⟩
          · exact .inr z7
end
end DL

/-! DSort: sorted(range(n), key=f), f a nested def that gives lists of whole numbers. -/
namespace SK
open PySem PySem.W PyProof.Rows
section
variable {prog : Program} {w : World} {A : Around} {E : Value → Shared → Prop} {s : Shared} {a kS : Addr} {b : Bool} {vs : List Value} {e1 : Nat} {P : PySem.Fin → Shared → Prop} {J : List Value → Shared → Prop}
/-- the turns: J tells of the keys so far -/
theorem rest {f : Value} (hZ : vs.length ≤ sizeLine)
    (at_ : ∀ ks s', J ks s' → ∃ e, s'.heap.get? kS = some (seqObj "list" ks.toArray e))
    (turn : ∀ (i : Nat) (v : Value) (ks : List Value) (s' : Shared), vs[i]? = some v → ks.length = i → J ks s' →
      wpAny (model prog w) A (call f [v]) (fun k s2 => ∃ e, s2.heap.get? kS = some (seqObj "list" ks.toArray e) ∧ ∀ h' c, Heap.SameBut kS s2.heap h' → h'.get? kS = some (seqObj "list" (ks ++ [k]).toArray c) → J (ks ++ [k]) { s2 with heap := h' }) (fun _ _ => False) s')
    (j0 : J [] s)
    (done : ∀ ks s', ks.length = vs.length → J ks s' → wpAny (model prog w) A (ksk_end a b vs.toArray e1 (.ref kS) ks.toArray) P E s') :
    wpAny (model prog w) A (ksk_rest a f b vs.toArray e1 (.ref kS)) P E s := by
  unfold ksk_rest
  refine wpAny_bind (wpAny_rule ?_)
  first
    | rw [List.forIn_toArray]
    | (rw [← Array.forIn_toList]; simp only [List.toList_toArray])
    | rw [← Array.forIn_toList]
  refine wpAny_bind (ksk_fold (fun i s' => ∃ ks, ks.length = i ∧ J ks s') vs 0 s ⟨[], rfl, j0⟩ ?step ?fin)
  case step =>
    rintro j x s' hx ⟨ks, hl, hj⟩
    have hj' : j < vs.length := (List.getElem?_eq_some_iff.mp hx).1
    simp only [Nat.zero_add] at hl ⊢
    refine wpAny_bind (wpAny_attempt (wpAny_mono (turn j x ks s' hx hl hj) (fun k s2 he => ?_) fun _ _ hF => hF.elim))
    obtain ⟨e, hk, hn⟩ := he
    try dsimp only
    have s1 := Heap.SameBut.update s2.heap kS (Obj.mapSeq (·.push k))
    obtain ⟨c2, hc2⟩ : ∃ c2, (s2.heap.update kS (Obj.mapSeq (·.push k))).get? kS = some (seqObj "list" (ks.toArray.push k) c2) := ⟨_, get?_update_seq hk (·.push k)⟩
    have hz : ks.toArray.size ≤ vs.length := by
      rw [List.size_toArray]
      omega
    refine wpAny_bind (listUpdate_at hk rfl ?_ (Nat.le_trans hz hZ) (Nat.le_trans (Nat.le_of_eq (Array.size_push ..)) (Nat.succ_le_succ (Nat.le_trans hz hZ))))
    refine wpAny_pure ⟨rfl, ks ++ [k], by rw [List.length_append, hl]; rfl, hn _ c2 s1 ?_⟩
    rw [hc2]
    congr 2
    simp
  case fin =>
    rintro s' ⟨ks, hl, hj⟩
    obtain ⟨e, hk⟩ := at_ ks s' hj
    try dsimp only
    refine wpAny_bind (listItems_at hk rfl ?_)
    exact done ks s' (by rw [hl, Nat.zero_add]) hj
end
end SK
namespace DL
open PySem L2 PySem.W
open PyProof.Rows
variable [TbC]
section
variable {X : Cx} {pins : List (Addr × Obj)} {σ : L2.St} {H : Hp} {s : Shared}
/-- a slot's value is read; nothing changes -/
theorem ld_slot {i : Nat} {x : Str} {v : V} {pos : Pos} (I : Inv X pins σ H s) (hN : X.N[i]? = some x) (hs : σ[i]? = some (some v)) (hv : Vis X.env.scope x) (hd : (x == ("__debug__" : Str)) = false := by decide) (hcd : (x == ("__classdict__" : Str)) = false := by decide) :
    wpAny (model X.prog X.w) X.A (eval (.Name x pos) X.env) (fun u s' => s' = s ∧ RelV v u) X.xe s := by
  obtain ⟨m, hn, hl⟩ := I.loc
  obtain ⟨u, r, l⟩ := hl i x v hN hs hv
  rcases l with ⟨hk, hm⟩ | ⟨hk, c, hc, hcell⟩
  · exact wpAny_Name (wpAny_loadName_local I.ok.kind hk hn hm ⟨rfl, r⟩) hd
  · rcases hk with hk | hk
    · exact wpAny_Name (wpAny_loadName_cell I.ok.kind hk hc hcell ⟨rfl, r⟩) hd
    · exact wpAny_Name (wpAny_loadName_free I.ok.kind hk hc hcell ⟨rfl, r⟩ hcd) hd
/-- a record that is ours alone -/
structure Ours (X : Cx) (pins : List (Addr × Obj)) (a : Addr) : Prop where
  ne : a ≠ X.env.locals
  fs : a ∉ X.fs
  sz : X.s_0.heap.objs.size ≤ a
  pn : ∀ p ∈ X.pn ++ pins, p.1 ≠ a
  ce : ∀ x c, X.env.cells.lookup x = some c → c ≠ a
theorem Inv.ours (I : Inv X pins σ H s) {a : Addr} (h : s.heap.objs.size ≤ a) : Ours X pins a :=
  let z := I.fpOk (H' := H) h (I.hok.fresh h)
  ⟨z.2.1, z.2.2.1, Nat.le_trans I.sz h, z.2.2.2.2.2, z.2.2.2.2.1⟩
/-- the list of keys grows -/
theorem Inv.pinSet {kS a : Addr} {o o' oa : Obj} {h' : Heap} (I : Inv X ((kS, o) :: (a, oa) :: pins) σ H s) (O : Ours X pins kS) (hne : kS ≠ a) (hd : ∀ v, o'.data ≠ .cell v) (k : Heap.SameBut kS s.heap h') (e : h'.get? kS = some o') :
    Inv X ((kS, o') :: (a, oa) :: pins) σ H { s with heap := h' } := by
  have p0 := I.pin (kS, o) (List.mem_append_right _ (.head _))
  have pa := I.pin (a, oa) (List.mem_append_right _ (.tail _ (.head _)))
  have I0 : Inv X pins σ H s := I.pins_of fun p hp => I.pin p (List.mem_append_right _ (.tail _ (.tail _ hp)))
  have I1 := Inv.turned (it := kS) (t' := s.toks) I0 (fun b o hb q => (k.2 b hb).trans q) p0.2.1 O.ne (.inr O.sz) O.ce O.pn
  refine Inv.pins_of I1 fun p hp => ?_
  rcases List.mem_cons.mp hp with rfl | hp
  · exact ⟨e, p0.2.1, p0.2.2.1, p0.2.2.2.1, hd⟩
  rcases List.mem_cons.mp hp with rfl | hp
  · exact ⟨(k.2 a (Ne.symm hne)).trans pa.1, pa.2⟩
  · exact I1.pin p (List.mem_append_right _ hp)
/-- at the end the working list is the result -/
theorem Inv.sorted {kS a : Addr} {oa ok : Obj} {h' : Heap} {tk : Nat} {o : HO} (I : Inv X ((kS, ok) :: (a, oa) :: pins) σ H s) (O : Ours X pins kS) (Oa : Ours X pins a) (hne : kS ≠ a)
    (k : ∀ b u, b ≠ a → b ≠ kS → s.heap.get? b = some u → h'.get? b = some u) (new : ObjOk X.prog X.w (upd H a o) h' a o) : Inv X pins σ (upd H a o) { s with heap := h', toks := tk } := by
  have p0 := I.pin (kS, ok) (List.mem_append_right _ (.head _))
  have pa := I.pin (a, oa) (List.mem_append_right _ (.tail _ (.head _)))
  have I0 : Inv X pins σ H s := I.pins_of fun p hp => I.pin p (List.mem_append_right _ (.tail _ (.tail _ hp)))
  have na : H a = none := pa.2.1
  have nk : H kS = none := p0.2.1
  have no : ∀ {b u}, H b = some u → b ≠ a ∧ b ≠ kS := fun {b u} e => ⟨ne_of_none e na, ne_of_none e nk⟩
  have up : ∀ {b u}, H b = some u → upd H a o b = some u := fun {b u} e => by rw [upd_ne (no e).1]; exact e
  have nch : ∀ {b : Addr}, b ∉ [kS, a] → b ≠ a ∧ b ≠ kS := fun {b} h => ⟨fun z => h (by simp [z]), fun z => h (by simp [z])⟩
  refine I0.step (g' := s.gens) (d' := s.drawn) (ch := [kS, a]) (fun b hb => ?_) (fun b u _ _ hc e _ => k b u (nch hc).1 (nch hc).2 e) (fun b u _ _ hc e _ => ⟨u.slots, k b u (nch hc).1 (nch hc).2 e⟩) (fun b u hc _ n => by rw [upd_ne (nch hc).1]; exact n)
    (fun b u hc e => ⟨u, k b u (nch hc).1 (nch hc).2 e⟩) (fun b xs e => up e) (fun b u v e => up e) (fun b ps e => ⟨#[], by rw [up e]; simp⟩) (fun m hm => ?_) (fun b u e => ?_) I0.bare
  · rcases List.mem_cons.mp hb with e | hb
    · subst e
      exact ⟨.inr O.sz, O.ne, O.ce, O.pn⟩
    · obtain rfl := List.mem_singleton.mp hb
      exact ⟨.inr Oa.sz, Oa.ne, Oa.ce, Oa.pn⟩
  · obtain ⟨u, es, ep, e, r⟩ := hm
    exact ⟨u, es, ep, k _ u (Ne.symm Oa.ne) (Ne.symm O.ne) e, r⟩
  · by_cases hb : b = a
    · subst hb
      rw [upd_same] at e
      cases e
      exact new
    · rw [upd_ne hb] at e
      refine (I.hok b u e).stay (fun c v hc q => ?_) (fun c q => up q) fun c xs q => up q
      have hcn : c ≠ a ∧ c ≠ kS := by
        rcases hc with z | z
        · rw [z]; exact no e
        · exact no z
      exact k c v hcn.1 hcn.2 q
end
/-- the places by the lists that stand there -/
def srtBy (n : Nat) (key : Nat → List Int) : List Nat := (List.range n).mergeSort fun i j => decide (key i ≤ key j)
def tSortK (mk : Addr → CF) (i : Nat) (js : List Nat) (sp : List (Option V) → Sp) (te : L2.St → Hp → (Int → Int → Hp → Prop) → Prop) : TE := fun σ H Q => te σ H fun a b H1 => ∃ (f c' : Addr) (n : Nat) (key : Nat → List Int) (J : List V → Hp → Prop),
  σ[i]? = some (some (.ref f)) ∧ a = 0 ∧ b = (n : Int) ∧ n ≤ 100000 ∧ J [] H1 ∧
  (∀ (ks : List V) (H2 : Hp), ks.length < n → J ks H2 → H2 f = some ((mk c').ob f) ∧ H2 (mk c').c = some (LamX.CodeO (mk c').c (mk c').qual) ∧ sp (js.map (NdefX.slotAt σ)) [.int (ks.length : Int)] H2 (fun v H3 => J (ks ++ [v]) H3) (fun _ _ _ => False)) ∧
  (∀ (ks : List V) (H2 : Hp), ks.length = n → J ks H2 → (∀ k v, ks[k]? = some v → ∃ p, v = .ref p ∧ H2 p = some (.lst ((key k).map .int))) ∧ ∀ q, H2 q = none → Q (.ref q) (upd H2 q (.lst ((srtBy n key).map fun (k : Nat) => V.int (k : Int)))))
section
variable {X : Cx} {k : Nat} {mk : Addr → CF} {cl : List (Str × Addr)} {ps fr : List Str} {js : List Nat} {sp : List (Option V) → Sp}
theorem reads_ints {h : Heap} : ∀ {us : List Value} {ns : List Int}, Vals (ns.map V.int) us → ReadsAll h us (ns.map PyData.int) []
  | [], [], _ => .nil
  | [], _ :: _, r => by cases r
  | _ :: _, [], r => by cases r
  | u :: us, n :: ns, r => by
    cases r with
    | cons a b =>
      obtain ⟨t, rfl⟩ := a
      exact .cons (.int n t) (reads_ints b)
theorem vals_get : ∀ {vs : List V} {us : List Value} {i : Nat} {u : Value}, Vals vs us → us[i]? = some u → ∃ v, vs[i]? = some v ∧ RelV v u
  | _, _, _, _, .nil, e => by simp at e
  | _, _, 0, _, .cons h _, e => by
    have e' := Option.some.inj e
    subst e'
    exact ⟨_, rfl, h⟩
  | _, _, i + 1, u, .cons _ r, e => vals_get (i := i) (u := u) r e
theorem each_of_get {α β : Type} {R : α → β → Prop} : ∀ {as : List α} {bs : List β}, as.length = bs.length → (∀ (i : Nat) (a : α) (b : β), as[i]? = some a → bs[i]? = some b → R a b) → EachIs R as bs
  | [], [], _, _ => .nil
  | [], _ :: _, e, _ => by simp at e
  | _ :: _, [], e, _ => by simp at e
  | a :: as, b :: bs, e, h => .cons (h 0 a b rfl rfl) (each_of_get (by simpa using e) fun i x y p q => h (i + 1) x y (by simpa using p) (by simpa using q))
theorem each_rgv {vs : Array Value} {n : Nat} (h : ItemsOf (fun i v => ∃ t, v = .int ((0 : Int) + i * 1) t) vs n) : EachIs (fun v (i : Nat) => ∃ t, v = Value.int (i : Int) t) vs.toList (List.range n) := by
  refine each_of_get (by rw [Array.length_toList, h.1, List.length_range]) fun i a b p q => ?_
  have hi : i < n := by
    rw [← List.length_range (n := n)]
    exact (List.getElem?_eq_some_iff.mp q).1
  rw [List.getElem?_range hi] at q
  cases q
  rw [Array.getElem?_toList] at p
  obtain ⟨t, e⟩ := h.2 i a p
  exact ⟨t, by rw [e]; congr 1; omega⟩
theorem vals_each : ∀ {us : List Value} {is : List Nat}, EachIs (fun v (i : Nat) => ∃ t, v = Value.int (i : Int) t) us is → Vals (is.map fun (k : Nat) => V.int (k : Int)) us
  | _, _, .nil => .nil
  | _, _, .cons ⟨t, e⟩ r => .cons ⟨t, e⟩ (vals_each r)
theorem tree_run {pins : List (Addr × Obj)} {σ : L2.St} {H : Hp} {s : Shared} {Q : VK} {E : Value → Shared → Prop} {f c' a : Addr} {n : Nat} {vs : List Value} {key : Nat → List Int} {J : List V → Hp → Prop}
    (Fn : COk X.prog X.w X.K X.mg X.base CX0 k f (mk c') ps fr sp) (hcl : (mk c').cl = cl) (cp : X.Ok → NdefX.Caps X cl fr js) (hr : Room (k + 2) X.A) (I : Inv X pins σ H s)
    (ho : s.heap.get? a = some (seqObj "list" vs.toArray 0)) (na : H a = none) (Oa : Ours X pins a) (he : EachIs (fun v (i : Nat) => ∃ t, v = Value.int (i : Int) t) vs (List.range n)) (hn : n ≤ 100000) (j0 : J [] H)
    (turn : ∀ (ks : List V) (H2 : Hp), ks.length < n → J ks H2 → H2 f = some ((mk c').ob f) ∧ H2 (mk c').c = some (LamX.CodeO (mk c').c (mk c').qual) ∧ sp (js.map (NdefX.slotAt σ)) [.int (ks.length : Int)] H2 (fun v H3 => J (ks ++ [v]) H3) (fun _ _ _ => False))
    (fin : ∀ (ks : List V) (H2 : Hp), ks.length = n → J ks H2 → (∀ k v, ks[k]? = some v → ∃ p, v = .ref p ∧ H2 p = some (.lst ((key k).map .int))) ∧ ∀ q, H2 q = none → Q (.ref q) (upd H2 q (.lst ((srtBy n key).map fun (k : Nat) => V.int (k : Int))))) :
    wpAny (model X.prog X.w) X.A.in1.in1 (ksk_tree a (.ref f) false) (fun f s' => f = .done (.ret .none) ∧ EP X pins σ Q (.ref a) s') E s := by
  have hl : vs.length = n := by rw [he.length, List.length_range]
  have nz : vs.length ≤ sizeLine := by rw [sizeLine_eq, hl]; omega
  have ha : a < s.heap.objs.size := Heap.lt_size ho
  obtain ⟨e1, ho1⟩ : ∃ e1, (s.heap.update a (Obj.mapSeq fun _ => (#[] : Array Value))).get? a = some (seqObj "list" #[] e1) := ⟨_, get?_update_seq ho fun _ => #[]⟩
  have hkS : ((s.heap.update a (Obj.mapSeq fun _ => (#[] : Array Value))).push (seqObj "tuple" vs.toArray 0)).objs.size = s.heap.objs.size + 1 := by rw [size_push', Heap.size_update]
  unfold ksk_tree
  refine wpAny_bind (listItems_at ho rfl ?_)
  refine wpAny_bind (listUpdate_at ho rfl ?_ (by rw [List.size_toArray]; exact nz) (Nat.zero_le _))
  refine wpAny_bind (seqEpoch_at ho1 rfl ?_)
  refine wpAny_bind (wpAny_newTuple ?_ (by show vs.length ≤ _; exact nz))
  refine wpAny_bind (wpAny_newList ?_ (Nat.zero_le _))
  refine wpAny_holding ?_
  have keep : ∀ b o, b ≠ a → s.heap.get? b = some o → (((s.heap.update a (Obj.mapSeq fun _ => (#[] : Array Value))).push (seqObj "tuple" vs.toArray 0)).push (seqObj "list" #[] 0)).get? b = some o := fun b o hb q => sortingHeap_old hb q
  have ka : (((s.heap.update a (Obj.mapSeq fun _ => (#[] : Array Value))).push (seqObj "tuple" vs.toArray 0)).push (seqObj "list" #[] 0)).get? a = some (seqObj "list" #[] e1) := Heap.get?_push_of_some _ (Heap.get?_push_of_some _ ho1)
  have kk : (((s.heap.update a (Obj.mapSeq fun _ => (#[] : Array Value))).push (seqObj "tuple" vs.toArray 0)).push (seqObj "list" #[] 0)).get? ((s.heap.update a (Obj.mapSeq fun _ => (#[] : Array Value))).push (seqObj "tuple" vs.toArray 0)).objs.size = some (seqObj "list" #[] 0) := Heap.get?_push_size _ rfl
  rw [show (seqObj "list" ([] : List Value).toArray 0) = seqObj "list" #[] 0 from rfl] at *
  show wpAny _ _ (ksk_rest a (.ref f) false vs.toArray e1 (.ref ((s.heap.update a (Obj.mapSeq fun _ => (#[] : Array Value))).push (seqObj "tuple" vs.toArray 0)).objs.size)) _ _ { s with heap := ((s.heap.update a (Obj.mapSeq fun _ => (#[] : Array Value))).push (seqObj "tuple" vs.toArray 0)).push (seqObj "list" #[] 0) }
  generalize (((s.heap.update a (Obj.mapSeq fun _ => (#[] : Array Value))).push (seqObj "tuple" vs.toArray 0)).push (seqObj "list" #[] 0)) = g at keep ka kk ⊢
  generalize ((s.heap.update a (Obj.mapSeq fun _ => (#[] : Array Value))).push (seqObj "tuple" vs.toArray 0)).objs.size = kS at hkS kk ⊢
  have Ok : Ours X pins kS := Inv.ours I (by omega)
  have nk : H kS = none := I.hok.fresh (by omega)
  have hka : kS ≠ a := Nat.ne_of_gt (by rw [hkS]; exact Nat.lt_succ_of_lt ha)
  have I1 : Inv X pins σ H { s with heap := g } := Inv.turned (it := a) (t' := s.toks) I keep na Oa.ne (.inr Oa.sz) Oa.ce Oa.pn
  have I2 : Inv X ((kS, seqObj "list" (([] : List Value)).toArray 0) :: (a, seqObj "list" #[] e1) :: pins) σ H { s with heap := g } := Inv.pins_of I1 fun p hp => by
    rcases List.mem_cons.mp hp with rfl | hp
    · exact ⟨kk, nk, Ok.ne, Ok.fs, fun v z => by cases z⟩
    rcases List.mem_cons.mp hp with rfl | hp
    · exact ⟨ka, na, Oa.ne, Oa.fs, fun v z => by cases z⟩
    · exact I1.pin p (List.mem_append_right _ hp)
  refine SK.rest (J := fun ks s' => ∃ H' kvs e, Inv X ((kS, seqObj "list" ks.toArray e) :: (a, seqObj "list" #[] e1) :: pins) σ H' s' ∧ Vals kvs ks ∧ J kvs H') nz ?at_ ?turn ⟨H, [], 0, I2, .nil, j0⟩ ?done
  case at_ =>
    rintro ks s' ⟨H', kvs, e, I', _, _⟩
    exact ⟨e, (I'.pin _ (List.mem_append_right _ (.head _))).1⟩
  case turn =>
    rintro i v ks s' hv hi ⟨H', kvs, e, I', rv, hj⟩
    have hkl : kvs.length = i := by rw [rv.length, hi]
    have hin : i < n := by rw [← hl]; exact (List.getElem?_eq_some_iff.mp hv).1
    obtain ⟨t1, t2, t3⟩ := turn kvs H' (by omega) hj
    have hr' : Room k X.A.in1.in1 := (hr.in1).in1
    have e0 : Env0 X.prog X.w X.K X.mg X.base X.A.in1.in1 X.stack s' H' := ⟨I'.env0.frames, I'.env0.mod, I'.env0.bs, I'.env0.bsz, I'.env0.funs, I'.env0.frf, I'.env0.hok, I'.env0.bare⟩
    have C := NdefX.cells_of I' (cp I'.ok)
    rw [← hcl] at C
    obtain ⟨tv, ev⟩ : ∃ t, v = Value.int (i : Int) t := by
      obtain ⟨j, hj1, hj2⟩ : ∃ j, (List.range n)[i]? = some j ∧ ∃ t, v = Value.int (j : Int) t := by
        have hz : (v, i) ∈ vs.zip (List.range n) := List.mem_of_getElem? (i := i) (by rw [List.getElem?_zip_eq_some]; exact ⟨hv, List.getElem?_range hin⟩)
        exact ⟨i, List.getElem?_range hin, he.zip _ hz⟩
      rw [List.getElem?_range hin] at hj1
      cases hj1
      exact hj2
    refine wpAny_call (codeAny_mono (Fn.run X.A.in1.in1 X.stack s' H' [v] [.int (kvs.length : Int)] _ _ _ hr' e0 t1 t2 C (.cons ⟨tv, by rw [ev, hkl]⟩ .nil) t3) fun r s2 hq => ?_)
    cases r with
    | error e => exact False.elim hq
    | ok fl =>
      cases fl with
      | next => exact False.elim hq
      | brk => exact False.elim hq
      | cont => exact False.elim hq
      | ret u =>
        obtain ⟨v2, H2, I3, r2, q2⟩ := I'.after hq
        refine ⟨e, (I3.pin _ (List.mem_append_right _ (.head _))).1, fun h' c hs hc => ?_⟩
        exact ⟨H2, kvs ++ [v2], c, Inv.pinSet I3 Ok hka (fun v z => by cases z) hs hc, rv.append (.cons r2 .nil), q2⟩
  case done =>
    rintro ks s' hkl ⟨H', kvs, e, I', rv, hj⟩
    obtain ⟨f1, f2⟩ := fin kvs H' (by rw [rv.length, hkl, hl]) hj
    have pk := I'.pin (kS, seqObj "list" ks.toArray e) (List.mem_append_right _ (.head _))
    have pa := I'.pin (a, seqObj "list" #[] e1) (List.mem_append_right _ (.tail _ (.head _)))
    obtain ⟨G, g1, g2, _⟩ := restrictS s'.heap fun b => decide (b ≠ kS)
    have kp : KeepsBut a G s'.heap := fun b o _ q => by
      by_cases hb : b = kS
      · rw [g2 b (decide_eq_false fun z => z hb)] at q
        cases q
      · rw [g1 b (decide_eq_true hb)] at q
        exact q
    have rd : EachIs (fun v k => ∃ as, Reads s'.heap v k as) ks ((List.range n).map fun i => PyData.list ((key i).map .int)) := by
      refine each_of_get (by rw [hkl, hl, List.length_map, List.length_range]) fun i u d hu hd => ?_
      have hin : i < n := by rw [← hl, ← hkl]; exact (List.getElem?_eq_some_iff.mp hu).1
      rw [List.getElem?_map, List.getElem?_range hin] at hd
      cases hd
      obtain ⟨v, hv, ru⟩ := vals_get rv hu
      obtain ⟨p, rfl, hp⟩ := f1 i v hv
      obtain rfl : u = Value.ref p := ru
      obtain ⟨_, its, c, r3, hob⟩ := I'.hok p _ hp
      exact ⟨_, .list hob rfl rfl (reads_ints (by rw [List.toList_toArray]; exact r3))⟩
    have hal : AllAlike ((List.range n).map fun i => PyData.list ((key i).map .int)) := AllAlike.of fun b b' => by
      show alike (.list _) (.list _) = true
      rw [alike]
      exact alike_ints _ _
    have hsk : Sortable ((List.range n).map fun i => PyData.list ((key i).map .int)) := Sortable.others fun b => ⟨(by intro z; cases z), (by intro xs z; cases z)⟩
    have hu : ∀ d, d ∈ ((List.range n).map fun i => PyData.list ((key i).map .int)) → X.A.in1.in1.units + d.depth < cLine := fun d hd => by
      obtain ⟨i, _, rfl⟩ := List.mem_map.mp hd
      rw [PyData.depth, depth_ints]
      have := (hr.in1.in1).un
      omega
    refine keyH_end (κ := dataKind s'.heap ((List.range n).map fun i => PyData.list ((key i).map .int))) (h₁ := G) kp (g2 kS (decide_eq_false fun z => z rfl)) pk.1 pa.1 hka (SortsAt.data (s := s') (by rw [List.toList_toArray]; exact rd) hal hsk hu) (by rw [List.size_toArray]; exact hkl) nz fun h3 tk3 c k3 n3 => ⟨rfl, ?_⟩
    rw [List.toList_toArray] at n3
    have hout := keyedOut_each (rev := false) (fun i => PyData.list ((key i).map .int)) ⟨s'.heap, ks, hal, rfl, rd⟩ he
    rw [dataLe_rows] at hout
    refine ⟨.ref a, upd H' a (.lst ((srtBy n key).map fun (k : Nat) => V.int (k : Int))), Inv.sorted I' Ok Oa hka (fun b u h1 h2 q => k3 b u h1 (by rw [g1 b (decide_eq_true h2)]; exact q)) ⟨?_, _, c, vals_each hout, n3⟩, rfl, f2 a pa.2.1⟩
    unfold srtBy
    rw [List.length_map, List.length_mergeSort, List.length_range, ← hl]
    exact nz
theorem sort_run {pins : List (Addr × Obj)} {σ : L2.St} {H : Hp} {s : Shared} {Q : VK} {f c' r : Addr} {n : Nat} {key : Nat → List Int} {J : List V → Hp → Prop} {t u v : Tok}
    (Fn : COk X.prog X.w X.K X.mg X.base CX0 k f (mk c') ps fr sp) (hcl : (mk c').cl = cl) (cp : X.Ok → NdefX.Caps X cl fr js) (hr : Room (k + 2) X.A) (I : Inv X pins σ H s) (hh : X.A.handled = none)
    (hrg : IsRange s.heap r 0 (n : Int) 1 t u v) (hn : n ≤ 100000) (j0 : J [] H)
    (turn : ∀ (ks : List V) (H2 : Hp), ks.length < n → J ks H2 → H2 f = some ((mk c').ob f) ∧ H2 (mk c').c = some (LamX.CodeO (mk c').c (mk c').qual) ∧ sp (js.map (NdefX.slotAt σ)) [.int (ks.length : Int)] H2 (fun v H3 => J (ks ++ [v]) H3) (fun _ _ _ => False))
    (fin : ∀ (ks : List V) (H2 : Hp), ks.length = n → J ks H2 → (∀ k v, ks[k]? = some v → ∃ p, v = .ref p ∧ H2 p = some (.lst ((key k).map .int))) ∧ ∀ q, H2 q = none → Q (.ref q) (upd H2 q (.lst ((srtBy n key).map fun (k : Nat) => V.int (k : Int))))) :
    wpAny (model X.prog X.w) X.A (call (.builtin "sorted") [.ref r] [(Str.ofString "key", .ref f)]) (EP X pins σ Q) X.xe s := by
  have nz : n ≤ sizeLine := by rw [sizeLine_eq]; omega
  have en : ((n : Int) - 0).toNat = n := by omega
  refine call_function_entry_kw kind_sorted plain_sorted entry_sorted (ksk_s1 _ _) ?_
  unfold Builtin.«sorted»
  refine wpAny_bind (m := checkCount "sorted" 1 1 _) (wpAny_pure ?_)
  refine wpAny_bind (collect_range (A := X.A.in1) (n := n) hh hrg (small_one (by omega) (by omega) (by omega) (by omega)) (by rw [rangeSize_nat, en]) (by omega) fun h1 tk1 acc hk1 hi => ?_)
  have hl : acc.toList.length = n := by rw [Array.length_toList]; exact hi.1
  refine wpAny_bind (wpAny_newList ?_ (by rw [hl]; exact nz))
  have at0 : (h1.push (seqObj "list" acc.toList.toArray 0)).get? h1.objs.size = some (seqObj "list" acc.toList.toArray 0) := Heap.get?_push_size _ rfl
  refine wpAny_bind (wpAny_holding (wpAny_call_entry_kw slot_list_sort ⟨_, at0, rfl⟩ entry_list_sort ?body (ksk_l1 _ _)))
  case body =>
    show wpAny (model X.prog X.w) X.A.in1.in1 (Builtin.«list.sort» ⟨[.ref h1.objs.size], [(Str.ofString "key", .ref f)]⟩) _ _ _
    rw [ksk_t1]
    have I0 : Inv X pins σ H { s with heap := h1, toks := tk1 } := I.kept hk1
    have I1 : Inv X pins σ H { s with heap := h1.push (seqObj "list" acc.toList.toArray 0), toks := tk1 } := I0.kept fun b o q => Heap.get?_push_of_some _ q
    refine wpAny_mono (tree_run (s := { s with heap := h1.push (seqObj "list" acc.toList.toArray 0), toks := tk1 }) Fn hcl cp hr I1 at0 (I0.hok.fresh (Nat.le_refl _)) (Inv.ours I0 (Nat.le_refl _)) (each_rgv hi) hn j0 turn fin) (fun f s' hf => ?_) fun _ _ e => e
    obtain ⟨rfl, hq⟩ := hf
    exact ⟨_, rfl, wpAny_pure ⟨_, rfl, hq⟩⟩
theorem boot_sortedK : bootBuiltins "sorted" = some (.builtin "sorted") := by decide +kernel
/-- sorted(range(..), key=f) -/
theorem pe_sortKey {e : Expr} {te : L2.St → Hp → (Int → Int → Hp → Prop) → Prop} {i : Nat} {x : Str} {p p2 p3 pos : Pos} (Fn : ∀ f c', COk X.prog X.w X.K X.mg X.base CX0 k f (mk c') ps fr sp) (hcl : ∀ c', (mk c').cl = cl) (cp : X.Ok → NdefX.Caps X cl fr js) (hr : Room (k + 2) X.A) (hc : X.calm = true)
    (hg : Gl X "sorted") (hm : X.mg "sorted" = none) (hN : X.N[i]? = some x) (hv : Vis X.env.scope x) (he : PRg X e te)
    (hd : (x == ("__debug__" : Str)) = false := by decide) (hcd : (x == ("__classdict__" : Str)) = false := by decide) (na : starEach [e] X.env = (false, eval e X.env) :: starEach [] X.env := by rfl) (na2 : backTo pos (starEach [e] X.env) = (false, eval e X.env) :: backTo pos (starEach [] X.env) := by rfl) (hpl : (backTo pos (starEach [e] X.env)).any (·.1) = false := by rfl) :
    PE X (.Call (.Name "sorted" p) [e] [⟨some "key", .Name x p2, p3⟩] pos) (tSortK mk i js sp te) := by
  refine ⟨fun pins s σ H Q I h => ?_⟩
  refine wpAny_Call_Name_kw (ld_blt I hg hm boot_sortedK ?_)
  refine PyProof.Rows.callWith_kw (args_cons (thn (he pins s σ H _ I h) fun xv s1 ⟨r, a, b, t, u, v, H1, ex, hrg, I1, f, c', n, key, J, hs, ha, hb, hn, j0, turn, fin⟩ => args_nil ?_) na) na2 hpl
  subst ex ha hb
  show wpAny _ _ (evalAll ((do let v ← eval (.Name x p2) X.env; standAt pos; pure v) :: [])) _ _ s1
  refine wpAny_evalAll_cons (wpAny_bind (thn (ld_slot I1 hN hs hv hd hcd) fun u1 s2 ⟨e2, ru⟩ => wpAny_bind (wpAny_standAt (wpAny_pure ?_))))
  subst e2
  obtain rfl : u1 = Value.ref f := ru
  refine wpAny_evalAll_nil ?_
  exact sort_run (Fn f c') (hcl c') cp hr I1 (I1.ok.hd hc) hrg hn j0 turn fin
end
section
variable {K : PySem.W.Frag} {ρ : Env} {ta : TE}
/-- .. on deep data -/
theorem ef_sortKey {mk : Addr → CF} {i : Nat} {js : List Nat} {c : Addr} {us0 : List V} {ds0 cs : List D} {α : Type} {pre : α → Prop} {arg cap : α → List D} {res : α → D} {n : Nat} {key : Nat → List Int} (x : Nat → α) (hi : ρ[i]? = some (some (.sh (.clo (mk c) us0 ds0)))) (hj : js.map (fun j => ρ[j]?) = cs.map (fun d => some (some (.sh d))))
    (hx : ∀ k, k < n → arg (x k) = [.int (k : Int)] ∧ cap (x k) = cs ∧ pre (x k) ∧ res (x k) = .lst ((key k).map .int)) (ht : EvD K ta ρ (.int (n : Int))) (hn : n ≤ 100000) :
    EvF K (tSortK mk i js (spN_ (spCl K pre arg cap res)) (tRg1 ta)) ρ ((srtBy n key).map fun (k : Nat) => D.int (k : Int)) := fun B Hs H σ r Q q =>
  ht B Hs H σ r _ fun Hs1 H1 v1 g1 y1 => by
    cases y1
    have r1 := r.grow g1
    obtain ⟨us, e1, e2⟩ := r1.gets hj
    obtain ⟨v, e, xv⟩ := r1.get hi
    cases xv with
    | @clo f _ _ _ h1 h2 _ =>
      refine ⟨(n : Int), rfl, f, c, n, key, fun ks H2 => ∃ Hs2, Gr Hs1 H1 H1 Hs2 H2 ∧ RepL K Hs2 ks ((List.range ks.length).map fun k => .lst ((key k).map .int)), e, rfl, rfl, hn, ⟨Hs1, Gr.refl r1.ex, .nil⟩, ?_, ?_⟩
      · rintro ks H2 hl ⟨Hs2, g, hk⟩
        obtain ⟨x1, x2, x3, x4⟩ := hx ks.length hl
        refine ⟨g.lv _ _ (g.sh _ _ h1), g.lv _ _ (g.sh _ _ h2), us, e1, Hs2, x ks.length, ⟨g.lv, (r1.grow g).tb⟩, ?_, ?_, x3, ?_⟩
        · rw [x1]
          exact .cons (.int _) .nil
        · rw [x2]
          exact e2.mono g.sh
        · intro Hs' H' w g2 y
          refine ⟨Hs', g.trans g2, ?_⟩
          rw [List.length_append, List.length_cons, List.length_nil, Nat.zero_add, List.range_succ, List.map_append]
          rw [x4] at y
          exact (hk.mono g2.sh).append (.cons y .nil)
      · rintro ks H2 hl ⟨Hs2, g, hk⟩
        refine ⟨fun k v hv => ?_, fun p hp => ?_⟩
        · obtain ⟨d, hd, rd⟩ := hk.get hv
          rw [List.getElem?_map, List.getElem?_range (List.getElem?_eq_some_iff.mp hv).1] at hd
          cases hd
          cases rd with
          | lst a b =>
            have := RepL.ints b
            subst this
            exact ⟨_, rfl, g.lv _ _ a⟩
        · obtain ⟨n1, n2⟩ := gr_none (g1.trans g) hp
          refine q Hs2 _ p _ ((g1.trans g).trans (Gr.newO g.lv hp)) n1 n2 upd_same ?_
          have : ((srtBy n key).map fun (k : Nat) => V.int (k : Int)) = ((srtBy n key).map fun (k : Nat) => (k : Int)).map V.int := by rw [List.map_map]; rfl
          rw [this]
          have : ((srtBy n key).map fun (k : Nat) => D.int (k : Int)) = ((srtBy n key).map fun (k : Nat) => (k : Int)).map D.int := by rw [List.map_map]; rfl
          rw [this]
          exact RepL.ofInts _
end
end DL

/-! DFor: for over a list of the frame's own; sorted of whole numbers. -/
namespace DL
open PySem L2
variable [TbC]
section
variable {K : PySem.W.Frag} {B : Base} {Hs H Hs' H' : Hp} {σ : St} {ρ ρ' : Env} {i j : Nat} {ds es : List D} {R : DEnds} {te ta tb : TE} {d : D}
/-- the same, seen otherwise -/
theorem RS.recast {sv sv' : SV} (r : RS K B Hs H σ ρ) (hi : ρ[i]? = some (some sv)) {v : V} (hv : σ[i]? = some (some v)) (h : ∀ R, Holds K Hs R v sv → Holds K Hs R v sv') (hn : sv'.nw = true → sv.nw = true) : RS K B Hs H σ (ρ.set i (some sv')) := by
  obtain ⟨Q, g1, g2, g3, g4⟩ := r.reg
  have hl : i < ρ.length := (List.getElem?_eq_some_iff.mp hi).1
  refine ⟨r.gr, by rw [List.length_set]; exact r.len, Q, fun m sv2 e => ?_, g2, g3, fun m sv2 a e1 e2 e3 => ?_⟩
  · by_cases q : m = i
    · subst q
      rw [List.getElem?_set_self hl] at e
      cases e
      obtain ⟨w, hw, hk⟩ := g1 m _ hi
      rw [hv] at hw
      cases hw
      exact ⟨v, hv, h _ hk⟩
    · rw [List.getElem?_set_ne (Ne.symm q)] at e
      exact g1 m sv2 e
  · by_cases q : m = i
    · subst q
      rw [List.getElem?_set_self hl] at e1
      cases e1
      exact g4 m _ a hi (hn e2) e3
    · rw [List.getElem?_set_ne (Ne.symm q)] at e1
      exact g4 m sv2 a e1 e2 e3
theorem RS.toA (r : RS K B Hs H σ ρ) (hi : ρ[i]? = some (some (.ol ds))) : ∃ a, σ[i]? = some (some (.ref a)) ∧ RS K B Hs H σ (ρ.set i (some (.trA K a ds))) := by
  obtain ⟨Q, g1, g2, g3, g4⟩ := r.reg
  obtain ⟨v, hv, p, vs, rfl, hR, x⟩ := g1 i _ hi
  refine ⟨p, hv, r.recast hi hv (fun R hk => ?_) fun _ => rfl⟩
  obtain ⟨p', vs', e, hR', x'⟩ := hk
  cases e
  refine fun Hs1 e1 => ⟨rfl, vs', x'.mono e1, ?_⟩
  rw [hR']
  rfl
theorem RS.ofA {a : Addr} (r : RS K B Hs H σ ρ) (hi : ρ[i]? = some (some (.trA K a ds))) : RS K B Hs H σ (ρ.set i (some (.ol ds))) := by
  obtain ⟨Q, g1, g2, g3, g4⟩ := r.reg
  obtain ⟨v, hv, hk⟩ := g1 i _ hi
  refine r.recast hi hv (fun R hk => ?_) fun _ => rfl
  obtain ⟨rfl, vs, x, hR⟩ := hk Hs (Ex.refl Hs)
  refine ⟨a, vs, rfl, ?_, x⟩
  rw [hR]
  rfl
/-- for .. in an own list; while it runs its slot is known by its address -/
theorem xs_forA {g : TG} {tb : TS} (hi : ρ[i]? = some (some (.ol ds))) (I : Addr → Nat → Env → Prop) (h0 : ∀ a, I a 0 (ρ.set i (some (.trA K a ds)))) (hI : ∀ a k ρ1, I a k ρ1 → ρ1[i]? = some (some (.trA K a ds)))
    (hs : ∀ a k d ρ1, ds[k]? = some d → I a k ρ1 → ∃ ρ2, EvG K g d ρ1 ρ2 ∧ ExS K tb ρ2 { R with nx := I a (k + 1), ct := I a (k + 1), bk := fun ρ3 => ρ3[i]? = some (some (.trA K a ds)) ∧ R.nx (ρ3.set i (some (.ol ds))) })
    (hd : ∀ a ρ1, I a ds.length ρ1 → R.nx (ρ1.set i (some (.ol ds)))) : ExS K (tFor (iSeq K (tVar i)) g tb) ρ R := fun B Hs H σ Dn r l => by
  obtain ⟨a, hv, r0⟩ := r.toA hi
  have look : ∀ {Hs2 H2 σ2 ρ2}, RS K B Hs2 H2 σ2 ρ2 → ρ2[i]? = some (some (.trA K a ds)) → ∃ vs, H2 a = some (.lst vs) ∧ RepL K Hs2 vs ds := fun {Hs2 H2 σ2 ρ2} r2 h2 => by
    obtain ⟨Q, g1, g2, _⟩ := r2.reg
    obtain ⟨w, _, hk⟩ := g1 i _ h2
    obtain ⟨_, vs, x, hR⟩ := hk Hs2 (Ex.refl Hs2)
    exact ⟨vs, (g2 i a _ (by rw [hR]; exact upd_same)).1, x⟩
  obtain ⟨vs0, ha0, _⟩ := look r0 (hI a 0 _ (h0 a))
  refine ⟨.ref a, hv, a, rfl, .inl ⟨⟨vs0, .of ha0⟩, ?_⟩⟩
  refine ⟨fun k m σ' H' => m = ds.length - k ∧ k ≤ ds.length ∧ ∃ Hs2 ρ1, RS K B Hs2 H' σ' ρ1 ∧ I a k ρ1, ⟨ds.length, rfl, Nat.zero_le _, Hs, _, r0, h0 a⟩, ?_⟩
  rintro k m σ2 H2 ⟨rfl, hk, Hs2, ρ1, r2, hI2⟩
  obtain ⟨vs, ha, x⟩ := look r2 (hI a k _ hI2)
  by_cases hlt : k < ds.length
  · obtain ⟨w, hw, xw⟩ := x.at (List.getElem?_eq_getElem hlt)
    refine .inr ⟨⟨vs, w, .of ha, hw⟩, fun σ' H' => ∃ Hs3 ρ3, RS K B Hs3 H' σ' ρ3 ∧ I a (k + 1) ρ3, fun σ' H' ⟨Hs3, ρ3, r3, i3⟩ => ⟨ds.length - (k + 1), by omega, rfl, hlt, Hs3, ρ3, r3, i3⟩, fun y H3 hy => ?_⟩
    obtain ⟨rfl, hy⟩ := hy
    have z := hy vs (.of ha)
    rw [hw] at z
    cases z
    obtain ⟨ρ2, hg, hx⟩ := hs a k _ ρ1 (List.getElem?_eq_getElem hlt) hI2
    refine hg B Hs2 H3 σ2 w r2 xw _ fun Hs4 H4 σ4 g4 r4 => ?_
    exact hx.run r4 (fun Hs5 H5 σ5 ρ5 e5 r5 q => ⟨Hs5, ρ5, r5, q⟩) l.rt l.rf (fun Hs5 H5 σ5 ρ5 e5 r5 q => l.nx Hs5 H5 σ5 _ (r5.ofA q.1) q.2) (fun Hs5 H5 σ5 ρ5 e5 r5 q => ⟨Hs5, ρ5, r5, q⟩) (fun Hs5 H5 σ5 ρ5 v d e5 r5 x q => l.ro Hs5 H5 σ5 ρ5 v d r5 x q) (fun Hs5 H5 σ5 ρ5 cls dd fs e5 r5 x q => l.ex Hs5 H5 σ5 ρ5 cls dd fs r5 x q) l.rn
  · have e : k = ds.length := by omega
    subst e
    exact .inl ⟨⟨vs, .of ha, by rw [x.length]; exact Nat.le_refl _⟩, l.nx Hs2 H2 σ2 _ (r2.ofA (hI a _ _ hI2)) (hd a ρ1 hI2)⟩
/-- .. where the frame stays but for the target -/
theorem em_A {a : Addr} (hi : ρ[i]? = some (some (.trA K a ds))) : EvM K (tVar i) ρ ds := fun B Hs H σ r Q q => by
  obtain ⟨R0, g1, g2, _⟩ := r.reg
  obtain ⟨w, hw, hk⟩ := g1 i _ hi
  obtain ⟨rfl, vs0, rs0, eR0⟩ := hk Hs (Ex.refl Hs)
  exact ⟨.ref a, hw, q Hs H _ _ (Gr.refl r.ex) (g2 i a _ (by rw [eR0]; exact upd_same)).1 rs0⟩
/-- sorted(whole numbers) -/
theorem sortIK {X : Cx} (h : X.K = K) : CallR X (.builtin "sorted") (rSortedI K) := by subst h; exact cr_sortedI
theorem ef_sortI {ns ms : List Int} (ha : EvB K ta ρ (ns.map D.int)) (hu : ∀ ns', ns'.Perm ns → ns'.Pairwise (· ≤ ·) → ns' = ms) : EvF K (tCB (rSortedI K) (tCons ta tNil)) ρ (ms.map D.int) := fun B Hs H σ r Q q =>
  ha B Hs H σ r _ fun Hs1 H1 p vs g hp xs => by
    have e := xs.ints
    subst e
    refine ⟨p, ns, rfl, hp, fun ns' p2 hpm hpw hn => ?_⟩
    obtain rfl := hu ns' hpm hpw
    obtain ⟨n1, n2⟩ := gr_none g hn
    exact q Hs1 _ p2 _ (g.trans (Gr.newO g.lv hn)) n1 n2 upd_same (RepL.ofInts _)
end
end DL

/-! DLt: a list of whole numbers is less than another one; the least, the greatest of a list. -/
namespace DL
open PySem L2 PySem.W
variable [TbC]
/-- xs < ys, lists of whole numbers -/
def rLtL (K : PySem.W.Frag) : R2 := fun x y H Q => ∃ (a b : Addr) (ns ms : List Int), x = .ref a ∧ y = .ref b ∧ SqL K H a (ns.map V.int) ∧ SqL K H b (ms.map V.int) ∧ Q (.bl (decide (ns < ms))) H
section
variable {X : Cx} {K : PySem.W.Frag} {ρ : Env} {ta tb : TE}
theorem op_ltL (hu : X.A.units + 64 < cLine) : OpR X (compareOp .Lt) (rLtL X.K) := by
  intro pins s σ H x y v u Q I rx ry h
  obtain ⟨a, b, ns, ms, rfl, rfl, ha, hb, q⟩ := h
  cases rx
  cases ry
  obtain ⟨its, r1, p1, _⟩ := I.list ha
  obtain ⟨its2, r2, p2, _⟩ := I.list hb
  obtain ⟨o1, e1, c1, n1, d1⟩ := p1.isList
  obtain ⟨o2, e2, c2, n2, d2⟩ := p2.isList
  have R1 : Reads s.heap (.ref a) (.list (ns.map .int)) [a] := .list e1 c1 d1 (reads_ints (by rw [List.toList_toArray]; exact r1))
  have R2 : Reads s.heap (.ref b) (.list (ms.map .int)) [b] := .list e2 c2 d2 (reads_ints (by rw [List.toList_toArray]; exact r2))
  have al : alike (.list (ns.map .int)) (.list (ms.map .int)) = true := by
    rw [alike]
    exact alike_ints _ _
  have hd : PyData.depth (.list (ns.map .int)) = 1 ∧ PyData.depth (.list (ms.map .int)) = 1 := by
    refine ⟨?_, ?_⟩ <;> rw [PyData.depth, depth_ints]
  have z := rcLt_alike _ _ X.A s _ _ _ _ R1 R2 al (by intro z; cases z) (by rw [hd.1, hd.2]; omega)
  rw [dataLt_list] at z
  have e : PyProof.Rows.lexLt PyProof.Rows.itemOrd (keyToksAll (ns.map .int)) (keyToksAll (ms.map .int)) = decide (ns < ms) := dataLt_ints ns ms
  rw [e] at z
  exact z _ _ _ _ ⟨.bl (decide (ns < ms)), H, I, rfl, q⟩
theorem ltLK (h : X.K = K) (hu : X.A.units + 64 < cLine) : OpR X (compareOp .Lt) (rLtL K) := by subst h; exact op_ltL hu
theorem minK (h : X.K = K) (hc : X.calm = true) : CallR X (.builtin "min") (rMin K) := by subst h; exact cr_min hc
theorem maxK (h : X.K = K) (hc : X.calm = true) : CallR X (.builtin "max") (rMax K) := by subst h; exact cr_max hc
theorem ev_ltL {xs ys : List Int} (ha : EvB K ta ρ (xs.map .int)) (hb : EvB K tb ρ (ys.map .int)) : EvD K (tOp (rLtL K) ta tb) ρ (.bl (decide (xs < ys))) := fun B Hs H σ r Q q =>
  ha B Hs H σ r _ fun Hs1 H1 p vs g1 hp x1 => hb B Hs1 H1 σ (r.grow g1) _ fun Hs2 H2 p2 vs2 g2 hp2 x2 => by
    have e := x1.ints
    subst e
    have e := x2.ints
    subst e
    exact ⟨p, p2, xs, ys, rfl, rfl, g2.fr.sl hp, hp2, q Hs2 H2 _ (g1.trans g2) (.bl _)⟩
theorem ev_minL {ns : List Int} {m : Int} (ha : EvB K ta ρ (ns.map .int)) (h1 : m ∈ ns) (h2 : ∀ y ∈ ns, m ≤ y) : EvD K (tCB (rMin K) (tCons ta tNil)) ρ (.int m) := fun B Hs H σ r Q q =>
  ha B Hs H σ r _ fun Hs1 H1 p vs g1 hp x1 => by
    have e := x1.ints
    subst e
    refine ⟨p, ns, rfl, hp, List.length_pos_iff.mpr (fun z => by rw [z] at h1; cases h1), fun m' k1 k2 => ?_⟩
    obtain rfl : m' = m := Int.le_antisymm (k2 m h1) (h2 m' k1)
    exact q Hs1 H1 _ g1 (.int _)
theorem ev_maxL {ns : List Int} {m : Int} (ha : EvB K ta ρ (ns.map .int)) (h1 : m ∈ ns) (h2 : ∀ y ∈ ns, y ≤ m) : EvD K (tCB (rMax K) (tCons ta tNil)) ρ (.int m) := fun B Hs H σ r Q q =>
  ha B Hs H σ r _ fun Hs1 H1 p vs g1 hp x1 => by
    have e := x1.ints
    subst e
    refine ⟨p, ns, rfl, hp, List.length_pos_iff.mpr (fun z => by rw [z] at h1; cases h1), fun m' k1 k2 => ?_⟩
    obtain rfl : m' = m := Int.le_antisymm (h2 m' k1) (k2 m h1)
    exact q Hs1 H1 _ g1 (.int _)
end
end DL

/-! DDef: defs with default values. -/
namespace DL
open PySem L2
open PyProof.Rows (envOfC)
variable [TbC]
/-- a def of which the last parameters have defaults -/
abbrev FunE (K : PySem.W.Frag) (x qual : Str) (st : Stmt) (dvs : List V) (f : Addr) (fd : FuncData) : Prop := FunD K x qual (defArgs st) (defBody st) (defScope st) dvs [] f fd
section
variable {K : PySem.W.Frag} {ρ : Env} {ds es : List D} {P : Program} {w : World} {mg : Str → Option Value} {base : Heap} {x qual : Str} {st : Stmt} {f : Addr} {fd : FuncData} {N ps : List Str} {k : Nat} {α : Type} {pre : α → Prop} {arg : α → List D} {dvs : List V}
theorem fune_mk {oc : Value} {od an : Option Addr} {osl : Array (Option Value)} {kV doc pm cdv ct : Value} {D : Addr} {o : Obj} {its : List Value} {n : Nat} (l : K.lookup f = some ⟨oc, od, .func (PySem.W.fnOf x qual (defArgs st) (defBody st) (defScope st) (.ref D) kV doc pm an cdv ct), osl⟩)
    (c : PySem.W.codeIn K cdv qual = true) (k : PySem.W.keepIn K (.ref f) = true) (lT : K.lookup D = some o) (oT : o.data = .seq its.toArray n) (r : Vals dvs its) (hd : dvs ≠ []) : FunE K x qual st dvs f (PySem.W.fnOf x qual (defArgs st) (defBody st) (defScope st) (.ref D) kV doc pm an cdv ct) :=
  ⟨⟨oc, od, _, kV, doc, pm, an, cdv, ct, osl, rfl, l, c, .inr ⟨hd, D, o, its, n, rfl, lT, oT, r⟩, .inl rfl⟩, k⟩
theorem fn_rE {post : α → D → Prop} (F : FunE K x qual st dvs f fd) (S : FnScope N ps (defScope st)) (hl : ∀ x, (arg x).length = ps.length) {t : TS}
    (hb : ∀ (cdv : Value) (A : Around) (outer : List PySem.Env) (s : Shared) (H : Hp) (E : XK), Room k (A.deeper (envOfC qual (defScope st) s.heap.objs.size f cdv)) → PSs (cxOf CX0 P w K mg base N qual (defScope st) f cdv A outer s H E).nox (defBody st) t)
    (hd : ∀ x, pre x → ExS K t (entry N (arg x)) { nx := fun _ => post x .non, rt := post x }) : FnOk P w K mg base CX0 (k + 1) f fd ps (spR K pre arg post) := by
  have hN : ps.length ≤ N.length := by have := congrArg List.length S.pre; rw [List.length_take] at this; omega
  refine F.ok S (fun vs H Q E h => ?_) (fun cdv A outer s H vs Q E hr h => ?_)
  · obtain ⟨Hs, x, _, r, _⟩ := h
    rw [r.length, hl]
  · obtain ⟨Hs, x, e, r, hp, q⟩ := h
    refine ⟨t, (hb cdv A outer s H E hr).nox, ?_⟩
    exact hd x hp ⟨Hs, H, H, e.2⟩ Hs H (L2.start N vs) _ (rs_entry e r (by rw [hl]; exact hN))
      ⟨fun Hs' H' σ ρ r' z => q Hs' H' .non .non r'.gr .non z, fun Hs' H' v d g x z => q Hs' H' v d g x z, fun _ _ _ _ _ _ _ _ _ _ z => z.elim, fun _ _ _ _ _ z => z.elim, fun _ _ _ _ _ z => z.elim, fun _ _ _ _ _ _ _ _ z => z.elim, fun _ _ _ _ _ _ _ _ _ z => z.elim, fun _ _ _ _ _ _ _ _ z => z.elim⟩
theorem fn_fE {res : α → List D} (F : FunE K x qual st dvs f fd) (S : FnScope N ps (defScope st)) (hl : ∀ x, (arg x).length = ps.length) {t : TS}
    (hb : ∀ (cdv : Value) (A : Around) (outer : List PySem.Env) (s : Shared) (H : Hp) (E : XK), Room k (A.deeper (envOfC qual (defScope st) s.heap.objs.size f cdv)) → PSs (cxOf CX0 P w K mg base N qual (defScope st) f cdv A outer s H E).nox (defBody st) t)
    (hd : ∀ x, pre x → ExS K t (entry N (arg x)) { nx := fun _ => False, rt := fun _ => False, rf := fun ds => ds = res x }) : FnOk P w K mg base CX0 (k + 1) f fd ps (spF K pre arg res) := by
  have hN : ps.length ≤ N.length := by have := congrArg List.length S.pre; rw [List.length_take] at this; omega
  refine F.ok S (fun vs H Q E h => ?_) (fun cdv A outer s H vs Q E hr h => ?_)
  · obtain ⟨Hs, x, _, r, _⟩ := h
    rw [r.length, hl]
  · obtain ⟨Hs, x, e, r, hp, q⟩ := h
    refine ⟨t, (hb cdv A outer s H E hr).nox, ?_⟩
    exact hd x hp ⟨Hs, H, H, e.2⟩ Hs H (L2.start N vs) _ (rs_entry e r (by rw [hl]; exact hN))
      ⟨fun Hs' H' σ ρ r' z => z.elim, fun Hs' H' v d g x z => z.elim, fun Hs' H' p ws ds g n ns e x z => q Hs' H' p ws g n ns e (z ▸ x), fun _ _ _ _ _ z => z.elim, fun _ _ _ _ _ z => z.elim, fun _ _ _ _ _ _ _ _ z => z.elim, fun _ _ _ _ _ _ _ _ _ z => z.elim, fun _ _ _ _ _ _ _ _ z => z.elim⟩
/-! ### calls that leave the last arguments out -/
theorem ev_callD {res : α → D} {E : XK} {ta : TA} (x : α) (h : EvA K ta ρ ds) (hr : ∀ Hs, RepL K Hs dvs es) (e : ds ++ es = arg x) (p : pre x) : EvD K (tCall (spG K pre arg res) dvs E ta) ρ (res x) := fun B Hs H σ r Q q =>
  h B Hs H σ r _ fun Hs1 H1 vs g1 xs => ⟨Hs1, x, ⟨g1.lv, (r.grow g1).tb⟩, e ▸ xs.append (hr _), p, fun Hs' H' v d g y e => q Hs' H' v (g1.trans g) (e ▸ y)⟩
theorem ef_callD {res : α → List D} {E : XK} {ta : TA} (x : α) (h : EvA K ta ρ ds) (hr : ∀ Hs, RepL K Hs dvs es) (e : ds ++ es = arg x) (p : pre x) : EvF K (tCall (spF K pre arg res) dvs E ta) ρ (res x) := fun B Hs H σ r Q q =>
  h B Hs H σ r _ fun Hs1 H1 vs g1 xs => by
    refine ⟨Hs1, x, ⟨g1.lv, (r.grow g1).tb⟩, e ▸ xs.append (hr _), p, fun Hs' H' l ws g n ns e y => q Hs' H' l ws (g1.trans g) ?_ ns e y⟩
    exact (g1.new0 n).1
end
theorem rep_i {K : PySem.W.Frag} (i : Int) (Hs : Hp) : RepL K Hs [.int i] [.int i] := .cons (.int i) .nil
end DL

/-! DLam: lambdas: made, and by their body; min(list, key=lambda). -/
namespace DL
open PySem L2 PySem.W LamX
open PyProof.Rows
/-! ### where a lambda stands in a def -/
def sBody : Stmt → List Stmt
  | .While _ b _ _ => b
  | .If _ b _ _ => b
  | .For _ _ b _ _ => b
  | .Try b _ _ _ _ => b
  | _ => []
def sOr : Stmt → List Stmt
  | .While _ _ b _ => b
  | .If _ _ b _ => b
  | .For _ _ _ b _ => b
  | _ => []
def noE : Expr := .Name "" ⟨0, 0, 0, 0⟩
def sVal : Stmt → Expr
  | .Assign _ v _ => v
  | .Return (some v) _ => v
  | .Expr v _ => v
  | .AugAssign _ _ v _ => v
  | _ => noE
def eArg : Expr → Nat → Expr
  | .Call _ a _ _, i => a.getD i noE
  | _, _ => noE
def eKw : Expr → Nat → Expr
  | .Call _ _ k _, i => match k[i]? with
    | some q => q.value
    | none => noE
  | _, _ => noE
def eFn : Expr → Expr
  | .Call f _ _ _ => f
  | .Attribute f _ _ => f
  | _ => noE
def lamArgs : Expr → Arguments
  | .Lambda a _ _ _ => a
  | _ => { posonlyargs := [], args := [], vararg := none, kwonlyargs := [], kw_defaults := [], kwarg := none, defaults := [] }
def lamBody : Expr → Expr
  | .Lambda _ b _ _ => b
  | _ => noE
def lamScope : Expr → Scope
  | .Lambda _ _ s _ => s
  | _ => C8.fnScope (.Pass ⟨0, 0, 0, 0⟩)
/-- a lambda: its words, its body -/
@[reducible] def CF.l (F : NdefX.NF) (b : Expr) : CF where
  at_ := fun f h => ∃ (pm ctv : Value), h.get? f = some (PySem.W.kla_obj F.name F.qual F.params b F.scope F.cl pm F.c ctv)
  c := F.c
  qual := F.qual
  cl := F.cl
  fn := fun f h ⟨pm, ctv, e⟩ => ⟨_, _, _, _, e⟩
section
variable {X : Cx} {pins : List (Addr × Obj)} {σ : L2.St} {H : Hp} {s : Shared}
theorem inv_lam {F : NdefX.NF} {b : Expr} {t' : Nat} {pm ctv : Value} (I : Inv X pins σ H s) :
    Inv X pins σ (upd H s.heap.objs.size ((CF.l F b).ob s.heap.objs.size)) { s with heap := s.heap.push (PySem.W.kla_obj F.name F.qual F.params b F.scope F.cl pm F.c ctv), toks := t' } := by
  refine I.laid (a := s.heap.objs.size) (fun b u e => Heap.get?_push_of_some _ e) (Nat.le_refl _) ?_
  have e : (s.heap.push (PySem.W.kla_obj F.name F.qual F.params b F.scope F.cl pm F.c ctv)).get? s.heap.objs.size = some (PySem.W.kla_obj F.name F.qual F.params b F.scope F.cl pm F.c ctv) := Heap.get?_push_size _ rfl
  exact ⟨⟨pm, ctv, e⟩, ⟨_, e⟩, fun h1 h2 ⟨p, t, z⟩ st => ⟨p, t, st _ z⟩⟩
/-- a lambda is made: its code object is new, or found in the table -/
theorem lam_makeN {T : List NdefX.NTab} {nm : Nat → Nat → Str} {c P : Addr} {params : Arguments} {body : Expr} {scope : Scope} {pos : Pos} {q : Str} {E : Value → Shared → Prop} {Q : Value → Shared → Prop} (I : Inv X pins σ H s) (TB : TabB X.base X.mg c P) (hcode : X.env.code = .ref c)
    (hm : (P, nm) ∈ T) (hn : nm pos.line pos.col = q) (hq : X.env.qual ++ "<lambda>" = q) (hu : ∀ p ∈ T, p.1 = P → p.2 = nm) (hT : NdefX.TabsN T H) (hdef : defaultsOf params X.env = ([], [])) (hfree : ∀ y ∈ scope.names, y.2 = .free → ∃ c, X.env.cells.lookup y.1 = some c)
    (h : ∀ (f c' : Addr) (H1 : Hp) (s' : Shared), Inv X pins σ H1 s' → LamX.ExtN H H1 → (∀ b, H1 b = Option.none → H b = Option.none) → NdefX.TabsN T H1 → H f = none → H1 f = some ((CF.l ⟨"<lambda>", q, params, [], scope, cloFrom X.env.cells scope.names [], c'⟩ body).ob f) → H1 c' = some (CodeO c' q) → Q (.ref f) s') :
    wpAny (model X.prog X.w) X.A (eval (.Lambda params body scope pos) X.env) Q E s := by
  subst hq
  obtain ⟨ps, hP, ht, ha⟩ := (show NdefX.TabN H P nm from hT _ hm)
  refine PySem.W.kla_eval hdef ?_
  have bP : s.heap.BuiltinsAt X.mg P := TB.bm.keeps I.bk
  have hP' : s.heap.get? P = some { cls := .none, data := .fields ps } := I.hok P _ hP
  cases hc : codeAmong pos ps.toList with
  | none =>
    refine PySem.W.kla_makeFunction (mg := X.mg) (c := c) (P := P) (ps := ps) (closure_ok hfree) I.ok.glob (I.mod.glob.keeps I.bk) hcode (TB.code.keeps I.bk) hP' ht hc TB.gP bP fun c' ctv h' tk hx hge hlt hrec htb => ?_
    obtain ⟨c2, oc, vs, t, e2, hoc, hd, hv⟩ := hrec
    cases e2
    have nC : H c' = none := I.hok.fresh hge
    have I1 := inv_table (t' := tk) (more := #[rawInt pos.line, rawInt pos.col, .ref c']) (h' := h') I hP (fun b o hb e => hx b o hb e) htb hge ⟨oc, vs, t, hoc, hd, hv⟩
    have hE : LamX.ExtN H (upd (upd H P (.tbl (ps ++ #[rawInt pos.line, rawInt pos.col, .ref c']))) c' (CodeO c' (X.env.qual ++ "<lambda>"))) := fun b o e n => by
      rw [upd_ne (ne_of_none e nC), upd_ne (fun z => n ps (Option.some.inj (e.symm.trans (by rw [z]; exact hP))))]
      exact e
    have eL : (ps ++ #[rawInt pos.line, rawInt pos.col, .ref c']).toList = ps.toList ++ [rawInt pos.line, rawInt pos.col, .ref c'] := by simp
    have T1 : NdefX.TabsN T (upd (upd H P (.tbl (ps ++ #[rawInt pos.line, rawInt pos.col, .ref c']))) c' (CodeO c' (X.env.qual ++ "<lambda>"))) := fun p hp => by
      by_cases hb : p.1 = P
      · rw [hu p hp hb, hb]
        refine ⟨_, by rw [upd_ne (ne_of_none hP nC), upd_same], by rw [eL]; exact PySem.TriplesOk_snoc _ _ _ _ ht, fun p' cv hcv => ?_⟩
        rw [eL] at hcv
        rcases NdefX.among_app2 _ ht hcv with z | ⟨z, z1, z2⟩
        · obtain ⟨c0, e1, e2⟩ := ha p' cv z
          exact ⟨c0, e1, hE _ _ e2 codeO_ne⟩
        · refine ⟨c', z, ?_⟩
          rw [← z1, ← z2, hn]
          exact upd_same
      · obtain ⟨ps', a1, a2, a3⟩ := hT p hp
        refine ⟨ps', by rw [upd_ne (ne_of_none a1 nC), upd_ne hb]; exact a1, a2, fun p' cv hcv => ?_⟩
        obtain ⟨c0, e1, e2⟩ := a3 p' cv hcv
        exact ⟨c0, e1, hE _ _ e2 codeO_ne⟩
    have nF := I1.hok.fresh (Nat.le_refl _)
    have I2 := inv_lam (F := ⟨"<lambda>", X.env.qual ++ "<lambda>", params, [], scope, cloFrom X.env.cells scope.names [], c'⟩) (b := body) (t' := tk) (pm := (X.mg "__name__").getD .none) (ctv := ctv) I1
    refine h h'.objs.size c' _ _ I2 (fun b o e n => ?_) (fun b e => NdefX.upd_none (NdefX.upd_none (NdefX.upd_none e))) (T1.ext fun b o e => ?_) (I.hok.fresh (Nat.le_trans hge (Nat.le_of_lt hlt))) upd_same ?_
    · have e1 := hE b o e n
      exact (upd_ne (ne_of_none e1 nF)).trans e1
    · exact (upd_ne (ne_of_none e nF)).trans e
    · exact (upd_ne (Nat.ne_of_lt hlt)).trans upd_same
  | some cv =>
    obtain ⟨c', e, hco⟩ := ha pos cv hc
    subst e
    rw [hn] at hco
    refine PySem.W.kla_makeFunctionHit (mg := X.mg) (c := c) (P := P) (ps := ps) (closure_ok hfree) I.ok.glob (I.mod.glob.keeps I.bk) hcode (TB.code.keeps I.bk) hP' ht hc bP fun ctv h' tk hx hsz => ?_
    have I1 : Inv X pins σ H { s with heap := h', toks := tk } := I.kept hx
    have nF : H h'.objs.size = none := I1.hok.fresh (Nat.le_refl _)
    have I2 := inv_lam (F := ⟨"<lambda>", X.env.qual ++ "<lambda>", params, [], scope, cloFrom X.env.cells scope.names [], c'⟩) (b := body) (t' := tk) (pm := (X.mg "__name__").getD .none) (ctv := ctv) I1
    refine h h'.objs.size c' _ _ I2 (fun b o e n => ?_) (fun b e => NdefX.upd_none e) (hT.ext fun b o e => ?_) nF upd_same ?_
    · exact (upd_ne (ne_of_none e nF)).trans e
    · exact (upd_ne (ne_of_none e nF)).trans e
    · exact (upd_ne (ne_of_none hco nF)).trans hco
end
section
variable {CX : CXT} {P : Program} {w : World} {K : PySem.W.Frag} {mg : Str → Option Value} {base : Heap} {N ps fr : List Str} {F : NdefX.NF} {b : Expr} {f : Addr} {k : Nat} {sp : List (Option V) → Sp}
/-- a lambda by its body -/
theorem lok_of (S : NdefX.NScope N ps fr F.scope) (hb : ∀ (pm ctv : Value) (us : List Value), us.length = ps.length → bindArgs (PySem.W.kla_fn F.name F.qual F.params b F.scope F.cl pm (.ref F.c) ctv) ⟨us, []⟩ = pure (ps.zip us)) (len : ∀ ws vs H Q E, sp ws vs H Q E → vs.length = ps.length)
    (hbody : ∀ (A : Around) (outer : List PySem.Env) (s : Shared) (H : Hp) (vs : List V) (ws : List (Option V)) (Q : VK) (E : XK), Room k (A.deeper (NdefX.envF F f s.heap.objs.size)) → H f = some ((CF.l F b).ob f) → H F.c = some (CodeO F.c F.qual) → ws.length = fr.length → sp ws vs H Q E →
      ∃ t, PE (NdefX.ncx CX P w K mg base N F f A outer s H E) b t ∧ t (NdefX.startF N vs ws) H Q) :
    COk P w K mg base CX (k + 1) f (CF.l F b) ps fr sp := by
  refine ⟨len, fun A outer s H us vs ws Q E hr e0 hf hc C r hsp => ?_⟩
  have hl := len _ _ _ _ _ hsp
  have lim : s.heap.NoLimit := e0.mod.nolimit.keeps fun b o e => (e0.bs b o e).1
  obtain ⟨⟨pm, ctv, ho⟩, _, _⟩ := e0.hok f _ hf
  refine PySem.W.kla_callFunE hr.depth ho rfl S.co S.gen rfl (NdefX.codeO_at e0.hok hc) ?_
  rw [hb pm ctv us (by rw [← r.length]; exact hl)]
  refine wpAny_pure (wpAny_newFunctionEnv S.nocell (fun ⟨n, _⟩ hy => S.par n (List.of_mem_zip hy).1) (fun h₁ hns hsb => ⟨lim.fresh _ hsb, ?_⟩) S.kind)
  show codeAny _ _ (.expr b (NdefX.envF F f s.heap.objs.size)) _ _
  have kp : ∀ b o, s.heap.get? b = some o → h₁.get? b = some o := fun b o e => hsb.extBut b o (Nat.ne_of_lt (Heap.lt_size e)) (Heap.get?_push_of_some _ e)
  obtain ⟨t, ht, hq⟩ := hbody A outer s H vs ws Q E (hr.deeper _) hf hc C.len hsp
  have I : Inv (NdefX.ncx CX P w K mg base N F f A outer s H E) [] (NdefX.startF N vs ws) H { s with heap := h₁, toks := s.toks + (ps.zip us).length } := NdefX.inv_startN S hr.hd e0 hl r C hns kp
  refine PySem.W.kla_codeExpr (wpAny_mono (ht.run [] _ (NdefX.startF N vs ws) H _ I hq) (fun v s' hs => ?_) fun e s' hs => hs)
  obtain ⟨w', H', J, rv, q⟩ := hs
  exact ⟨w', H', J.os, J.bare, J.base, J.hok, rv, q⟩
end
section
variable [TbC] {K : PySem.W.Frag}
/-- .. on deep data -/
theorem lok_r {P : Program} {w : World} {mg : Str → Option Value} {base : Heap} {N ps fr : List Str} {F : NdefX.NF} {b : Expr} {f : Addr} {k : Nat} {α : Type} {pre : α → Prop} {arg cap : α → List D} {res : α → D} (S : NdefX.NScope N ps fr F.scope)
    (hb : ∀ (pm ctv : Value) (us : List Value), us.length = ps.length → bindArgs (PySem.W.kla_fn F.name F.qual F.params b F.scope F.cl pm (.ref F.c) ctv) ⟨us, []⟩ = pure (ps.zip us)) (hl : ∀ x, (arg x).length = ps.length) (hc : ∀ x, (cap x).length = fr.length) {t : TE}
    (hp : ∀ (A : Around) (outer : List PySem.Env) (s : Shared) (H : Hp) (E : XK), Room k (A.deeper (NdefX.envF F f s.heap.objs.size)) → PE (NdefX.ncx CX0 P w K mg base N F f A outer s H E).nox b t)
    (hd : ∀ x, pre x → EvD K t (entry N (arg x ++ cap x)) (res x)) : COk P w K mg base CX0 (k + 1) f (CF.l F b) ps fr (spN_ (spCl K pre arg cap res)) := by
  refine lok_of S hb (fun ws vs H Q E h => ?_) (fun A outer s H vs ws Q E hr h1 h2 h3 h => ?_)
  · obtain ⟨us, _, Hs, x, _, r, _⟩ := h
    rw [r.length, hl]
  · obtain ⟨us, e1, Hs, x, e, r, r2, hpx, q⟩ := h
    refine ⟨t, (hp A outer s H E hr).nox, ?_⟩
    have hN : (arg x ++ cap x).length ≤ N.length := by
      have := congrArg List.length S.pre
      rw [List.length_take, List.length_append] at this
      rw [List.length_append, hl, hc]
      omega
    have es : NdefX.startF N vs ws = L2.start N (vs ++ us) := by
      unfold NdefX.startF L2.start
      rw [e1, List.map_append, List.length_map, List.length_append, List.append_assoc, Nat.sub_sub]
    rw [es]
    exact hd x hpx ⟨Hs, H, H, e.2⟩ Hs H (L2.start N (vs ++ us)) (rs_entry e (r.append r2) hN) Q fun Hs' H' v g y => q Hs' H' v g y
end
end DL

/-! DMin: min(list of whole numbers, key=lambda that gives tuples of whole numbers). -/
namespace DL
open PySem L2 PySem.W LamX
open PyProof.Rows
section
variable {X : Cx} {pins : List (Addr × Obj)} {σ : L2.St} {H : Hp} {s : Shared}
/-- two records of ours change -/
theorem Inv.pin2 {a b : Addr} {oa ob oa' ob' : Obj} {h' : Heap} {t' : Nat} (I : Inv X ((a, oa) :: (b, ob) :: pins) σ H s) (Oa : Ours X pins a) (Ob : Ours X pins b) (hda : ∀ v, oa'.data ≠ .cell v) (hdb : ∀ v, ob'.data ≠ .cell v)
    (k : ∀ c o, c ≠ a → c ≠ b → s.heap.get? c = some o → h'.get? c = some o) (ea : h'.get? a = some oa') (eb : h'.get? b = some ob') : Inv X ((a, oa') :: (b, ob') :: pins) σ H { s with heap := h', toks := t' } := by
  have p0 := I.pin (a, oa) (List.mem_append_right _ (.head _))
  have p1 := I.pin (b, ob) (List.mem_append_right _ (.tail _ (.head _)))
  have I0 : Inv X pins σ H s := I.pins_of fun p hp => I.pin p (List.mem_append_right _ (.tail _ (.tail _ hp)))
  have I1 : Inv X pins σ H { s with heap := h', toks := t' } := Inv.turnedL (ch := [a, b]) I0 (fun c o hc e => k c o (fun z => hc (by simp [z])) (fun z => hc (by simp [z])) e) fun c hc => by
    rcases List.mem_cons.mp hc with e | hc
    · subst e
      exact ⟨p0.2.1, Oa.ne, Oa.fs, .inr Oa.sz, Oa.ce, Oa.pn⟩
    · obtain rfl := List.mem_singleton.mp hc
      exact ⟨p1.2.1, Ob.ne, Ob.fs, .inr Ob.sz, Ob.ce, Ob.pn⟩
  refine Inv.pins_of I1 fun p hp => ?_
  rcases List.mem_cons.mp hp with rfl | hp
  · exact ⟨ea, p0.2.1, Oa.ne, Oa.fs, hda⟩
  rcases List.mem_cons.mp hp with rfl | hp
  · exact ⟨eb, p1.2.1, Ob.ne, Ob.fs, hdb⟩
  · exact I1.pin p (List.mem_append_right _ hp)
end
/-- the first of the least keys -/
def bestOf (key : Int → List Int) : Int → List Int → Int
  | b, [] => b
  | b, x :: xs => bestOf key (if key x < key b then x else b) xs
theorem dataLt_tints (ns ms : List Int) : dataLt (.tuple (ns.map .int)) (.tuple (ms.map .int)) = decide (ns < ms) := by
  rw [dataLt_tuple]
  exact dataLt_ints ns ms
section
variable [TbC] {X : Cx} {k : Nat} {mk : Addr → CF} {cl : List (Str × Addr)} {ps fr : List Str} {js : List Nat} {sp : List (Option V) → Sp}
theorem min_loop {pins : List (Addr × Obj)} {σ : L2.St} {f c' l It S : Addr} {xs : List Int} {key : Int → List Int} {J : Hp → Prop} {R : Result → Shared → Prop} {kw : List (Str × Value)}
    (Fn : COk X.prog X.w X.K X.mg X.base CX0 k f (mk c') ps fr sp) (hcl : (mk c').cl = cl) (cp : X.Ok → NdefX.Caps X cl fr js) (hr : Room (k + 2) X.A) (hh : X.A.handled = none)
    (OS : Ours X pins S) (OI : Ours X pins It) (hSI : S ≠ It) (hlI : l ≠ It) (hlS : l ≠ S)
    (turn : ∀ x ∈ xs, ∀ H3, J H3 → H3 f = some ((mk c').ob f) ∧ H3 (mk c').c = some (CodeO (mk c').c (mk c').qual) ∧ sp (js.map (NdefX.slotAt σ)) [.int x] H3 (fun v H4 => J H4 ∧ (∀ b vs, H3 b = some (.tup vs) → H4 b = some (.tup vs)) ∧ ∃ q, v = .ref q ∧ H4 q = some (.tup ((key x).map .int))) (fun _ _ _ => False))
    (hl : ∀ H3, J H3 → SqL X.K H3 l (xs.map V.int)) :
    ∀ (todo : List Int) (j : Nat) (s : Shared) (H' : Hp) (b : Int) (vb : Value) (q : Addr) (cc : Nat) (oI : Obj), xs.drop (j + 1) = todo → Inv X ((S, seqObj "list" #[vb, .ref q] cc) :: (It, oI) :: pins) σ H' s → J H' → s.heap.IsListIter It l (j + 1) →
      RelV (.int b) vb → H' q = some (.tup ((key b).map .int)) → (∀ u H3 s3, Inv X pins σ H3 s3 → J H3 → RelV (.int (bestOf key b todo)) u → R (.ok (.ret u)) s3) →
      codeAny (model X.prog X.w) X.A (.builtin "min.loop" ⟨[.ref It, .ref f, .ref S], kw⟩) R s := by
  have hname : (toString "min" ++ toString ".loop" : String) = "min.loop" := by decide
  intro todo
  induction todo with
  | nil =>
    intro j s H' b vb q cc oI htd I hj hit hvb hq hR
    obtain ⟨its, r1, p1, _⟩ := I.list (hl _ hj)
    have hL := p1.isList
    have pS := I.pin (S, seqObj "list" #[vb, .ref q] cc) (List.mem_append_right _ (.head _))
    have pI := I.pin (It, oI) (List.mem_append_right _ (.tail _ (.head _)))
    have hlen : its.length = xs.length := by rw [← r1.length, List.length_map]
    have hge : xs.length ≤ j + 1 := List.drop_eq_nil_iff.mp htd
    refine codeAny_builtin F.entry_min_loop ?_
    rw [Around.under_plainId F.plain_min_loop _]
    show wpAny _ X.A.in1 (seqItems? (.ref S) >>= _) _ _ s
    refine wpAny_bind (wpAny_seqItems pS.1 rfl ?_)
    show wpAny _ X.A.in1 (tryCatch (pyNext (.ref It)) _ >>= _) _ _ s
    refine wpAny_bind (wpAny_tryCatch (wpAny_pyNext_list_end (A := X.A.in1) hh hit hL (by simp; omega) fun h' he => ?_))
    have hS' := he S _ hSI pS.1
    show wpAny _ X.A.in1 (updateSeq S (fun _ => #[]) >>= _) _ _ _
    refine wpAny_bind ?_
    refine wpAny_updateSeq hS' rfl (wpAny_bind (wpAny_letGo (wpAny_pure ?_)))
    have I0 : Inv X pins σ H' s := I.pins_of fun p hp => I.pin p (List.mem_append_right _ (.tail _ (.tail _ hp)))
    have I3 : Inv X pins σ H' { s with heap := h'.update S (Obj.mapSeq fun _ => (#[] : Array Value)), toks := s.toks } := Inv.turnedL (ch := [S, It]) (t' := s.toks) I0 (fun c o hc e => by
      rw [Heap.get?_update_other _ _ (fun z => hc (by simp [z]))]
      exact he c o (fun z => hc (by simp [z])) e) fun c hc => by
      rcases List.mem_cons.mp hc with e | hc
      · subst e
        exact ⟨pS.2.1, OS.ne, OS.fs, .inr OS.sz, OS.ce, OS.pn⟩
      · obtain rfl := List.mem_singleton.mp hc
        exact ⟨pI.2.1, OI.ne, OI.fs, .inr OI.sz, OI.ce, OI.pn⟩
    exact hR vb H' _ I3 hj hvb
  | cons x todo ih =>
    intro j s H' b vb q cc oI htd I hj hit hvb hq hR
    have hxj : xs[j + 1]? = some x := by
      have := congrArg (fun l => l[0]?) htd
      rw [List.getElem?_drop] at this
      exact this
    have hmem : x ∈ xs := List.mem_of_getElem? hxj
    have htd' : xs.drop (j + 1 + 1) = todo := by
      rw [← List.drop_drop, htd]
      rfl
    obtain ⟨its, r1, p1, _⟩ := I.list (hl _ hj)
    have hL := p1.isList
    have pS := I.pin (S, seqObj "list" #[vb, .ref q] cc) (List.mem_append_right _ (.head _))
    have pI := I.pin (It, oI) (List.mem_append_right _ (.tail _ (.head _)))
    obtain ⟨v, hv, rv⟩ := r1.get (i := j + 1) (x := V.int x) (by rw [List.getElem?_map, hxj]; rfl)
    refine codeAny_builtin F.entry_min_loop ?_
    rw [Around.under_plainId F.plain_min_loop _]
    show wpAny _ X.A.in1 (seqItems? (.ref S) >>= _) _ _ s
    refine wpAny_bind (wpAny_seqItems pS.1 rfl ?_)
    show wpAny _ X.A.in1 (tryCatch (pyNext (.ref It)) _ >>= _) _ _ s
    refine wpAny_bind (wpAny_tryCatch (wpAny_pyNext_list_item hit hL (x := v) (by simpa using hv) fun h' hit' hs' => ?_))
    obtain ⟨oI', hoI', hoc, hod⟩ := id hit'
    have hS' := hs'.extBut S _ hSI pS.1
    have I1 : Inv X ((S, seqObj "list" #[vb, .ref q] cc) :: (It, oI') :: pins) σ H' { s with heap := h' } := Inv.pin2 (t' := s.toks) I OS OI (fun v z => by cases z) (fun v z => by rw [hod] at z; cases z) (fun c o h1 h2 e => hs'.extBut c o h2 e) hS' hoI'
    obtain ⟨t1, t2, t3⟩ := turn x hmem H' hj
    have hr' : Room k X.A.in1 := hr.in1.mono (by omega)
    have e0 : Env0 X.prog X.w X.K X.mg X.base X.A.in1 X.stack { s with heap := h' } H' := ⟨I1.env0.frames, I1.env0.mod, I1.env0.bs, I1.env0.bsz, I1.env0.funs, I1.env0.frf, I1.env0.hok, I1.env0.bare⟩
    have C := NdefX.cells_of I1 (cp I1.ok)
    rw [← hcl] at C
    show wpAny _ X.A.in1 (tryCatch (holding [v] (call (.ref f) [v])) _ >>= _) _ _ _
    refine wpAny_bind (wpAny_tryCatch (wpAny_holding (wpAny_call (codeAny_mono (Fn.run X.A.in1 X.stack _ H' [v] [.int x] _ _ _ hr' e0 t1 t2 C (.cons rv .nil) t3) fun r s2 hq2 => ?_))))
    cases r with
    | error e => exact False.elim hq2
    | ok fl =>
      cases fl with
      | next => exact False.elim hq2
      | brk => exact False.elim hq2
      | cont => exact False.elim hq2
      | ret kx =>
        obtain ⟨w2, H2, I2, rk, hj2, hkeep, q2, ew, hq2'⟩ := I1.after hq2
        subst ew
        obtain rfl : kx = Value.ref q2 := rk
        have pS2 := I2.pin (S, seqObj "list" #[vb, .ref q] cc) (List.mem_append_right _ (.head _))
        have pI2 := I2.pin (It, oI') (List.mem_append_right _ (.tail _ (.head _)))
        have hqb := hkeep _ _ hq
        have rd : ∀ {p : Addr} {ns : List Int}, H2 p = some (.tup (ns.map .int)) → ∃ as, Reads s2.heap (.ref p) (.tuple (ns.map .int)) as := fun {p ns} hp => by
          obtain ⟨_, is, rr, oo, e1, e2, n, e3⟩ : ((ns.map V.int).length ≤ sizeLine ∧ ∃ is : List Value, Vals (ns.map V.int) is ∧ IsTup s2.heap p is.toArray) := I2.hok _ _ hp
          exact ⟨_, .tuple e1 e2 e3 (reads_ints (by rw [List.toList_toArray]; exact rr))⟩
        obtain ⟨_, R1⟩ := rd hq2'
        obtain ⟨_, R2⟩ := rd hqb
        have hu := (hr.in1).un
        have al : alike (.tuple ((key x).map .int)) (.tuple ((key b).map .int)) = true := by
          rw [alike]
          exact alike_ints _ _
        have hd : PyData.depth (.tuple ((key x).map .int)) = 1 ∧ PyData.depth (.tuple ((key b).map .int)) = 1 := by
          refine ⟨?_, ?_⟩ <;> rw [PyData.depth, depth_ints]
        have z := rcLt_alike _ _ X.A.in1 s2 _ _ _ _ R1 R2 al (by intro z; cases z) (by rw [hd.1, hd.2]; omega)
        rw [dataLt_tints] at z
        show wpAny _ X.A.in1 (tryCatch (holding [v, .ref q2] (richCompare .Lt (.ref q2) (.ref q) >>= _)) _ >>= _) _ _ _
        refine wpAny_bind (wpAny_tryCatch (wpAny_holding (wpAny_bind (z _ _ _ _ ?_))))
        refine wpAny_bind (wpAny_holding (wpAny_truthy_bool ?_))
        refine wpAny_bind (wpAny_letGo (wpAny_pure ?_))
        by_cases hb : key x < key b
        · rw [decide_eq_true hb]
          simp only [if_true]
          have s1 := Heap.SameBut.update s2.heap S (Obj.mapSeq fun _ => #[v, .ref q2])
          obtain ⟨c2, hc2⟩ : ∃ c2, (s2.heap.update S (Obj.mapSeq fun _ => #[v, .ref q2])).get? S = some (seqObj "list" #[v, .ref q2] c2) := ⟨_, get?_update_seq pS2.1 fun _ => #[v, .ref q2]⟩
          refine wpAny_bind ?_
          refine wpAny_updateSeq pS2.1 rfl (wpAny_bind (wpAny_letGo ?_))
          rw [hname]
          have I3 : Inv X ((S, seqObj "list" #[v, .ref q2] c2) :: (It, oI') :: pins) σ H2 { s2 with heap := s2.heap.update S (Obj.mapSeq fun _ => #[v, .ref q2]), toks := s2.toks } := Inv.pin2 (t' := s2.toks) I2 OS OI (fun v z => by cases z) (fun v z => by rw [hod] at z; cases z) (fun c o h1 _ e => (s1.2 c h1).trans e) hc2 ((s1.2 It (Ne.symm hSI)).trans pI2.1)
          refine wpAny_pure ⟨plainId_quiet F.plain_min_loop _, ih (j + 1) _ H2 x v q2 c2 oI' htd' I3 hj2 ⟨oI', (s1.2 It (Ne.symm hSI)).trans pI2.1, hoc, hod⟩ rv hq2' fun u H3 s3 i3 j3 r3 => hR u H3 s3 i3 j3 ?_⟩
          rw [bestOf, if_pos hb]
          exact r3
        · rw [decide_eq_false hb]
          simp only [Bool.false_eq_true, if_false]
          refine wpAny_bind (wpAny_letGo ?_)
          rw [hname]
          refine wpAny_pure ⟨plainId_quiet F.plain_min_loop _, ih (j + 1) s2 H2 b vb q cc oI' htd' I2 hj2 ⟨oI', pI2.1, hoc, hod⟩ hvb hqb fun u H3 s3 i3 j3 r3 => hR u H3 s3 i3 j3 ?_⟩
          rw [bestOf, if_neg hb]
          exact r3
theorem min_run {pins : List (Addr × Obj)} {σ : L2.St} {H : Hp} {s : Shared} {Q : VK} {f c' l : Addr} {x0 : Int} {xs : List Int} {key : Int → List Int} {J : Hp → Prop}
    (Fn : COk X.prog X.w X.K X.mg X.base CX0 k f (mk c') ps fr sp) (hcl : (mk c').cl = cl) (cp : X.Ok → NdefX.Caps X cl fr js) (hr : Room (k + 2) X.A) (hh : X.A.handled = none) (I : Inv X pins σ H s) (j0 : J H)
    (turn : ∀ x ∈ x0 :: xs, ∀ H3, J H3 → H3 f = some ((mk c').ob f) ∧ H3 (mk c').c = some (CodeO (mk c').c (mk c').qual) ∧ sp (js.map (NdefX.slotAt σ)) [.int x] H3 (fun v H4 => J H4 ∧ (∀ b vs, H3 b = some (.tup vs) → H4 b = some (.tup vs)) ∧ ∃ q, v = .ref q ∧ H4 q = some (.tup ((key x).map .int))) (fun _ _ _ => False))
    (hl : ∀ H3, J H3 → SqL X.K H3 l ((x0 :: xs).map V.int)) (fin : ∀ H3, J H3 → Q (.int (bestOf key x0 xs)) H3) :
    wpAny (model X.prog X.w) X.A (call (.builtin "min") [.ref l] [(Str.ofString "key", .ref f)]) (EP X pins σ Q) X.xe s := by
  have hname : (toString "min" ++ toString ".loop" : String) = "min.loop" := by decide
  obtain ⟨its, r1, p1, _⟩ := I.list (hl _ j0)
  have hL := p1.isList
  obtain ⟨ol, hol, _⟩ := id hL
  have hll : l < s.heap.objs.size := Heap.lt_size hol
  refine PyProof.Rows.kmk_tree F.kind_min F.plain_min F.entry_min (PyProof.Rows.kmk_min_key _ _) ?_
  show wpAny _ X.A.in1 (Builtin.Builtins.bindParams "min" ["key", "default"] 0 ⟨[], [(Str.ofString "key", .ref f)]⟩ >>= _) _ _ s
  refine wpAny_bind (wpAny_of_eq (show Builtin.Builtins.bindParams "min" ["key", "default"] 0 ⟨[], [(Str.ofString "key", .ref f)]⟩ = pure [some (.ref f), none] from rfl) ?_)
  refine wpAny_bind (wpAny_pure ?_)
  refine wpAny_bind (wpAny_pyIter_list hL ?_)
  refine wpAny_bind (wpAny_newList ?_ (Nat.zero_le _))
  rw [hname]
  have hS : (s.heap.push { cls := .type "list_iterator", data := .fields #[.ref l, .int 0 0] }).objs.size = s.heap.objs.size + 1 := size_push' ..
  have keep : ∀ b o, s.heap.get? b = some o → ((s.heap.push { cls := .type "list_iterator", data := .fields #[.ref l, .int 0 0] }).push (seqObj "list" #[] 0)).get? b = some o := fun b o e => Heap.get?_push_of_some _ (Heap.get?_push_of_some _ e)
  have gI : ((s.heap.push { cls := .type "list_iterator", data := .fields #[.ref l, .int 0 0] }).push (seqObj "list" #[] 0)).get? s.heap.objs.size = some { cls := .type "list_iterator", data := .fields #[.ref l, .int 0 0] } :=
    Heap.get?_push_of_some _ (Heap.get?_push_size _ rfl)
  have gS : ((s.heap.push { cls := .type "list_iterator", data := .fields #[.ref l, .int 0 0] }).push (seqObj "list" #[] 0)).get? (s.heap.push { cls := .type "list_iterator", data := .fields #[.ref l, .int 0 0] }).objs.size = some (seqObj "list" #[] 0) := Heap.get?_push_size _ rfl
  refine wpAny_pure ⟨plainId_quiet F.plain_min_loop _, ?_⟩
  show codeAny _ _ _ _ { s with heap := ((s.heap.push { cls := .type "list_iterator", data := .fields #[.ref l, .int 0 0] }).push (seqObj "list" #[] 0)) }
  generalize ((s.heap.push { cls := .type "list_iterator", data := .fields #[.ref l, .int 0 0] }).push (seqObj "list" #[] 0)) = g at keep gI gS ⊢
  generalize hSe : (s.heap.push { cls := .type "list_iterator", data := .fields #[.ref l, .int 0 0] }).objs.size = S at gS ⊢
  have hS2 : S = s.heap.objs.size + 1 := hSe.symm.trans hS
  have OI : Ours X pins s.heap.objs.size := Inv.ours I (Nat.le_refl _)
  have OS : Ours X pins S := Inv.ours I (by omega)
  have nI : H s.heap.objs.size = none := I.hok.fresh (Nat.le_refl _)
  have nS : H S = none := I.hok.fresh (by omega)
  have hSI : S ≠ s.heap.objs.size := by rw [hS2]; exact Nat.succ_ne_self _
  have hlI : l ≠ s.heap.objs.size := Nat.ne_of_lt hll
  have hlS : l ≠ S := Nat.ne_of_lt (by rw [hS2]; exact Nat.lt_succ_of_lt hll)
  generalize s.heap.objs.size = It at *
  have I1 : Inv X pins σ H { s with heap := g, toks := s.toks } := I.kept keep
  have I2 : Inv X ((S, seqObj "list" #[] 0) :: (It, { cls := .type "list_iterator", data := .fields #[.ref l, .int 0 0] }) :: pins) σ H { s with heap := g } := Inv.pins_of I1 fun p hp => by
    rcases List.mem_cons.mp hp with rfl | hp
    · exact ⟨gS, nS, OS.ne, OS.fs, fun v z => by cases z⟩
    rcases List.mem_cons.mp hp with rfl | hp
    · exact ⟨gI, nI, OI.ne, OI.fs, fun v z => by cases z⟩
    · exact I1.pin p (List.mem_append_right _ hp)
  obtain ⟨its2, r2, p2, _⟩ := I2.list (hl _ j0)
  have hL2 := p2.isList
  obtain ⟨v, hv, rv⟩ := r2.get (i := 0) (x := V.int x0) rfl
  refine codeAny_builtin F.entry_min_loop ?_
  rw [Around.under_plainId F.plain_min_loop _]
  show wpAny _ X.A.in1 (seqItems? (.ref S) >>= _) _ _ _
  refine wpAny_bind (wpAny_seqItems gS rfl ?_)
  show wpAny _ X.A.in1 (tryCatch (pyNext (.ref It)) _ >>= _) _ _ _
  refine wpAny_bind (wpAny_tryCatch (wpAny_pyNext_list_item (i := 0) ⟨_, gI, rfl, rfl⟩ hL2 (x := v) (by simpa using hv) fun h' hit' hs' => ?_))
  obtain ⟨oI', hoI', hoc, hod⟩ := id hit'
  have hS' := hs'.extBut S _ hSI gS
  have I3 : Inv X ((S, seqObj "list" #[] 0) :: (It, oI') :: pins) σ H { s with heap := h', toks := s.toks } := Inv.pin2 (s := { s with heap := g }) (t' := s.toks) I2 OS OI (fun v z => by cases z) (fun v z => by rw [hod] at z; cases z) (fun c o h1 h2 e => hs'.extBut c o h2 e) hS' hoI'
  obtain ⟨t1, t2, t3⟩ := turn x0 (.head _) H j0
  have hr' : Room k X.A.in1 := hr.in1.mono (by omega)
  have e0 : Env0 X.prog X.w X.K X.mg X.base X.A.in1 X.stack { s with heap := h' } H := ⟨I3.env0.frames, I3.env0.mod, I3.env0.bs, I3.env0.bsz, I3.env0.funs, I3.env0.frf, I3.env0.hok, I3.env0.bare⟩
  have C := NdefX.cells_of I3 (cp I3.ok)
  rw [← hcl] at C
  show wpAny _ X.A.in1 (tryCatch (holding [v] (call (.ref f) [v])) _ >>= _) _ _ _
  refine wpAny_bind (wpAny_tryCatch (wpAny_holding (wpAny_call (codeAny_mono (Fn.run X.A.in1 X.stack _ H [v] [.int x0] _ _ _ hr' e0 t1 t2 C (.cons rv .nil) t3) fun r s2 hq2 => ?_))))
  cases r with
  | error e => exact False.elim hq2
  | ok fl =>
    cases fl with
    | next => exact False.elim hq2
    | brk => exact False.elim hq2
    | cont => exact False.elim hq2
    | ret kx =>
      obtain ⟨w2, H2, I4, rk, hj2, hkeep, q2, ew, hq2'⟩ := I3.after hq2
      subst ew
      obtain rfl : kx = Value.ref q2 := rk
      have pS2 := I4.pin (S, seqObj "list" #[] 0) (List.mem_append_right _ (.head _))
      have pI2 := I4.pin (It, oI') (List.mem_append_right _ (.tail _ (.head _)))
      have s1 := Heap.SameBut.update s2.heap S (Obj.mapSeq fun _ => #[v, .ref q2])
      obtain ⟨c2, hc2⟩ : ∃ c2, (s2.heap.update S (Obj.mapSeq fun _ => #[v, .ref q2])).get? S = some (seqObj "list" #[v, .ref q2] c2) := ⟨_, get?_update_seq pS2.1 fun _ => #[v, .ref q2]⟩
      show wpAny _ X.A.in1 (updateSeq S (fun _ => #[v, .ref q2]) >>= _) _ _ _
      refine wpAny_bind ?_
      refine wpAny_updateSeq pS2.1 rfl ?_
      rw [hname]
      have I5 : Inv X ((S, seqObj "list" #[v, .ref q2] c2) :: (It, oI') :: pins) σ H2 { s2 with heap := s2.heap.update S (Obj.mapSeq fun _ => #[v, .ref q2]), toks := s2.toks } := Inv.pin2 (t' := s2.toks) I4 OS OI (fun v z => by cases z) (fun v z => by rw [hod] at z; cases z) (fun c o h1 _ e => (s1.2 c h1).trans e) hc2 ((s1.2 It (Ne.symm hSI)).trans pI2.1)
      refine wpAny_pure ⟨plainId_quiet F.plain_min_loop _, min_loop (xs := x0 :: xs) (key := key) (J := J) Fn hcl cp hr hh OS OI hSI hlI hlS turn hl xs 0 _ H2 x0 v q2 c2 oI' rfl I5 hj2 ⟨oI', (s1.2 It (Ne.symm hSI)).trans pI2.1, hoc, hod⟩ rv hq2' fun u H3 s3 i3 j3 r3 => ⟨_, H3, i3, r3, fin H3 j3⟩⟩
/-- the reading of min(e, key=lambda ..) -/
def tMinL (mk : Addr → CF) (js : List Nat) (sp : List (Option V) → Sp) (K : PySem.W.Frag) (te : TE) : TE := fun σ H Q => te σ H fun x H1 => NdefX.TabsN TbC.T H1 ∧ ∃ (l : Addr) (x0 : Int) (xs : List Int) (key : Int → List Int), x = .ref l ∧
  ∀ (f c' : Addr) (H2 : Hp), LamX.ExtN H1 H2 → (∀ b, H2 b = none → H1 b = none) → NdefX.TabsN TbC.T H2 → H1 f = none → H2 f = some ((mk c').ob f) → H2 c' = some (CodeO c' (mk c').qual) →
    ∃ J : Hp → Prop, J H2 ∧ (∀ x ∈ x0 :: xs, ∀ H3, J H3 → H3 f = some ((mk c').ob f) ∧ H3 (mk c').c = some (CodeO (mk c').c (mk c').qual) ∧ sp (js.map (NdefX.slotAt σ)) [.int x] H3 (fun v H4 => J H4 ∧ (∀ b vs, H3 b = some (.tup vs) → H4 b = some (.tup vs)) ∧ ∃ q, v = .ref q ∧ H4 q = some (.tup ((key x).map .int))) (fun _ _ _ => False)) ∧
      (∀ H3, J H3 → SqL K H3 l ((x0 :: xs).map V.int)) ∧ ∀ H3, J H3 → Q (.int (bestOf key x0 xs)) H3
/-- min(e, key=lambda ..) -/
theorem pe_minL {e : Expr} {te : TE} {nm : Nat → Nat → Str} {c P : Addr} {params : Arguments} {body : Expr} {scope : Scope} {q : Str} {cl0 : List (Str × Addr)} {p lpos kpos pos : Pos}
    (Fn : ∀ f c', COk X.prog X.w X.K X.mg X.base CX0 k f (CF.l ⟨"<lambda>", q, params, [], scope, cloFrom cl0 scope.names [], c'⟩ body) ps fr sp) (cp : X.Ok → NdefX.Caps X (cloFrom cl0 scope.names []) fr js) (hr : Room (k + 2) X.A) (hc : X.calm = true)
    (TB : TabB X.base X.mg c P) (hcode : X.env.code = .ref c) (hm : (P, nm) ∈ TbC.T) (hn : nm lpos.line lpos.col = q) (hq : X.env.qual ++ "<lambda>" = q) (hu : ∀ p ∈ TbC.T, p.1 = P → p.2 = nm) (hdef : defaultsOf params X.env = ([], [])) (hfree : X.Ok → ∀ y ∈ scope.names, y.2 = .free → ∃ c, X.env.cells.lookup y.1 = some c) (hcl : X.env.cells = cl0)
    (hg : Gl X "min") (hmg : X.mg "min" = none) (he : PE X e te)
    (na : starEach [e] X.env = (false, eval e X.env) :: starEach [] X.env := by rfl) (na2 : backTo pos (starEach [e] X.env) = (false, eval e X.env) :: backTo pos (starEach [] X.env) := by rfl) (hpl : (backTo pos (starEach [e] X.env)).any (·.1) = false := by rfl) :
    PE X (.Call (.Name "min" p) [e] [⟨some "key", .Lambda params body scope lpos, kpos⟩] pos) (tMinL (fun c' => CF.l ⟨"<lambda>", q, params, [], scope, cloFrom cl0 scope.names [], c'⟩ body) js sp X.K te) := by
  subst hcl
  refine ⟨fun pins s σ H Q I h => ?_⟩
  refine wpAny_Call_Name_kw (ld_blt I hg hmg boot_min ?_)
  refine PyProof.Rows.callWith_kw (args_cons (thn (he.run pins s σ H _ I h) fun xv s1 ⟨v, H1, I1, r1, hT, l, x0, xs, key, ev, hJ⟩ => args_nil ?_) na) na2 hpl
  subst ev
  obtain rfl : xv = Value.ref l := r1
  show wpAny _ _ (evalAll ((do let v ← eval (.Lambda params body scope lpos) X.env; standAt pos; pure v) :: [])) _ _ s1
  refine wpAny_evalAll_cons (wpAny_bind (lam_makeN I1 TB hcode hm hn hq hu hT hdef (hfree I1.ok) fun f c' H2 s2 I2 eN nn T2 f0 f1 c1 => wpAny_bind (wpAny_standAt (wpAny_pure ?_))))
  refine wpAny_evalAll_nil ?_
  obtain ⟨J, j0, turn, hl, fin⟩ := hJ f c' H2 eN nn T2 f0 f1 c1
  exact min_run (mk := fun c' => CF.l ⟨"<lambda>", q, params, [], scope, cloFrom X.env.cells scope.names [], c'⟩ body) (Fn f c') rfl cp hr (I2.ok.hd hc) I2 j0 turn hl fin
end
section
variable [TbC] {X : Cx} {K : PySem.W.Frag} {k : Nat} {ps fr : List Str} {js : List Nat} {sp : List (Option V) → Sp}
/-- .. the lambda at L, of the def that runs -/
theorem pe_minLC {L e : Expr} {te : TE} {c P : Addr} {q : Str} {cl0 : List (Str × Addr)} {p lpos kpos pos : Pos} (hK : X.K = K) (hL : L = .Lambda (lamArgs L) (lamBody L) (lamScope L) lpos)
    (Fn : ∀ f c', COk X.prog X.w X.K X.mg X.base CX0 k f (CF.l ⟨"<lambda>", q, lamArgs L, [], lamScope L, cloFrom cl0 (lamScope L).names [], c'⟩ (lamBody L)) ps fr sp) (hB : NdefX.ndefB X.env.scope (lamScope L) fr = true) (hjs : js.map (fun j => X.N[j]?) = fr.map some) (hcl : X.env.cells = cl0) (hr : Room (k + 2) X.A) (hc : X.calm = true)
    (TB : TabB X.base X.mg c P) (hcode : X.env.code = .ref c) (hm : (P, fun _ _ => q) ∈ TbC.T) (hu : ∀ p ∈ TbC.T, p.1 = P → p.2 = fun _ _ => q) (hq : X.env.qual ++ "<lambda>" = q) (hdef : defaultsOf (lamArgs L) X.env = ([], []))
    (hg : Gl X "min") (hmg : X.mg "min" = none) (he : PE X e te)
    (na : starEach [e] X.env = (false, eval e X.env) :: starEach [] X.env := by rfl) (na2 : backTo pos (starEach [e] X.env) = (false, eval e X.env) :: backTo pos (starEach [] X.env) := by rfl) (hpl : (backTo pos (starEach [e] X.env)).any (·.1) = false := by rfl) :
    PE X (.Call (.Name "min" p) [e] [⟨some "key", L, kpos⟩] pos) (tMinL (fun c' => CF.l ⟨"<lambda>", q, lamArgs L, [], lamScope L, cloFrom cl0 (lamScope L).names [], c'⟩ (lamBody L)) js sp K te) := by
  subst hK
  have z := pe_minL (cl0 := cl0) (nm := fun _ _ => q) (kpos := kpos) (lpos := lpos) (pos := pos) (p := p) Fn (fun ok => by
    subst hcl
    exact NdefX.Caps.made ok (NdefX.ndef_free hB) (NdefX.ndef_fr hB) hjs) hr hc TB hcode hm rfl hq hu hdef (fun ok y hy e => (NdefX.ndef_free hB y hy e).elim (fun z => ok.has _ (.inl z)) fun z => ok.has _ (.inr z)) hcl hg hmg he na na2 hpl
  rw [← hL] at z
  exact z
end
section
variable [TbC] {K : PySem.W.Frag} {ρ : Env} {ta : TE}
/-- a function has been made -/
theorem gr_fn {Hs H H1 : Hp} {f c' : Addr} {F : CF} {q : Str} (ex : Ex Hs H) (nt : NT Hs) (eN : LamX.ExtN H H1) (dm : ∀ b, H1 b = none → H b = none) (T1 : NdefX.TabsN TbC.T H1) (f0 : H f = none) (f1 : H1 f = some (F.ob f)) (c1 : H1 c' = some (CodeO c' q)) :
    Gr Hs H H (fun a => if a = f ∨ a = c' then H1 a else Hs a) H1 := by
  have old : ∀ a o, Hs a = some o → H1 a = some o := fun a o z => eN a o (ex a o z) fun ps z2 => nt a ps (by rw [z, z2])
  refine ⟨eN, fun a o z => ?_, fun a o z => ?_, fun a z => ?_, fun a z y => z (dm a y), fun a z y => z (dm a y), fun a z => ?_, fun _ a ps z => ?_, fun _ => T1⟩
  · show (if a = f ∨ a = c' then H1 a else Hs a) = some o
    split
    · exact old a o z
    · exact z
  · have z : (if a = f ∨ a = c' then H1 a else Hs a) = some o := z
    split at z
    · exact z
    · exact old a o z
  · show (if a = f ∨ a = c' then H1 a else Hs a) = Hs a
    obtain ⟨o, e1, e2⟩ := z
    refine if_neg fun y => ?_
    have e3 := eN a o e1 (pln_tbl e2)
    rcases y with y | y
    · rw [y, f0] at e1
      cases e1
    · rw [y, c1] at e3
      cases e3
      cases e2
  · obtain ⟨o, e1, e2⟩ := z
    exact ⟨o, eN a o e1 (pln_tbl e2), e2⟩
  · have z : (if a = f ∨ a = c' then H1 a else Hs a) = some (.tbl ps) := z
    split at z
    · rename_i y
      rcases y with y | y
      · rw [y, f1] at z
        cases z
      · rw [y, c1] at z
        cases z
    · exact nt a ps z
/-- min(list, key=lambda) on deep data -/
theorem ev_minLam {mk : Addr → CF} {js : List Nat} {cs : List D} {α : Type} {pre : α → Prop} {arg cap : α → List D} {res : α → D} {x0 : Int} {xs : List Int} {key : Int → List Int} (x : Int → α) (hj : js.map (fun j => ρ[j]?) = cs.map (fun d => some (some (.sh d))))
    (hx : ∀ i ∈ x0 :: xs, arg (x i) = [.int i] ∧ cap (x i) = cs ∧ pre (x i) ∧ res (x i) = .tup ((key i).map .int)) (hc : ∀ c, (mk c).c = c) (ht : EvB K ta ρ ((x0 :: xs).map .int)) :
    EvD K (tMinL mk js (spN_ (spCl K pre arg cap res)) K ta) ρ (.int (bestOf key x0 xs)) := fun B Hs H σ r Q q =>
  ht B Hs H σ r _ fun Hs1 H1 p vs g1 hp y1 => by
    have r1 := r.grow g1
    obtain ⟨us, e1, e2⟩ := r1.gets hj
    have e := y1.ints
    subst e
    refine ⟨r1.tb.2, p, x0, xs, key, rfl, fun f c' H2 eN dm T2 f0 f1 c1 => ?_⟩
    have g2 := gr_fn r1.ex r1.tb.1 eN dm T2 f0 f1 c1
    have r2 := r1.grow g2
    refine ⟨fun H3 => ∃ Hs3, Gr (fun a => if a = f ∨ a = c' then H2 a else Hs1 a) H2 H2 Hs3 H3, ⟨_, Gr.refl g2.lv⟩, ?_, ?_, ?_⟩
    · rintro i hi H3 ⟨Hs3, g⟩
      obtain ⟨x1, x2, x3, x4⟩ := hx i hi
      refine ⟨g.fr _ _ f1 CF.ne, ?_, us, e1, Hs3, x i, ⟨g.lv, (r2.grow g).tb⟩, ?_, ?_, x3, ?_⟩
      · refine g.fr _ _ ?_ LamX.codeO_ne
        rw [hc c', c1]
      · rw [x1]
        exact .cons (.int _) .nil
      · rw [x2]
        exact e2.mono (g2.sh.trans g.sh)
      · intro Hs' H' w g3 y
        refine ⟨⟨Hs', g.trans g3⟩, fun b vs e => g3.fr.pl e, ?_⟩
        rw [x4] at y
        cases y with
        | tup a b =>
          have := RepL.ints b
          subst this
          exact ⟨_, rfl, g3.lv _ _ a⟩
    · rintro H3 ⟨Hs3, g⟩
      exact g.fr.sl (g2.fr.sl hp)
    · rintro H3 ⟨Hs3, g⟩
      exact q Hs3 H3 _ ((g1.trans g2).trans g) (.int _)
end
end DL

/-! DIoe: a number that an in-out call gives, stored anywhere; for over what an in-out call gives. -/
namespace DL
open PySem L2
variable [TbC]
section
variable {K : PySem.W.Frag} {ρ ρ' : Env} {te : TE} {R : DEnds}
/-- the value is a number: then as if it were written -/
theorem xs_asgI {g : TG} {Z : D → Env → Prop} (h : EvE K te ρ Z) (q : ∀ d ρ', Z d ρ' → ∃ i : Int, d = .int i ∧ ExS K (tAsg (tC (.int i)) g) ρ' R) : ExS K (tAsg te g) ρ R := fun B Hs H σ Dn r l =>
  h B Hs H σ r _ fun Hs' H' v d ρ' e r' x z => by
    obtain ⟨i, rfl, hq⟩ := q d ρ' z
    cases x
    exact hq B Hs' H' σ Dn r' l
/-- for .. in f(..): f(..) in-out, a list -/
theorem xs_forE {g : TG} {tb : TS} {Z : D → Env → Prop} (h : EvE K te ρ Z) (q : ∀ d ρ', Z d ρ' → ∃ (ds : List D) (I : Nat → Env → Prop), d = .lst ds ∧ I 0 ρ' ∧
    (∀ k d ρ1, ds[k]? = some d → I k ρ1 → ∃ ρ2, EvG K g d ρ1 ρ2 ∧ ExS K tb ρ2 { R with nx := I (k + 1), ct := I (k + 1), bk := R.nx }) ∧ ∀ ρ1, I ds.length ρ1 → R.nx ρ1) : ExS K (tFor (iSeq K te) g tb) ρ R := fun B Hs H σ Dn r l =>
  h B Hs H σ r _ fun Hs1 H1 v d ρ' e1 r1 x z => by
    obtain ⟨ds, I, rfl, h0, hs, hd⟩ := q d ρ' z
    cases x with
    | @lst p vs _ hp' xs =>
    have hp : SqL K Hs1 p vs := .of hp'
    refine ⟨p, rfl, .inl ⟨⟨vs, (show Ex Hs1 H1 from r1.ex).n.sl hp⟩, ?_⟩⟩
    refine ⟨fun i m σ H => m = ds.length - i ∧ i ≤ ds.length ∧ ∃ Hs2 ρ1, RS K B Hs2 H σ ρ1 ∧ Ex Hs1 Hs2 ∧ I i ρ1, ⟨ds.length, rfl, Nat.zero_le _, Hs1, ρ', r1, Ex.refl _, h0⟩, ?_⟩
    rintro i m σ2 H2 ⟨rfl, hi, Hs2, ρ1, r2, e2, hI⟩
    have hq := (e2.trans r2.ex).sl hp
    by_cases hlt : i < ds.length
    · have hget := List.getElem?_eq_getElem hlt
      obtain ⟨u, hu, xu⟩ := xs.at hget
      refine .inr ⟨⟨vs, u, hq, hu⟩, fun σ' H' => ∃ Hs3 ρ3, RS K B Hs3 H' σ' ρ3 ∧ Ex Hs1 Hs3 ∧ I (i + 1) ρ3, fun σ' H' ⟨Hs3, ρ3, r3, e3, i3⟩ => ⟨ds.length - (i + 1), by omega, rfl, hlt, Hs3, ρ3, r3, e3, i3⟩, fun x H3 y => ?_⟩
      obtain ⟨rfl, y⟩ := y
      have z2 := y vs hq
      rw [hu] at z2
      cases z2
      obtain ⟨ρ2, hg, hx⟩ := hs i _ ρ1 hget hI
      refine hg B Hs2 _ σ2 _ r2 (xu.mono e2) _ fun Hs4 H4 σ4 g4 r4 => ?_
      have e4 : Ex Hs1 Hs4 := e2.trans g4.sh
      exact hx.run r4 (fun Hs5 H5 σ5 ρ5 e5 r5 q => ⟨Hs5, ρ5, r5, e4.trans e5, q⟩) l.rt l.rf (fun Hs5 H5 σ5 ρ5 e5 r5 q => l.nx Hs5 H5 σ5 ρ5 r5 q) (fun Hs5 H5 σ5 ρ5 e5 r5 q => ⟨Hs5, ρ5, r5, e4.trans e5, q⟩) (fun Hs5 H5 σ5 ρ5 v d e5 r5 x q => l.ro Hs5 H5 σ5 ρ5 v d r5 x q) (fun Hs5 H5 σ5 ρ5 cls dd fs e5 r5 x q => l.ex Hs5 H5 σ5 ρ5 cls dd fs r5 x q) l.rn
    · have e : i = ds.length := by omega
      subst e
      exact .inl ⟨⟨vs, hq, by rw [xs.length]; exact Nat.le_refl _⟩, l.nx Hs2 H2 σ2 ρ1 r2 (hd ρ1 hI)⟩
/-- a slot told otherwise: the same value, the same region -/
theorem RS.retell {B : Base} {Hs H : Hp} {σ : St} {i : Nat} {sv sv' : SV} (r : RS K B Hs H σ ρ) (hi : ρ[i]? = some (some sv)) (h : ∀ R0 v, Holds K Hs R0 v sv → (sv.nw = true → ∀ a, R0 a ≠ none → B.h a = none) → Holds K Hs R0 v sv' ∧ (sv'.nw = true → ∀ a, R0 a ≠ none → B.h a = none)) :
    RS K B Hs H σ (ρ.set i (some sv')) := by
  obtain ⟨R, h1, h2, h3, h4⟩ := r.reg
  have hl := (List.getElem?_eq_some_iff.mp hi).1
  obtain ⟨v, hv, hh⟩ := h1 i sv hi
  obtain ⟨k1, k2⟩ := h (R i) v hh (fun n a => h4 i sv a hi n)
  refine ⟨r.gr, by rw [List.length_set]; exact r.len, R, fun j u e => ?_, h2, h3, fun j u a e n => ?_⟩
  · by_cases q : j = i
    · subst q
      rw [List.getElem?_set_self hl] at e
      cases e
      exact ⟨v, hv, k1⟩
    · rw [List.getElem?_set_ne (Ne.symm q)] at e
      exact h1 j u e
  · by_cases q : j = i
    · subst q
      rw [List.getElem?_set_self hl] at e
      cases e
      exact k2 n a
    · rw [List.getElem?_set_ne (Ne.symm q)] at e
      exact h4 j u a e n
/-- the slot's value is named -/
theorem xs_pin {ts : TS} (i : Nat) {b : Bool} {o : O} (hi : ρ[i]? = some (some (.tr K ⟨b, none⟩ o))) (h : ∀ v, ExS K ts (ρ.set i (some (.tr K ⟨b, some v⟩ o))) R) : ExS K ts ρ R := fun B Hs H σ Dn r l => by
  obtain ⟨R0, h1, _⟩ := r.reg
  obtain ⟨v, hv, _⟩ := h1 i _ hi
  refine h v B Hs H σ Dn ?_ l
  obtain ⟨R, h1, h2, h3, h4⟩ := r.reg
  have hl := (List.getElem?_eq_some_iff.mp hi).1
  refine ⟨r.gr, by rw [List.length_set]; exact r.len, R, fun j u e => ?_, h2, h3, fun j u a e n => ?_⟩
  · by_cases q : j = i
    · subst q
      rw [List.getElem?_set_self hl] at e
      cases e
      obtain ⟨v', hv', hh⟩ := h1 j _ hi
      rw [hv] at hv'
      cases hv'
      refine ⟨v, hv, fun Hs2 e2 => ⟨fun w hw => ?_, (hh Hs2 e2).2⟩⟩
      exact Option.some.inj hw
    · rw [List.getElem?_set_ne (Ne.symm q)] at e
      exact h1 j u e
  · by_cases q : j = i
    · subst q
      rw [List.getElem?_set_self hl] at e
      cases e
      exact h4 j _ a hi n
    · rw [List.getElem?_set_ne (Ne.symm q)] at e
      exact h4 j u a e n
theorem xs_unpin {ts : TS} (i : Nat) {nw : Nw} {o : O} (hi : ρ[i]? = some (some (.tr K nw o))) (h : ExS K ts (ρ.set i (some (.tr K ⟨nw.b, none⟩ o))) R) : ExS K ts ρ R := fun B Hs H σ Dn r l =>
  h B Hs H σ Dn (r.retell hi fun R0 v hh hn => ⟨fun Hs2 e2 => ⟨nopv, (hh Hs2 e2).2⟩, hn⟩) l
/-- a list of data whose value is named, and new, is new behind the call too -/
theorem EvE.renew {Z Z' : D → Env → Prop} {i : Nat} {v : V} {ds : List D} (h : EvE K te ρ Z) (hi : ρ[i]? = some (some (.tr K ⟨true, some v⟩ (.ol (ds.map .sh)))))
    (hz : ∀ d ρ', Z d ρ' → ∃ (b : Bool) (ds' : List D), ρ'[i]? = some (some (.tr K ⟨b, some v⟩ (.ol (ds'.map .sh)))) ∧ Z' d (ρ'.set i (some (.tr K ⟨true, some v⟩ (.ol (ds'.map .sh)))))) : EvE K te ρ Z' := fun B Hs H σ r Q q =>
  h B Hs H σ r Q fun Hs' H' w d ρ' e r' x z => by
    obtain ⟨b, ds', hi', z'⟩ := hz d ρ' z
    obtain ⟨R0, h1, h2, h3, h4⟩ := r.reg
    obtain ⟨v0, _, hh⟩ := h1 i _ hi
    obtain ⟨hv0, ow⟩ := hh Hs (Ex.refl Hs)
    obtain rfl : v0 = v := hv0 v rfl
    obtain ⟨a, vs, Ra, ea, nn, _, eR⟩ := ow.ol_inv
    have hn : B.h a = none := h4 i _ a hi rfl (by rw [eR, upd_same]; exact fun z => nomatch z)
    refine q Hs' H' w d _ e (r'.retell (sv' := .tr K ⟨true, some v0⟩ (.ol (ds'.map .sh))) hi' fun R1 v1 hh1 _ => ⟨fun Hs2 e2 => hh1 Hs2 e2, fun _ c hc => ?_⟩) x z'
    obtain ⟨hv1, ow1⟩ := hh1 Hs' (Ex.refl Hs')
    obtain rfl : v1 = v0 := hv1 v0 rfl
    obtain ⟨a', vs', Ra', ea', nn', hl', eR'⟩ := ow1.ol_inv
    obtain ⟨_, eRa⟩ := hl'.reps
    rw [ea] at ea'
    cases ea'
    by_cases q : c = a
    · rw [q]
      exact hn
    · rw [eR', upd_ne q, eRa] at hc
      exact absurd rfl hc
theorem ev_notInC {α : Type} [DecidableEq α] {n : Nat} {f : α → D} {ta tb : TE} (c : Cod n f) (hn : n < 64) {x : α} {xs : List α} (ha : EvR K ta ρ (f x)) (hb : EvR K tb ρ (.lst (xs.map f))) : EvD K (tOp (rNotInA K) ta tb) ρ (.bl (!decide (x ∈ xs))) := fun B Hs H σ r Q q =>
  ha B Hs H σ r _ fun Hs1 H1 x g1 x1 => hb B Hs1 H1 σ (r.grow g1) _ fun Hs2 H2 y g2 y1 => by
    have f1 := c.fit (by omega) ‹α›
    have f2 := c.lst.fit (by omega) xs
    unfold D.fit at f1 f2
    rw [Bool.and_eq_true] at f1 f2
    refine .inr (.inl ⟨_, _, (x1.monoN g2.fr).dp f1.1, y1.dp f2.1, f1.2, f2.2, ?_⟩)
    rw [any_cod c]
    exact q Hs2 H2 _ (g1.trans g2) (.bl _)
end
end DL

/-! DSto: objects of the frame's own: made, their fields written, their methods; lambdas as arguments; max(.., default=0). -/
namespace DL
open PySem L2 PySem.W LamX
open PyProof.Rows
/-! ### max(list, default=0) -/
def maxOr0 : List Int → Int
  | [] => 0
  | n :: ns => ns.foldl max n
def tMaxD (K : PySem.W.Frag) (te : TE) : TE := fun σ H Q => te σ H fun x H1 => ∃ (l : Addr) (ns : List Int), x = .ref l ∧ SqL K H1 l (ns.map V.int) ∧ Q (.int (maxOr0 ns)) H1
section
variable [TbC] {X : Cx}
theorem pe_maxD {K : PySem.W.Frag} {e dx : Expr} {te : TE} {p kpos pos : Pos} (hK : X.K = K) (hh : X.A.handled = none) (hu : X.A.units + 65 < cLine) (hg : Gl X "max") (hmg : X.mg "max" = none) (he : PE X e te) (hd : PE X dx (tC (.int 0)))
    (na : starEach [e] X.env = (false, eval e X.env) :: starEach [] X.env := by rfl) (na2 : backTo pos (starEach [e] X.env) = (false, eval e X.env) :: backTo pos (starEach [] X.env) := by rfl) (hpl : (backTo pos (starEach [e] X.env)).any (·.1) = false := by rfl)
    (hk : (backToKw pos (keywordEach [⟨some "default", dx, kpos⟩] X.env)).map (·.2) = [do let v ← eval dx X.env; standAt pos; pure v] := by rfl) :
    PE X (.Call (.Name "max" p) [e] [⟨some "default", dx, kpos⟩] pos) (tMaxD K te) := by
  subst hK
  refine ⟨fun pins s σ H Q I h => ?_⟩
  refine wpAny_Call_Name_kw (ld_blt I hg hmg boot_max ?_)
  refine PyProof.Rows.callWith_kw (args_cons (thn (he.run pins s σ H _ I h) fun xv s1 ⟨v, H1, I1, r1, l, ns, ev, hs, q⟩ => args_nil ?_) na) na2 hpl
  subst ev
  obtain rfl : xv = Value.ref l := r1
  show wpAny _ _ (evalAll ((do let v ← eval dx X.env; standAt pos; pure v) :: [])) _ _ s1
  refine wpAny_evalAll_cons (wpAny_bind (thn (hd.run pins s1 σ H1 (fun v H2 => v = .int 0 ∧ H2 = H1) I1 ⟨rfl, rfl⟩) fun dv s2 ⟨v, H2, I2, r2, ev, eH⟩ => wpAny_bind (wpAny_standAt (wpAny_pure ?_))))
  subst ev
  subst eH
  refine wpAny_evalAll_nil ?_
  obtain ⟨its, rv, p1, _⟩ := I2.list hs
  have hL := p1.isList
  have R := reads_ints (h := s2.heap) rv
  have hi : ∀ y ∈ ns.map PyData.int, ∃ i, y = .int i := fun y hy => by
    obtain ⟨i, _, rfl⟩ := List.mem_map.mp hy
    exact ⟨i, rfl⟩
  have dp : ∀ ms : List Int, PyData.depthAll (ms.map .int) ≤ 2 := fun ms => by
    induction ms with
    | nil => exact Nat.zero_le _
    | cons m ms ih =>
      show PyData.depthAll (PyData.int m :: ms.map PyData.int) ≤ 2
      unfold PyData.depthAll
      have : (PyData.int m).depth ≤ 2 := by unfold PyData.depth; omega
      omega
  refine max_list_default hh hL (xs := ns.map PyData.int) (by simpa using R) ⟨fun x hx y hy => ?_, fun x hx => ?_⟩ (by have := dp ns; omega) (fun hz h' tk hk => ?_) (fun y ys i v h' tk bs hxs hv hr hk => ?_)
  · obtain ⟨i, rfl⟩ := hi x hx
    obtain ⟨j, rfl⟩ := hi y hy
    rfl
  · obtain ⟨i, rfl⟩ := hi x hx
    intro z
    cases z
  · have e : ns = [] := by simpa using hz
    subst e
    exact ⟨.int 0, H2, I2.kept hk, r2, q⟩
  · cases ns with
    | nil => cases hxs
    | cons n ns =>
      have e1 : PyData.int n = y ∧ ns.map PyData.int = ys := by simpa using hxs
      obtain ⟨rfl, rfl⟩ := e1
      rw [maxD_ints] at hr
      cases hr
      exact ⟨.int (maxOr0 (n :: ns)), H2, I2.kept hk, ⟨_, rfl⟩, q⟩
end
section
variable [TbC] {K : PySem.W.Frag} {ρ ρ' : Env} {te ta tb tv : TE} {d e : D} {ds es : List D} {R : DEnds}
theorem ev_maxD {ns : List Int} (h : EvB K ta ρ (ns.map .int)) : EvD K (tMaxD K ta) ρ (.int (maxOr0 ns)) := fun B Hs H σ r Q q =>
  h B Hs H σ r _ fun Hs1 H1 p vs g1 hp y1 => by
    have e := y1.ints
    subst e
    exact ⟨p, ns, rfl, hp, q Hs1 H1 _ g1 (.int _)⟩
end
/-! ### a lambda as an argument -/
section
variable [TbC] {X : Cx}
def tLam (mk : Addr → CF) : TE := fun σ H Q => NdefX.TabsN TbC.T H ∧ ∀ (f c' : Addr) (H1 : Hp), LamX.ExtN H H1 → (∀ b, H1 b = none → H b = none) → NdefX.TabsN TbC.T H1 → H f = none → H1 f = some ((mk c').ob f) → H1 c' = some (CodeO c' (mk c').qual) → Q (.ref f) H1
theorem pe_lam {L : Expr} {fr : List Str} {c P : Addr} {q : Str} {cl0 : List (Str × Addr)} {lpos : Pos} (hL : L = .Lambda (lamArgs L) (lamBody L) (lamScope L) lpos) (hB : NdefX.ndefB X.env.scope (lamScope L) fr = true) (hcl : X.env.cells = cl0)
    (TB : TabB X.base X.mg c P) (hcode : X.env.code = .ref c) (hm : (P, fun _ _ => q) ∈ TbC.T) (hu : ∀ p ∈ TbC.T, p.1 = P → p.2 = fun _ _ => q) (hq : X.env.qual ++ "<lambda>" = q) (hdef : defaultsOf (lamArgs L) X.env = ([], [])) :
    PE X L (tLam (fun c' => CF.l ⟨"<lambda>", q, lamArgs L, [], lamScope L, cloFrom cl0 (lamScope L).names [], c'⟩ (lamBody L))) := by
  subst hcl
  refine ⟨fun pins s σ H Q I h => ?_⟩
  rw [hL]
  refine lam_makeN (nm := fun _ _ => q) (q := q) I TB hcode hm rfl hq hu h.1 hdef (fun y hy e => (NdefX.ndef_free hB y hy e).elim (fun z => I.ok.has _ (.inl z)) fun z => I.ok.has _ (.inr z)) fun f c' H1 s' I' eN dm T1 f0 f1 c1 => ?_
  exact ⟨.ref f, H1, I', rfl, h.2 f c' H1 eN dm T1 f0 f1 c1⟩
end
theorem capsL {X : Cx} {L : Expr} {fr : List Str} {js : List Nat} {cl0 : List (Str × Addr)} (hB : NdefX.ndefB X.env.scope (lamScope L) fr = true) (hjs : js.map (fun j => X.N[j]?) = fr.map some) (hcl : X.env.cells = cl0) (ok : X.Ok) : NdefX.Caps X (cloFrom cl0 (lamScope L).names []) fr js := by
  subst hcl
  exact NdefX.Caps.made ok (NdefX.ndef_free hB) (NdefX.ndef_fr hB) hjs
section
variable [TbC] {K : PySem.W.Frag} {ρ ρ' : Env} {te ta tb tv : TE} {d e : D} {ds es : List D} {R : DEnds} {B : Base} {Hs H Hs' H' : Hp} {σ : L2.St}
/-- arguments: their data is one that P tells -/
def EvAx (K : PySem.W.Frag) (ta : TA) (ρ : Env) (P : List D → Prop) : Prop := ∀ B Hs H σ, RS K B Hs H σ ρ → ∀ Q : List V → Hp → Prop, (∀ Hs' H' vs ds, Gr Hs H H Hs' H' → RepL K Hs' vs ds → P ds → Q vs H') → ta σ H Q
theorem eax_cons {t : TA} {P : List D → Prop} (h : EvD K te ρ d) (hs : EvAx K t ρ P) : EvAx K (tCons te t) ρ (fun ds => ∃ ds', ds = d :: ds' ∧ P ds') := fun B Hs H σ r Q q =>
  h B Hs H σ r _ fun Hs1 H1 v g1 x => hs B Hs1 H1 σ (r.grow g1) _ fun Hs2 H2 vs ds g2 xs p => q Hs2 H2 _ _ (g1.trans g2) (.cons (x.mono g2.sh) xs) ⟨ds, rfl, p⟩
theorem eax_lam {mk : Addr → CF} (hc : ∀ c, (mk c).c = c) : EvAx K (tCons (tLam mk) tNil) ρ (fun ds => ∃ c, ds = [.clo (mk c) [] []]) := fun B Hs H σ r Q q => by
  refine ⟨r.tb.2, fun f c' H1 eN dm T1 f0 f1 c1 => ?_⟩
  have g := gr_fn r.ex r.tb.1 eN dm T1 f0 f1 c1
  refine q _ H1 _ _ g (.cons (.clo ?_ ?_ .nil) .nil) ⟨c', rfl⟩
  · show (if f = f ∨ f = c' then H1 f else Hs f) = _
    rw [if_pos (.inl rfl)]
    exact f1
  · rw [hc]
    show (if c' = f ∨ c' = c' then H1 c' else Hs c') = _
    rw [if_pos (.inr rfl)]
    exact c1
/-- o.m(.., lambda): what the lambda captures is shared -/
theorem ev_methUx {C : Addr} {ns : List Str} {cs : List D} {js : List Nat} {alts : List V → List (Addr × Sp)} {m : Str} {E : XK} {t : TA} {P : List D → Prop} {α : Type} {pre : α → Prop} {arg : List V → α → List D} {res : α → D} (x : List D → α) (h : EvD K ta ρ (.obj C ns ds)) (ht : EvAx K t ρ P) (hj : js.map (fun j => ρ[j]?) = cs.map (fun d => some (some (.sh d)))) (hin : ∀ us, (C, spG K pre (arg us) res) ∈ alts us) (hm : ns.contains m = false)
    (ha : ∀ us es, P es → arg us (x es) = .obj C ns ds :: es.map (dress us cs)) (p : ∀ es, P es → pre (x es)) (hr : ∀ es, P es → res (x es) = d) : EvD K (tMethU js alts m E ta t) ρ d := fun B Hs H σ r Q q =>
  h B Hs H σ r _ fun Hs1 H1 v g1 xo => by
    cases xo with
    | @obj a _ dx _ vs _ hp xs =>
      obtain ⟨us, e1, e2⟩ := r.gets hj
      refine ⟨a, C, dx, _, us, _, rfl, g1.lv _ _ hp, e1, hin us, look_none hm, ht B Hs1 H1 σ (r.grow g1) _ fun Hs2 H2 ws es g2 ys pe => ?_⟩
      refine ⟨Hs2, x es, ⟨g2.lv, (r.grow (g1.trans g2)).tb⟩, by rw [ha us es pe]; exact .cons (.obj (g2.sh _ _ hp) (xs.mono g2.sh)) (RepL.dress (e2.mono (g1.trans g2).sh) ys), p es pe, fun Hs' H' w d' g y e => ?_⟩
      exact q Hs' H' w ((g1.trans g2).trans g) (by rw [← hr es pe]; exact e ▸ y)
/-! ### methods of an object of the frame's own -/
theorem ev_methB {α : Type} {pre : α → Prop} {arg : α → List AV} {post : α → D → List AV → Prop} {exc : α → Value → Option (List (Str × D)) → List AV → Prop} {alts : List (Addr × Sp)} {m : Str} {i : Nat} {nw : Nw} {C : Addr} {ns : List Str} {xs : List O} {ar : List AR} {t : TA} {E : XK} (x : α)
    (hi : ρ[i]? = some (some (.tr K nw (.ob C ns xs)))) (ht : EvAS K t ρ ar) (hin : (C, spB K pre arg post exc) ∈ alts) (hm : ns.contains m = false) (ha : ArgOk K ρ (.inr (i, nw) :: ar) (arg x)) (p : pre x) (sep : sepB (.inr (i, nw) :: ar) = true := by rfl)
    (sh : ∀ d as, post x d as → Shp (.inr (i, nw) :: ar) as) (hx : ∀ cls fs as, ¬ exc x cls fs as) :
    EvE K (tMethD alts m E (tVar i) t) ρ (fun d ρ' => ∃ as, post x d as ∧ ρ' = back K (allOf (.inr (i, nw) :: ar)) (.inr (i, nw) :: ar) as ρ) := fun B Hs H σ r Q q => by
  obtain ⟨R0, rg0⟩ := r.reg
  obtain ⟨v0, hv0, hh⟩ := rg0.1 i _ hi
  obtain ⟨a, dx, vs0, R1, rfl, _, _, _, e0⟩ := (hh Hs (Ex.refl Hs)).2.ob_inv
  have hHa : H a = some (.ins C dx (ns.zip vs0)) := (rg0.2.1 i a _ (by rw [e0]; exact upd_same)).1
  refine ⟨.ref a, hv0, a, C, dx, _, _, rfl, hHa, hin, look_none hm, ht B Hs H σ r _ fun Hs1 H1 vs g xs1 => ?_⟩
  have r1 := r.grow g
  obtain ⟨R, rg⟩ := r1.reg
  have hv : VsOk K Hs1 σ (.ref a :: vs) (.inr (i, nw) :: ar) := ⟨hv0, xs1⟩
  refine ⟨Hs1, x, _, ⟨g.lv, r1.tb⟩, r1.lay rg hv ha sep, p, fun Hs' H' v d as Rs' g2 b y z => ?_, fun _ _ cls _ fs as _ _ _ _ z => (hx cls fs as z).elim⟩
  exact q Hs' H' v d _ (g.sh.trans g2.sh) (r1.behind rg hv ha sep (sh d as z) g2 b) y ⟨as, z, rfl⟩
/-! ### fields of an object of the frame's own -/
theorem putF_at {f : Str} {y : V} : ∀ {ns : List Str} {vs : List V} {j : Nat}, ns.findIdx? (· == f) = some j → ns.length = vs.length → putF f y (ns.zip vs) = ns.zip (vs.set j y)
  | [], vs, j, h, _ => by simp at h
  | n :: ns, [], j, _, hl => by simp at hl
  | n :: ns, v :: vs, j, h, hl => by
    rw [List.findIdx?_cons] at h
    rw [List.zip_cons_cons]
    unfold putF
    by_cases e : (n == f) = true
    · rw [if_pos e] at h
      have h' := Option.some.inj h
      subst h'
      rw [if_pos (eq_of_beq e), List.set_cons_zero, List.zip_cons_cons]
    · rw [if_neg e] at h
      obtain ⟨k, hk, rfl⟩ := Option.map_eq_some_iff.mp h
      rw [if_neg (fun z => e (by rw [z]; exact beq_self_eq_true _)), List.set_cons_succ, List.zip_cons_cons, putF_at hk (by simpa using hl)]
theorem putF_new {f : Str} {y : V} : ∀ {ns : List Str} {vs : List V}, ns.contains f = false → ns.length = vs.length → putF f y (ns.zip vs) = (ns ++ [f]).zip (vs ++ [y])
  | [], [], _, _ => rfl
  | [], _ :: _, _, hl => by simp at hl
  | n :: ns, [], _, hl => by simp at hl
  | n :: ns, v :: vs, h, hl => by
    rw [List.contains_cons, Bool.or_eq_false_iff] at h
    rw [List.zip_cons_cons, List.cons_append, List.cons_append, List.zip_cons_cons]
    unfold putF
    rw [if_neg (fun z => by rw [z, beq_self_eq_true] at h; cases h.1), putF_new h.2 (by simpa using hl)]
theorem findIdx_lt {f : Str} : ∀ {ns : List Str} {j : Nat}, ns.findIdx? (· == f) = some j → j < ns.length
  | [], j, h => by simp at h
  | n :: ns, j, h => by
    rw [List.findIdx?_cons] at h
    by_cases e : (n == f) = true
    · rw [if_pos e] at h
      have h' := Option.some.inj h
      subst h'
      exact Nat.succ_pos _
    · rw [if_neg e] at h
      obtain ⟨k, hk, rfl⟩ := Option.map_eq_some_iff.mp h
      have := findIdx_lt hk
      show k + 1 < ns.length + 1
      omega
section
variable {f : Str} {C : Addr} {ns : List Str} {xs : List O} {j i : Nat} {nw : Nw} {o o2 : O} {p : List Nat}
/-- t.f = d, t an object in a tree, f there already -/
theorem xs_setF (h : EvD K tv ρ d) (hw : EvW K ta ρ i p) (hi : ρ[i]? = some (some (.tr K nw o))) (hp : o.at_ p = some (.ob C ns xs)) (hj : ns.findIdx? (· == f) = some j) (hc : Cls K C) (hn : NoAttr K C f) (hl : ns.length < 1000) (q : R.nx (ρ.set i (some (.tr K nw (o.put p (.ob C ns (xs.set j (.sh d)))))))) :
    ExS K (sFld K ta tv f) ρ R := fun B Hs0 H0 σ Dn r0 l =>
  h B Hs0 H0 σ r0 _ fun Hs H w g0 y => by
    refine hw B Hs H σ (r0.grow g0) _ fun Hs1 H1 v0 v g hv va => ?_
    have r1 := (r0.grow g0).grow g
    obtain ⟨R1, rg1⟩ := r1.reg
    obtain ⟨v0', v1, S, hv', va', ow, sub, kk⟩ := r1.part rg1 hi hp
    rw [hv] at hv'
    cases hv'
    have e := va.det va'
    subst e
    obtain ⟨a, dx, vs, Ra, rfl, nn, hlen, hl', rfl⟩ := ow.ob_inv
    have ha := (sub a _ upd_same).1
    have hvl := hl'.length
    have hjl : j < xs.length := by have := findIdx_lt hj; omega
    obtain ⟨u, S1, T1, e1, o1, d1, eR, k1⟩ := hl'.split (j := j) (List.getElem?_eq_getElem hjl)
    have own2 := k1 (Ex.refl _) (v' := w) (o' := .sh d) (S' := em) (.sh (y.mono g.sh)) (fun a h => absurd rfl h)
    rw [jn_em] at own2
    have nT : T1 a = none := by
      rw [eR] at nn
      exact (jn_none.mp nn).2
    refine ⟨a, C, dx, _, rfl, ha, hc, hn, by rw [List.length_zip]; omega, l.nx Hs1 _ _ _ (kk (S' := upd T1 a (.ins C dx (ns.zip (vs.set j w)))) (o' := .ob C ns (xs.set j (.sh d))) (.ob nT (by rw [List.length_set]; exact hlen) own2) (fun b u' z => ?_) (fun b u' z e => ?_) (fun b e => upd_keep ha e) Ch.upd) q⟩
    · rw [putF_at hj (by omega)]
      by_cases eb : b = a
      · subst eb
        rw [upd_same] at z ⊢
        exact ⟨z, .inl (by rw [upd_same]; exact fun q => nomatch q)⟩
      · rw [upd_ne eb] at z ⊢
        have zR : Ra b = some u' := by
          rw [eR]
          cases y1 : S1 b with
          | none => rw [jn_r y1]; exact z
          | some w' =>
            have := d1 b (by rw [y1]; exact fun q => nomatch q)
            rw [z] at this
            cases this
        have zS : upd Ra a (.ins C dx (ns.zip vs)) b = some u' := by rw [upd_ne eb]; exact zR
        exact ⟨(sub b u' zS).1, .inl (by rw [zS]; exact fun q => nomatch q)⟩
    · by_cases eb : b = a
      · subst eb
        rw [upd_same] at z
        cases z
      · rw [upd_ne eb]
        exact e
/-- t.f = a new tree, f not there yet -/
theorem xs_addF (h : EvN K tv ρ o2) (hw : EvW K ta ρ i p) (hi : ρ[i]? = some (some (.tr K nw o))) (hp : o.at_ p = some (.ob C ns xs)) (hf : ns.contains f = false) (hc : Cls K C) (hn : NoAttr K C f) (hl : ns.length < 1000) (q : R.nx (ρ.set i (some (.tr K nw (o.put p (.ob C (ns ++ [f]) (xs ++ [o2]))))))) :
    ExS K (sFld K ta tv f) ρ R := fun B Hs0 H0 σ Dn r0 l =>
  h B Hs0 H0 σ r0 _ fun Hs H w Sn g0 own subn => by
    obtain ⟨R0, rg0⟩ := r0.reg
    refine hw B Hs H σ (r0.grow g0) _ fun Hs1 H1 v0 v g hv va => ?_
    have r1 := (r0.grow g0).grow g
    have rg1 : Reg K B Hs1 H1 σ ρ R0 := Reg.grow (Reg.grow rg0 g0) g
    obtain ⟨v0', v1, S, hv', va', ow, sub, kk⟩ := r1.part rg1 hi hp
    rw [hv] at hv'
    cases hv'
    have e := va.det va'
    subst e
    obtain ⟨a, dx, vs, Ra, rfl, nn, hlen, hl', rfl⟩ := ow.ob_inv
    have ha := (sub a _ upd_same).1
    have hvl := hl'.length
    have sub1 : ∀ b u, Sn b = some u → H1 b = some u ∧ Fresh B Hs1 R0 b := fun b u z => by
      obtain ⟨z1, z2, z3⟩ := subn b u z
      have pl := own.pl b u z
      exact ⟨g.fr.pl z1 pl, (r0.fresh rg0 z2).grow (by rw [g.nw b (.of z1 pl)]; exact z3)⟩
    have disj : ∀ b, Sn b ≠ none → upd Ra a (.ins C dx (ns.zip vs)) b = none := fun b hb => by
      cases z : Sn b with
      | none => exact absurd z hb
      | some u =>
        cases y : upd Ra a (.ins C dx (ns.zip vs)) b with
        | none => rfl
        | some w => exact absurd ((sub1 b u z).2.1 i) (sub b w y).2.2
    have nSa : Sn a = none := by
      cases z : Sn a with
      | none => rfl
      | some u =>
        have := disj a (by rw [z]; exact fun q => nomatch q)
        rw [upd_same] at this
        cases this
    refine ⟨a, C, dx, _, rfl, ha, hc, hn, by rw [List.length_zip]; omega, l.nx Hs1 _ _ _ (kk (S' := upd (jn Sn Ra) a (.ins C dx ((ns ++ [f]).zip (vs ++ [w])))) (o' := .ob C (ns ++ [f]) (xs ++ [o2])) (.ob (jn_none.mpr ⟨nSa, nn⟩) (by rw [List.length_append, List.length_append]; show ns.length + 1 = xs.length + 1; omega) ?_) (fun b u z => ?_) (fun b u z e => ?_) (fun b e => upd_keep ha e) Ch.upd) q⟩
    · refine OwnL.snoc (own.mono g.sh) hl' fun b hb => ?_
      have := disj b hb
      by_cases eb : b = a
      · subst eb
        exact nn
      · rw [upd_ne eb] at this
        exact this
    · rw [putF_new hf (by omega)]
      by_cases eb : b = a
      · subst eb
        rw [upd_same] at z ⊢
        exact ⟨z, .inl (by rw [upd_same]; exact fun q => nomatch q)⟩
      · rw [upd_ne eb] at z ⊢
        cases y : Sn b with
        | some w' =>
          rw [jn_l y] at z
          have z' := Option.some.inj z
          subst z'
          exact ⟨(sub1 b w' y).1, .inr (sub1 b w' y).2⟩
        | none =>
          rw [jn_r y] at z
          exact ⟨(sub b u (by rw [upd_ne eb]; exact z)).1, .inl (by rw [upd_ne eb, z]; exact fun q => nomatch q)⟩
    · rw [upd_ne (fun eb => by rw [eb, upd_same] at z; cases z)]
      exact e
end
theorem EvD.n (h : EvD K te ρ d) : EvN K te ρ (.sh d) := fun B Hs H σ r Q q => h B Hs H σ r Q fun Hs' H' v g x => q Hs' H' v em g (.sh x) fun a u z => nomatch z
/-! ### an object of the frame's own is made -/
theorem en_make {C : Addr} {dvs : List V} {dds : List D} {E : XK} {t : TA} {α : Type} {pre : α → Prop} {arg : α → List AV} {post : α → D → List AV → Prop} {exc : α → Value → Option (List (Str × D)) → List AV → Prop} (x : α) {o : O} (h : EvA K t ρ ds) (hd : ∀ Hs, RepL K Hs dvs dds)
    (ha : arg x = .o (.ob C [] []) :: (ds ++ dds).map .d) (p : pre x) (sh : ∀ d as, post x d as → d = .non ∧ ∃ as', as = .o o :: as' ∧ ∀ a ∈ as', a.own = false) (hx : ∀ cls fs as, ¬ exc x cls fs as) :
    EvN K (tMake C (spB K pre arg post exc) dvs E t) ρ o := fun B Hs H σ r Q q =>
  h B Hs H σ r _ fun Hs1 H1 ws g1 xs => fun y dx hy hdx ne => by
    have r1 := r.grow g1
    have ny : Hs1 y = none := (gr_none (Gr.refl g1.lv) hy).2
    have ndx : Hs1 dx = none := (gr_none (Gr.refl g1.lv) hdx).2
    have hy2 : upd H1 dx (.own y) y = none := by rw [upd_ne (Ne.symm ne)]; exact hy
    have ga : Gr Hs1 H1 H1 Hs1 (upd H1 dx (.own y)) := Gr.newO g1.lv hdx
    have gb : Gr Hs1 (upd H1 dx (.own y)) (upd H1 dx (.own y)) Hs1 (upd (upd H1 dx (.own y)) y (.ins C dx [])) := Gr.newO ga.lv hy2
    have gab := ga.trans gb
    have r2 := r1.grow gab
    have hL : IsL K Hs1 (upd (upd H1 dx (.own y)) y (.ins C dx [])) (.ref y :: (ws ++ dvs)) (arg x) (fun k => if k = 0 then upd em y (.ins C dx []) else em) := by
      rw [ha]
      have hall := xs.append (hd Hs1)
      refine ⟨?_, fun i v a e1 e2 => ?_, fun i a u e => ?_, fun i k a e1 e2 => ?_⟩
      · rw [List.length_cons, List.length_cons, List.length_map, hall.length]
      · cases i with
        | zero =>
          cases e1
          cases e2
          exact Own.ob (vs := []) (ns := []) rfl rfl .nil
        | succ i =>
          rw [List.getElem?_cons_succ] at e1 e2
          rw [List.getElem?_map] at e2
          obtain ⟨d, e3, rfl⟩ := Option.map_eq_some_iff.mp e2
          obtain ⟨v', e4, e5⟩ := hall.at e3
          rw [e1] at e4
          cases e4
          exact ⟨e5, if_neg (Nat.succ_ne_zero i)⟩
      · have e : (if i = 0 then upd em y (HO.ins C dx []) else em) a = some u := e
        split at e
        · rename_i z
          by_cases ea : a = y
          · subst ea
            rw [upd_same] at e
            cases e
            exact ⟨by rw [z]; exact Nat.succ_pos _, upd_same, ny, rfl⟩
          · rw [upd_ne ea] at e
            cases e
        · cases e
      · have e1 : (if i = 0 then upd em y (HO.ins C dx []) else em) a ≠ none := e1
        have e2 : (if k = 0 then upd em y (HO.ins C dx []) else em) a ≠ none := e2
        split at e1
        · split at e2
          · omega
          · exact absurd rfl e2
        · exact absurd rfl e1
    refine ⟨Hs1, x, _, ⟨gab.lv, r2.tb⟩, hL, p, fun Hs' H' v d as Rs' g2 b z po => ?_, fun _ _ cls _ fs as _ _ _ _ z => (hx cls fs as z).elim⟩
    obtain ⟨rfl, as', rfl, hno⟩ := sh d as po
    cases z
    have cutOf : ∀ a, a ≠ y → cut (upd (upd H1 dx (.own y)) y (.ins C dx [])) (fun k => if k = 0 then upd em y (.ins C dx []) else em) a = upd (upd H1 dx (.own y)) y (.ins C dx []) a := fun a na => cut_of fun k => by
      show (if k = 0 then upd em y (HO.ins C dx []) else em) a = none
      split
      · rw [upd_ne na]; rfl
      · rfl
    have gg : Gr Hs1 H1 H1 Hs' H' := by
      refine ⟨fun a u e n => ?_, g2.sh, g2.lv, fun a z => g2.nw a (gab.dp a z), fun a z => g2.dm a (gab.dm a z), fun a z => g2.dm a (gab.dm a z), fun a z => g2.dp a (gab.dp a z), g2.nt, fun t => g2.tb (gab.tb t)⟩
      have na : a ≠ y := ne_of_none e hy
      exact g2.fr a u (by rw [cutOf a na]; exact gab.fr a u e n) n
    refine ⟨rfl, q Hs' H' (.ref y) (Rs' 0) (g1.trans gg) (b.is 0 _ _ rfl rfl rfl) fun a u e => ?_⟩
    obtain ⟨_, e1, e2, e3, e4⟩ := b.reg 0 a u e
    refine ⟨e1, ?_, e2⟩
    have key : H1 a = none := by
      rcases e4 with ⟨k, e4⟩ | e4
      · have e4 : (if k = 0 then upd em y (HO.ins C dx []) else em) a ≠ none := e4
        split at e4
        · by_cases ea : a = y
          · rw [ea]; exact hy
          · rw [upd_ne ea] at e4
            exact absurd rfl e4
        · exact absurd rfl e4
      · cases z : H1 a with
        | none => rfl
        | some w => exact absurd e4 (gab.dm a (by rw [z]; exact fun q => nomatch q))
    exact (g1.new0 key).1
end
section
variable [TbC] {K : PySem.W.Frag} {P : Program} {w : World} {mg : Str → Option Value} {base : Heap} {x qual : Str} {st : Stmt} {f c : Addr} {fd : FuncData} {N ps : List Str} {k : Nat} {α : Type} {pre : α → Prop} {arg : α → List AV} {post : α → D → List AV → Prop} {exc : α → Value → Option (List (Str × D)) → List AV → Prop} {dvs : List V}
/-- a def with defaults, in-out -/
theorem fn_bE (F : FunE K x qual st dvs f fd) (S : FnScope N ps (defScope st)) (hl : ∀ x, (arg x).length = ps.length) {t : TS}
    (hb : ∀ (cdv : Value) (A : Around) (outer : List PySem.Env) (s : Shared) (H : Hp) (E : XK), Room k (A.deeper (envOfC qual (defScope st) s.heap.objs.size f cdv)) → PSs (cxOf CX0 P w K mg base N qual (defScope st) f cdv A outer s H E).nox (defBody st) t)
    (hd : ∀ x vs, vs.length = ps.length → pre x → ExS K t (entB K N vs (arg x)) (endB K post x vs)) : FnOk P w K mg base CX0 (k + 1) f fd ps (spB K pre arg post exc) := by
  have hN : ps.length ≤ N.length := by have := congrArg List.length S.pre; rw [List.length_take] at this; omega
  refine F.ok S (fun vs H Q E h => ?_) (fun cdv A outer s H vs Q E hr h => ?_)
  · obtain ⟨Hs, x, Rs, _, r, _⟩ := h
    rw [r.len, hl]
  · obtain ⟨Hs, x, Rs, e, r, hp, q, _⟩ := h
    exact ⟨t, (hb cdv A outer s H E hr).nox, hd x vs (by rw [r.len, hl]) hp _ Hs H (L2.start N vs) _ (rs_entB e r (by rw [hl]; exact hN)) (lk_b (E := E) q)⟩
/-- two promises of one def -/
def spOr (a b : Sp) : Sp := fun vs H Q E => a vs H Q E ∨ b vs H Q E
end
end DL

/-! DTup: sorted(list of data). -/
namespace DL
open PySem L2 PySem.W
open PyProof.Rows
def rSortD (K : PySem.W.Frag) : List V → Hp → VK → Prop := fun vs H Q => ∃ (p : Addr) (zs : List (V × PyData)), vs = [V.ref p] ∧ SqL K H p (zs.map (·.1)) ∧ (∀ z ∈ zs, Dp K H z.1 z.2) ∧ AllAlike (zs.map (·.2)) ∧ Sortable (zs.map (·.2)) ∧ zs.length ≤ 100000 ∧ (∀ z ∈ zs, z.2.depth ≤ 60) ∧
  ∀ q, H q = none → Q (.ref q) (upd H q (.lst ((zs.mergeSort (dataLe false (·.2))).map (·.1))))
section
variable {X : Cx}
theorem eachis_vals : ∀ {zs : List (V × PyData)} {us : List Value}, EachIs (fun (u : Value) (z : V × PyData) => RelV z.1 u) us zs → Vals (zs.map (·.1)) us
  | _, _, .nil => .nil
  | _, _, .cons h r => .cons h (eachis_vals r)
theorem vals_eachis : ∀ {zs : List (V × PyData)} {us : List Value}, Vals (zs.map (·.1)) us → EachIs (fun (u : Value) (z : V × PyData) => RelV z.1 u) us zs
  | [], [], _ => .nil
  | [], _ :: _, r => by cases r
  | _ :: _, [], r => by cases r
  | z :: zs, u :: us, r => by
    cases r with
    | cons a b => exact .cons a (vals_eachis b)
theorem eachis_reads {h : Heap} : ∀ {zs : List (V × PyData)} {us : List Value}, (∀ z ∈ zs, ∀ u, RelV z.1 u → ∃ as, Reads h u z.2 as) → EachIs (fun (u : Value) (z : V × PyData) => RelV z.1 u) us zs → EachIs (fun (u : Value) (z : V × PyData) => ∃ as, Reads h u z.2 as) us zs
  | _, _, _, .nil => .nil
  | _, _, hz, .cons h r => .cons (hz _ (.head _) _ h) (eachis_reads (fun z m => hz z (.tail _ m)) r)
theorem cr_sortD (hu : X.A.units + 65 < cLine) : CallR X (.builtin "sorted") (rSortD X.K) := by
  intro pins s σ H vs us Q I r h
  obtain ⟨a, zs, rfl, hs, hd, hal, hk, hL, hdp, q⟩ := h
  obtain ⟨its, rv, hl, hz⟩ := I.list hs
  obtain ⟨u, rfl, ru⟩ := vals1 r
  obtain rfl : u = Value.ref a := ru
  have e := vals_eachis rv
  have er := eachis_reads (h := s.heap) (fun z m u hr => Dp.reads I z.2 z.1 u (hd z m) hr) e
  refine sorted_data (vs := its) (bs := zs) (enc := (·.2)) (R := fun (u : Value) (z : V × PyData) => RelV z.1 u) (by simpa using hl.isList) e er hal hk (by rw [sizeLine_eq]; omega) (fun b hb => by have := hdp b hb; omega) fun out ho eo => ?_
  obtain ⟨c, hc⟩ := sortedAll_at s.heap its (List.toArray out)
  have kp : ∀ b o, s.heap.get? b = some o → (sortedAll s.heap its (List.toArray out)).get? b = some o := fun b o e => sortedAll_old e
  have hv := eachis_vals eo
  refine ⟨.ref (s.heap.objs.size + 1), upd H (s.heap.objs.size + 1) (.lst ((zs.mergeSort (dataLe false (·.2))).map (·.1))), I.laid (t' := s.toks) kp (Nat.le_succ _) ⟨?_, out, c, hv, hc⟩, rfl, q _ (I.hok.fresh (Nat.le_succ _))⟩
  rw [List.length_map, List.length_mergeSort, sizeLine_eq]
  omega
theorem sortDK {K : PySem.W.Frag} (h : X.K = K) (hu : X.A.units + 65 < cLine) : CallR X (.builtin "sorted") (rSortD K) := by
  subst h
  exact cr_sortD hu
end
section
variable [TbC] {K : PySem.W.Frag} {ρ : Env} {ta : TE}
theorem RepL.zip {H : Hp} {α : Type} {f : α → D} : ∀ {vs : List V} {xs : List α}, RepL K H vs (xs.map f) → ∃ zs : List (V × α), zs.map (·.1) = vs ∧ zs.map (·.2) = xs ∧ ∀ z ∈ zs, Rep K H z.1 (f z.2)
  | _, [], h => by
    cases h
    exact ⟨[], rfl, rfl, fun z m => nomatch m⟩
  | _, x :: xs, h => by
    cases h with
    | cons a b =>
      obtain ⟨zs, e1, e2, e3⟩ := RepL.zip b
      refine ⟨(_, x) :: zs, by rw [List.map_cons, e1], by rw [List.map_cons, e2], fun z m => ?_⟩
      rcases List.mem_cons.mp m with rfl | m
      · exact a
      · exact e3 z m
theorem RepL.unzip {H : Hp} {α : Type} {f : α → D} : ∀ {zs : List (V × α)}, (∀ z ∈ zs, Rep K H z.1 (f z.2)) → RepL K H (zs.map (·.1)) ((zs.map (·.2)).map f)
  | [], _ => .nil
  | z :: zs, h => .cons (h z (.head _)) (RepL.unzip fun y m => h y (.tail _ m))
/-- sorted(list of tuples) -/
theorem ef_sortD {α : Type} (xs : List α) (f : α → D) (ha : EvB K ta ρ (xs.map f)) (hp : ∀ x ∈ xs, (f x).pl = true) (hal : ∀ x ∈ xs, ∀ y ∈ xs, alike (f x).pd (f y).pd = true) (hk : ∀ x ∈ xs, ∃ y r, (f x).pd = .tuple (y :: r)) (hL : xs.length ≤ 100000) (hd : ∀ x ∈ xs, (f x).pd.depth ≤ 60) :
    EvF K (tCB (rSortD K) (tCons ta tNil)) ρ ((xs.mergeSort (dataLe false fun x => (f x).pd)).map f) := fun B Hs H σ r Q q =>
  ha B Hs H σ r _ fun Hs1 H1 p vs g1 hq y1 => by
    obtain ⟨zs, e1, e2, e3⟩ := y1.zip
    have hm : ∀ z ∈ zs, z.2 ∈ xs := fun z m => by rw [← e2]; exact List.mem_map.mpr ⟨z, m, rfl⟩
    refine ⟨p, zs.map fun z => (z.1, (f z.2).pd), rfl, ?_, ?_, ?_, ?_, ?_, ?_, fun l hn => ?_⟩
    · rw [List.map_map]
      show SqL K H1 p (zs.map (·.1))
      rw [e1]
      exact hq
    · intro z m
      obtain ⟨y, hy, rfl⟩ := List.mem_map.mp m
      exact ((e3 y hy).mono g1.lv).dp (hp _ (hm y hy))
    · intro d m d' m'
      rw [List.map_map] at m m'
      obtain ⟨y, hy, rfl⟩ := List.mem_map.mp m
      obtain ⟨y', hy', rfl⟩ := List.mem_map.mp m'
      exact hal _ (hm y hy) _ (hm y' hy')
    · refine .inl fun d m => ?_
      rw [List.map_map] at m
      obtain ⟨y, hy, rfl⟩ := List.mem_map.mp m
      exact hk _ (hm y hy)
    · rw [List.length_map, ← List.length_map (f := fun z : V × α => z.2), e2]
      exact hL
    · intro z m
      obtain ⟨y, hy, rfl⟩ := List.mem_map.mp m
      exact hd _ (hm y hy)
    · obtain ⟨n1, n2⟩ := gr_none g1 hn
      have s1 : ((zs.map fun z => (z.1, (f z.2).pd)).mergeSort (dataLe false (·.2))) = (zs.mergeSort (dataLe false fun z => (f z.2).pd)).map fun z => (z.1, (f z.2).pd) := (List.map_mergeSort (r := dataLe false fun z : V × α => (f z.2).pd) (s := dataLe false (·.2)) (f := fun z : V × α => (z.1, (f z.2).pd)) (fun a _ b _ => rfl)).symm
      have s2 : (zs.mergeSort (dataLe false fun z => (f z.2).pd)).map (·.2) = xs.mergeSort (dataLe false fun x => (f x).pd) := by
        rw [← e2]
        exact List.map_mergeSort (r := dataLe false fun z : V × α => (f z.2).pd) (s := dataLe false fun x => (f x).pd) (f := fun z : V × α => z.2) (fun a _ b _ => rfl)
      rw [s1, List.map_map]
      refine q Hs1 _ l _ (g1.trans (Gr.newO g1.lv hn)) n1 n2 upd_same ?_
      rw [← s2]
      exact RepL.unzip fun z m => e3 z ((List.mergeSort_perm zs _).mem_iff.mp m)
end
/-! ### the order of such tuples -/
theorem le_total' {β : Type} (k : β → PyData) : ∀ a b, (dataLe false k a b || dataLe false k b a) = true := fun a b => by
  rw [Bool.or_eq_true]
  exact (sortLe_total (listOrd itemOrd) false fun b => keyToks (k b)).total a b
theorem le_trans' {β : Type} (k : β → PyData) : ∀ a b c, dataLe false k a b = true → dataLe false k b c = true → dataLe false k a c = true := (sortLe_total (listOrd itemOrd) false fun b => keyToks (k b)).trans
theorem lt_word_int {w : Str} {x y : Int} {xs ys : List PyData} (h : x ≠ y) : dataLt (.tuple (.str w :: .int x :: xs)) (.tuple (.str w :: .int y :: ys)) = decide (x < y) := by
  rw [dataLt_tuple, dataLt_cons (by rfl), if_pos (by simp [PyData.eqv]), dataLt_cons (by rfl), if_neg (by simpa [PyData.eqv] using h), dataLt_int]
/-- sorted by the numbers behind the word, where these are unlike -/
theorem sorted_to {β : Type} {w : Str} {k : β → PyData} {t : β → Int} {xs : List β} (hk : ∀ b ∈ xs, ∃ r, k b = .tuple (.str w :: .int (t b) :: r)) (nd : (xs.map t).Nodup) : (xs.mergeSort (dataLe false k)).Pairwise fun a b => t a < t b := by
  have h1 := List.pairwise_mergeSort (le := dataLe false k) (le_trans' k) (le_total' k) xs
  have hp := List.mergeSort_perm xs (dataLe false k)
  have h2 : ((xs.mergeSort (dataLe false k)).map t).Nodup := (hp.map t).nodup_iff.mpr nd
  rw [List.nodup_iff_pairwise_ne, List.pairwise_map] at h2
  refine (List.Pairwise.and h1 h2).imp_of_mem fun {a b} ma mb h => ?_
  obtain ⟨h3, h4⟩ := h
  rw [dataLe_eq] at h3
  have h3 : (!dataLt (k b) (k a)) = true := h3
  obtain ⟨ra, ea⟩ := hk a (hp.mem_iff.mp ma)
  obtain ⟨rb, eb⟩ := hk b (hp.mem_iff.mp mb)
  rw [ea, eb, lt_word_int (Ne.symm h4)] at h3
  simp at h3
  omega
end DL

/-! DXio: exceptions that leave in-out defs; exceptions with fields. -/
namespace DL
open PySem L2
open PyProof.Rows (envOfC)
/-! ### own classes over ValueError whose __init__ is a def -/
def oexB (K : PySem.W.Frag) (C : Addr) : Bool := match K.lookup C with
  | some ⟨.type "type", _, .cls cd, sl⟩ => (match cd, sl.toList with
    | ⟨_, _, .ref C' :: bm, _, _, true, _, _, _, _, false⟩, [_, _, _, _, some (.builtin n), _] => C' == C && n == "ValueError.__new__" && PySem.HandSPX.refsVE bm
    | _, _ => false)
  | _ => false
theorem oex_of {K : PySem.W.Frag} {C : Addr} (q : oexB K C = true) (sa : PySem.W.findIn K (.ref C) "__setattr__" = some (some (.builtin "object.__setattr__"))) (exC : PySem.W.subIn K (.ref C) (.type "BaseException") = some true) (tyC : PySem.W.typeIn K (.ref C) = some (.type "type")) (kC : PySem.W.keepIn K (.ref C) = true) : OexC K C := by
  refine ⟨?_, sa, exC, tyC, kC⟩
  unfold oexB at q
  split at q
  · rename_i dd cd sl ho
    split at q
    · rename_i nm bs C' bm ns qn sn sub ab col k0 k1 k2 k3 n k5 hs
      simp only [Bool.and_eq_true, beq_iff_eq] at q
      obtain ⟨⟨rfl, rfl⟩, ht⟩ := q
      have hsl : sl = #[k0, k1, k2, k3, some (.builtin "ValueError.__new__"), k5] := by
        obtain ⟨l⟩ := sl
        simp only at hs
        rw [hs]
      subst hsl
      exact ⟨nm, qn, ns, bs, bm, sn, sub, ab, col, dd, k0, k1, k2, k3, k5, ho, ht⟩
    · cases q
  · cases q
/-- the __init__ of such a class: one field is set -/
def spXI (C : Addr) (f : Str) (K : PySem.W.Frag) : Sp := fun vs H Q _ => ∃ (a : Addr) (v : V), vs = [.ref a, v] ∧ H a = some (exo a C none) ∧ OexC K C ∧ PySem.W.findIn K (.ref C) f = some none ∧ ∀ dx, H dx = none → dx ≠ a → Q .non (upd (upd H dx (exd dx [(f, v)])) a (exo a C (some dx)))
section
variable [TbC] {K : PySem.W.Frag} {ρ ρ' : Env} {te ta tb tv : TE} {d e : D} {ds es : List D} {R : DEnds} {B : Base} {Hs H Hs' H' : Hp} {σ : L2.St}
/-- raise C(e) -/
def tRaiseF (K : PySem.W.Frag) (C : Addr) (f : Str) (W : WX) (te : TE) : TS := fun _ σ H => tMkO C (spXI C f K) [] (tCons te tNil) σ H fun cls d H' => W cls d σ H'
theorem xs_raiseF {C : Addr} {f : Str} {W : WX} (h : EvD K te ρ d) (T : OexC K C) (hno : PySem.W.findIn K (.ref C) f = some none) (hW : R.W = W) (q : R.ex ρ (.ref C) (some [(f, d)])) : ExS K (tRaiseF K C f W te) ρ R := fun B Hs H σ Dn r l =>
  h B Hs H σ r _ fun Hs1 H1 v g x => by
    subst hW
    refine ⟨by show 1 ≤ 1000; decide, fun a ha => ⟨a, v, rfl, upd_same, T, hno, fun dx hdx hne => ?_⟩⟩
    have hdx1 : H1 dx = none := by rwa [upd_ne hne] at hdx
    refine ⟨rfl, dx, [(f, v)], upd_same, by rw [upd_ne hne, upd_same], hdx1, ?_⟩
    have gn := Gr.new (o := .xd [(f, v)]) g.lv hdx1
    have e1 : upd (del (upd (upd (upd H1 a (exo a C none)) dx (exd dx [(f, v)])) a (exo a C (some dx))) a) dx (.xd [(f, v)]) = upd H1 dx (.xd [(f, v)]) := funext fun b => by
      by_cases eb : b = dx
      · rw [eb, upd_same, upd_same]
      · rw [upd_ne eb, upd_ne eb]
        by_cases ea : b = a
        · rw [ea, del_same, ha]
        · rw [del_ne ea, upd_ne ea, upd_ne eb, upd_ne ea]
    rw [e1]
    have nsdx : Hs1 dx = none := (gr_none (Gr.refl g.lv) hdx1).2
    exact l.ex (upd Hs1 dx (.xd [(f, v)])) _ σ ρ (.ref C) (some dx) (some [(f, d)]) (r.grow (g.trans gn)) ⟨[v], upd_same, .cons (x.mono gn.sh) .nil⟩ q
/-- a slot holds the exception at a, its fields fs in the dict at dd -/
@[reducible] def SV.exf (K : PySem.W.Frag) (a dd : Addr) (fs : List (Str × D)) : SV := .ow false (fun Hs v R => (v = .ref a ∧ R = em) ∧ ∃ vs, Hs dd = some (.xd ((fs.map (·.1)).zip vs)) ∧ RepL K Hs vs (fs.map (·.2))) fun _ _ _ h => by
  rw [h.1.2]
  exact PlR.em
theorem RS.setF (r : RS K B Hs H σ ρ) (i : Nat) (a : Addr) {dd : Addr} {fs : List (Str × D)} (x : XRep K Hs H (some dd) (some fs)) : RS K B Hs H (σ.set i (some (.ref a))) (ρ.set i (some (.exf K a dd fs))) :=
  r.setR (Gr.refl r.ex) i (T := em) (fun _ _ z => nomatch z) (sv := .exf K a dd fs) fun Hs1 e => by
    obtain ⟨vs, h1, h2⟩ := x
    exact ⟨⟨rfl, rfl⟩, vs, e _ _ h1, h2.mono e⟩
/-- e.f in the suite -/
theorem ev_xf {a dd C : Addr} {i : Nat} {fs : List (Str × D)} {f : Str} (hi : ρ[i]? = some (some (.exf K a dd fs))) (hl : ((fs.map (·.1)).zip (fs.map (·.2))).lookup f = some d) : EvD K (tXf a (.ref C) (some dd) C f (tVar i)) ρ d := fun B Hs H σ r Q q => by
  obtain ⟨S, rg⟩ := r.reg
  obtain ⟨v0, hv, hh⟩ := rg.1 i _ hi
  obtain ⟨⟨rfl, _⟩, vs, h1, h2⟩ := hh Hs (Ex.refl Hs)
  obtain ⟨u, e1, e2⟩ := look_zip h2 hl
  exact ⟨.ref a, hv, rfl, rfl, dd, _, u, rfl, r.ex _ _ h1, e1, q Hs H u (Gr.refl r.ex) e2⟩
/-- try: .. except c as e: .., the exception has fields -/
theorem xs_tryF {c : Value} {i : Nat} {tb : WX → TS} {ts : Addr → Value → Option Addr → TS} {Wout : WX} (EX : Env → Value → Option (List (Str × D)) → Prop) (hb : ∀ W, ExS K (tb W) ρ { R with ex := EX, W := W })
    (hx : ∀ ρ' cls fs, EX ρ' cls fs → ∃ fs', fs = some fs' ∧ ∃ b, PySem.W.exmOne K cls c = some b ∧ (b = true → ∀ a dd, ExS K (ts a cls (some dd)) (ρ'.set i (some (.exf K a dd fs'))) { R with nx := fun ρ2 => R.nx (ρ2.set i none), bk := fun ρ2 => R.bk (ρ2.set i none), ct := fun ρ2 => R.ct (ρ2.set i none) }) ∧ (b = false → R.W = Wout ∧ R.ex ρ' cls fs)) :
    ExS K (tTryA K c i tb ts Wout) ρ R := fun B Hs H σ Dn r l =>
  hb _ B Hs H σ Dn r ⟨l.nx, l.rt, l.rf, l.bk, l.ct, l.ro, fun Hs' H' σ' ρ' cls dd fs r' y q => by
    obtain ⟨fs', rfl, b, h1, h2, h3⟩ := hx ρ' cls fs q
    cases dd with
    | none => exact y.elim
    | some dd =>
      refine ⟨b, h1, fun hb a ha => h2 hb a dd B Hs' H' _ _ (r'.setF i a y) ⟨fun Hs2 H2 σ2 ρ2 r2 q2 => l.nx Hs2 H2 _ _ (r2.forget i none) q2, l.rt, l.rf, fun Hs2 H2 σ2 ρ2 r2 q2 => l.bk Hs2 H2 _ _ (r2.forget i none) q2, fun Hs2 H2 σ2 ρ2 r2 q2 => l.ct Hs2 H2 _ _ (r2.forget i none) q2, l.ro, l.ex, l.rn⟩, fun hb => ?_⟩
      obtain ⟨e1, e2⟩ := h3 hb
      subst e1
      exact l.ex Hs' H' σ' ρ' cls _ _ r' y e2, l.rn⟩
/-! ### expressions with effects that exceptions may leave -/
def EvEx (K : PySem.W.Frag) (te : TE) (W : WX) (ρ : Env) (Z : D → Env → Prop) (EX : Env → Value → Option (List (Str × D)) → Prop) : Prop := ∀ B Hs H σ, RS K B Hs H σ ρ → ∀ Q : VK, (∀ Hs' H' v d ρ', Ex Hs Hs' → RS K B Hs' H' σ ρ' → Rep K Hs' v d → Z d ρ' → Q v H') →
  (∀ Hs' H' cls dd fs ρ', RS K B Hs' H' σ ρ' → XRep K Hs' H' dd fs → EX ρ' cls fs → W cls dd σ H') → te σ H Q
theorem xs_dropEx {W : WX} {Z : D → Env → Prop} {EX : Env → Value → Option (List (Str × D)) → Prop} (h : EvEx K te W ρ Z EX) (hW : R.W = W) (q : ∀ d ρ', Z d ρ' → R.nx ρ') (qx : ∀ ρ' cls fs, EX ρ' cls fs → R.ex ρ' cls fs) : ExS K (tDrop te) ρ R := fun B Hs H σ Dn r l =>
  h B Hs H σ r _ (fun Hs' H' v d ρ' _ r' x z => l.nx Hs' H' _ _ r' (q d ρ' z)) fun Hs' H' cls dd fs ρ' r' y z => by
    subst hW
    exact l.ex Hs' H' σ ρ' cls dd fs r' y (qx ρ' cls fs z)
theorem xs_asgEx {W : WX} {i : Nat} {Z : D → Env → Prop} {EX : Env → Value → Option (List (Str × D)) → Prop} (h : EvEx K te W ρ Z EX) (hW : R.W = W) (q : ∀ d ρ', Z d ρ' → R.nx (ρ'.set i (some (.sh d)))) (qx : ∀ ρ' cls fs, EX ρ' cls fs → R.ex ρ' cls fs) : ExS K (tAsg te (gName i)) ρ R := fun B Hs H σ Dn r l =>
  h B Hs H σ r _ (fun Hs' H' v d ρ' _ r' x z => l.nx Hs' H' _ _ (r'.set i x) (q d ρ' z)) fun Hs' H' cls dd fs ρ' r' y z => by
    subst hW
    exact l.ex Hs' H' σ ρ' cls dd fs r' y (qx ρ' cls fs z)
theorem xs_retEx {W : WX} {Z : D → Env → Prop} {EX : Env → Value → Option (List (Str × D)) → Prop} (h : EvEx K te W ρ Z EX) (hW : R.W = W) (q : ∀ d ρ', Z d ρ' → R.ro ρ' d) (qx : ∀ ρ' cls fs, EX ρ' cls fs → R.ex ρ' cls fs) : ExS K (tRet te) ρ R := fun B Hs H σ Dn r l =>
  h B Hs H σ r _ (fun Hs' H' v d ρ' _ r' x z => l.ro Hs' H' σ ρ' v d r' x (q d ρ' z)) fun Hs' H' cls dd fs ρ' r' y z => by
    subst hW
    exact l.ex Hs' H' σ ρ' cls dd fs r' y (qx ρ' cls fs z)
variable {α : Type} {pre : α → Prop} {arg : α → List AV} {post : α → D → List AV → Prop} {exc : α → Value → Option (List (Str × D)) → List AV → Prop}
theorem ev_callBX {ar : List AR} {ta : TA} {W : WX} (x : α) (ht : EvAS K ta ρ ar) (ha : ArgOk K ρ ar (arg x)) (p : pre x) (sep : sepB ar = true := by rfl) (sh : ∀ d as, post x d as → Shp ar as) (shx : ∀ cls fs as, exc x cls fs as → Shp ar as) :
    EvEx K (tCallS (spB K pre arg post exc) (WE W) ta) W ρ (fun d ρ' => ∃ as, post x d as ∧ ρ' = back K (allOf ar) ar as ρ) (fun ρ' cls fs => ∃ as, exc x cls fs as ∧ ρ' = back K (allOf ar) ar as ρ) := fun B Hs H σ r Q q qx =>
  ht B Hs H σ r _ fun Hs1 H1 vs g xs => by
    have r1 := r.grow g
    obtain ⟨R, rg⟩ := r1.reg
    refine ⟨Hs1, x, _, ⟨g.lv, r1.tb⟩, r1.lay rg xs ha sep, p, fun Hs' H' v d as Rs' g2 b y z => ?_, fun Hs' H' cls dd fs as Rs' g2 b y z => ?_⟩
    · exact q Hs' H' v d _ (g.sh.trans g2.sh) (r1.behind rg xs ha sep (sh d as z) g2 b) y ⟨as, z, rfl⟩
    · exact qx Hs' H' cls dd fs _ (r1.behind rg xs ha sep (shx cls fs as z) g2 b) y ⟨as, z, rfl⟩
/-- o.m(..), an exception of which is taken at W -/
def tMethS (alts : List (Addr × Sp)) (m : Str) (W : WX) (ta : TE) (t : TA) : TE := fun σ H Q => ta σ H fun x H1 => ∃ a C dx fs sp, x = .ref a ∧ H1 a = some (.ins C dx fs) ∧ (C, sp) ∈ alts ∧ fs.lookup m = none ∧
  t σ H1 fun vs H2 => sp (x :: vs) H2 Q (WE W σ)
theorem ev_methBX {W : WX} {alts : List (Addr × Sp)} {m : Str} {i : Nat} {nw : Nw} {C : Addr} {ns : List Str} {xs : List O} {ar : List AR} {t : TA} (x : α)
    (hi : ρ[i]? = some (some (.tr K nw (.ob C ns xs)))) (ht : EvAS K t ρ ar) (hin : (C, spB K pre arg post exc) ∈ alts) (hm : ns.contains m = false) (ha : ArgOk K ρ (.inr (i, nw) :: ar) (arg x)) (p : pre x) (sep : sepB (.inr (i, nw) :: ar) = true := by rfl)
    (sh : ∀ d as, post x d as → Shp (.inr (i, nw) :: ar) as) (shx : ∀ cls fs as, exc x cls fs as → Shp (.inr (i, nw) :: ar) as) :
    EvEx K (tMethS alts m W (tVar i) t) W ρ (fun d ρ' => ∃ as, post x d as ∧ ρ' = back K (allOf (.inr (i, nw) :: ar)) (.inr (i, nw) :: ar) as ρ) (fun ρ' cls fs => ∃ as, exc x cls fs as ∧ ρ' = back K (allOf (.inr (i, nw) :: ar)) (.inr (i, nw) :: ar) as ρ) := fun B Hs H σ r Q q qx => by
  obtain ⟨R0, rg0⟩ := r.reg
  obtain ⟨v0, hv0, hh⟩ := rg0.1 i _ hi
  obtain ⟨a, dx, vs0, R1, rfl, _, _, _, e0⟩ := (hh Hs (Ex.refl Hs)).2.ob_inv
  have hHa : H a = some (.ins C dx (ns.zip vs0)) := (rg0.2.1 i a _ (by rw [e0]; exact upd_same)).1
  refine ⟨.ref a, hv0, a, C, dx, _, _, rfl, hHa, hin, look_none hm, ht B Hs H σ r _ fun Hs1 H1 vs g xs1 => ?_⟩
  have r1 := r.grow g
  obtain ⟨R, rg⟩ := r1.reg
  have hv : VsOk K Hs1 σ (.ref a :: vs) (.inr (i, nw) :: ar) := ⟨hv0, xs1⟩
  refine ⟨Hs1, x, _, ⟨g.lv, r1.tb⟩, r1.lay rg hv ha sep, p, fun Hs' H' v d as Rs' g2 b y z => ?_, fun Hs' H' cls dd fs as Rs' g2 b y z => ?_⟩
  · exact q Hs' H' v d _ (g.sh.trans g2.sh) (r1.behind rg hv ha sep (sh d as z) g2 b) y ⟨as, z, rfl⟩
  · exact qx Hs' H' cls dd fs _ (r1.behind rg hv ha sep (shx cls fs as z) g2 b) y ⟨as, z, rfl⟩
variable {P : Program} {w : World} {mg : Str → Option Value} {base : Heap} {x qual : Str} {st : Stmt} {f c : Addr} {fd : FuncData} {N ps : List Str} {k : Nat}
/-- what is wanted of the body -/
abbrev endBX (K : PySem.W.Frag) {α : Type} (post : α → D → List AV → Prop) (exc : α → Value → Option (List (Str × D)) → List AV → Prop) (x : α) (vs : List V) (E : XK) : DEnds := { endB K post x vs with ex := fun ρ cls fs => ∃ as, exc x cls fs as ∧ outs K vs ρ as, W := fun cls dd _ H => E cls dd H }
theorem lk_bX {x : α} {vs : List V} {H : Hp} {Q : VK} {E : XK} {Rs : Nat → Hp} {t : NT Hs ∧ TB H} (q : ∀ Hs' H' v d as Rs', Gr Hs (cut H Rs) H Hs' H' → IsB K H Hs' H' vs as Rs Rs' → Rep K Hs' v d → post x d as → Q v H')
    (qx : ∀ Hs' H' cls dd fs as Rs', Gr Hs (cut H Rs) H Hs' H' → IsB K H Hs' H' vs as Rs Rs' → XRep K Hs' H' dd fs → exc x cls fs as → E cls dd H') :
    Lk K ⟨Hs, cut H Rs, H, t⟩ (endBX K post exc x vs E) { nx := fun _ H' => Q .non H', rt := Q } :=
  have l0 := lk_b (K := K) (post := post) (E := E) (t := t) q
  ⟨l0.nx, l0.rt, l0.rf, l0.bk, l0.ct, l0.ro, fun Hs' H' σ ρ cls dd fs r y ⟨as, z, o⟩ => by
    obtain ⟨Rs', b⟩ := r.told o
    exact qx Hs' H' cls dd fs as Rs' r.gr b y z, l0.rn⟩
theorem fn_bX (F : Fun K x qual st f fd) (S : FnScope N ps (defScope st)) (hl : ∀ x, (arg x).length = ps.length) {t : XK → TS}
    (hb : ∀ (cdv : Value) (A : Around) (outer : List PySem.Env) (s : Shared) (H : Hp) (E : XK), Room k (A.deeper (envOfC qual (defScope st) s.heap.objs.size f cdv)) → PSs (cxOf (L2.CX P w) P w K mg base N qual (defScope st) f cdv A outer s H E) (defBody st) (t E))
    (hd : ∀ x vs, vs.length = ps.length → pre x → ∀ E : XK, ExS K (t E) (entB K N vs (arg x)) (endBX K post exc x vs E)) : FnOk P w K mg base (L2.CX P w) (k + 1) f fd ps (spB K pre arg post exc) := by
  have hN : ps.length ≤ N.length := by have := congrArg List.length S.pre; rw [List.length_take] at this; omega
  refine F.okX S (fun vs H Q E h => ?_) (fun cdv A outer s H vs Q E hr h => ?_)
  · obtain ⟨Hs, x, Rs, _, r, _⟩ := h
    rw [r.len, hl]
  · obtain ⟨Hs, x, Rs, e, r, hp, q, qx⟩ := h
    exact ⟨t E, hb cdv A outer s H E hr, hd x vs (by rw [r.len, hl]) hp E _ Hs H (L2.start N vs) _ (rs_entB e r (by rw [hl]; exact hN)) (lk_bX q qx)⟩
end
section
variable [TbC] {X : Cx} {CX : CXT} {k : Nat} {C : Addr} {W : WX} {x m : Str} {p pos apos : Pos} {e o : Expr} {es : List Expr} {ta : TE} {t : TA} {pl : Sem Bool}
theorem pe_methS {alts : List (Addr × Sp)} (he : PE X o ta) (al : Alts X CX k m alts) (hr : Room k X.A) (hx : ∀ σ, PassesAt CX X σ (WE W σ)) (ha : PA X (e :: es) t)
    (hst : starEach (e :: es) X.env = (false, eval e X.env) :: starEach es X.env := by rfl) (hpl : (backTo pos (starEach es X.env)).any (·.1) = false := by rfl)
    (ht : eval (.Call (.Attribute o m apos) (e :: es) [] pos) X.env = (do
      let ov ← eval o X.env
      standAt apos.atName
      let (f, first) ← holding [ov] (getMethod ov m pl)
      callWith pos f first (backTo pos (starEach (e :: es) X.env)) (backToKw pos (keywordEach [] X.env))) := by rfl) :
    PE X (.Call (.Attribute o m apos) (e :: es) [] pos) (tMethS alts m W ta t) := by
  refine ⟨fun pins s σ H Q I h => ?_⟩
  refine PySem.W.methodCall_KW (pl := pl) (thn (he.run pins s σ H _ I h) fun u s1 ⟨x, H1, I1, rx, a, C, dx, fs, sp, ex, ea, hin, l, q⟩ => ?_) ht
  subst ex
  obtain rfl : u = Value.ref a := rx
  obtain ⟨f, fd, ps, c, hm, F, hb⟩ := al.get hin
  refine getmeth_ok I1 ea c hm l ?_
  refine PySem.W.callWith_K (first := [.ref a]) (h₀ := X.base) I.ok.mod.kin hm.kp (thn (ha.run pos pins s1 σ H1 _ I1 q) fun us s2 ⟨vs, H2, I2, r, q2⟩ => ⟨I2.kIn, ?_⟩) hst hpl
  exact run_fnS (us := .ref a :: us) (vs := .ref a :: vs) F hr hb (hx σ) I2 (.cons rfl r) q2
end
/-! ### two promises; effects on the left -/
theorem FnOk.or {P : Program} {w : World} {K : PySem.W.Frag} {mg : Str → Option Value} {base : Heap} {CX : CXT} {k : Nat} {f : Addr} {fd : FuncData} {ps : List Str} {a b : Sp} (h1 : FnOk P w K mg base CX k f fd ps a) (h2 : FnOk P w K mg base CX k f fd ps b) : FnOk P w K mg base CX k f fd ps (spOr a b) :=
  ⟨fun vs H Q E h => h.elim (h1.len vs H Q E) (h2.len vs H Q E), fun A outer s H args us vs Q E hr e0 hb r h => h.elim (h1.run A outer s H args us vs Q E hr e0 hb r) (h2.run A outer s H args us vs Q E hr e0 hb r)⟩
section
variable [TbC] {K : PySem.W.Frag} {ρ ρ' : Env} {te ta tb tv : TE} {d e : D} {ds es : List D} {R : DEnds}
theorem ev_methDw {C : Addr} {ns : List Str} {alts : List (Addr × Sp)} {sp : Sp} {m : Str} {E : XK} {t : TA} {α : Type} {pre : α → Prop} {arg : α → List D} {res : α → D} (x : α) (h : EvD K ta ρ (.obj C ns ds)) (ht : EvA K t ρ es) (hin : (C, sp) ∈ alts) (hsp : ∀ vs H Q E, spG K pre arg res vs H Q E → sp vs H Q E) (hm : ns.contains m = false)
    (ha : arg x = .obj C ns ds :: es) (p : pre x) : EvD K (tMethD alts m E ta t) ρ (res x) := fun B Hs H σ r Q q =>
  h B Hs H σ r _ fun Hs1 H1 v g1 xo => by
    cases xo with
    | @obj a _ dx _ vs _ hp xs =>
      refine ⟨a, C, dx, _, _, rfl, g1.lv _ _ hp, hin, look_none hm, ht B Hs1 H1 σ (r.grow g1) _ fun Hs2 H2 ws g2 ys => hsp _ _ _ _ ?_⟩
      refine ⟨Hs2, x, ⟨g2.lv, (r.grow (g1.trans g2)).tb⟩, by rw [ha]; exact .cons (.obj (g2.sh _ _ hp) (xs.mono g2.sh)) ys, p, fun Hs' H' w d g y e => ?_⟩
      exact q Hs' H' w ((g1.trans g2).trans g) (e ▸ y)
theorem ev_methBw {α : Type} {pre : α → Prop} {arg : α → List AV} {post : α → D → List AV → Prop} {exc : α → Value → Option (List (Str × D)) → List AV → Prop} {alts : List (Addr × Sp)} {sp : Sp} {m : Str} {i : Nat} {nw : Nw} {C : Addr} {ns : List Str} {xs : List O} {ar : List AR} {t : TA} {E : XK} (x : α)
    (hi : ρ[i]? = some (some (.tr K nw (.ob C ns xs)))) (ht : EvAS K t ρ ar) (hin : (C, sp) ∈ alts) (hsp : ∀ vs H Q E, spB K pre arg post exc vs H Q E → sp vs H Q E) (hm : ns.contains m = false) (ha : ArgOk K ρ (.inr (i, nw) :: ar) (arg x)) (p : pre x) (sep : sepB (.inr (i, nw) :: ar) = true := by rfl)
    (sh : ∀ d as, post x d as → Shp (.inr (i, nw) :: ar) as) (hx : ∀ cls fs as, ¬ exc x cls fs as) :
    EvE K (tMethD alts m E (tVar i) t) ρ (fun d ρ' => ∃ as, post x d as ∧ ρ' = back K (allOf (.inr (i, nw) :: ar)) (.inr (i, nw) :: ar) as ρ) := fun B Hs H σ r Q q => by
  obtain ⟨R0, rg0⟩ := r.reg
  obtain ⟨v0, hv0, hh⟩ := rg0.1 i _ hi
  obtain ⟨a, dx, vs0, R1, rfl, _, _, _, e0⟩ := (hh Hs (Ex.refl Hs)).2.ob_inv
  have hHa : H a = some (.ins C dx (ns.zip vs0)) := (rg0.2.1 i a _ (by rw [e0]; exact upd_same)).1
  refine ⟨.ref a, hv0, a, C, dx, _, _, rfl, hHa, hin, look_none hm, ht B Hs H σ r _ fun Hs1 H1 vs g xs1 => hsp _ _ _ _ ?_⟩
  have r1 := r.grow g
  obtain ⟨R, rg⟩ := r1.reg
  have hv : VsOk K Hs1 σ (.ref a :: vs) (.inr (i, nw) :: ar) := ⟨hv0, xs1⟩
  refine ⟨Hs1, x, _, ⟨g.lv, r1.tb⟩, r1.lay rg hv ha sep, p, fun Hs' H' v d as Rs' g2 b y z => ?_, fun _ _ cls _ fs as _ _ _ _ z => (hx cls fs as z).elim⟩
  exact q Hs' H' v d _ (g.sh.trans g2.sh) (r1.behind rg hv ha sep (sh d as z) g2 b) y ⟨as, z, rfl⟩
/-- an effect on the left of an operator; it gives a number -/
theorem eve_op1 {r : R2} {Z Y : D → Env → Prop} (h : EvE K ta ρ Z) (q : ∀ d ρ', Z d ρ' → ∃ (i : Int) (e : D), d = .int i ∧ EvD K (tOp r (tC (.int i)) tb) ρ' e ∧ Y e ρ') : EvE K (tOp r ta tb) ρ Y := fun B Hs H σ rr Q qq =>
  h B Hs H σ rr _ fun Hs1 H1 v d ρ' e1 r1 x z => by
    obtain ⟨i, e, rfl, he, y⟩ := q d ρ' z
    cases x
    exact he B Hs1 H1 σ r1 Q fun Hs2 H2 w g xw => qq Hs2 H2 w e ρ' (e1.trans g.sh) (r1.grow g) xw y
/-- an effect on the left of 'and' -/
theorem eve_and1 {Z Y : D → Env → Prop} (h : EvE K ta ρ Z) (q : ∀ d ρ', Z d ρ' → ∃ (b : Bool) (e : D), d = .bl b ∧ EvD K (tAndV (tC (.bl b)) tb) ρ' e ∧ Y e ρ') : EvE K (tAndV ta tb) ρ Y := fun B Hs H σ rr Q qq =>
  h B Hs H σ rr _ fun Hs1 H1 v d ρ' e1 r1 x z => by
    obtain ⟨b, e, rfl, he, y⟩ := q d ρ' z
    cases x
    exact he B Hs1 H1 σ r1 Q fun Hs2 H2 w g xw => qq Hs2 H2 w e ρ' (e1.trans g.sh) (r1.grow g) xw y
end
end DL

/-! DStr: texts. -/
namespace DL
open PySem L2
theorem repl_strs [TbC] {K : PySem.W.Frag} {Hs : Hp} : ∀ ys : List Str, RepL K Hs (ys.map V.str) (ys.map D.str)
  | [] => .nil
  | y :: ys => .cons (.str y) (repl_strs ys)
section
variable [TbC] {K : PySem.W.Frag} {ρ ρ' : Env} {te ta tb ti : TE} {d e : D} {ds es : List D} {tt : TT} {R : DEnds}
/-- str(i) -/
theorem ev_strI {i : Int} (h : EvD K ta ρ (.int i)) (hi : i.natAbs.log2 < 1920) : EvD K (tCB (fun xs H Q => ∃ i, xs = [V.int i] ∧ i.natAbs.log2 < 1920 ∧ Q (.str (toString i)) H) (tCons ta tNil)) ρ (.str (toString i)) := fun B Hs H σ r Q q =>
  h B Hs H σ r _ fun Hs1 H1 v g x => by
    cases x
    exact ⟨i, rfl, hi, q Hs1 H1 _ g (.str _)⟩
/-- a.join(ys) -/
abbrev rJoin (K : PySem.W.Frag) : V → List V → Hp → VK → Prop := fun x xs H Q => ∃ a p, ∃ ys : List Str, x = .str a ∧ xs = [.ref p] ∧ (SqL K H p (ys.map V.str) ∨ SqT K H p (ys.map V.str)) ∧
    (ys.map (·.length)).sum + ys.length * a.length ≤ 16777216 ∧ Q (.str (Txt.join a ys)) H
theorem joinK {X : Cx} (h : X.K = K) : MtR X "str.join" (rJoin K) := by subst h; exact mt_join
theorem ev_join {a : Str} {ys : List Str} (h : EvD K ta ρ (.str a)) (hb : EvB K tb ρ (ys.map .str)) (hl : (ys.map (·.length)).sum + ys.length * a.length ≤ 16777216) : EvD K (tBM K "str" (rJoin K) ta (tCons tb tNil)) ρ (.str (Txt.join a ys)) := fun B Hs H σ r Q q =>
  h B Hs H σ r _ fun Hs1 H1 v g x => by
    cases x
    refine ⟨rfl, hb B Hs1 H1 σ (r.grow g) _ fun Hs2 H2 p vs g2 hp xs => ?_⟩
    have e := RepL.strs xs
    subst e
    exact ⟨a, p, ys, rfl, rfl, .inl hp, hl, q Hs2 H2 _ (g.trans g2) (.str _)⟩
/-- a.split(b) -/
abbrev rSplit : V → List V → Hp → VK → Prop := fun x xs H Q => ∃ a b, x = V.str a ∧ xs = [V.str b] ∧ (b.length == 0) = false ∧ a.length + 2 ≤ sizeLine ∧ rNewStrs (Txt.split a b) H Q
theorem ef_split {a b : Str} (h : EvD K ta ρ (.str a)) (hb : EvD K tb ρ (.str b)) (h0 : (b.length == 0) = false) (hl : a.length + 2 ≤ sizeLine) : EvF K (tBM K "str" rSplit ta (tCons tb tNil)) ρ ((Txt.split a b).map .str) := fun B Hs H σ r Q q =>
  h B Hs H σ r _ fun Hs1 H1 v g x => by
    cases x
    refine ⟨rfl, hb B Hs1 H1 σ (r.grow g) _ fun Hs2 H2 w g2 y => ?_⟩
    cases y
    refine ⟨a, b, rfl, rfl, h0, hl, fun l hn => ?_⟩
    obtain ⟨n1, n2⟩ := gr_none (g.trans g2) hn
    exact q Hs2 _ l _ ((g.trans g2).trans (Gr.newO g2.lv hn)) n1 n2 upd_same (repl_strs _)
/-- a.startswith(b) -/
abbrev rSw : V → List V → Hp → VK → Prop := fun x xs H Q => ∃ a b, x = V.str a ∧ xs = [V.str b] ∧ Q (.bl (Txt.startswith a b)) H
theorem ev_sw {a b : Str} (h : EvD K ta ρ (.str a)) (hb : EvD K tb ρ (.str b)) : EvD K (tBM K "str" rSw ta (tCons tb tNil)) ρ (.bl (Txt.startswith a b)) := fun B Hs H σ r Q q =>
  h B Hs H σ r _ fun Hs1 H1 v g x => by
    cases x
    refine ⟨rfl, hb B Hs1 H1 σ (r.grow g) _ fun Hs2 H2 w g2 y => ?_⟩
    cases y
    exact ⟨a, b, rfl, rfl, q Hs2 H2 _ (g.trans g2) (.bl _)⟩
/-- int(a) -/
abbrev rIntS : List V → Hp → VK → Prop := fun xs H Q => ∃ a n, xs = [V.str a] ∧ PySem.intText? a = some n ∧ a.length ≤ 640 ∧ Q (.int n) H
theorem ev_intS {a : Str} {n : Int} (h : EvD K ta ρ (.str a)) (hn : PySem.intText? a = some n) (hl : a.length ≤ 640) : EvD K (tCB rIntS (tCons ta tNil)) ρ (.int n) := fun B Hs H σ r Q q =>
  h B Hs H σ r _ fun Hs1 H1 v g x => by
    cases x
    exact ⟨a, n, rfl, hn, hl, q Hs1 H1 _ g (.int _)⟩
/-- a[lo:hi] -/
theorem ev_slS {a : Str} {tl th : TO} {lo hi : Option Int} (h : EvD K ta ρ (.str a)) (hl : EvO K tl ρ lo) (hh : EvO K th ρ hi) (hz : a.length ≤ sizeLine) : EvD K (tSl rSlS ta tl th) ρ (.str (cutS a lo hi)) := fun B Hs H σ r Q q =>
  h B Hs H σ r _ fun Hs1 H1 v g1 x => hl B Hs1 H1 σ (r.grow g1) _ fun Hs2 H2 g2 => hh B Hs2 H2 σ ((r.grow g1).grow g2) _ fun Hs3 H3 g3 => by
    cases x
    exact ⟨a, rfl, hz, q Hs3 H3 _ ((g1.trans g2).trans g3) (.str _)⟩
/-- a + b -/
theorem ev_addS {a b : Str} (h : EvD K ta ρ (.str a)) (hb : EvD K tb ρ (.str b)) (hl : a.length + b.length ≤ sizeLine) : EvD K (tOp (rAddA K) ta tb) ρ (.str (a ++ b)) := fun B Hs H σ r Q q =>
  h B Hs H σ r _ fun Hs1 H1 v g x => hb B Hs1 H1 σ (r.grow g) _ fun Hs2 H2 w g2 y => by
    cases x
    cases y
    exact .inr (.inr (.inr ⟨a, b, rfl, rfl, hl, q Hs2 H2 _ (g.trans g2) (.str _)⟩))
/-- the signs of a text, one after the other -/
theorem ei_str {a : Str} (h : EvD K ta ρ (.str a)) : EvI K (iStr ta) ρ (a.cps.toList.map fun c => D.str ⟨#[c]⟩) := fun B Hs H σ r R q => h B Hs H σ r _ fun Hs1 H1 v g x => by
  cases x
  refine ⟨a, rfl, q _ Hs1 H1 g fun i Hs2 H2 e1 e2 => ⟨fun d hd => ?_, fun hi => ?_⟩⟩
  · rw [List.getElem?_map] at hd
    obtain ⟨c, hc, rfl⟩ := Option.map_eq_some_iff.mp hd
    rw [Array.getElem?_toList] at hc
    refine ⟨(Array.getElem?_eq_some_iff.mp hc).1, fun x H3 y => ?_⟩
    obtain ⟨rfl, c', hc', rfl⟩ := y
    rw [hc] at hc'
    cases hc'
    exact ⟨Hs2, Gr.refl e2, .str _⟩
  · rw [List.length_map, Array.length_toList] at hi
    show a.cps.size ≤ i
    omega
theorem ev_notInSg {c : Nat} {z : Str} (h : EvD K ta ρ (.str ⟨#[c]⟩)) (hb : EvD K tb ρ (.str z)) : EvD K (tOp (rNotInA K) ta tb) ρ (.bl (!decide (c ∈ z.cps.toList))) := fun B Hs H σ r Q q =>
  h B Hs H σ r _ fun Hs1 H1 v g x => hb B Hs1 H1 σ (r.grow g) _ fun Hs2 H2 w g2 y => by
    cases x
    cases y
    exact .inr (.inr (.inr ⟨c, z, rfl, rfl, q Hs2 H2 _ (g.trans g2) (.bl _)⟩))
end
/-! ### a tuple of texts that the top has -/
def tupB (K : PySem.W.Frag) (p : Addr) (ys : List Str) : Bool := match K.lookup p with
  | some ⟨.type "tuple", none, .seq its _, _⟩ => decide (its.toList.length ≤ 1000) && decide (its.toList.length = ys.length) && (its.toList.zip ys).all fun q => Value.isStrOf q.2 q.1
  | _ => false
def TupC (K : PySem.W.Frag) (p : Addr) (ys : List Str) : Prop := ∃ (o : Obj) (its : Array Value) (n : Nat), K.lookup p = some o ∧ o.cls = .type "tuple" ∧ o.dict = none ∧ o.data = .seq its n ∧ its.size ≤ sizeLine ∧ Vals (ys.map V.str) its.toList
theorem vals_zip : ∀ {its : List Value} {ys : List Str}, its.length = ys.length → ((its.zip ys).all fun q => Value.isStrOf q.2 q.1) = true → Vals (ys.map V.str) its
  | [], [], _, _ => .nil
  | v :: its, y :: ys, hl, h => by
    rw [List.zip_cons_cons, List.all_cons, Bool.and_eq_true] at h
    exact .cons (Value.isStrOf_shape h.1) (vals_zip (Nat.succ.inj hl) h.2)
theorem tupc_of {K : PySem.W.Frag} {p : Addr} {ys : List Str} (q : tupB K p ys = true) : TupC K p ys := by
  unfold tupB at q
  split at q
  · rename_i its n sl ho
    simp only [Bool.and_eq_true, decide_eq_true_eq] at q
    exact ⟨_, its, n, ho, rfl, rfl, rfl, by rw [sizeLine_eq, ← Array.length_toList]; omega, vals_zip q.1.2 q.2⟩
  · cases q
abbrev rTIndex (K : PySem.W.Frag) : V → List V → Hp → VK → Prop := fun x xs H Q => ∃ p, ∃ ys : List Str, ∃ z j, x = .ref p ∧ xs = [.str z] ∧ SqT K H p (ys.map V.str) ∧ ys[j]? = some z ∧ (∀ m, m < j → ys[m]? ≠ some z) ∧ Q (.int (j : Nat)) H
theorem tindexK {X : Cx} {K : PySem.W.Frag} (h : X.K = K) : MtR X "tuple.index" (rTIndex K) := by subst h; exact mt_tup_index
theorem ev_tindex [TbC] {K : PySem.W.Frag} {ρ : Env} {tb : TE} {p : Addr} {ys : List Str} {z : Str} {j : Nat} (T : TupC K p ys) (hb : EvD K tb ρ (.str z)) (hj : ys[j]? = some z) (hm : ∀ m, m < j → ys[m]? ≠ some z) : EvD K (tBM K "tuple" (rTIndex K) (tC (.ref p)) (tCons tb tNil)) ρ (.int (j : Nat)) := fun B Hs H σ r Q q => by
  obtain ⟨o, its, n, h1, h2, h3, h4, h5, h6⟩ := T
  exact ⟨.inr (.inl ⟨rfl, o, h1, h2, h3⟩), hb B Hs H σ r _ fun Hs2 H2 w g2 y => by
    cases y
    exact ⟨p, ys, z, j, rfl, rfl, .inr ⟨o, its, n, h1, h2, h4, h5, h6⟩, hj, hm, q Hs2 H2 _ g2 (.int _)⟩⟩
end DL

local macro_rules | `(tactic| walk_at "dl side") => `(tactic| first
  | assumption
  | decide
  | omega
  | exact DL.divW_c (by omega) (by omega)
  | exact DL.atI_int (by omega) (by omega)
  | exact DL.atI2 (by omega) (by omega)
  | exact DL.atI3 (by omega) (by omega)
  | exact DL.atI4 (by omega) (by omega)
  | exact L2.atI_nat rfl
  | exact L2.atI_last _ _
  | exact DL.mulW_l (by omega) (by omega)
  | exact DL.mulW_r (by omega) (by omega)
  | exact DL.mulW_l (by decide) (by decide)
  | exact DL.mulW_r (by decide) (by decide)
  | exact ⟨by decide, by decide, by decide⟩
  | (refine ⟨?_, ?_⟩ <;> omega)
  | (refine ⟨?_, ?_, ?_⟩ <;> omega)
  | (refine ⟨?_, ?_, ?_, ?_⟩ <;> omega)
  | exact trivial
  | decide +kernel
  | exact Nat.le_of_ble_eq_true rfl
  | rfl)
local macro_rules | `(tactic| walk_at "dl ev") => `(tactic| first
  | assumption
  | with_reducible exact DL.ev_ci
  | with_reducible exact DL.ev_cs
  | with_reducible exact DL.ev_cb
  | with_reducible exact DL.ev_cn
  | with_reducible exact DL.ev_cf
  | with_reducible exact DL.ev_ct
  | ((with_reducible apply DL.ev_var); rfl)
  | ((with_reducible apply DL.em_var); rfl)
  | with_reducible exact DL.ea_nil
  | ((with_reducible apply DL.ea_cons) <;> walk_at "dl ev")
  | ((with_reducible apply DL.ev_addI) <;> walk_at "dl ev")
  | ((with_reducible apply DL.ev_I) <;> walk_at "dl ev")
  | ((with_reducible apply DL.ev_Ib) <;> walk_at "dl ev")
  | ((with_reducible apply DL.ev_mulI) <;> walk_at "dl ev")
  | ((with_reducible apply DL.ev_IC) <;> walk_at "dl ev")
  | ((with_reducible apply DL.ev_U) <;> walk_at "dl ev")
  | ((with_reducible apply DL.ev_eqI) <;> walk_at "dl ev")
  | ((with_reducible apply DL.ev_neI) <;> walk_at "dl ev")
  | ((with_reducible apply DL.ev_eqL) <;> walk_at "dl ev")
  | ((with_reducible apply DL.ev_neL) <;> walk_at "dl ev")
  | ((with_reducible apply DL.ev_eqS) <;> walk_at "dl ev")
  | ((with_reducible apply DL.ev_neS) <;> walk_at "dl ev")
  | ((with_reducible apply DL.ev_eqB) <;> walk_at "dl ev")
  | ((with_reducible apply DL.ev_neB) <;> walk_at "dl ev")
  | ((with_reducible apply DL.et_t) <;> walk_at "dl ev")
  | ((with_reducible apply DL.et_B) <;> walk_at "dl ev")
  | ((with_reducible apply DL.et_not) <;> walk_at "dl ev")
  | ((with_reducible apply DL.ev_not) <;> walk_at "dl ev")
  | ((with_reducible apply DL.et_and') <;> walk_at "dl ev")
  | ((with_reducible apply DL.et_or') <;> walk_at "dl ev")
  | ((with_reducible apply DL.ev_and') <;> walk_at "dl ev")
  | ((with_reducible apply DL.ev_or') <;> walk_at "dl ev")
  | with_reducible exact DL.et_yes
  | ((with_reducible apply DL.ev_chain) <;> walk_at "dl ev")
  | ((with_reducible apply DL.ev_lenMT) <;> walk_at "dl ev")
  | ((with_reducible apply DL.ev_lenM) <;> walk_at "dl ev")
  | ((with_reducible apply DL.ev_lenS1) <;> walk_at "dl ev")
  | ((with_reducible apply DL.ev_lenTA) <;> walk_at "dl ev")
  | ((with_reducible apply DL.ev_lenLA) <;> walk_at "dl ev")
  | ((with_reducible apply DL.ev_tup) <;> walk_at "dl ev")
  | ((with_reducible apply DL.ef_lst) <;> walk_at "dl ev")
  | ((with_reducible apply DL.ef_listR2) <;> walk_at "dl ev")
  | ((with_reducible apply DL.ef_listR1) <;> walk_at "dl ev")
  | ((with_reducible apply DL.ev_ixt) <;> walk_at "dl ev")
  | ((with_reducible apply DL.ev_ixl) <;> walk_at "dl ev")
  | ((with_reducible apply DL.ef_slL) <;> walk_at "dl ev")
  | ((with_reducible apply DL.ef_addL) <;> walk_at "dl ev")
  | ((with_reducible apply DL.ef_mulL) <;> walk_at "dl ev")
  | ((with_reducible apply DL.ef_listT) <;> walk_at "dl ev")
  | ((with_reducible apply DL.ef_listL) <;> walk_at "dl ev")
  | ((with_reducible apply DL.ev_tupleT) <;> walk_at "dl ev")
  | ((with_reducible apply DL.ev_tupleL) <;> walk_at "dl ev")
  | ((with_reducible apply DL.ev_intI) <;> walk_at "dl ev")
  | ((with_reducible apply DL.ev_intB) <;> walk_at "dl ev")
  | ((with_reducible apply DL.ev_divmod) <;> walk_at "dl ev")
  | ((with_reducible apply DL.ev_slT) <;> walk_at "dl ev")
  | ((with_reducible apply DL.ev_addT) <;> walk_at "dl ev")
  | ((with_reducible apply DL.ef_rev) <;> walk_at "dl ev")
  | ((with_reducible apply DL.ev_inI) <;> walk_at "dl ev")
  | ((with_reducible apply DL.ev_notInI) <;> walk_at "dl ev")
  | ((with_reducible apply DL.ev_abs) <;> walk_at "dl ev")
  | ((with_reducible apply DL.ev_max2) <;> walk_at "dl ev")
  | ((with_reducible apply DL.ev_min2) <;> walk_at "dl ev")
  | ((with_reducible apply DL.isi_int_int) <;> walk_at "dl ev")
  | ((with_reducible apply DL.isi_int_bool) <;> walk_at "dl ev")
  | ((with_reducible apply DL.isi_bool_bool) <;> walk_at "dl ev")
  | ((with_reducible apply DL.isi_bool_int) <;> walk_at "dl ev")
  | ((with_reducible apply DL.isi_lst_list) <;> walk_at "dl ev")
  | ((with_reducible apply DL.isi_tup_tuple) <;> walk_at "dl ev")
  | ((with_reducible apply DL.isi_lst_tuple) <;> walk_at "dl ev")
  | ((with_reducible apply DL.isi_str_str) <;> walk_at "dl ev")
  | with_reducible exact DL.eo_none
  | ((with_reducible apply DL.eo_some) <;> walk_at "dl ev")
  | ((with_reducible apply DL.ei_r1) <;> walk_at "dl ev")
  | ((with_reducible apply DL.ei_r2) <;> walk_at "dl ev")
  | ((with_reducible apply DL.ei_seqT) <;> walk_at "dl ev")
  | ((with_reducible apply DL.ei_seqL) <;> walk_at "dl ev")
  | ((with_reducible apply DL.ei_seqS) <;> walk_at "dl ev")
  | ((with_reducible apply DL.ei_enumL) <;> walk_at "dl ev")
  | walk_at "dl own"
  | ((with_reducible apply DL.EvF.v) <;> walk_at "dl ev")
  | ((with_reducible apply DL.EvM.b) <;> walk_at "dl ev")
  | ((with_reducible apply DL.EvF.m) <;> walk_at "dl ev")
  | ((with_reducible apply DL.EvD.m) <;> walk_at "dl ev")
  | ((with_reducible apply DL.EvD.s) <;> walk_at "dl ev")
  | ((with_reducible apply DL.EvD.r) <;> walk_at "dl ev")
  | ((with_reducible apply DL.EvM.r) <;> walk_at "dl ev")
  | (fail_if_success (with_reducible show DL.EvD _ _ _ _)
     fail_if_success (with_reducible show DL.EvF _ _ _ _)
     fail_if_success (with_reducible show DL.EvB _ _ _ _)
     fail_if_success (with_reducible show DL.EvM _ _ _ _)
     fail_if_success (with_reducible show DL.EvR _ _ _ _)
     fail_if_success (with_reducible show DL.EvT _ _ _ _)
     fail_if_success (with_reducible show DL.EvA _ _ _ _)
     fail_if_success (with_reducible show DL.EvO _ _ _ _)
     fail_if_success (with_reducible show DL.EvI _ _ _ _)
     first | walk_at "dl side" | skip))
local macro_rules | `(tactic| walk_at "dl own") => `(tactic| fail)
local macro_rules | `(tactic| walk_at "dl go") => `(tactic| first
  | ((with_reducible refine DL.xs_seq ?_); walk_at "dl go")
  | ((with_reducible refine DL.xs_next ?_); (try dsimp only); walk_at "dl go")
  | ((with_reducible refine DL.xs_brk ?_); (try dsimp only); walk_at "dl go")
  | ((with_reducible refine DL.xs_cont ?_); (try dsimp only); walk_at "dl go")
  | ((with_reducible apply DL.xs_asg); (· walk_at "dl ev"); (· exact DL.eg_name); (try dsimp only); walk_at "dl go")
  | ((with_reducible apply DL.xs_asgF); (· walk_at "dl ev"); (try dsimp only); walk_at "dl go")
  | ((with_reducible apply DL.xs_aug); (· exact rfl); (· walk_at "dl ev"); (try dsimp only); walk_at "dl go")
  | ((with_reducible apply DL.xs_ret); (· walk_at "dl ev"); (try dsimp only))
  | ((with_reducible apply DL.xs_if); (· walk_at "dl ev"))
  | skip)

namespace Lw
open PySem L2 DL

def topS (i : Nat) : Stmt := PySem.Challenge.pw_oneroom_k62_papers_shown.main.body.getD i (.Pass ⟨0, 0, 0, 0⟩)
abbrev s__law_length : Stmt := (topS 31)
abbrev s__law_cell_at : Stmt := (topS 25)
abbrev s__law_mixed : Stmt := (topS 26)
abbrev s__law_number : Stmt := (topS 28)
abbrev s__law_sign : Stmt := (topS 27)
abbrev s__law_rows : Stmt := (topS 29)
abbrev s__law_shown : Stmt := (topS 30)
abbrev s_number_of : Stmt := (topS 21)
abbrev s_row_read : Stmt := (topS 22)
abbrev s_Take_told : Stmt := (inClass (topS 9) 8)
abbrev s_Put_told : Stmt := (inClass (topS 10) 4)
abbrev s_row_shown : Stmt := (topS 19)
abbrev s_numbers_of : Stmt := (topS 18)
abbrev s_sum_of : Stmt := (topS 17)
abbrev s_paper_text : Stmt := (topS 20)
abbrev s_is_number : Stmt := (topS 6)
abbrev s_is_take : Stmt := (topS 11)
abbrev s_is_sign : Stmt := (topS 7)
abbrev s_is_put : Stmt := (topS 12)
abbrev s_Row___init__ : Stmt := (inClass (topS 8) 0)
abbrev s_Take___init__ : Stmt := (inClass (topS 9) 0)
abbrev s_Put___init__ : Stmt := (inClass (topS 10) 0)
abbrev s_row_of : Stmt := (topS 13)
abbrev s_read_paper : Stmt := (topS 23)
abbrev s__law_plain : Stmt := (topS 32)
abbrev s_law : Stmt := (topS 33)
theorem sc__law_length : FnScope ["_law_cell"] ["_law_cell"] (defScope s__law_length) := ⟨rfl, rfl, rfl, by decide +kernel, rfl, by decide +kernel, by decide +kernel⟩
theorem sc__law_cell_at : FnScope ["_law_script", "_law_k"] ["_law_script", "_law_k"] (defScope s__law_cell_at) := ⟨rfl, rfl, rfl, by decide +kernel, rfl, by decide +kernel, by decide +kernel⟩
theorem sc__law_mixed : FnScope ["_law_cell", "_law_k", "_law_number_here"] ["_law_cell", "_law_k"] (defScope s__law_mixed) := ⟨rfl, rfl, rfl, by decide +kernel, rfl, by decide +kernel, by decide +kernel⟩
theorem sc__law_number : FnScope ["_law_draw", "_law_cell"] ["_law_draw", "_law_cell"] (defScope s__law_number) := ⟨rfl, rfl, rfl, by decide +kernel, rfl, by decide +kernel, by decide +kernel⟩
theorem sc__law_sign : FnScope ["_law_cell", "_law_k", "_law_draw"] ["_law_cell", "_law_k"] (defScope s__law_sign) := ⟨rfl, rfl, rfl, by decide +kernel, rfl, by decide +kernel, by decide +kernel⟩
theorem sc__law_rows : FnScope ["_law_script", "_law_rows_here", "_law_k", "_law_draw", "_law_to", "_law_signs", "_law_j"] ["_law_script"] (defScope s__law_rows) := ⟨rfl, rfl, rfl, by decide +kernel, rfl, by decide +kernel, by decide +kernel⟩
theorem sc__law_shown : FnScope ["_law_paper", "_law_old", "_law_new", "_law_rows_here", "_law_lines", "_law_numbers", "_law_row", "_law_some", "_law_total", "_law_number_here"] ["_law_paper"] (defScope s__law_shown) := ⟨rfl, rfl, rfl, by decide +kernel, rfl, by decide +kernel, by decide +kernel⟩
theorem sc_number_of : FnScope ["word", "figures", "number", "sign"] ["word"] (defScope s_number_of) := ⟨rfl, rfl, rfl, by decide +kernel, rfl, by decide +kernel, by decide +kernel⟩
theorem sc_row_read : FnScope ["words", "numbers", "word"] ["words"] (defScope s_row_read) := ⟨rfl, rfl, rfl, by decide +kernel, rfl, by decide +kernel, by decide +kernel⟩
theorem sc_Take_told : FnScope ["self"] ["self"] (defScope s_Take_told) := ⟨rfl, rfl, rfl, by decide +kernel, rfl, by decide +kernel, by decide +kernel⟩
theorem sc_Put_told : FnScope ["self"] ["self"] (defScope s_Put_told) := ⟨rfl, rfl, rfl, by decide +kernel, rfl, by decide +kernel, by decide +kernel⟩
theorem sc_row_shown : FnScope ["word", "numbers", "number"] ["word", "numbers"] (defScope s_row_shown) := ⟨rfl, rfl, rfl, by decide +kernel, rfl, by decide +kernel, by decide +kernel⟩
theorem sc_numbers_of : FnScope ["told"] ["told"] (defScope s_numbers_of) := ⟨rfl, rfl, rfl, by decide +kernel, rfl, by decide +kernel, by decide +kernel⟩
theorem sc_sum_of : FnScope ["numbers", "found", "number"] ["numbers"] (defScope s_sum_of) := ⟨rfl, rfl, rfl, by decide +kernel, rfl, by decide +kernel, by decide +kernel⟩
theorem sc_paper_text : FnScope ["paper", "old", "new", "rows", "some", "shown", "told", "numbers"] ["paper"] (defScope s_paper_text) := ⟨rfl, rfl, rfl, by decide +kernel, rfl, by decide +kernel, by decide +kernel⟩
theorem sc_is_number : FnScope ["thing"] ["thing"] (defScope s_is_number) := ⟨rfl, rfl, rfl, by decide +kernel, rfl, by decide +kernel, by decide +kernel⟩
theorem sc_is_take : FnScope ["told", "part"] ["told"] (defScope s_is_take) := ⟨rfl, rfl, rfl, by decide +kernel, rfl, by decide +kernel, by decide +kernel⟩
theorem sc_is_sign : FnScope ["thing"] ["thing"] (defScope s_is_sign) := ⟨rfl, rfl, rfl, by decide +kernel, rfl, by decide +kernel, by decide +kernel⟩
theorem sc_is_put : FnScope ["told", "sign"] ["told"] (defScope s_is_put) := ⟨rfl, rfl, rfl, by decide +kernel, rfl, by decide +kernel, by decide +kernel⟩
theorem sc_Row___init__ : FnScope ["self", "to"] ["self", "to"] (defScope s_Row___init__) := ⟨rfl, rfl, rfl, by decide +kernel, rfl, by decide +kernel, by decide +kernel⟩
theorem sc_Take___init__ : FnScope ["self", "to", "start", "count"] ["self", "to", "start", "count"] (defScope s_Take___init__) := ⟨rfl, rfl, rfl, by decide +kernel, rfl, by decide +kernel, by decide +kernel⟩
theorem sc_Put___init__ : FnScope ["self", "to", "signs"] ["self", "to", "signs"] (defScope s_Put___init__) := ⟨rfl, rfl, rfl, by decide +kernel, rfl, by decide +kernel, by decide +kernel⟩
theorem sc_row_of : FnScope ["told"] ["told"] (defScope s_row_of) := ⟨rfl, rfl, rfl, by decide +kernel, rfl, by decide +kernel, by decide +kernel⟩
theorem sc_read_paper : FnScope ["text", "rows", "some", "paper", "shown", "row", "words", "told"] ["text"] (defScope s_read_paper) := ⟨rfl, rfl, rfl, by decide +kernel, rfl, by decide +kernel, by decide +kernel⟩
theorem sc__law_plain : FnScope ["_law_paper", "_law_numbers", "_law_row", "_law_number_here"] ["_law_paper"] (defScope s__law_plain) := ⟨rfl, rfl, rfl, by decide +kernel, rfl, by decide +kernel, by decide +kernel⟩
theorem sc_law : FnScope ["_law_script", "_law_old", "_law_new", "_law_paper", "_law_due", "_law_k", "_law_got"] ["_law_script"] (defScope s_law) := ⟨rfl, rfl, rfl, by decide +kernel, rfl, by decide +kernel, by decide +kernel⟩
instance : DL.TbC := ⟨[]⟩
/-- what the top has written -/
structure Tx (K : PySem.W.Frag) (mg : Str → Option Value) where
  a__law_length : Addr
  d__law_length : FuncData
  F__law_length : Fun K "_law_length" "_law_length" s__law_length a__law_length d__law_length
  b__law_length : Binds K d__law_length ["_law_cell"] []
  g__law_length : mg "_law_length" = some (.ref a__law_length)
  a__law_cell_at : Addr
  d__law_cell_at : FuncData
  F__law_cell_at : Fun K "_law_cell_at" "_law_cell_at" s__law_cell_at a__law_cell_at d__law_cell_at
  b__law_cell_at : Binds K d__law_cell_at ["_law_script", "_law_k"] []
  g__law_cell_at : mg "_law_cell_at" = some (.ref a__law_cell_at)
  a__law_mixed : Addr
  d__law_mixed : FuncData
  F__law_mixed : Fun K "_law_mixed" "_law_mixed" s__law_mixed a__law_mixed d__law_mixed
  b__law_mixed : Binds K d__law_mixed ["_law_cell", "_law_k"] []
  g__law_mixed : mg "_law_mixed" = some (.ref a__law_mixed)
  a__law_number : Addr
  d__law_number : FuncData
  F__law_number : Fun K "_law_number" "_law_number" s__law_number a__law_number d__law_number
  b__law_number : Binds K d__law_number ["_law_draw", "_law_cell"] []
  g__law_number : mg "_law_number" = some (.ref a__law_number)
  a__law_sign : Addr
  d__law_sign : FuncData
  F__law_sign : Fun K "_law_sign" "_law_sign" s__law_sign a__law_sign d__law_sign
  b__law_sign : Binds K d__law_sign ["_law_cell", "_law_k"] []
  g__law_sign : mg "_law_sign" = some (.ref a__law_sign)
  a__law_rows : Addr
  d__law_rows : FuncData
  F__law_rows : Fun K "_law_rows" "_law_rows" s__law_rows a__law_rows d__law_rows
  b__law_rows : Binds K d__law_rows ["_law_script"] []
  g__law_rows : mg "_law_rows" = some (.ref a__law_rows)
  a__law_shown : Addr
  d__law_shown : FuncData
  F__law_shown : Fun K "_law_shown" "_law_shown" s__law_shown a__law_shown d__law_shown
  b__law_shown : Binds K d__law_shown ["_law_paper"] []
  g__law_shown : mg "_law_shown" = some (.ref a__law_shown)
  a_number_of : Addr
  d_number_of : FuncData
  F_number_of : Fun K "number_of" "number_of" s_number_of a_number_of d_number_of
  b_number_of : Binds K d_number_of ["word"] []
  g_number_of : mg "number_of" = some (.ref a_number_of)
  a_row_read : Addr
  d_row_read : FuncData
  F_row_read : Fun K "row_read" "row_read" s_row_read a_row_read d_row_read
  b_row_read : Binds K d_row_read ["words"] []
  g_row_read : mg "row_read" = some (.ref a_row_read)
  a_Take_told : Addr
  d_Take_told : FuncData
  F_Take_told : Fun K "told" "Take.told" s_Take_told a_Take_told d_Take_told
  b_Take_told : Binds K d_Take_told ["self"] []
  a_Put_told : Addr
  d_Put_told : FuncData
  F_Put_told : Fun K "told" "Put.told" s_Put_told a_Put_told d_Put_told
  b_Put_told : Binds K d_Put_told ["self"] []
  a_row_shown : Addr
  d_row_shown : FuncData
  F_row_shown : Fun K "row_shown" "row_shown" s_row_shown a_row_shown d_row_shown
  b_row_shown : Binds K d_row_shown ["word", "numbers"] []
  g_row_shown : mg "row_shown" = some (.ref a_row_shown)
  a_numbers_of : Addr
  d_numbers_of : FuncData
  F_numbers_of : Fun K "numbers_of" "numbers_of" s_numbers_of a_numbers_of d_numbers_of
  b_numbers_of : Binds K d_numbers_of ["told"] []
  g_numbers_of : mg "numbers_of" = some (.ref a_numbers_of)
  a_sum_of : Addr
  d_sum_of : FuncData
  F_sum_of : Fun K "sum_of" "sum_of" s_sum_of a_sum_of d_sum_of
  b_sum_of : Binds K d_sum_of ["numbers"] []
  g_sum_of : mg "sum_of" = some (.ref a_sum_of)
  a_paper_text : Addr
  d_paper_text : FuncData
  F_paper_text : Fun K "paper_text" "paper_text" s_paper_text a_paper_text d_paper_text
  b_paper_text : Binds K d_paper_text ["paper"] []
  g_paper_text : mg "paper_text" = some (.ref a_paper_text)
  a_is_number : Addr
  d_is_number : FuncData
  F_is_number : Fun K "is_number" "is_number" s_is_number a_is_number d_is_number
  b_is_number : Binds K d_is_number ["thing"] []
  g_is_number : mg "is_number" = some (.ref a_is_number)
  a_is_take : Addr
  d_is_take : FuncData
  F_is_take : Fun K "is_take" "is_take" s_is_take a_is_take d_is_take
  b_is_take : Binds K d_is_take ["told"] []
  g_is_take : mg "is_take" = some (.ref a_is_take)
  a_is_sign : Addr
  d_is_sign : FuncData
  F_is_sign : Fun K "is_sign" "is_sign" s_is_sign a_is_sign d_is_sign
  b_is_sign : Binds K d_is_sign ["thing"] []
  g_is_sign : mg "is_sign" = some (.ref a_is_sign)
  a_is_put : Addr
  d_is_put : FuncData
  F_is_put : Fun K "is_put" "is_put" s_is_put a_is_put d_is_put
  b_is_put : Binds K d_is_put ["told"] []
  g_is_put : mg "is_put" = some (.ref a_is_put)
  a_Row___init__ : Addr
  d_Row___init__ : FuncData
  F_Row___init__ : Fun K "__init__" "Row.__init__" s_Row___init__ a_Row___init__ d_Row___init__
  b_Row___init__ : Binds K d_Row___init__ ["self", "to"] []
  a_Take___init__ : Addr
  d_Take___init__ : FuncData
  F_Take___init__ : Fun K "__init__" "Take.__init__" s_Take___init__ a_Take___init__ d_Take___init__
  b_Take___init__ : Binds K d_Take___init__ ["self", "to", "start", "count"] []
  a_Put___init__ : Addr
  d_Put___init__ : FuncData
  F_Put___init__ : Fun K "__init__" "Put.__init__" s_Put___init__ a_Put___init__ d_Put___init__
  b_Put___init__ : Binds K d_Put___init__ ["self", "to", "signs"] []
  a_row_of : Addr
  d_row_of : FuncData
  F_row_of : Fun K "row_of" "row_of" s_row_of a_row_of d_row_of
  b_row_of : Binds K d_row_of ["told"] []
  g_row_of : mg "row_of" = some (.ref a_row_of)
  a_read_paper : Addr
  d_read_paper : FuncData
  F_read_paper : Fun K "read_paper" "read_paper" s_read_paper a_read_paper d_read_paper
  b_read_paper : Binds K d_read_paper ["text"] []
  g_read_paper : mg "read_paper" = some (.ref a_read_paper)
  a__law_plain : Addr
  d__law_plain : FuncData
  F__law_plain : Fun K "_law_plain" "_law_plain" s__law_plain a__law_plain d__law_plain
  b__law_plain : Binds K d__law_plain ["_law_paper"] []
  g__law_plain : mg "_law_plain" = some (.ref a__law_plain)
  a_law : Addr
  d_law : FuncData
  F_law : Fun K "law" "law" s_law a_law d_law
  b_law : Binds K d_law ["_law_script"] []
  g_law : mg "law" = some (.ref a_law)
  C_Row : Addr
  C_Take : Addr
  C_Put : Addr
  g_Row : mg "Row" = some (.ref C_Row)
  g_Take : mg "Take" = some (.ref C_Take)
  g_Put : mg "Put" = some (.ref C_Put)
  cl_Take : Cls K C_Take
  mk_Take : Mk K C_Take a_Take___init__
  n_Take_to : NoAttr K C_Take "to"
  n_Take_source : NoAttr K C_Take "source"
  n_Take_amount : NoAttr K C_Take "amount"
  cl_Put : Cls K C_Put
  mk_Put : Mk K C_Put a_Put___init__
  n_Put_to : NoAttr K C_Put "to"
  n_Put_signs : NoAttr K C_Put "signs"
  C_NoRow : Addr
  g_NoRow : mg "NoRow" = some (.ref C_NoRow)
  k_FIGURES : Tok
  c_FIGURES : mg "FIGURES" = some (.str "0123456789" k_FIGURES)
  W_WORDS : Addr
  c_WORDS : mg "WORDS" = some (.ref W_WORDS)
  w_WORDS : DL.TupC K W_WORDS ["paper", "take", "put"]
  m_Put_told : Meth K C_Put "told" a_Put_told
  m_Take_told : Meth K C_Take "told" a_Take_told
  cf_Row___init__ : CFn K C_Row "__init__" a_Row___init__
  z_abs : mg "abs" = none
  z_all : mg "all" = none
  z_bool : mg "bool" = none
  z_int : mg "int" = none
  z_isinstance : mg "isinstance" = none
  z_len : mg "len" = none
  z_list : mg "list" = none
  z_min : mg "min" = none
  z_range : mg "range" = none
  z_str : mg "str" = none
  z_tuple : mg "tuple" = none
/-! ### what many laws draw with -/
def mixed (c k : Int) : Int := (((c % 2147483647 + 7919 * k + 1) * 48271 % 2147483647) * (((c % 2147483647 + 7919 * k + 1) * 48271 % 2147483647) / 1009 + 69621)) % 2147483647
theorem mixed_b (c k : Int) : 0 ≤ mixed c k ∧ mixed c k < 2147483647 := by unfold mixed; omega
def cellAt (ns : List Int) (k : Int) : Int := if k < (ns.length : Int) then ns.getD k.toNat 0 else 0
def sign (c k : Int) : Int := if mixed c k % 3 = 0 then mixed c k / 3 % 4 else (mixed c k * mixed c k + c) % (2 * 10 ^ 60 - 1) - 10 ^ 60 + 1
section
variable {K : PySem.W.Frag} {mg : Str → Option Value} (T : Tx K mg)
abbrev sp__law_mixed {K : PySem.W.Frag} {mg : Str → Option Value} (T : Tx K mg) : Sp := spG K (fun x : Int × Int => 0 ≤ x.2 ∧ x.2 ≤ 1000000) (fun x => [.int x.1, .int x.2]) (fun x => .int (mixed x.1 x.2))
abbrev sp__law_sign {K : PySem.W.Frag} {mg : Str → Option Value} (T : Tx K mg) : Sp := spG K (fun x : Int × Int => 0 ≤ x.2 ∧ x.2 ≤ 1000000) (fun x => [.int x.1, .int x.2]) (fun x => .int (sign x.1 x.2))
abbrev sp__law_cell_at {K : PySem.W.Frag} {mg : Str → Option Value} (T : Tx K mg) : Sp := spG K (fun x : List Int × Int => 0 ≤ x.2) (fun x => [.scr (x.1.map .int), .int x.2]) (fun x => .int (cellAt x.1 x.2))
abbrev spEnd (K : PySem.W.Frag) : Sp := spR K (fun ns : List Int => ns.length ≤ 63) (fun ns => [.scr (ns.map .int)]) (fun _ d => d = .bl true)
abbrev sp_law {K : PySem.W.Frag} {mg : Str → Option Value} (T : Tx K mg) : Sp := spEnd K
end
theorem law_sp {K : PySem.W.Frag} {mg : Str → Option Value} (T : Tx K mg) {vs : List V} {H : Hp} {Q : VK} {E : XK} (h : spEnd K vs H Q E) : sp_law T vs H Q E := h
section
variable {K : PySem.W.Frag} {mg : Str → Option Value} {T : Tx K mg} {ρ : DL.Env} {ta tb : TE} {c k : Int} {ns : List Int} {E : XK}
theorem ev_mixed (ha : EvD K ta ρ (.int c)) (hb : EvD K tb ρ (.int k)) (h : 0 ≤ k ∧ k ≤ 1000000) : EvD K (tCall (sp__law_mixed T) [] E (tCons ta (tCons tb tNil))) ρ (.int (mixed c k)) := ev_call (c, k) (ea_cons ha (ea_cons hb ea_nil)) h
theorem ev_sign (ha : EvD K ta ρ (.int c)) (hb : EvD K tb ρ (.int k)) (h : 0 ≤ k ∧ k ≤ 1000000) : EvD K (tCall (sp__law_sign T) [] E (tCons ta (tCons tb tNil))) ρ (.int (sign c k)) := ev_call (c, k) (ea_cons ha (ea_cons hb ea_nil)) h
theorem ev_cell_at (ha : EvD K ta ρ (.scr (ns.map .int))) (hb : EvD K tb ρ (.int k)) (h : 0 ≤ k) : EvD K (tCall (sp__law_cell_at T) [] E (tCons ta (tCons tb tNil))) ρ (.int (cellAt ns k)) := ev_call (ns, k) (ea_cons ha (ea_cons hb ea_nil)) h
end
local macro_rules | `(tactic| walk_at "dl own") => `(tactic| first
  | ((with_reducible apply Lw.ev_mixed) <;> walk_at "dl ev")
  | ((with_reducible apply Lw.ev_sign) <;> walk_at "dl ev")
  | ((with_reducible apply Lw.ev_cell_at) <;> walk_at "dl ev")
  | fail)
section
variable {P : Program} {w : World} {K : PySem.W.Frag} {mg : Str → Option Value} {base : Heap}
theorem ok__law_mixed (T : Tx K mg) : FnOk P w K mg base CX0 1 T.a__law_mixed T.d__law_mixed ["_law_cell", "_law_k"] (sp__law_mixed T) := by
  refine fn_r T.F__law_mixed sc__law_mixed (fun _ => rfl) (fun cdv A outer s H E hr =>
      (pss_cons (ps_set (i := 2) sc__law_mixed.nd rfl (by first | exact Or.inl rfl | exact Or.inr rfl) (pe_op op_mod (pe_op op_mulA (pe_op (addK (K := K) rfl) (pe_op (addK (K := K) rfl) (pe_op op_mod (pv 0) pe_int) (pe_op op_mulA pe_int (pv 1))) pe_int) pe_int) pe_int))
      (pss_one (ps_ret (pe_op op_mod (pe_op op_mulA (pv 2) (pe_op (addK (K := K) rfl) (pe_op op_fdivW (pv 2) pe_int) pe_int)) pe_int))))) (fun x hx => ?_)
  obtain ⟨c, k⟩ := x
  obtain ⟨h1, h2⟩ := hx
  dsimp only at h1 h2 ⊢
  walk_at "dl go"
  rfl
theorem ok__law_sign (T : Tx K mg) : FnOk P w K mg base CX0 2 T.a__law_sign T.d__law_sign ["_law_cell", "_law_k"] (sp__law_sign T) := by
  refine fn_r T.F__law_sign sc__law_sign (fun _ => rfl) (fun cdv A outer s H E hr =>
      (pss_cons (ps_set (i := 2) sc__law_sign.nd rfl (by first | exact Or.inl rfl | exact Or.inr rfl) (pe_call (ok__law_mixed T) hr (by rfl) T.g__law_mixed T.F__law_mixed.kp T.b__law_mixed .nil pass0 (pa_cons (pv 0) (pa_cons (pv 1) pa_nil))))
      (pss_cons (ps_if (pt_cmpR (eqK (K := K) rfl hr.units) (pe_op op_mod (pv 2) pe_int) pe_int (nomark _)) (pss_one (ps_ret (pe_op op_mod (pe_op op_fdivW (pv 2) pe_int) pe_int))) pss_nil)
      (pss_one (ps_ret (pe_op (addK (K := K) rfl) (pe_op op_sub (pe_op op_mod (pe_op (addK (K := K) rfl) (pe_op op_mulA (pv 2) (pv 2)) (pv 0)) (pe_op op_sub (pe_op op_mulA pe_int (pe_op op_pow pe_int pe_int)) pe_int)) (pe_op op_pow pe_int pe_int)) pe_int)))))) (fun x hx => ?_)
  obtain ⟨c, k⟩ := x
  obtain ⟨h1, h2⟩ := hx
  dsimp only at h1 h2 ⊢
  have hb := mixed_b c k
  walk_at "dl go"
  · intro h
    walk_at "dl go"
    unfold sign
    rw [if_pos (of_decide_eq_true h)]
  · intro h
    walk_at "dl go"
    unfold sign
    rw [if_neg (of_decide_eq_false h)]
    rfl
theorem ok__law_cell_at (T : Tx K mg) : FnOk P w K mg base CX0 1 T.a__law_cell_at T.d__law_cell_at ["_law_script", "_law_k"] (sp__law_cell_at T) := by
  refine fn_r T.F__law_cell_at sc__law_cell_at (fun _ => rfl) (fun cdv A outer s H E hr =>
      (pss_cons (ps_if (pt_cmpR op_lt (pv 1) (pe_callB (lenK (K := K) rfl) (by rfl) T.z_len (by decide +kernel) (pa_cons (pv 0) pa_nil)) (nomark _)) (pss_one (ps_ret (pe_ix (ixK (K := K) rfl) (pv 0) (pv 1) (fun _ _ => rfl)))) pss_nil)
      (pss_one (ps_ret pe_int)))) (fun x hx => ?_)
  obtain ⟨ns, k⟩ := x
  dsimp only at hx ⊢
  walk_at "dl go"
  · intro h
    have h' := of_decide_eq_true h
    walk_at "dl go"
    unfold cellAt
    rw [if_pos h']
  · intro h
    have h' := of_decide_eq_false h
    walk_at "dl go"
    unfold cellAt
    rw [if_neg h']
end
theorem law_in {K : PySem.W.Frag} (H : Hp) (a : Addr) (ns : List Int) (hl : ns.length ≤ 63) (hS : SqL K H a (ns.map V.int)) (htb : TB H) : spEnd K [.ref a] H (fun v _ => v = .bl true) fun _ _ _ => False :=
  ⟨noT H, ns, ⟨noT_ex H, noT_nt H, htb⟩, .cons (.scr ((noT_n H).sl hS) (RepL.ofInts ns)) .nil, hl, fun _ _ v d _ r e => by
    subst e
    cases r
    rfl⟩

/-! ### rows: the mathematics -/
inductive Rw where
  | take (to src n : Int)
  | put (to : Int) (ss : List Int)
deriving DecidableEq
namespace Rw
def to : Rw → Int | .take t _ _ => t | .put t _ => t
def size : Rw → Int | .take _ _ n => n | .put _ ss => (ss.length : Int)
def isTake : Rw → Bool | .take _ _ _ => true | .put _ _ => false
def stay : Rw → Bool | .take t s _ => decide (s = t) | .put _ _ => false
def writes (r : Rw) : List Int := if r.stay then [] else span r.to r.size
def reads : Rw → List Int | .take t s n => if s = t then [] else span s n | .put _ _ => []
def needs : Rw → Int | .take _ s n => s + n | .put _ _ => 0
def cost : Rw → Int | .take _ _ _ => 4 | .put _ ss => 2 + (ss.length : Int)
theorem writes_le (r : Rw) : r.writes.length ≤ r.size.toNat := by
  unfold writes
  split
  · exact Nat.zero_le _
  · rw [span_length]; exact Nat.le_refl _
theorem reads_take (t s n : Int) : (take t s n).reads = if s = t then [] else span s n := rfl
theorem reads_le (r : Rw) : r.reads.length ≤ r.size.toNat := by
  cases r with
  | take t s n =>
    rw [reads_take]
    split
    · exact Nat.zero_le _
    · rw [span_length]; exact Nat.le_refl _
  | put t ss => exact Nat.zero_le _
end Rw

/-! ### rows: objects and promises -/
def Rw.ob {K : PySem.W.Frag} {mg : Str → Option Value} (T : Tx K mg) : Rw → D
  | .take t s n => .obj T.C_Take ["to", "source", "amount"] [.int t, .int s, .int n]
  | .put t ss => .obj T.C_Put ["to", "signs"] [.int t, .tup (ss.map .int)]
/-- a row's told tuple -/
def Rw.tl : Rw → D
  | .take t s n => .tup [.str "take", .int t, .int s, .int n]
  | .put t ss => .tup [.str "put", .int t, .tup (ss.map .int)]
section
variable {K : PySem.W.Frag} {mg : Str → Option Value} (T : Tx K mg)
abbrev sp_Row___init__ {K : PySem.W.Frag} {mg : Str → Option Value} (T : Tx K mg) : Sp := fun vs H Q _ => ∃ (p C dx : Addr) (v : V), vs = [.ref p, v] ∧ H p = some (.ins C dx []) ∧ Cls K C ∧ NoAttr K C "to" ∧ Q .non (upd H p (.ins C dx [("to", v)]))
abbrev sp_Take___init__ {K : PySem.W.Frag} {mg : Str → Option Value} (T : Tx K mg) : Sp := spMk T.C_Take 3 (fun ws => (["to", "source", "amount"] : List Str).zip ws) (fun _ _ _ => True) K
abbrev sp_Put___init__ {K : PySem.W.Frag} {mg : Str → Option Value} (T : Tx K mg) : Sp := spMk T.C_Put 2 (fun ws => (["to", "signs"] : List Str).zip ws) (fun K ws H => ∃ a s xs, ws = [a, .ref s] ∧ H s = some (.tup xs)) K
abbrev sp_Row_covers {K : PySem.W.Frag} {mg : Str → Option Value} (T : Tx K mg) : Sp := spG K (fun _ : Rw => True) (fun r => [r.ob T]) (fun r => .tup [.int r.to, .int (r.to + r.size)])
abbrev sp_Take_size {K : PySem.W.Frag} {mg : Str → Option Value} (T : Tx K mg) : Sp := spG K (fun r : Rw => r.isTake = true) (fun r => [r.ob T]) (fun r => .int r.size)
abbrev sp_Put_size {K : PySem.W.Frag} {mg : Str → Option Value} (T : Tx K mg) : Sp := spG K (fun r : Rw => r.isTake = false) (fun r => [r.ob T]) (fun r => .int r.size)
abbrev sp_Row_writes {K : PySem.W.Frag} {mg : Str → Option Value} (T : Tx K mg) : Sp := spF K (fun r : Rw => r.size ≤ 100000) (fun r => [r.ob T]) (fun r => (span r.to r.size).map .int)
abbrev sp_Take_writes {K : PySem.W.Frag} {mg : Str → Option Value} (T : Tx K mg) : Sp := spF K (fun r : Rw => r.isTake = true ∧ r.size ≤ 100000) (fun r => [r.ob T]) (fun r => r.writes.map .int)
abbrev sp_Row_reads {K : PySem.W.Frag} {mg : Str → Option Value} (T : Tx K mg) : Sp := spF K (fun r : Rw => r.isTake = false) (fun r => [r.ob T]) (fun r => r.reads.map .int)
abbrev sp_Take_reads {K : PySem.W.Frag} {mg : Str → Option Value} (T : Tx K mg) : Sp := spF K (fun r : Rw => r.isTake = true ∧ r.size ≤ 100000) (fun r => [r.ob T]) (fun r => r.reads.map .int)
abbrev sp_Row_needs {K : PySem.W.Frag} {mg : Str → Option Value} (T : Tx K mg) : Sp := spG K (fun r : Rw => r.isTake = false) (fun r => [r.ob T]) (fun r => .int r.needs)
abbrev sp_Take_needs {K : PySem.W.Frag} {mg : Str → Option Value} (T : Tx K mg) : Sp := spG K (fun r : Rw => r.isTake = true) (fun r => [r.ob T]) (fun r => .int r.needs)
abbrev sp_Take_cost {K : PySem.W.Frag} {mg : Str → Option Value} (T : Tx K mg) : Sp := spG K (fun r : Rw => r.isTake = true) (fun r => [r.ob T]) (fun r => .int r.cost)
abbrev sp_Put_cost {K : PySem.W.Frag} {mg : Str → Option Value} (T : Tx K mg) : Sp := spG K (fun r : Rw => r.isTake = false) (fun r => [r.ob T]) (fun r => .int r.cost)
abbrev sp_Take_told {K : PySem.W.Frag} {mg : Str → Option Value} (T : Tx K mg) : Sp := spG K (fun r : Rw => r.isTake = true) (fun r => [r.ob T]) (fun r => r.tl)
abbrev sp_Put_told {K : PySem.W.Frag} {mg : Str → Option Value} (T : Tx K mg) : Sp := spG K (fun r : Rw => r.isTake = false) (fun r => [r.ob T]) (fun r => r.tl)
end
section
variable {K : PySem.W.Frag} {mg : Str → Option Value} {T : Tx K mg} {ρ : DL.Env} {ta tb tc : TE} {r : Rw} {E : XK} {a b c : Int} {ss : List Int}
theorem ev_mkTake (ha : EvD K ta ρ (.int a)) (hb : EvD K tb ρ (.int b)) (hc : EvD K tc ρ (.int c)) : EvD K (tMake T.C_Take (sp_Take___init__ T) [] E (tCons ta (tCons tb (tCons tc tNil)))) ρ ((Rw.take a b c).ob T) :=
  ev_make (ea_cons ha (ea_cons hb (ea_cons hc ea_nil))) rfl (fun _ _ _ _ _ => trivial) fun _ ws h => ⟨ws, rfl, h⟩
theorem ev_mkPut (ha : EvD K ta ρ (.int a)) (hb : EvD K tb ρ (.tup (ss.map .int))) : EvD K (tMake T.C_Put (sp_Put___init__ T) [] E (tCons ta (tCons tb tNil))) ρ ((Rw.put a ss).ob T) :=
  ev_make (ea_cons ha (ea_cons hb ea_nil)) rfl (fun Hs H ws h e => by
    cases h with
    | cons h1 h2 => cases h2 with
      | cons h3 h4 => cases h4; cases h3 with
        | tup hs _ => exact ⟨_, _, _, rfl, e _ _ hs⟩) fun _ ws h => ⟨ws, rfl, h⟩
theorem ev_to (h : EvD K ta ρ (r.ob T)) : EvD K (tFld K ta "to") ρ (.int r.to) := by
  cases r with
  | take t s n => exact ev_fld h T.cl_Take T.n_Take_to rfl
  | put t ss => exact ev_fld h T.cl_Put T.n_Put_to rfl
theorem ev_told (h : EvD K ta ρ (r.ob T)) : EvD K (tMethD [(T.C_Take, sp_Take_told T), (T.C_Put, sp_Put_told T)] "told" E ta tNil) ρ r.tl := by
  cases r with
  | take t s n => exact ev_methD (x := Rw.take t s n) h ea_nil (.head _) rfl rfl rfl
  | put t ss => exact ev_methD (x := Rw.put t ss) h ea_nil (.tail _ (.head _)) rfl rfl rfl
end
local macro_rules | `(tactic| walk_at "dl own") => `(tactic| first
  | ((with_reducible apply Lw.ev_to) <;> walk_at "dl ev")
  | ((with_reducible apply Lw.ev_mkTake) <;> walk_at "dl ev")
  | ((with_reducible apply Lw.ev_mkPut) <;> walk_at "dl ev")
  | ((with_reducible apply Lw.ev_told) <;> walk_at "dl ev")
  | fail)
section
variable {P : Program} {w : World} {K : PySem.W.Frag} {mg : Str → Option Value} {base : Heap}
theorem ok_Row___init__ (T : Tx K mg) : FnOk P w K mg base CX0 1 T.a_Row___init__ T.d_Row___init__ ["self", "to"] (sp_Row___init__ T) := by
  refine T.F_Row___init__.ok sc_Row___init__ (fun vs H Q E h => ?_) (fun cdv A outer s H vs Q E hr h => ⟨_,
      (pss_one (sfldK (K := K) rfl (pv 0) (pv 1) rfl)), ?_⟩)
  · obtain ⟨p, C, dx, v, rfl, _⟩ := h
    rfl
  · obtain ⟨p, C, dx, v, rfl, hp, hc, hn, q⟩ := h
    exact ⟨v, rfl, .ref p, rfl, p, C, dx, [], rfl, hp, hc, hn, by decide, q⟩
theorem ok_Take___init__ (T : Tx K mg) : FnOk P w K mg base CX0 3 T.a_Take___init__ T.d_Take___init__ ["self", "to", "start", "count"] (sp_Take___init__ T) := by
  refine T.F_Take___init__.ok sc_Take___init__ (fun vs H Q E h => ?_) (fun cdv A outer s H vs Q E hr h => ⟨_,
      (pss_cons (ps_expr (pe_ccall (pe_glob (by rfl) T.g_Row rfl) T.cf_Row___init__ (ok_Row___init__ T) (hr.mono (by decide)) T.F_Row___init__.kp T.b_Row___init__ .nil pass0 (pa_cons (pv 0) (pa_cons (pv 1) pa_nil))))
      (pss_cons (sfldK (K := K) rfl (pv 0) (pv 2) rfl)
      (pss_one (sfldK (K := K) rfl (pv 0) (pv 3) rfl)))), ?_⟩)
  · obtain ⟨p, dx, ws, rfl, hl, _⟩ := h
    simp [hl]
  · obtain ⟨p, dx, ws, rfl, hl, hp, _, q⟩ := h
    match ws, hl with
    | [a, b, c], _ =>
      refine ⟨.ref p, rfl, a, rfl, p, T.C_Take, dx, a, rfl, hp, T.cl_Take, T.n_Take_to, ?_⟩
      refine ⟨b, rfl, .ref p, rfl, p, T.C_Take, dx, _, rfl, upd_same, T.cl_Take, T.n_Take_source, (show (1 : Nat) < 1000 by decide), ?_⟩
      refine ⟨c, rfl, .ref p, rfl, p, T.C_Take, dx, _, rfl, upd_same, T.cl_Take, T.n_Take_amount, (show (2 : Nat) < 1000 by decide), ?_⟩
      rw [upd_upd, upd_upd]
      exact q
theorem ok_Put___init__ (T : Tx K mg) : FnOk P w K mg base CX0 3 T.a_Put___init__ T.d_Put___init__ ["self", "to", "signs"] (sp_Put___init__ T) := by
  refine T.F_Put___init__.ok sc_Put___init__ (fun vs H Q E h => ?_) (fun cdv A outer s H vs Q E hr h => ⟨_,
      (pss_cons (ps_expr (pe_ccall (pe_glob (by rfl) T.g_Row rfl) T.cf_Row___init__ (ok_Row___init__ T) (hr.mono (by decide)) T.F_Row___init__.kp T.b_Row___init__ .nil pass0 (pa_cons (pv 0) (pa_cons (pv 1) pa_nil))))
      (pss_one (sfldK (K := K) rfl (pv 0) (pe_callTy (tupleK (K := K) rfl) (by rfl) T.z_tuple (by decide +kernel) (pa_cons (pv 2) pa_nil)) rfl))), ?_⟩)
  · obtain ⟨p, dx, ws, rfl, hl, _⟩ := h
    simp [hl]
  · obtain ⟨p, dx, ws, rfl, hl, hp, ⟨a, s, xs, rfl, hs⟩, q⟩ := h
    refine ⟨.ref p, rfl, a, rfl, p, T.C_Put, dx, a, rfl, hp, T.cl_Put, T.n_Put_to, ?_⟩
    refine ⟨.ref s, rfl, s, xs, rfl, .inr ⟨.of (by rw [upd_ne (fun z => by rw [z, hp] at hs; cases hs)]; exact hs), .ref p, rfl, p, T.C_Put, dx, _, rfl, upd_same, T.cl_Put, T.n_Put_signs, (show (1 : Nat) < 1000 by decide), ?_⟩⟩
    rw [upd_upd]
    exact q
theorem ok_Take_told (T : Tx K mg) : FnOk P w K mg base CX0 1 T.a_Take_told T.d_Take_told ["self"] (sp_Take_told T) := by
  refine fn_r T.F_Take_told sc_Take_told (fun _ => rfl) (fun cdv A outer s H E hr =>
      (pss_one (ps_ret (pe_tup (pa_cons pe_str (pa_cons (fldK (K := K) rfl (pv 0) rfl) (pa_cons (fldK (K := K) rfl (pv 0) rfl) (pa_cons (fldK (K := K) rfl (pv 0) rfl) pa_nil)))))))) (fun x hx => ?_)
  cases x with
  | put t ss => cases hx
  | take t s n => exact xs_ret (ev_tup (ea_cons ev_cs (ea_cons (ev_to (r := Rw.take t s n) (ev_var rfl)) (ea_cons (ev_fld (ev_var rfl) T.cl_Take T.n_Take_source rfl) (ea_cons (ev_fld (ev_var rfl) T.cl_Take T.n_Take_amount rfl) ea_nil)))) (Nat.le_of_ble_eq_true rfl)) rfl
theorem ok_Put_told (T : Tx K mg) : FnOk P w K mg base CX0 1 T.a_Put_told T.d_Put_told ["self"] (sp_Put_told T) := by
  refine fn_r T.F_Put_told sc_Put_told (fun _ => rfl) (fun cdv A outer s H E hr =>
      (pss_one (ps_ret (pe_tup (pa_cons pe_str (pa_cons (fldK (K := K) rfl (pv 0) rfl) (pa_cons (fldK (K := K) rfl (pv 0) rfl) pa_nil))))))) (fun x hx => ?_)
  cases x with
  | take t s n => cases hx
  | put t ss => exact xs_ret (ev_tup (ea_cons ev_cs (ea_cons (ev_to (r := Rw.put t ss) (ev_var rfl)) (ea_cons (ev_fld (ev_var rfl) T.cl_Put T.n_Put_signs rfl) ea_nil))) (Nat.le_of_ble_eq_true rfl)) rfl
end

/-! ### row_of of rows that are rows -/
def Rw.good : Rw → Prop
  | .take t s n => 0 ≤ t ∧ 0 ≤ s ∧ 0 < n
  | .put t ss => 0 ≤ t ∧ ss ≠ [] ∧ (∀ x ∈ ss, -(10 ^ 60) < x ∧ x < 10 ^ 60) ∧ ss.length ≤ 50000
def isSign (i : Int) : Bool := decide ((if i < 0 then -i else i) < 10 ^ 60)
abbrev sp_is_number {K : PySem.W.Frag} {mg : Str → Option Value} (T : Tx K mg) : Sp := spG K (fun _ : Int => True) (fun i => [.int i]) (fun _ => .bl true)
abbrev sp_is_sign {K : PySem.W.Frag} {mg : Str → Option Value} (T : Tx K mg) : Sp := spG K (fun _ : Int => True) (fun i => [.int i]) (fun i => .bl (isSign i))
abbrev sp_is_take {K : PySem.W.Frag} {mg : Str → Option Value} (T : Tx K mg) : Sp := spG K (fun r : Rw => r.good) (fun r => [r.tl]) (fun r => .bl r.isTake)
abbrev sp_is_put {K : PySem.W.Frag} {mg : Str → Option Value} (T : Tx K mg) : Sp := spG K (fun r : Rw => r.good ∧ r.isTake = false) (fun r => [r.tl]) (fun _ => .bl true)
abbrev sp_row_of {K : PySem.W.Frag} {mg : Str → Option Value} (T : Tx K mg) : Sp := spG K (fun r : Rw => r.good) (fun r => [r.tl]) (fun r => r.ob T)
section
variable {K : PySem.W.Frag} {mg : Str → Option Value} {T : Tx K mg} {ρ : DL.Env} {ta : TE} {i : Int} {r : Rw} {E : XK}
theorem ev_is_number (ha : EvD K ta ρ (.int i)) : EvD K (tCall (sp_is_number T) [] E (tCons ta tNil)) ρ (.bl true) := ev_call i (ea_cons ha ea_nil) trivial
theorem ev_is_sign (ha : EvD K ta ρ (.int i)) : EvD K (tCall (sp_is_sign T) [] E (tCons ta tNil)) ρ (.bl (isSign i)) := ev_call i (ea_cons ha ea_nil) trivial
theorem ev_row_of (ha : EvD K ta ρ r.tl) (h : r.good) : EvD K (tCall (sp_row_of T) [] E (tCons ta tNil)) ρ (r.ob T) := ev_call r (ea_cons ha ea_nil) h
theorem Rw.tl_tup (r : Rw) : ∃ ds, r.tl = .tup ds := by cases r <;> exact ⟨_, rfl⟩
end
local macro_rules | `(tactic| walk_at "dl own") => `(tactic| first
  | ((with_reducible apply Lw.ev_is_number) <;> walk_at "dl ev")
  | ((with_reducible apply Lw.ev_is_sign) <;> walk_at "dl ev")
  | ((with_reducible apply Lw.ev_row_of) <;> walk_at "dl ev"))
section
variable {P : Program} {w : World} {K : PySem.W.Frag} {mg : Str → Option Value} {base : Heap}
theorem ok_is_number (T : Tx K mg) : FnOk P w K mg base CX0 1 T.a_is_number T.d_is_number ["thing"] (sp_is_number T) := by
  refine fn_r T.F_is_number sc_is_number (fun _ => rfl) (fun cdv A outer s H E hr =>
      (pss_one (ps_ret (pe_and (pe_callB (isiK (K := K) rfl) (by rfl) T.z_isinstance (by decide +kernel) (pa_cons (pv 0) (pa_cons (pe_bltn (v := .ty "int") (by rfl) T.z_int (by decide +kernel) rfl) pa_nil))) (pe_one (pe_not (pe_callB (isiK (K := K) rfl) (by rfl) T.z_isinstance (by decide +kernel) (pa_cons (pv 0) (pa_cons (pe_bltn (v := .ty "bool") (by rfl) T.z_bool (by decide +kernel) rfl) pa_nil))))))))) (fun x hx => ?_)
  refine xs_ret ((ev_and' (by walk_at "dl ev") (by walk_at "dl ev")).is rfl) rfl
theorem ok_is_sign (T : Tx K mg) : FnOk P w K mg base CX0 2 T.a_is_sign T.d_is_sign ["thing"] (sp_is_sign T) := by
  refine fn_r T.F_is_sign sc_is_sign (fun _ => rfl) (fun cdv A outer s H E hr =>
      (pss_one (ps_ret (pe_and (pe_call (ok_is_number T) hr (by rfl) T.g_is_number T.F_is_number.kp T.b_is_number .nil pass0 (pa_cons (pv 0) pa_nil)) (pe_one (pe_cmpR op_lt (pe_callB call_abs (by rfl) T.z_abs (by decide +kernel) (pa_cons (pv 0) pa_nil)) (pe_op op_pow pe_int pe_int) (nomark _))))))) (fun x hx => ?_)
  refine xs_ret (ev_and' (by walk_at "dl ev") (by walk_at "dl ev")) ?_
  unfold isSign
  rfl
theorem ok_is_take (T : Tx K mg) : FnOk P w K mg base CX0 2 T.a_is_take T.d_is_take ["told"] (sp_is_take T) := by
  refine fn_r T.F_is_take sc_is_take (fun _ => rfl) (fun cdv A outer s H E hr =>
      (pss_cons (ps_if (PW.pt (pw_or (pt_cmpR (neK (K := K) rfl hr.units) (pe_callB (lenK (K := K) rfl) (by rfl) T.z_len (by decide +kernel) (pa_cons (pv 0) pa_nil)) pe_int (nomark _)) (pw_or (pt_cmpR (neK (K := K) rfl hr.units) (pe_ix (ixK (K := K) rfl) (pv 0) pe_int (fun _ _ => rfl)) pe_str (nomark _)) (pw_or1 (pt_not (pt_val (pe_callB (allK (K := K) rfl rfl) (by rfl) T.z_all (by decide +kernel) (pa_cons (pe_lc (own := [("part", 1)]) rfl sc_is_take.nd (seqK (K := K) rfl (pe_slice (slK (K := K) rfl) (pv 0) (po_some pe_int) po_none)) (blkOk_by (N := ["told", "part"]) (sc := defScope s_is_take) (by decide +kernel)) (fun _ _ _ _ _ => (pg_name (i := 1) sc_is_take.nd rfl (by first | exact Or.inl rfl | exact Or.inr rfl))) (fun _ _ _ _ _ => pts_nil) (fun _ _ _ _ _ => (pe_call (ok_is_number T) hr (by rfl) T.g_is_number T.F_is_number.kp T.b_is_number .nil pass0 (pa_cons (pv 1) pa_nil)))) pa_nil)))))))) (pss_one (ps_ret pe_bl)) pss_nil)
      (pss_one (ps_ret (pe_and (pe_cmpR op_ge (pe_ix (ixK (K := K) rfl) (pv 0) pe_int (fun _ _ => rfl)) pe_int (nomark _)) (pe_and (pe_cmpR op_ge (pe_ix (ixK (K := K) rfl) (pv 0) pe_int (fun _ _ => rfl)) pe_int (nomark _)) (pe_one (pe_cmpR op_gt (pe_ix (ixK (K := K) rfl) (pv 0) pe_int (fun _ _ => rfl)) pe_int (nomark _))))))))) (fun x hx => ?_)
  cases x with
  | take t s n =>
    obtain ⟨h1, h2, h3⟩ := hx
    have e4 : EvD K (tSl (rSlA' K) (tVar 0) (tPart (tC (.int 1))) tNoPart) (entry ["told", "part"] [(Rw.take t s n).tl]) (.tup ([t, s, n].map D.int)) := (ev_slT (ev_var rfl) (eo_some ev_ci) eo_none).is rfl
    refine xs_seq (xs_no (et_orF (et_t ((ev_neI (ev_lenTA (ds := [.str "take", .int t, .int s, .int n]) (ev_var rfl)) ev_ci).is rfl)) (et_orF (et_t ((ev_neS (x := "take") (y := "take") (ev_ixt (ds := [.str "take", .int t, .int s, .int n]) (ev_var rfl) ev_ci (atI_nat rfl)) ev_cs (by decide +kernel) (by decide +kernel)).is (by simp))) (et_not (et_t (ev_all (bs := [true, true, true]) (EvF.b (EvF.is (ef_lc0 [t, s, n] D.int (fun _ => .bl true) rfl (ei_seqT e4) (Nat.le_of_ble_eq_true rfl) (fun k y _ => ⟨_, egc_name (by decide), by walk_at "dl ev"⟩)) rfl))))))) rfl ?_)
    refine xs_ret (ev_and' (ev_Ib (i := t) (ev_ixt (ds := [.str "take", .int t, .int s, .int n]) (ev_var rfl) ev_ci (atI_nat rfl)) ev_ci) (ev_and' (ev_Ib (i := s) (ev_ixt (ds := [.str "take", .int t, .int s, .int n]) (ev_var rfl) ev_ci (atI_nat rfl)) ev_ci) (ev_Ib (i := n) (ev_ixt (ds := [.str "take", .int t, .int s, .int n]) (ev_var rfl) ev_ci (atI_nat rfl)) ev_ci))) ?_
    simp [h1, h2, h3, Rw.isTake]
  | put t ss =>
    refine xs_seq (xs_yes (et_orT (et_t ((ev_neI (ev_lenTA (ds := [.str "put", .int t, .tup (ss.map .int)]) (ev_var rfl)) ev_ci).is rfl))) rfl ?_)
    exact xs_ret ev_cb rfl
theorem ok_is_put (T : Tx K mg) : FnOk P w K mg base CX0 3 T.a_is_put T.d_is_put ["told"] (sp_is_put T) := by
  refine fn_r T.F_is_put sc_is_put (fun _ => rfl) (fun cdv A outer s H E hr =>
      (pss_cons (ps_if (PW.pt (pw_or (pt_cmpR (neK (K := K) rfl hr.units) (pe_callB (lenK (K := K) rfl) (by rfl) T.z_len (by decide +kernel) (pa_cons (pv 0) pa_nil)) pe_int (nomark _)) (pw_or (pt_cmpR (neK (K := K) rfl hr.units) (pe_ix (ixK (K := K) rfl) (pv 0) pe_int (fun _ _ => rfl)) pe_str (nomark _)) (pw_or (pt_not (pt_val (pe_call (ok_is_number T) (hr.mono (by decide)) (by rfl) T.g_is_number T.F_is_number.kp T.b_is_number .nil pass0 (pa_cons (pe_ix (ixK (K := K) rfl) (pv 0) pe_int (fun _ _ => rfl)) pa_nil)))) (pw_or1 (pt_cmpR op_lt (pe_ix (ixK (K := K) rfl) (pv 0) pe_int (fun _ _ => rfl)) pe_int (nomark _))))))) (pss_one (ps_ret pe_bl)) pss_nil)
      (pss_one (ps_ret (pe_and (pe_callB (isiK (K := K) rfl) (by rfl) T.z_isinstance (by decide +kernel) (pa_cons (pe_ix (ixK (K := K) rfl) (pv 0) pe_int (fun _ _ => rfl)) (pa_cons (pe_bltn (v := .ty "tuple") (by rfl) T.z_tuple (by decide +kernel) rfl) pa_nil))) (pe_and (pe_cmpR (neK (K := K) rfl hr.units) (pe_ix (ixK (K := K) rfl) (pv 0) pe_int (fun _ _ => rfl)) (pe_tup pa_nil) (nomark _)) (pe_one (pe_callB (allK (K := K) rfl rfl) (by rfl) T.z_all (by decide +kernel) (pa_cons (pe_lc (own := [("sign", 1)]) rfl sc_is_put.nd (seqK (K := K) rfl (pe_ix (ixK (K := K) rfl) (pv 0) pe_int (fun _ _ => rfl))) (blkOk_by (N := ["told", "sign"]) (sc := defScope s_is_put) (by decide +kernel)) (fun _ _ _ _ _ => (pg_name (i := 1) sc_is_put.nd rfl (by first | exact Or.inl rfl | exact Or.inr rfl))) (fun _ _ _ _ _ => pts_nil) (fun _ _ _ _ _ => (pe_call (ok_is_sign T) hr (by rfl) T.g_is_sign T.F_is_sign.kp T.b_is_sign .nil pass0 (pa_cons (pv 1) pa_nil)))) pa_nil))))))))) (fun x hx => ?_)
  cases x with
  | take t s n => cases hx.2
  | put t ss =>
    obtain ⟨⟨h1, h2, h3, h4⟩, _⟩ := hx
    refine xs_seq (xs_no (et_orF (et_t ((ev_neI (ev_lenTA (ds := [.str "put", .int t, .tup (ss.map .int)]) (ev_var rfl)) ev_ci).is rfl)) (et_orF (et_t ((ev_neS (x := "put") (y := "put") (ev_ixt (ds := [.str "put", .int t, .tup (ss.map .int)]) (ev_var rfl) ev_ci (atI_nat rfl)) ev_cs (by decide +kernel) (by decide +kernel)).is (by simp)))
      (et_orF (et_not (et_t (ev_is_number (i := t) (ev_ixt (ds := [.str "put", .int t, .tup (ss.map .int)]) (ev_var rfl) ev_ci (atI_nat rfl))))) (et_t (ev_Ib (i := t) (ev_ixt (ds := [.str "put", .int t, .tup (ss.map .int)]) (ev_var rfl) ev_ci (atI_nat rfl)) ev_ci))))) (decide_eq_false (by omega)) ?_)
    have e2 : EvD K (tOp (rIx K) (tVar 0) (tC (.int 2))) (entry ["told", "sign"] [(Rw.put t ss).tl]) (.tup (ss.map D.int)) := ev_ixt (ds := [.str "put", .int t, .tup (ss.map .int)]) (ev_var rfl) ev_ci (atI_nat rfl)
    have e3 : EvD K (tOp (rIx K) (tVar 0) (tC (.int 2))) (wD (entry ["told", "sign"] [(Rw.put t ss).tl]) [1]) (.tup (ss.map D.int)) := ev_ixt (ds := [.str "put", .int t, .tup (ss.map .int)]) (ev_var rfl) ev_ci (atI_nat rfl)
    refine xs_ret (ev_and' (isi_tup_tuple e2.r) (ev_and' (ev_neNT e2.r (ev_tup ea_nil (by decide)).r (cod_int.tps.fit (by decide) ss)) (ev_all (bs := ss.map isSign) (EvF.b (EvF.is (ef_lc0 ss D.int (fun y => .bl (isSign y)) rfl (ei_seqT e2) h4 (fun k y _ => ⟨_, egc_name (by decide), by walk_at "dl ev"⟩)) (by rw [List.map_map]; rfl)))))) ?_
    have h5 : (ss.map D.int).isEmpty = false := by cases ss with | nil => exact absurd rfl h2 | cons _ _ => rfl
    have h6 : (ss.map isSign).all id = true := by
      rw [List.all_map, List.all_eq_true]
      intro y hy
      have := h3 y hy
      show isSign y = true
      unfold isSign
      apply decide_eq_true
      split <;> omega
    rw [h5, h6]
    rfl
theorem ok_row_of (T : Tx K mg) : FnOk P w K mg base CX0 5 T.a_row_of T.d_row_of ["told"] (sp_row_of T) := by
  refine fn_r T.F_row_of sc_row_of (fun _ => rfl) (fun cdv A outer s H E hr =>
      (pss_cons (ps_if (pt_val (pe_callB (isiK (K := K) rfl) (by rfl) T.z_isinstance (by decide +kernel) (pa_cons (pv 0) (pa_cons (pe_bltn (v := .ty "tuple") (by rfl) T.z_tuple (by decide +kernel) rfl) pa_nil)))) (pss_cons (ps_if (pt_val (pe_call (ok_is_take T) (hr.mono (by decide)) (by rfl) T.g_is_take T.F_is_take.kp T.b_is_take .nil pass0 (pa_cons (pv 0) pa_nil))) (pss_one (ps_ret (pe_make T.mk_Take (ok_Take___init__ T) hr (by rfl) T.g_Take T.b_Take___init__ .nil pass0 (pa_cons (pe_ix (ixK (K := K) rfl) (pv 0) pe_int (fun _ _ => rfl)) (pa_cons (pe_ix (ixK (K := K) rfl) (pv 0) pe_int (fun _ _ => rfl)) (pa_cons (pe_ix (ixK (K := K) rfl) (pv 0) pe_int (fun _ _ => rfl)) pa_nil)))))) pss_nil)
      (pss_one (ps_if (pt_val (pe_call (ok_is_put T) (hr.mono (by decide)) (by rfl) T.g_is_put T.F_is_put.kp T.b_is_put .nil pass0 (pa_cons (pv 0) pa_nil))) (pss_one (ps_ret (pe_make T.mk_Put (ok_Put___init__ T) hr (by rfl) T.g_Put T.b_Put___init__ .nil pass0 (pa_cons (pe_ix (ixK (K := K) rfl) (pv 0) pe_int (fun _ _ => rfl)) (pa_cons (pe_ix (ixK (K := K) rfl) (pv 0) pe_int (fun _ _ => rfl)) pa_nil))))) pss_nil))) pss_nil)
      (pss_one (ps_never)))) (fun x hx => ?_)
  obtain ⟨ds, hd⟩ := x.tl_tup
  refine xs_seq (xs_yes (b := true) (et_t (isi_tup_tuple (ds := ds) (EvD.r (EvD.is (ev_var rfl) hd)))) rfl ?_)
  have ht : EvD K (tVar 0) (entry ["told"] [x.tl]) x.tl := ev_var rfl
  cases x with
  | take t s n =>
    refine xs_seq (xs_yes (et_t (ev_call (Rw.take t s n) (ea_cons ht ea_nil) hx)) rfl ?_)
    exact xs_ret (ev_mkTake (T := T) (a := t) (b := s) (c := n) (ev_ixt (ds := [.str "take", .int t, .int s, .int n]) (ev_var rfl) ev_ci (atI_nat rfl)) (ev_ixt (ds := [.str "take", .int t, .int s, .int n]) (ev_var rfl) ev_ci (atI_nat rfl)) (ev_ixt (ds := [.str "take", .int t, .int s, .int n]) (ev_var rfl) ev_ci (atI_nat rfl))) rfl
  | put t ss =>
    refine xs_seq (xs_no (et_t (ev_call (Rw.put t ss) (ea_cons ht ea_nil) hx)) rfl ?_)
    refine xs_yes (et_t (ev_call (Rw.put t ss) (ea_cons ht ea_nil) ⟨hx, rfl⟩)) rfl ?_
    exact xs_ret (ev_mkPut (T := T) (a := t) (ss := ss) (ev_ixt (ds := [.str "put", .int t, .tup (ss.map .int)]) (ev_var rfl) ev_ci (atI_nat rfl)) (ev_ixt (ds := [.str "put", .int t, .tup (ss.map .int)]) (ev_var rfl) ev_ci (atI_nat rfl))) rfl
end

/-! ### numbers and papers as texts -/
def numS (i : Int) : Str := toString i
def Sm (i : Int) : Prop := -(10 ^ 60) < i ∧ i < 10 ^ 60
theorem tl_numS (i : Int) : TL.tl (numS i) = if i < 0 then 45 :: TL.numL i.natAbs else TL.numL i.natAbs := by
  cases i with
  | ofNat n =>
    rw [if_neg (by simp)]
    exact TL.tl_num n
  | negSucc n =>
    rw [if_pos (by omega)]
    have h := TL.tl_num (n + 1)
    rw [TL.tl_ofString] at h
    have e : (toString (Int.negSucc n) : String) = "-" ++ (toString (((n + 1 : Nat) : Int)) : String) := rfl
    show TL.tl (Str.ofString (toString (Int.negSucc n))) = _
    rw [e, TL.tl_ofString, String.toList_append, List.map_append, h]
    rfl
theorem tl_numS0 {i : Int} (h : 0 ≤ i) : TL.tl (numS i) = TL.numL i.natAbs := by rw [tl_numS, if_neg (by omega)]
theorem tl_numSn {i : Int} (h : i < 0) : TL.tl (numS i) = 45 :: TL.numL i.natAbs := by rw [tl_numS, if_pos h]
theorem numS_code (i : Int) : ∀ c ∈ TL.tl (numS i), c = 45 ∨ 48 ≤ c ∧ c ≤ 57 := fun c hc => by
  rw [tl_numS] at hc
  split at hc
  · rcases List.mem_cons.mp hc with e | e
    · exact .inl e
    · exact .inr (TL.numL_digits _ c e)
  · exact .inr (TL.numL_digits _ c hc)
theorem numS_len {i : Int} (h : Sm i) : (numS i).length ≤ 61 := by
  have := TL.numL_len (n := i.natAbs) (k := 60) (by decide) (by
    have h1 := h.1
    have h2 := h.2
    have e : ((10 : Int) ^ 60) = ((10 ^ 60 : Nat) : Int) := by decide +kernel
    rw [e] at h1 h2
    omega)
  rw [TL.len_tl, tl_numS]
  split
  · rw [List.length_cons]
    omega
  · omega
def Asc (x : Str) : Prop := ∀ c ∈ TL.tl x, c < 128
theorem strOk_of {x : Str} (h : Asc x) : PySem.PyData.strOk x = true := by
  unfold PySem.PyData.strOk
  rw [← Array.all_toList, List.all_eq_true]
  intro c hc
  have := h c hc
  exact decide_eq_true (by omega)
theorem fit_of {x : Str} (h : Asc x) : (D.str x).fit = true := Ft.fit (n := 0) (ft_str (strOk_of h)) (by decide)
theorem asc_numS (i : Int) : Asc (numS i) := fun c hc => by
  have := numS_code i c hc
  omega
theorem mem_joinL {c : Nat} {S : List Nat} : ∀ {ps : List (List Nat)}, c ∈ TL.joinL S ps → c ∈ S ∨ ∃ p ∈ ps, c ∈ p
  | [], h => by cases h
  | [p], h => .inr ⟨p, .head _, h⟩
  | p :: q :: r, h => by
    have h : c ∈ p ++ (S ++ TL.joinL S (q :: r)) := h
    rcases List.mem_append.mp h with h | h
    · exact .inr ⟨p, .head _, h⟩
    · rcases List.mem_append.mp h with h | h
      · exact .inl h
      · rcases mem_joinL h with h | ⟨x, hx, h⟩
        · exact .inl h
        · exact .inr ⟨x, .tail _ hx, h⟩
theorem joinL_len {S : List Nat} : ∀ ps : List (List Nat), (TL.joinL S ps).length ≤ (ps.map List.length).sum + ps.length * S.length
  | [] => Nat.zero_le _
  | [p] => by
    show p.length ≤ p.length + 0 + 1 * S.length
    omega
  | p :: q :: r => by
    have ih := joinL_len (S := S) (q :: r)
    show (p ++ (S ++ TL.joinL S (q :: r))).length ≤ (p.length + ((q :: r).map List.length).sum) + ((q :: r).length + 1) * S.length
    rw [List.length_append, List.length_append, Nat.add_mul]
    omega
theorem tl_jn (y : Str) (ps : List Str) : TL.tl (Txt.join y ps) = TL.joinL (TL.tl y) (ps.map TL.tl) := by rw [TL.join_eq, TL.tl_join]
theorem mem_jn {c : Nat} {y : Str} {ps : List Str} (h : c ∈ TL.tl (Txt.join y ps)) : c ∈ TL.tl y ∨ ∃ p ∈ ps, c ∈ TL.tl p := by
  rw [tl_jn] at h
  rcases mem_joinL h with h | ⟨p, hp, h⟩
  · exact .inl h
  · obtain ⟨z, hz, rfl⟩ := List.mem_map.mp hp
    exact .inr ⟨z, hz, h⟩
theorem sum_le {m : Nat} : ∀ {ns : List Nat}, (∀ n ∈ ns, n ≤ m) → ns.sum ≤ ns.length * m
  | [], _ => Nat.zero_le _
  | n :: ns, h => by
    have h1 := h n (.head _)
    have h2 := sum_le (m := m) fun x hx => h x (.tail _ hx)
    rw [List.sum_cons, List.length_cons, Nat.add_mul]
    omega
theorem jn_sum {m : Nat} {ps : List Str} (h : ∀ p ∈ ps, p.length ≤ m) : (ps.map (·.length)).sum ≤ ps.length * m := by
  have := sum_le (m := m) (ns := ps.map (·.length)) fun n hn => by
    obtain ⟨p, hp, rfl⟩ := List.mem_map.mp hn
    exact h p hp
  rwa [List.length_map] at this
theorem jn_len {m : Nat} {y : Str} {ps : List Str} (h : ∀ p ∈ ps, p.length ≤ m) : (Txt.join y ps).length ≤ ps.length * m + ps.length * y.length := by
  rw [TL.len_tl, tl_jn, TL.len_tl y]
  have h1 := joinL_len (S := TL.tl y) (ps.map TL.tl)
  have h2 := jn_sum h
  have e : ((ps.map TL.tl).map List.length) = ps.map (·.length) := by
    rw [List.map_map]
    exact List.map_congr_left fun x _ => (TL.len_tl x).symm
  rw [e, List.length_map] at h1
  omega
def lineS (w : Str) (ns : List Int) : Str := Txt.join " " (w :: ns.map numS)
def wordOf : Rw → Str | .take _ _ _ => "take" | .put _ _ => "put"
def codeOf : Rw → Int | .take _ _ _ => 2 | .put _ _ => 3
def numsOf : Rw → List Int | .take t s n => [t, s, n] | .put t ss => t :: ss
abbrev wsD (w : Str) (ns : List Int) : D := .lst ((w :: ns.map numS).map .str)
def sumF (ns : List Int) : Int := ns.foldl (fun f n => (f * 31 + n + 7) % 1000003) 0
def lineR (r : Rw) : Str := lineS (wordOf r) (numsOf r)
def allNums (o n : Int) (rs : List Rw) : List Int := [1, o, n] ++ rs.flatMap fun r => codeOf r :: numsOf r
def linesT (o n : Int) (rs : List Rw) : List Str := lineS "paper" [o, n] :: rs.map lineR ++ [lineS "sum" [sumF (allNums o n rs)]]
def textT (o n : Int) (rs : List Rw) : Str := Txt.join "\n" (linesT o n rs)
structure LnOk (w : Str) (ns : List Int) : Prop where
  wd : w = "paper" ∨ w = "take" ∨ w = "put" ∨ w = "sum"
  sm : ∀ i ∈ ns, Sm i
  few : ns.length ≤ 8
theorem LnOk.parts {w : Str} {ns : List Int} (h : LnOk w ns) : ∀ p ∈ w :: ns.map numS, p.length ≤ 61 ∧ ∀ c ∈ TL.tl p, c ≠ 32 ∧ c ≠ 10 ∧ c < 128 := fun p hp => by
  rcases List.mem_cons.mp hp with rfl | hp
  · rcases h.wd with rfl | rfl | rfl | rfl
    · exact ⟨by decide +kernel, by decide +kernel⟩
    · exact ⟨by decide +kernel, by decide +kernel⟩
    · exact ⟨by decide +kernel, by decide +kernel⟩
    · exact ⟨by decide +kernel, by decide +kernel⟩
  · obtain ⟨i, hi, rfl⟩ := List.mem_map.mp hp
    refine ⟨numS_len (h.sm i hi), fun c hc => ?_⟩
    have := numS_code i c hc
    omega
theorem LnOk.len {w : Str} {ns : List Int} (h : LnOk w ns) : (lineS w ns).length ≤ 600 := by
  have h1 := jn_len (y := " ") fun p hp => (h.parts p hp).1
  have h2 := h.few
  have e : (" " : Str).length = 1 := by decide +kernel
  rw [e, List.length_cons, List.length_map] at h1
  show (Txt.join " " (w :: ns.map numS)).length ≤ 600
  omega
theorem LnOk.code {w : Str} {ns : List Int} (h : LnOk w ns) : ∀ c ∈ TL.tl (lineS w ns), c ≠ 10 ∧ c < 128 := fun c hc => by
  rcases mem_jn hc with z | ⟨p, hp, z⟩
  · have e : TL.tl (" " : Str) = [32] := by decide +kernel
    rw [e, List.mem_singleton] at z
    omega
  · exact ((h.parts p hp).2 c z).2
theorem LnOk.split {w : Str} {ns : List Int} (h : LnOk w ns) : Txt.split (lineS w ns) " " = w :: ns.map numS :=
  TL.split_join (s := 32) (S := []) (by decide +kernel) (by decide +kernel) (by simp) fun p hp z => ((h.parts p hp).2 32 z).1 rfl
structure PpOk (o n : Int) (rs : List Rw) : Prop where
  o : Sm o
  n : Sm n
  rows : ∀ r ∈ rs, r.good ∧ (∀ i ∈ numsOf r, Sm i) ∧ (numsOf r).length ≤ 7
  few : rs.length ≤ 20
theorem sumF_b (ns : List Int) : 0 ≤ sumF ns ∧ sumF ns < 1000003 := by
  unfold sumF
  suffices h : ∀ (ns : List Int) (f : Int), 0 ≤ f ∧ f < 1000003 → 0 ≤ ns.foldl (fun f n => (f * 31 + n + 7) % 1000003) f ∧ ns.foldl (fun f n => (f * 31 + n + 7) % 1000003) f < 1000003 from h ns 0 (by decide)
  intro ns
  induction ns with
  | nil => exact fun f h => h
  | cons n ns ih => exact fun f _ => ih ((f * 31 + n + 7) % 1000003) (by omega)
theorem sm_small {i : Int} (h0 : 0 ≤ i) (h1 : i < 1000003) : Sm i := by
  have e : (1000003 : Int) < 10 ^ 60 := by decide +kernel
  exact ⟨by omega, by omega⟩
theorem lnR {r : Rw} (h : (∀ i ∈ numsOf r, Sm i) ∧ (numsOf r).length ≤ 7) : LnOk (wordOf r) (numsOf r) := ⟨by cases r <;> simp [wordOf], h.1, by omega⟩
theorem PpOk.lines {o n : Int} {rs : List Rw} (h : PpOk o n rs) : ∀ p ∈ linesT o n rs, ∃ w ns, p = lineS w ns ∧ LnOk w ns := fun p hp => by
  rcases List.mem_append.mp hp with hp | hp
  · rcases List.mem_cons.mp hp with e | hp
    · exact ⟨_, _, e, .inl rfl, fun i hi => by
        simp only [List.mem_cons, List.not_mem_nil, or_false] at hi
        rcases hi with rfl | rfl
        · exact h.o
        · exact h.n, by simp⟩
    · obtain ⟨r, hr, rfl⟩ := List.mem_map.mp hp
      exact ⟨_, _, rfl, lnR (h.rows r hr).2⟩
  · rw [List.mem_singleton] at hp
    refine ⟨_, _, hp, .inr (.inr (.inr rfl)), fun i hi => ?_, by simp⟩
    rw [List.mem_singleton] at hi
    subst hi
    have := sumF_b (allNums o n rs)
    exact sm_small this.1 this.2
theorem PpOk.split {o n : Int} {rs : List Rw} (h : PpOk o n rs) : Txt.split (textT o n rs) "\n" = linesT o n rs :=
  TL.split_join (s := 10) (S := []) (by decide +kernel) (by decide +kernel) (by simp [linesT]) fun p hp z => by
    obtain ⟨w, ns, rfl, hl⟩ := h.lines p hp
    exact (hl.code 10 z).1 rfl
theorem linesT_len (o n : Int) (rs : List Rw) : (linesT o n rs).length = rs.length + 2 := by
  unfold linesT
  rw [List.length_append, List.length_cons, List.length_map]
  rfl
theorem PpOk.len {o n : Int} {rs : List Rw} (h : PpOk o n rs) : ((linesT o n rs).map (·.length)).sum + (linesT o n rs).length * ("\n" : Str).length ≤ 14000 ∧ (textT o n rs).length ≤ 14000 := by
  have hp : ∀ p ∈ linesT o n rs, p.length ≤ 600 := fun p hp => by
    obtain ⟨w, ns, rfl, hl⟩ := h.lines p hp
    exact hl.len
  have h1 := jn_sum hp
  have h2 := jn_len (y := "\n") hp
  have e : ("\n" : Str).length = 1 := by decide +kernel
  have h3 := h.few
  rw [linesT_len] at h1 h2 ⊢
  rw [e] at h2 ⊢
  unfold textT
  omega
theorem PpOk.asc {o n : Int} {rs : List Rw} (h : PpOk o n rs) : Asc (textT o n rs) := fun c hc => by
  rcases mem_jn hc with z | ⟨p, hp, z⟩
  · have e : TL.tl ("\n" : Str) = [10] := by decide +kernel
    rw [e, List.mem_singleton] at z
    omega
  · obtain ⟨w, ns, rfl, hl⟩ := h.lines p hp
    exact (hl.code c z).2
/-! #### a number's word -/
theorem sw_num (i : Int) : Txt.startswith (numS i) "-" = decide (i < 0) := by
  have e : TL.tl ("-" : Str) = [45] := by decide +kernel
  have el : ("-" : Str).length = 1 := by decide +kernel
  unfold Txt.startswith
  rw [StrLaws.subAt_eq, el, List.drop_zero]
  show (decide (0 + 1 ≤ (numS i).length) && ((TL.tl (numS i)).take 1 == TL.tl ("-" : Str))) = _
  rw [e, TL.len_tl]
  by_cases h : i < 0
  · rw [tl_numSn h, decide_eq_true h]
    simp
  · rw [tl_numS0 (by omega), decide_eq_false h]
    have hn := TL.numL_ne i.natAbs
    have hd := TL.numL_digits i.natAbs
    cases q : TL.numL i.natAbs with
    | nil => exact absurd q hn
    | cons c cs =>
      have := hd c (by rw [q]; exact .head _)
      simp
      omega
theorem cut_num {i : Int} (h : i < 0) : cutS (numS i) (some 1) none = numS (i.natAbs : Int) := by
  refine TL.ext_tl ?_
  rw [tl_numS0 (by omega)]
  have e := cut_from (TL.tl (numS i)) 1
  rw [← TL.len_tl] at e
  show ((TL.tl (numS i)).drop _).take _ = _
  refine e.trans ?_
  rw [tl_numSn h]
  rfl
theorem num_ne {i : Int} (h : i < 0) : numS (i.natAbs : Int) ≠ numS i := fun e => by
  have e1 := congrArg TL.tl e
  rw [tl_numS0 (by omega), tl_numSn h] at e1
  have : (45 : Nat) ∈ TL.numL ((i.natAbs : Int).natAbs) := by rw [e1]; exact .head _
  exact TL.numL_free (.inl (by decide)) this
def pap (old : Int) (n : Int) (rs : List Rw) : D := .tup [.int old, .int n, .tup (rs.map Rw.tl)]
theorem sm_log {i : Int} (h : Sm i) : i.natAbs.log2 < 1920 := by
  have h1 := h.1
  have h2 := h.2
  have e : ((10 : Int) ^ 60) = ((10 ^ 60 : Nat) : Int) := by decide +kernel
  rw [e] at h1 h2
  have e2 : (10 ^ 60 : Nat) ≤ 2 ^ 1920 := by decide +kernel
  by_cases q : i.natAbs = 0
  · rw [q]
    decide
  · exact (Nat.log2_lt q).mpr (by omega)
theorem fit_lit {s : Str} (h : (TL.tl s).all (fun c => decide (c < 128)) = true) : (D.str s).fit = true := fit_of fun c hc => of_decide_eq_true (List.all_eq_true.mp h c hc)
abbrev sp_sum_of {K : PySem.W.Frag} {mg : Str → Option Value} (T : Tx K mg) : Sp := spG K (fun ns : List Int => ns.length ≤ 1000) (fun ns => [.lst (ns.map .int)]) (fun ns => .int (sumF ns))
abbrev sp_numbers_of {K : PySem.W.Frag} {mg : Str → Option Value} (T : Tx K mg) : Sp := spF K (fun r : Rw => (numsOf r).length ≤ 7) (fun r => [r.tl]) (fun r => (numsOf r).map .int)
abbrev sp_row_shown {K : PySem.W.Frag} {mg : Str → Option Value} (T : Tx K mg) : Sp := spG K (fun x : Str × List Int => LnOk x.1 x.2) (fun x => [.str x.1, .lst (x.2.map .int)]) (fun x => .str (lineS x.1 x.2))
abbrev sp_paper_text {K : PySem.W.Frag} {mg : Str → Option Value} (T : Tx K mg) : Sp := spG K (fun x : Int × Int × List Rw => PpOk x.1 x.2.1 x.2.2) (fun x => [pap x.1 x.2.1 x.2.2]) (fun x => .str (textT x.1 x.2.1 x.2.2))
abbrev sp_number_of {K : PySem.W.Frag} {mg : Str → Option Value} (T : Tx K mg) : Sp := spG K (fun i : Int => Sm i) (fun i => [.str (numS i)]) (fun i => .int i)
abbrev sp_row_read {K : PySem.W.Frag} {mg : Str → Option Value} (T : Tx K mg) : Sp := spG K (fun r : Rw => r.good ∧ (∀ i ∈ numsOf r, Sm i) ∧ (numsOf r).length ≤ 7) (fun r => [.lst ((wordOf r :: (numsOf r).map numS).map .str)]) (fun r => r.tl)
abbrev sp_read_paper {K : PySem.W.Frag} {mg : Str → Option Value} (T : Tx K mg) : Sp := spG K (fun x : Int × Int × List Rw => PpOk x.1 x.2.1 x.2.2) (fun x => [.str (textT x.1 x.2.1 x.2.2)]) (fun x => pap x.1 x.2.1 x.2.2)
section
variable {P : Program} {w : World} {K : PySem.W.Frag} {mg : Str → Option Value} {base : Heap}
theorem ok_sum_of (T : Tx K mg) : FnOk P w K mg base CX0 1 T.a_sum_of T.d_sum_of ["numbers"] (sp_sum_of T) := by
  refine fn_r T.F_sum_of sc_sum_of (fun _ => rfl) (fun cdv A outer s H E hr =>
      (pss_cons (ps_set (i := 1) sc_sum_of.nd rfl (by first | exact Or.inl rfl | exact Or.inr rfl) pe_int)
      (pss_cons (ps_for PassesOwn.never rfl (seqK (K := K) rfl (pv 0)) (pg_name (i := 2) sc_sum_of.nd rfl (by first | exact Or.inl rfl | exact Or.inr rfl)) (pss_one (ps_set (i := 1) sc_sum_of.nd rfl (by first | exact Or.inl rfl | exact Or.inr rfl) (pe_op op_mod (pe_op (addK (K := K) rfl) (pe_op (addK (K := K) rfl) (pe_op op_mulA (pv 1) pe_int) (pv 2)) pe_int) pe_int))))
      (pss_one (ps_ret (pv 1)))))) (fun x hx => ?_)
  have hx : x.length ≤ 1000 := hx
  refine xs_seq (xs_asg ev_ci eg_name ?_)
  dsimp only
  refine xs_seq (xs_for (ei_seqL (ev_var (d := .lst (x.map .int)) rfl)) (fun k ρ => ∃ v2, ρ = [some (.sh (.lst (x.map .int))), some (.sh (.int (sumF (x.take k)))), v2]) ⟨_, rfl⟩ ?_ ?_)
  · rintro k d ρ1 hk ⟨v2, rfl⟩
    rw [List.getElem?_map] at hk
    obtain ⟨n, hn, rfl⟩ := Option.map_eq_some_iff.mp hk
    have hb := sumF_b (x.take k)
    have e : sumF (x.take (k + 1)) = (sumF (x.take k) * 31 + n + 7) % 1000003 := by
      rw [take_more hn]
      unfold sumF
      rw [List.foldl_append]
      rfl
    rw [e]
    generalize sumF (x.take k) = f at hb
    exact ⟨_, eg_name, xs_asg (d := .int ((f * 31 + n + 7) % 1000003)) (by walk_at "dl ev") eg_name ⟨_, rfl⟩⟩
  · rintro ρ1 ⟨v2, rfl⟩
    rw [List.length_map, List.take_length]
    exact xs_ret (ev_var rfl) rfl
theorem ok_numbers_of (T : Tx K mg) : FnOk P w K mg base CX0 1 T.a_numbers_of T.d_numbers_of ["told"] (sp_numbers_of T) := by
  refine fn_f T.F_numbers_of sc_numbers_of (fun _ => rfl) (fun cdv A outer s H E hr =>
      (pss_cons (ps_if (pt_cmpR (eqK (K := K) rfl hr.units) (pe_ix (ixK (K := K) rfl) (pv 0) pe_int (fun _ _ => rfl)) pe_str (nomark _)) (pss_one (ps_ret (pe_op (addK (K := K) rfl) (pe_lst (pa_cons (pe_ix (ixK (K := K) rfl) (pv 0) pe_int (fun _ _ => rfl)) pa_nil)) (pe_callTy (listK (K := K) rfl) (by rfl) T.z_list (by decide +kernel) (pa_cons (pe_ix (ixK (K := K) rfl) (pv 0) pe_int (fun _ _ => rfl)) pa_nil))))) pss_nil)
      (pss_one (ps_ret (pe_callTy (listK (K := K) rfl) (by rfl) T.z_list (by decide +kernel) (pa_cons (pe_slice (slK (K := K) rfl) (pv 0) (po_some pe_int) po_none) pa_nil)))))) (fun x hx => ?_)
  have hx : (numsOf x).length ≤ 7 := hx
  cases x with
  | put t ss =>
    have hx : ss.length + 1 ≤ 7 := hx
    have hrow : ∀ {ρ : DL.Env} {i : Int} {d : D}, ρ[0]? = some (some (.sh (Rw.put t ss).tl)) → atI [.str "put", .int t, .tup (ss.map .int)] i = some d → EvD K (tOp (rIx K) (tVar 0) (tC (.int i))) ρ d := fun h q => ev_ixt (ds := [.str "put", .int t, .tup (ss.map .int)]) (ev_var h) ev_ci q
    refine xs_seq (xs_yes (et_t ((ev_eqS (x := "put") (y := "put") (hrow rfl (atI_nat (j := 0) rfl)) ev_cs (by decide +kernel) (by decide +kernel)).is (by rw [decide_eq_true rfl]))) rfl ?_)
    exact xs_retF (EvF.is (ef_addL (EvF.m (ef_lst (ea_cons (hrow rfl (atI_nat (j := 1) rfl)) ea_nil) (Nat.le_of_ble_eq_true rfl))) (EvF.m (ef_listT (hrow rfl (atI_nat (j := 2) rfl)))) (by rw [List.length_map]; show 1 + _ ≤ _; omega)) rfl) rfl
  | take t s n =>
    have hrow : ∀ {ρ : DL.Env} {i : Int} {d : D}, ρ[0]? = some (some (.sh (Rw.take t s n).tl)) → atI [.str "take", .int t, .int s, .int n] i = some d → EvD K (tOp (rIx K) (tVar 0) (tC (.int i))) ρ d := fun h q => ev_ixt (ds := [.str "take", .int t, .int s, .int n]) (ev_var h) ev_ci q
    refine xs_seq (xs_no (et_t ((ev_eqS (x := "take") (y := "put") (hrow rfl (atI_nat (j := 0) rfl)) ev_cs (by decide +kernel) (by decide +kernel)).is (congrArg D.bl (by decide +kernel : decide (("take" : Str) = "put") = false)))) rfl ?_)
    exact xs_retF (ef_listT ((ev_slT (ds := [.str "take", .int t, .int s, .int n]) (ev_var rfl) (eo_some ev_ci) eo_none).is rfl)) rfl
theorem ok_row_shown (T : Tx K mg) : FnOk P w K mg base CX0 1 T.a_row_shown T.d_row_shown ["word", "numbers"] (sp_row_shown T) := by
  refine fn_r T.F_row_shown sc_row_shown (fun _ => rfl) (fun cdv A outer s H E hr =>
      (pss_one (ps_ret (bmK (K := K) rfl PySem.F.plainAttrs_str PySem.F.slot_str_join PySem.F.type_str_join (joinK (K := K) rfl) pe_str (pa_cons (pe_op (addK (K := K) rfl) (pe_lst (pa_cons (pv 0) pa_nil)) (pe_lc (own := [("number", 2)]) rfl sc_row_shown.nd (seqK (K := K) rfl (pv 1)) (blkOk_by (N := ["word", "numbers", "number"]) (sc := defScope s_row_shown) (by decide +kernel)) (fun _ _ _ _ _ => (pg_name (i := 2) sc_row_shown.nd rfl (by first | exact Or.inl rfl | exact Or.inr rfl))) (fun _ _ _ _ _ => pts_nil) (fun _ _ _ _ _ => (pe_callTy call_str_int (by rfl) T.z_str (by decide +kernel) (pa_cons (pv 2) pa_nil))))) pa_nil))))) (fun x hx => ?_)
  obtain ⟨wd, ns⟩ := x
  have hx : LnOk wd ns := hx
  have hf := hx.few
  refine xs_ret (ev_join (a := " ") (ys := wd :: ns.map numS) ev_cs (EvF.b (EvF.is (ef_addL (EvF.m (ef_lst (ea_cons (ev_var rfl) ea_nil) (Nat.le_of_ble_eq_true rfl))) (EvF.m (ef_lc0 ns D.int (fun i => .str (numS i)) rfl (ei_seqL (ev_var rfl)) (by omega) (fun k i hk => ⟨_, egc_name (by decide), ev_strI (ev_var rfl) (sm_log (hx.sm i (List.mem_of_getElem? hk)))⟩))) (by rw [List.length_map]; show 1 + _ ≤ _; omega)) (by rw [List.map_cons, List.map_map]; rfl))) ?_) rfl
  have h1 := jn_sum fun p hp => (hx.parts p hp).1
  have e : (" " : Str).length = 1 := by decide +kernel
  rw [e, List.length_cons, List.length_map] at *
  omega
theorem ok_number_of (T : Tx K mg) : FnOk P w K mg base CX0 1 T.a_number_of T.d_number_of ["word"] (sp_number_of T) := by
  refine fn_r T.F_number_of sc_number_of (fun _ => rfl) (fun cdv A outer s H E hr =>
      (pss_cons (ps_set (i := 1) sc_number_of.nd rfl (by first | exact Or.inl rfl | exact Or.inr rfl) (pv 0))
      (pss_cons (ps_if (pt_val (bmK (K := K) rfl PySem.F.plainAttrs_str PySem.F.slot_str_startswith PySem.F.type_str_startswith mt_startswith (pv 0) (pa_cons pe_str pa_nil))) (pss_one (ps_set (i := 1) sc_number_of.nd rfl (by first | exact Or.inl rfl | exact Or.inr rfl) (pe_slice sl_str (pv 0) (po_some pe_int) po_none))) pss_nil)
      (pss_cons (ps_if (PW.pt (pw_or (pt_cmpR (eqK (K := K) rfl hr.units) (pv 1) pe_str (nomark _)) (pw_or (pt_cmpR op_gt (pe_callB (lenK (K := K) rfl) (by rfl) T.z_len (by decide +kernel) (pa_cons (pv 1) pa_nil)) pe_int (nomark _)) (pw_or1 (pt_cmpR (neK (K := K) rfl hr.units) (pe_lc (own := [("sign", 3)]) rfl sc_number_of.nd (pi_str (pv 1)) (blkOk_by (N := ["word", "figures", "number", "sign"]) (sc := defScope s_number_of) (by decide +kernel)) (fun _ _ _ _ _ => (pg_name (i := 3) sc_number_of.nd rfl (by first | exact Or.inl rfl | exact Or.inr rfl))) (fun _ _ _ _ _ => pts_one (pt_cmpR (notInK (K := K) rfl (hu65 hr)) (pv 3) (pe_glob (v := .str "0123456789") (by rfl) T.c_FIGURES ⟨_, rfl⟩) rfl)) (fun _ _ _ _ _ => (pv 3))) (pe_lst pa_nil) (nomark _)))))) (pss_one (ps_never)) pss_nil)
      (pss_cons (ps_set (i := 2) sc_number_of.nd rfl (by first | exact Or.inl rfl | exact Or.inr rfl) (pe_callTy call_int_str (by rfl) T.z_int (by decide +kernel) (pa_cons (pv 1) pa_nil)))
      (pss_cons (ps_if (pt_cmpR (neK (K := K) rfl hr.units) (pv 1) (pv 0) (nomark _)) (pss_one (ps_set (i := 2) sc_number_of.nd rfl (by first | exact Or.inl rfl | exact Or.inr rfl) (pe_un un_neg (pv 2)))) pss_nil)
      (pss_one (ps_ret (pv 2))))))))) (fun x hx => ?_)
  have hx : Sm x := hx
  refine xs_seq (xs_asg (d := .str (numS x)) (ev_var rfl) eg_name ?_)
  dsimp only
  have hn := numS_len hx
  refine xs_cut (fun ρ => ρ = [some (.sh (.str (numS x))), some (.sh (.str (numS (x.natAbs : Int)))), none, none]) ?_ ?_
  · refine xs_if (et_t ((ev_sw (a := numS x) (b := "-") (ev_var rfl) ev_cs).is (by rw [sw_num]))) (fun h => ?_) (fun h => xs_next ?_)
    · have h : x < 0 := of_decide_eq_true h
      exact xs_asg (d := .str (numS (x.natAbs : Int))) (EvD.is (ev_slS (a := numS x) (ev_var rfl) (eo_some ev_ci) eo_none (by rw [sizeLine_eq]; omega)) (by rw [cut_num h])) eg_name rfl
    · have h : ¬ x < 0 := of_decide_eq_false h
      show _ = [_, some (SV.sh (D.str (numS (x.natAbs : Int)))), _, _]
      rw [show (x.natAbs : Int) = x by omega]
      rfl
  rintro ρ1 rfl
  have ha : Sm (x.natAbs : Int) := by
    have h1 := hx.1
    have h2 := hx.2
    exact ⟨by omega, by omega⟩
  have tf := tl_numS0 (i := (x.natAbs : Int)) (by omega)
  have hl60 : (TL.numL x.natAbs).length ≤ 60 := TL.numL_len (by decide) (by
    have h1 := hx.1
    have h2 := hx.2
    have e : ((10 : Int) ^ 60) = ((10 ^ 60 : Nat) : Int) := by decide +kernel
    rw [e] at h1 h2
    omega)
  have hfl : (numS (x.natAbs : Int)).length = (TL.numL x.natAbs).length := by rw [TL.len_tl, tf]; rfl
  refine xs_seq (xs_no (b := false) (et_orF (EvT.is (et_t (ev_eqS (x := numS (x.natAbs : Int)) (y := "") (ev_var rfl) ev_cs (fit_of (asc_numS _)) (by decide +kernel))) ?_) (et_orF (EvT.is (et_t (ev_Ib (i := ((numS (x.natAbs : Int)).length : Int)) (j := 60) (g := fun i j => decide (i > j)) (ev_lenSA (ev_var rfl) (by rw [sizeLine_eq]; omega)) ev_ci)) (decide_eq_false (by omega))) (et_t (ev_neN (xs := []) (EvM.r (EvF.m (EvF.is (ef_lc (numS (x.natAbs : Int)).cps.toList (fun c => D.str ⟨#[c]⟩) (fun _ => false) (fun c => D.str ⟨#[c]⟩) rfl (ei_str (ev_var rfl)) ?_ (fun k c hk => ⟨_, egc_name (by decide), EvT.is (et_t (ev_notInSg (z := "0123456789") (ev_var rfl) ev_cs)) ?_, fun h => nomatch h⟩)) ?_))) (EvM.r (EvF.m (ef_lst ea_nil (by decide)))) rfl)))) rfl ?_)
  · refine decide_eq_false fun e => ?_
    rw [e] at hfl
    have := List.length_pos_iff.mpr (TL.numL_ne x.natAbs)
    have e0 : ("" : Str).length = 0 := by decide +kernel
    omega
  · show (TL.tl (numS (x.natAbs : Int))).length ≤ 50000
    rw [tf]
    exact Nat.le_trans hl60 (by decide)
  · have hc : c ∈ TL.tl (numS (x.natAbs : Int)) := List.mem_of_getElem? hk
    rw [tf] at hc
    have := TL.numL_digits _ c hc
    have e : ("0123456789" : Str).cps.toList = [48, 49, 50, 51, 52, 53, 54, 55, 56, 57] := by decide +kernel
    rw [e, decide_eq_true]
    · rfl
    · simp only [List.mem_cons, List.not_mem_nil, or_false]
      omega
  · rw [List.filter_eq_nil_iff.mpr (fun _ _ => by simp)]
    rfl
  refine xs_seq (xs_asg (d := .int (x.natAbs : Int)) (ev_intS (a := numS (x.natAbs : Int)) (ev_var rfl) (TL.int_num (n := x.natAbs) (by omega)) (by omega)) eg_name ?_)
  dsimp only
  refine xs_cut (fun ρ => ∃ v1 v3, ρ = [some (.sh (.str (numS x))), v1, some (.sh (.int x)), v3]) ?_ ?_
  · refine xs_if (et_t (ev_neS (x := numS (x.natAbs : Int)) (y := numS x) (ev_var rfl) (ev_var rfl) (fit_of (asc_numS _)) (fit_of (asc_numS _)))) (fun h => ?_) (fun h => xs_next ⟨some (.sh (.str (numS (x.natAbs : Int)))), none, ?_⟩)
    · have h : numS (x.natAbs : Int) ≠ numS x := by simpa using h
      have hlt : x < 0 := by
        by_cases q : x < 0
        · exact q
        · exact absurd (by rw [show (x.natAbs : Int) = x by omega]) h
      exact xs_asg (d := .int x) (EvD.is (d := .int (-(x.natAbs : Int))) (by walk_at "dl ev") (by rw [show -(x.natAbs : Int) = x by omega])) eg_name ⟨_, _, rfl⟩
    · have h : numS (x.natAbs : Int) = numS x := by simpa using h
      have hge : ¬ x < 0 := fun q => num_ne q h
      show [some (SV.sh (D.str (numS x))), some (SV.sh (D.str (numS (x.natAbs : Int)))), some (SV.sh (D.int (x.natAbs : Int))), none] = _
      rw [show (D.int (x.natAbs : Int)) = D.int x by congr 1; omega]
  rintro ρ1 ⟨v1, v3, rfl⟩
  exact xs_ret (ev_var rfl) rfl
theorem alln_len {o n : Int} {m : Nat} : ∀ {rs : List Rw}, (∀ r ∈ rs, (numsOf r).length ≤ m) → (allNums o n rs).length ≤ 3 + rs.length * (m + 1) := fun {rs} h => by
  unfold allNums
  rw [List.length_append, List.length_flatMap]
  have h1 := sum_le (m := m + 1) (ns := rs.map fun r => (codeOf r :: numsOf r).length) fun k hk => by
    obtain ⟨r, hr, rfl⟩ := List.mem_map.mp hk
    have := h r hr
    rw [List.length_cons]
    omega
  rw [List.length_map] at h1
  show 3 + _ ≤ _
  omega
theorem tl_word (r : Rw) {ρ : DL.Env} {i : Nat} (h : ρ[i]? = some (some (.sh r.tl))) : EvD K (tOp (rIx K) (tVar i) (tC (.int 0))) ρ (.str (wordOf r)) := by
  cases r with
  | take t s n => exact ev_ixt (ds := [.str "take", .int t, .int s, .int n]) (ev_var h) ev_ci (atI_nat (j := 0) rfl)
  | put t ss => exact ev_ixt (ds := [.str "put", .int t, .tup (ss.map .int)]) (ev_var h) ev_ci (atI_nat (j := 0) rfl)
theorem ev_isTk' {ρ : DL.Env} {ta : TE} {r : Rw} (h : EvD K ta ρ r.tl) : EvD K (tOp (rEqD K) (tOp (rIx K) ta (tC (.int 0))) (tC (.str "take"))) ρ (.bl r.isTake) := by
  cases r with
  | take t s n => exact (ev_eqS (x := "take") (y := "take") (ev_ixt (ds := [.str "take", .int t, .int s, .int n]) h ev_ci (atI_nat rfl)) ev_cs (by decide +kernel) (by decide +kernel)).is (by simp [Rw.isTake])
  | put t ss => exact (ev_eqS (x := "put") (y := "take") (ev_ixt (ds := [.str "put", .int t, .tup (ss.map .int)]) h ev_ci (atI_nat rfl)) ev_cs (by decide +kernel) (by decide +kernel)).is (congrArg D.bl (by decide +kernel : decide (("put" : Str) = "take") = false))
theorem ok_paper_text (T : Tx K mg) : FnOk P w K mg base CX0 2 T.a_paper_text T.d_paper_text ["paper"] (sp_paper_text T) := by
  refine fn_r T.F_paper_text sc_paper_text (fun _ => rfl) (fun cdv A outer s H E hr =>
      (pss_cons (ps_asg (pv 0) (gtupK (n := 3) (K := K) rfl rfl (pgs_cons (pg_name (i := 1) sc_paper_text.nd rfl (by first | exact Or.inl rfl | exact Or.inr rfl)) (pgs_cons (pg_name (i := 2) sc_paper_text.nd rfl (by first | exact Or.inl rfl | exact Or.inr rfl)) (pgs_cons (pg_name (i := 3) sc_paper_text.nd rfl (by first | exact Or.inl rfl | exact Or.inr rfl)) pgs_nil)))))
      (pss_cons (ps_set (i := 4) sc_paper_text.nd rfl (by first | exact Or.inl rfl | exact Or.inr rfl) (pe_lst (pa_cons pe_int (pa_cons (pv 1) (pa_cons (pv 2) pa_nil)))))
      (pss_cons (ps_set (i := 5) sc_paper_text.nd rfl (by first | exact Or.inl rfl | exact Or.inr rfl) (pe_lst (pa_cons (pe_call (ok_row_shown T) hr (by rfl) T.g_row_shown T.F_row_shown.kp T.b_row_shown .nil pass0 (pa_cons pe_str (pa_cons (pe_lst (pa_cons (pv 1) (pa_cons (pv 2) pa_nil))) pa_nil))) pa_nil)))
      (pss_cons (ps_for PassesOwn.never rfl (seqK (K := K) rfl (pv 3)) (pg_name (i := 6) sc_paper_text.nd rfl (by first | exact Or.inl rfl | exact Or.inr rfl)) (pss_cons (ps_set (i := 7) sc_paper_text.nd rfl (by first | exact Or.inl rfl | exact Or.inr rfl) (pe_call (ok_numbers_of T) hr (by rfl) T.g_numbers_of T.F_numbers_of.kp T.b_numbers_of .nil pass0 (pa_cons (pv 6) pa_nil)))
      (pss_cons (ps_set (i := 4) sc_paper_text.nd rfl (by first | exact Or.inl rfl | exact Or.inr rfl) (pe_op (addK (K := K) rfl) (pe_op (addK (K := K) rfl) (pv 4) (pe_lst (pa_cons (pe_op (addK (K := K) rfl) (bmK (K := K) rfl PySem.F.plainAttrs_tuple PySem.F.slot_tuple_index PySem.F.type_tuple_index (tindexK (K := K) rfl) (pe_glob (v := .ref T.W_WORDS) (by rfl) T.c_WORDS rfl) (pa_cons (pe_ix (ixK (K := K) rfl) (pv 6) pe_int (fun _ _ => rfl)) pa_nil)) pe_int) pa_nil))) (pv 7)))
      (pss_one (ps_expr (bmK (K := K) rfl PySem.F.plainAttrs_list PySem.F.slot_list_append PySem.F.type_list_append mt_append (pv 5) (pa_cons (pe_call (ok_row_shown T) hr (by rfl) T.g_row_shown T.F_row_shown.kp T.b_row_shown .nil pass0 (pa_cons (pe_ix (ixK (K := K) rfl) (pv 6) pe_int (fun _ _ => rfl)) (pa_cons (pv 7) pa_nil))) pa_nil)))))))
      (pss_one (ps_ret (bmK (K := K) rfl PySem.F.plainAttrs_str PySem.F.slot_str_join PySem.F.type_str_join (joinK (K := K) rfl) pe_str (pa_cons (pe_op (addK (K := K) rfl) (pv 5) (pe_lst (pa_cons (pe_call (ok_row_shown T) hr (by rfl) T.g_row_shown T.F_row_shown.kp T.b_row_shown .nil pass0 (pa_cons pe_str (pa_cons (pe_lst (pa_cons (pe_call (ok_sum_of T) hr (by rfl) T.g_sum_of T.F_sum_of.kp T.b_sum_of .nil pass0 (pa_cons (pv 4) pa_nil)) pa_nil)) pa_nil))) pa_nil))) pa_nil))))))))) (fun x hx => ?_)
  obtain ⟨o, n, rs⟩ := x
  have hx : PpOk o n rs := hx
  have hfew := hx.few
  have hl0 : LnOk "paper" [o, n] := by
    refine ⟨.inl rfl, fun i hi => ?_, by simp⟩
    simp only [List.mem_cons, List.not_mem_nil, or_false] at hi
    rcases hi with rfl | rfl
    · exact hx.o
    · exact hx.n
  have hl2 : LnOk "sum" [sumF (allNums o n rs)] := by
    refine ⟨.inr (.inr (.inr rfl)), fun i hi => ?_, by simp⟩
    rw [List.mem_singleton] at hi
    subst hi
    have := sumF_b (allNums o n rs)
    exact sm_small this.1 this.2
  refine xs_seq (xs_asg (d := pap o n rs) (ev_var rfl) (eg_tup (egs_cons eg_name (egs_cons eg_name (egs_cons eg_name egs_nil))) rfl) ?_)
  dsimp only
  refine xs_seq (xs_asgF (ds := [1, o, n].map D.int) (ef_lst (ea_cons ev_ci (ea_cons (ev_var rfl) (ea_cons (ev_var rfl) ea_nil))) (Nat.le_of_ble_eq_true rfl)) ?_)
  refine xs_seq (xs_asgF (ds := [D.str (lineS "paper" [o, n])]) (ef_lst (ea_cons (ev_call (x := (("paper" : Str), [o, n])) (ea_cons ev_cs (ea_cons (EvF.v (ef_lst (ea_cons (ev_var rfl) (ea_cons (ev_var rfl) ea_nil)) (Nat.le_of_ble_eq_true rfl))) ea_nil)) hl0) ea_nil) (Nat.le_of_ble_eq_true rfl)) ?_)
  dsimp only
  refine xs_seq (xs_for (ei_seqT (ds := rs.map Rw.tl) (ev_var rfl)) (fun k ρ => ∃ v6 v7, ρ = [some (.sh (pap o n rs)), some (.sh (.int o)), some (.sh (.int n)), some (.sh (.tup (rs.map Rw.tl))), some (.ol ((allNums o n (rs.take k)).map .int)), some (.ol ((lineS "paper" [o, n] :: (rs.take k).map lineR).map .str)), v6, v7]) ⟨_, _, rfl⟩ ?_ ?_)
  · rintro k d ρ1 hk ⟨v6, v7, rfl⟩
    rw [List.getElem?_map] at hk
    obtain ⟨r, hr, rfl⟩ := Option.map_eq_some_iff.mp hk
    obtain ⟨hg, hs, h7⟩ := hx.rows r (List.mem_of_getElem? hr)
    have hkl := (List.getElem?_eq_some_iff.mp hr).1
    have hal := alln_len (o := o) (n := n) (m := 7) (rs := rs.take k) fun r hr => (hx.rows r (List.mem_of_mem_take hr)).2.2
    have htk : (rs.take k).length ≤ 20 := by rw [List.length_take]; omega
    refine ⟨_, eg_name, ?_⟩
    refine xs_seq (xs_asgF (ef_call (x := r) (ea_cons (ev_var rfl) ea_nil) h7) ?_)
    refine xs_fz 7 rfl ?_
    have hcode : ∀ {ρ : DL.Env}, ρ[6]? = some (some (.sh r.tl)) → EvD K (tOp (rAddA K) (tBM K "tuple" (rTIndex K) (tC (.ref T.W_WORDS)) (tCons (tOp (rIx K) (tVar 6) (tC (.int 0))) tNil)) (tC (.int 1))) ρ (.int (codeOf r)) := fun h => by
      have hw := tl_word (K := K) r h
      cases r with
      | take t s n => exact (ev_addI (ev_tindex (j := 1) T.w_WORDS hw rfl (fun m hm =>
          match m, hm with
          | 0, _ => (by decide +kernel : (["paper", "take", "put"] : List Str)[0]? ≠ some ("take" : Str)))) ev_ci).is rfl
      | put t ss => exact (ev_addI (ev_tindex (j := 2) T.w_WORDS hw rfl (fun m hm =>
          match m, hm with
          | 0, _ => (by decide +kernel : (["paper", "take", "put"] : List Str)[0]? ≠ some ("put" : Str))
          | 1, _ => (by decide +kernel : (["paper", "take", "put"] : List Str)[1]? ≠ some ("put" : Str)))) ev_ci).is rfl
    refine xs_seq (xs_asgF (ds := (allNums o n (rs.take (k + 1))).map D.int) (EvF.is (ef_addL (EvF.m (ef_addL (em_var rfl) (EvF.m (ef_lst (ea_cons (hcode rfl) ea_nil) (Nat.le_of_ble_eq_true rfl))) (by rw [List.length_map]; show _ + 1 ≤ _; omega))) (EvD.m (ev_var rfl)) (by rw [List.length_append, List.length_map, List.length_map]; show _ + 1 + _ ≤ _; omega)) ?_) ?_)
    · rw [take_more hr]
      unfold allNums
      rw [List.flatMap_append, List.map_append, List.map_append, List.map_append, List.append_assoc, List.append_assoc]
      simp
    · refine xs_app rfl (d := .str (lineR r)) (ev_call (x := (wordOf r, numsOf r)) (ea_cons (tl_word r rfl) (ea_cons (ev_var rfl) ea_nil)) (lnR ⟨hs, h7⟩)) (by rw [List.length_map, List.length_cons, List.length_map]; omega) ⟨some (.sh r.tl), some (.sh (.lst ((numsOf r).map .int))), ?_⟩
      rw [take_more hr, List.map_append (l₁ := rs.take k)]
      rw [← List.cons_append, List.map_append (l₁ := lineS "paper" [o, n] :: (rs.take k).map lineR)]
      rfl
  · rintro ρ1 ⟨v6, v7, rfl⟩
    rw [List.length_map, List.take_length]
    have hal := alln_len (o := o) (n := n) (m := 7) (rs := rs) fun r hr => (hx.rows r hr).2.2
    exact xs_ret (ev_join (a := "\n") (ys := linesT o n rs) ev_cs (EvF.b (EvF.is (ef_addL (em_var rfl) (EvF.m (ef_lst (ea_cons (ev_call (x := (("sum" : Str), [sumF (allNums o n rs)])) (ea_cons ev_cs (ea_cons (EvF.v (ef_lst (ea_cons (EvD.thaw 4 rfl (ev_call (x := allNums o n rs) (ea_cons (ev_var rfl) ea_nil) (by show _ ≤ 1000; omega)) rfl) ea_nil) (Nat.le_of_ble_eq_true rfl))) ea_nil)) hl2) ea_nil) (Nat.le_of_ble_eq_true rfl))) (by rw [List.length_map, List.length_cons, List.length_map]; show _ + 1 ≤ _; omega)) (by unfold linesT; rw [List.map_append (l₁ := lineS "paper" [o, n] :: rs.map lineR)]; rfl))) (Nat.le_trans hx.len.1 (by decide))) rfl
theorem ok_row_read (T : Tx K mg) : FnOk P w K mg base CX0 2 T.a_row_read T.d_row_read ["words"] (sp_row_read T) := by
  refine fn_r T.F_row_read sc_row_read (fun _ => rfl) (fun cdv A outer s H E hr =>
      (pss_cons (ps_setLc (i := 1) (own := [("word", 2)]) rfl sc_row_read.nd rfl rfl (sw_true rfl rfl rfl (by decide +kernel)) (seqK (K := K) rfl (pe_slice (slK (K := K) rfl) (pv 0) (po_some pe_int) po_none)) (blkOk_by (N := ["words", "numbers", "word"]) (sc := defScope s_row_read) (by decide +kernel)) (fun _ _ _ _ _ => (pg_name (i := 2) sc_row_read.nd rfl (by first | exact Or.inl rfl | exact Or.inr rfl))) (fun _ _ _ _ _ => pts_nil) (fun _ _ _ _ _ => (pe_call (ok_number_of T) hr (by rfl) T.g_number_of T.F_number_of.kp T.b_number_of .nil pass0 (pa_cons (pv 2) pa_nil))))
      (pss_cons (ps_if (PW.pt (pw_and (pt_cmpR (eqK (K := K) rfl hr.units) (pe_ix (ixK (K := K) rfl) (pv 0) pe_int (fun _ _ => rfl)) pe_str (nomark _)) (pw_and1 (pt_cmpR op_gt (pe_callB (lenK (K := K) rfl) (by rfl) T.z_len (by decide +kernel) (pa_cons (pv 1) pa_nil)) pe_int (nomark _))))) (pss_one (ps_ret (pe_tup (pa_cons pe_str (pa_cons (pe_ix (ixK (K := K) rfl) (pv 1) pe_int (fun _ _ => rfl)) (pa_cons (pe_callTy (tupleK (K := K) rfl) (by rfl) T.z_tuple (by decide +kernel) (pa_cons (pe_slice (slK (K := K) rfl) (pv 1) (po_some pe_int) po_none) pa_nil)) pa_nil)))))) pss_nil)
      (pss_cons (ps_if (PW.pt (pw_or (pt_cmpR (neK (K := K) rfl hr.units) (pe_ix (ixK (K := K) rfl) (pv 0) pe_int (fun _ _ => rfl)) pe_str (nomark _)) (pw_or1 (pt_cmpR (neK (K := K) rfl hr.units) (pe_callB (lenK (K := K) rfl) (by rfl) T.z_len (by decide +kernel) (pa_cons (pv 1) pa_nil)) pe_int (nomark _))))) (pss_one (ps_never)) pss_nil)
      (pss_one (ps_ret (pe_tup (pa_cons pe_str (pa_cons (pe_ix (ixK (K := K) rfl) (pv 1) pe_int (fun _ _ => rfl)) (pa_cons (pe_ix (ixK (K := K) rfl) (pv 1) pe_int (fun _ _ => rfl)) (pa_cons (pe_ix (ixK (K := K) rfl) (pv 1) pe_int (fun _ _ => rfl)) pa_nil))))))))))) (fun x hx => ?_)
  obtain ⟨hg, hs, h7⟩ := hx
  have e : cutD ((wordOf x :: (numsOf x).map numS).map D.str) (some ((1 : Nat) : Int)) none = (numsOf x).map fun i => D.str (numS i) := by
    rw [cutD_map, cut_from]
    show ((numsOf x).map numS).map D.str = _
    rw [List.map_map]
    rfl
  refine xs_seq (xs_asgF (ds := (numsOf x).map D.int) (ef_lc0 (numsOf x) (fun i => .str (numS i)) D.int rfl (ei_seqL (EvF.v (EvF.is (ef_slL (ds := (wordOf x :: (numsOf x).map numS).map D.str) (EvM.b (EvD.m (ev_var rfl))) (eo_some ev_ci) eo_none) e))) (by omega) (fun k i hk => ⟨_, egc_name (by decide), ev_call (x := i) (ea_cons (ev_var rfl) ea_nil) (hs i (List.mem_of_getElem? hk))⟩)) ?_)
  dsimp only
  have hw : ∀ {ρ : DL.Env}, ρ[0]? = some (some (.sh (.lst ((wordOf x :: (numsOf x).map numS).map .str)))) → EvD K (tOp (rIx K) (tVar 0) (tC (.int 0))) ρ (.str (wordOf x)) := fun h => ev_ixl (ds := (wordOf x :: (numsOf x).map numS).map D.str) (EvM.b (EvD.m (ev_var h))) ev_ci (atI_nat (j := 0) rfl)
  cases x with
  | put t ss =>
    obtain ⟨g1, g2, g3, g4⟩ := hg
    have hpos := List.length_pos_iff.mpr g2
    refine xs_seq (xs_yes (et_andT (EvT.is (et_t (ev_eqS (x := "put") (y := "put") (hw rfl) ev_cs (by decide +kernel) (by decide +kernel))) (by decide +kernel)) (EvT.is (et_t (ev_Ib (i := ((t :: ss).length : Int)) (j := 1) (g := fun i j => decide (i > j)) (ev_lenM (f := D.int) (xs := t :: ss) (EvM.b (em_var rfl))) ev_ci)) (decide_eq_true (by rw [List.length_cons]; omega)))) rfl ?_)
    exact xs_ret (ev_tup (ea_cons ev_cs (ea_cons (ev_ixl (ds := (t :: ss).map D.int) (EvM.b (em_var rfl)) ev_ci (atI_nat (j := 0) rfl)) (ea_cons (ev_tupleL (EvF.b (EvF.is (es := ss.map D.int) (ef_slL (ds := (t :: ss).map D.int) (EvM.b (em_var rfl)) (eo_some (i := ((1 : Nat) : Int)) ev_ci) eo_none) (by rw [cutD_map, cut_from]; rfl)))) ea_nil))) (Nat.le_of_ble_eq_true rfl)) rfl
  | take t s n =>
    refine xs_seq (xs_no (et_andF (EvT.is (et_t (ev_eqS (x := "take") (y := "put") (hw rfl) ev_cs (by decide +kernel) (by decide +kernel))) (by decide +kernel))) rfl ?_)
    refine xs_seq (xs_no (b := false) (et_orF (EvT.is (et_t (ev_neS (x := "take") (y := "take") (hw rfl) ev_cs (by decide +kernel) (by decide +kernel))) (by decide +kernel)) (EvT.is (et_t (ev_neI (i := ([t, s, n].length : Int)) (j := 3) (ev_lenM (f := D.int) (xs := [t, s, n]) (EvM.b (em_var rfl))) ev_ci)) rfl)) rfl ?_)
    exact xs_ret (ev_tup (ea_cons ev_cs (ea_cons (ev_ixl (ds := [t, s, n].map D.int) (EvM.b (em_var rfl)) ev_ci (atI_nat (j := 0) rfl)) (ea_cons (ev_ixl (ds := [t, s, n].map D.int) (EvM.b (em_var rfl)) ev_ci (atI_nat (j := 1) rfl)) (ea_cons (ev_ixl (ds := [t, s, n].map D.int) (EvM.b (em_var rfl)) ev_ci (atI_nat (j := 2) rfl)) ea_nil)))) (Nat.le_of_ble_eq_true rfl)) rfl
theorem cut_mid {a b : D} {xs : List D} : cutD (a :: xs ++ [b]) (some ((1 : Nat) : Int)) (some (-1)) = xs := by
  have hl : (a :: xs ++ [b]).length = xs.length + 2 := by simp
  have h2 : HT.sIx (xs.length + 2) (xs.length + 2) (some (-1)) = xs.length + 1 := by
    show (if (-1 : Int) < 0 then ((-1 : Int) + ((xs.length + 2 : Nat) : Int)).toNat else min (-1 : Int).toNat (xs.length + 2)) = _
    rw [if_pos (by decide)]
    omega
  unfold cutD
  rw [HT.sIx_nat, hl, h2, Nat.min_eq_left (by omega)]
  show (xs ++ [b]).take (xs.length + 1 - 1) = xs
  rw [Nat.add_sub_cancel, List.take_left]
theorem ok_read_paper (T : Tx K mg) : FnOk P w K mg base CX0 6 T.a_read_paper T.d_read_paper ["text"] (sp_read_paper T) := by
  refine fn_r T.F_read_paper sc_read_paper (fun _ => rfl) (fun cdv A outer s H E hr =>
      (pss_cons (ps_if (pt_not (pt_val (pe_callB (isiK (K := K) rfl) (by rfl) T.z_isinstance (by decide +kernel) (pa_cons (pv 0) (pa_cons (pe_bltn (v := .ty "str") (by rfl) T.z_str (by decide +kernel) rfl) pa_nil))))) (pss_one (ps_never)) pss_nil)
      (pss_cons (ps_setLc (i := 1) (own := [("row", 5)]) rfl sc_read_paper.nd rfl rfl (sw_true rfl rfl rfl (by decide +kernel)) (seqK (K := K) rfl (bmK (K := K) rfl PySem.F.plainAttrs_str PySem.F.slot_str_split PySem.F.type_str_split mt_split (pv 0) (pa_cons pe_str pa_nil))) (blkOk_by (N := ["text", "rows", "some", "paper", "shown", "row", "words", "told"]) (sc := defScope s_read_paper) (by decide +kernel)) (fun _ _ _ _ _ => (pg_name (i := 5) sc_read_paper.nd rfl (by first | exact Or.inl rfl | exact Or.inr rfl))) (fun _ _ _ _ _ => pts_nil) (fun _ _ _ _ _ => (bmK (K := K) rfl PySem.F.plainAttrs_str PySem.F.slot_str_split PySem.F.type_str_split mt_split (pv 5) (pa_cons pe_str pa_nil))))
      (pss_cons (ps_if (PW.pt (pw_or (pt_cmpR op_lt (pe_callB (lenK (K := K) rfl) (by rfl) T.z_len (by decide +kernel) (pa_cons (pv 1) pa_nil)) pe_int (nomark _)) (pw_or1 (pt_cmpR (neK (K := K) rfl hr.units) (pe_callB (lenK (K := K) rfl) (by rfl) T.z_len (by decide +kernel) (pa_cons (pe_ix (ixK (K := K) rfl) (pv 1) pe_int (fun _ _ => rfl)) pa_nil)) pe_int (nomark _))))) (pss_one (ps_never)) pss_nil)
      (pss_cons (ps_set (i := 2) sc_read_paper.nd rfl (by first | exact Or.inl rfl | exact Or.inr rfl) (pe_callTy (tupleK (K := K) rfl) (by rfl) T.z_tuple (by decide +kernel) (pa_cons (pe_lc (own := [("words", 6)]) rfl sc_read_paper.nd (seqK (K := K) rfl (pe_slice (slK (K := K) rfl) (pv 1) (po_some pe_int) (po_some (pe_un un_neg pe_int)))) (blkOk_by (N := ["text", "rows", "some", "paper", "shown", "row", "words", "told"]) (sc := defScope s_read_paper) (by decide +kernel)) (fun _ _ _ _ _ => (pg_name (i := 6) sc_read_paper.nd rfl (by first | exact Or.inl rfl | exact Or.inr rfl))) (fun _ _ _ _ _ => pts_nil) (fun _ _ _ _ _ => (pe_call (ok_row_read T) (hr.mono (by decide)) (by rfl) T.g_row_read T.F_row_read.kp T.b_row_read .nil pass0 (pa_cons (pv 6) pa_nil)))) pa_nil)))
      (pss_cons (ps_set (i := 3) sc_read_paper.nd rfl (by first | exact Or.inl rfl | exact Or.inr rfl) (pe_tup (pa_cons (pe_call (ok_number_of T) (hr.mono (by decide)) (by rfl) T.g_number_of T.F_number_of.kp T.b_number_of .nil pass0 (pa_cons (pe_ix (ixK (K := K) rfl) (pe_ix (ixK (K := K) rfl) (pv 1) pe_int (fun _ _ => rfl)) pe_int (fun _ _ => rfl)) pa_nil)) (pa_cons (pe_call (ok_number_of T) (hr.mono (by decide)) (by rfl) T.g_number_of T.F_number_of.kp T.b_number_of .nil pass0 (pa_cons (pe_ix (ixK (K := K) rfl) (pe_ix (ixK (K := K) rfl) (pv 1) pe_int (fun _ _ => rfl)) pe_int (fun _ _ => rfl)) pa_nil)) (pa_cons (pv 2) pa_nil)))))
      (pss_cons (tryOK (K := K) rfl rfl rfl ⟨rfl, by decide, .inl T.g_NoRow⟩ takes0 (fun W pn xe tk _ => (pss_one (ps_setLc (i := 4) (own := [("told", 7)]) rfl sc_read_paper.nd rfl rfl (sw_true rfl rfl rfl (by decide +kernel)) (seqK (K := K) rfl (pv 2)) (blkOk_by (N := ["text", "rows", "some", "paper", "shown", "row", "words", "told"]) (sc := defScope s_read_paper) (by decide +kernel)) (fun _ _ _ _ _ => (pg_name (i := 7) sc_read_paper.nd rfl (by first | exact Or.inl rfl | exact Or.inr rfl))) (fun _ _ _ _ _ => pts_nil) (fun _ _ _ _ _ => (pe_methD0 (pe_call (ok_row_of T) hr (by rfl) T.g_row_of T.F_row_of.kp T.b_row_of .nil pass0 (pa_cons (pv 7) pa_nil)) (.cons (by decide) T.cl_Take T.m_Take_told (ok_Take_told T) T.b_Take_told (.cons (by decide) T.cl_Put T.m_Put_told (ok_Put_told T) T.b_Put_told .nil)) hr pass0))))) (fun a oe cls d pn hz hf => (pss_known (p := cls = .ref T.C_NoRow ∧ d = none) (fun hk => by obtain ⟨rfl, rfl⟩ := hk; exact (pss_one (ps_never))))))
      (pss_cons (ps_if (PW.pt (pw_or (pt_cmpR (neK (K := K) rfl hr.units) (pe_callB (lenK (K := K) rfl) (by rfl) T.z_len (by decide +kernel) (pa_cons (pv 4) pa_nil)) (pe_callB (lenK (K := K) rfl) (by rfl) T.z_len (by decide +kernel) (pa_cons (pv 2) pa_nil)) (nomark _)) (pw_or1 (pt_cmpR (neK (K := K) rfl hr.units) (pe_call (ok_paper_text T) (hr.mono (by decide)) (by rfl) T.g_paper_text T.F_paper_text.kp T.b_paper_text .nil pass0 (pa_cons (pv 3) pa_nil)) (pv 0) (nomark _))))) (pss_one (ps_never)) pss_nil)
      (pss_one (ps_ret (pv 3))))))))))) (fun x hx => ?_)
  obtain ⟨o, n, rs⟩ := x
  have hx : PpOk o n rs := hx
  have hfew := hx.few
  have hlen := hx.len.2
  have hl0 : LnOk "paper" [o, n] := by
    refine ⟨.inl rfl, fun i hi => ?_, by simp⟩
    simp only [List.mem_cons, List.not_mem_nil, or_false] at hi
    rcases hi with rfl | rfl
    · exact hx.o
    · exact hx.n
  have hl2 : LnOk "sum" [sumF (allNums o n rs)] := by
    refine ⟨.inr (.inr (.inr rfl)), fun i hi => ?_, by simp⟩
    rw [List.mem_singleton] at hi
    subst hi
    have := sumF_b (allNums o n rs)
    exact sm_small this.1 this.2
  have hW : (linesT o n rs).map (fun l => D.lst ((Txt.split l " ").map .str)) = wsD "paper" [o, n] :: rs.map (fun r => wsD (wordOf r) (numsOf r)) ++ [wsD "sum" [sumF (allNums o n rs)]] := by
    unfold linesT
    rw [List.map_append, List.map_cons, List.map_map, List.map_cons, List.map_nil, hl0.split, hl2.split]
    congr 2
    refine List.map_congr_left fun r hr => ?_
    show D.lst ((Txt.split (lineS (wordOf r) (numsOf r)) " ").map .str) = _
    rw [(lnR (hx.rows r hr).2).split]
  refine xs_seq (xs_no (et_not (et_t (isi_str_str (EvD.r (ev_var rfl))))) rfl ?_)
  refine xs_seq (xs_asgF (EvF.is (ef_lc0 (linesT o n rs) D.str (fun l => .lst ((Txt.split l " ").map .str)) rfl (ei_seqL (EvF.v (EvF.is (ef_split (a := textT o n rs) (b := "\n") (ev_var rfl) ev_cs (by decide +kernel) (by rw [sizeLine_eq]; omega)) (by rw [hx.split])))) (by rw [linesT_len]; omega) (fun k l hk => ⟨_, egc_name (by decide), EvF.v (ef_split (a := l) (b := " ") (ev_var rfl) ev_cs (by decide +kernel) (by
    obtain ⟨w, ns, rfl, hl⟩ := hx.lines l (List.mem_of_getElem? hk)
    have := hl.len
    rw [sizeLine_eq]
    omega))⟩)) hW) ?_)
  refine xs_fz 1 rfl ?_
  dsimp only
  have hrow : ∀ {ρ : DL.Env}, ρ[1]? = some (some (.sh (.lst (wsD "paper" [o, n] :: rs.map (fun r => wsD (wordOf r) (numsOf r)) ++ [wsD "sum" [sumF (allNums o n rs)]])))) → EvD K (tOp (rIx K) (tVar 1) (tC (.int 0))) ρ (wsD "paper" [o, n]) := fun h => ev_ixl (ds := wsD "paper" [o, n] :: rs.map (fun r => wsD (wordOf r) (numsOf r)) ++ [wsD "sum" [sumF (allNums o n rs)]]) (EvM.b (EvD.m (ev_var h))) ev_ci (atI_nat (j := 0) rfl)
  refine xs_seq (xs_no (b := false) (et_orF (EvT.is (et_t (ev_Ib (g := fun i j => decide (i < j)) (j := 2) (ev_lenLA (EvM.b (EvD.m (ev_var rfl)))) ev_ci)) (decide_eq_false (by simp; omega))) (EvT.is (et_t (ev_neI (j := 3) (ev_lenLA (EvM.b (EvD.m (hrow rfl)))) ev_ci)) rfl)) rfl ?_)
  refine xs_seq (xs_asg (d := .tup (rs.map Rw.tl)) (ev_tupleL (EvF.b (ef_lc0 rs (fun r => wsD (wordOf r) (numsOf r)) Rw.tl rfl (ei_seqL (EvF.v (EvF.is (ef_slL (ds := wsD "paper" [o, n] :: rs.map (fun r => wsD (wordOf r) (numsOf r)) ++ [wsD "sum" [sumF (allNums o n rs)]]) (EvM.b (EvD.m (ev_var rfl))) (eo_some (i := ((1 : Nat) : Int)) ev_ci) (eo_some (i := -1) (by walk_at "dl ev"))) cut_mid))) (by omega) (fun k r hk => ⟨_, egc_name (by decide), ev_call (x := r) (ea_cons (ev_var rfl) ea_nil) (hx.rows r (List.mem_of_getElem? hk))⟩)))) eg_name ?_)
  dsimp only
  have hnum : ∀ {ρ : DL.Env} {j : Nat} {i : Int}, ρ[1]? = some (some (.sh (.lst (wsD "paper" [o, n] :: rs.map (fun r => wsD (wordOf r) (numsOf r)) ++ [wsD "sum" [sumF (allNums o n rs)]])))) → Sm i → ([D.str "paper", .str (numS o), .str (numS n)] : List D)[j]? = some (.str (numS i)) → EvD K (tCall (sp_number_of T) [] E0 (tCons (tOp (rIx K) (tOp (rIx K) (tVar 1) (tC (.int 0))) (tC (.int (j : Int)))) tNil)) ρ (.int i) := fun {ρ j i} h hs hj => ev_call (x := i) (ea_cons (ev_ixl (ds := [D.str "paper", .str (numS o), .str (numS n)]) (EvM.b (EvD.m (hrow h))) ev_ci (atI_nat (j := j) hj)) ea_nil) hs
  refine xs_seq (xs_asg (d := pap o n rs) (ev_tup (ea_cons (hnum (j := 1) rfl hx.o rfl) (ea_cons (hnum (j := 2) rfl hx.n rfl) (ea_cons (ev_var rfl) ea_nil))) (Nat.le_of_ble_eq_true rfl)) eg_name ?_)
  dsimp only
  refine xs_cut (fun ρ => ∃ v1, ρ = [some (.sh (.str (textT o n rs))), v1, some (.sh (.tup (rs.map Rw.tl))), some (.sh (pap o n rs)), some (.ol (rs.map Rw.tl)), none, none, none]) ?_ ?_
  · refine xs_tryO (fun _ _ _ => False) (fun W => ?_) (fun _ _ _ z => z.elim)
    exact xs_asgF (ef_lc0 rs Rw.tl Rw.tl rfl (ei_seqT (ev_var rfl)) (by omega) (fun k r hk => ⟨_, egc_name (by decide), ev_told (T := T) (ev_row_of (T := T) (r := r) (ev_var rfl) (hx.rows r (List.mem_of_getElem? hk)).1)⟩)) ⟨_, rfl⟩
  rintro ρ1 ⟨v1, rfl⟩
  refine xs_seq (xs_no (b := false) (et_orF (EvT.is (et_t (ev_neI (i := (rs.length : Int)) (j := (rs.length : Int)) (ev_lenM (f := Rw.tl) (xs := rs) (EvM.b (em_var rfl))) (ev_lenMT (f := Rw.tl) (xs := rs) (ev_var rfl)))) (by rw [decide_eq_true rfl]; rfl)) (EvT.is (et_t (ev_neS (x := textT o n rs) (y := textT o n rs) (ev_call (x := (o, n, rs)) (ea_cons (ev_var rfl) ea_nil) hx) (ev_var rfl) (fit_of hx.asc) (fit_of hx.asc))) (by rw [decide_eq_true rfl]; rfl))) rfl ?_)
  exact xs_ret (ev_var rfl) rfl
end

/-! ### the law's own -/
def numb (d c : Int) : Int := if d / 301 % 3 = 0 then d % 10 else if d / 301 % 3 = 1 then d % 301 else c % 10 ^ 59 + d
theorem numb_b {d c : Int} (h0 : 0 ≤ d) (h1 : d < 2147483647) : 0 ≤ numb d c ∧ numb d c + 1 < 10 ^ 60 := by
  have e : (10 : Int) ^ 59 + 2147483647 + 400 < 10 ^ 60 := by decide +kernel
  have h2 := Int.emod_nonneg c (show ((10 : Int) ^ 59) ≠ 0 by decide +kernel)
  have h3 := Int.emod_lt_of_pos c (show (0 : Int) < 10 ^ 59 by decide +kernel)
  have h4 : (0 : Int) < 10 ^ 59 := by decide +kernel
  unfold numb
  generalize (10 : Int) ^ 59 = A at *
  generalize (10 : Int) ^ 60 = B at *
  split
  · omega
  · split <;> omega
structure RsOk (rs : List Rw) : Prop where
  rows : ∀ r ∈ rs, r.good ∧ (∀ i ∈ numsOf r, Sm i) ∧ (numsOf r).length ≤ 7
  few : rs.length ≤ 20
theorem sm_numb {d c : Int} (h0 : 0 ≤ d) (h1 : d < 2147483647) : Sm (numb d c) := by
  have h := numb_b (c := c) h0 h1
  have e : (0 : Int) < 10 ^ 60 := by decide +kernel
  exact ⟨by omega, by omega⟩
abbrev sp__law_number {K : PySem.W.Frag} {mg : Str → Option Value} (T : Tx K mg) : Sp := spG K (fun x : Int × Int => 0 ≤ x.1 ∧ x.1 < 2147483647) (fun x => [.int x.1, .int x.2]) (fun x => .int (numb x.1 x.2))
def rowAt (x : List Int) (k : Nat) : Rw :=
  if mixed (x.getD ((3 : Int) + (k : Int)).toNat 0) ((3 : Int) + (k : Int)) % 2 = 0 then
    .put (numb (mixed (x.getD ((3 : Int) + (k : Int)).toNat 0) ((3 : Int) + (k : Int)) / 4) (x.getD ((3 : Int) + (k : Int)).toNat 0)) ((span 0 (1 + mixed (x.getD ((3 : Int) + (k : Int)).toNat 0) ((3 : Int) + (k : Int)) / 2 % 6)).map fun j => sign (x.getD ((3 : Int) + (k : Int)).toNat 0) j)
  else .take (numb (mixed (x.getD ((3 : Int) + (k : Int)).toNat 0) ((3 : Int) + (k : Int)) / 4) (x.getD ((3 : Int) + (k : Int)).toNat 0)) (numb (mixed (x.getD ((3 : Int) + (k : Int)).toNat 0) ((3 : Int) + (k : Int)) / 9) (x.getD ((3 : Int) + (k : Int)).toNat 0)) (1 + numb (mixed (x.getD ((3 : Int) + (k : Int)).toNat 0) ((3 : Int) + (k : Int)) / 16) (x.getD ((3 : Int) + (k : Int)).toNat 0))
def rowsOf (x : List Int) : List Rw := (List.range (min (x.length : Int) 23 - 3).toNat).map (rowAt x)
abbrev sp__law_rows {K : PySem.W.Frag} {mg : Str → Option Value} (T : Tx K mg) : Sp := spG K (fun ns : List Int => ns.length ≤ 63) (fun ns => [.scr (ns.map .int)]) (fun ns => .tup ((rowsOf ns).map Rw.tl))
abbrev sp__law_length {K : PySem.W.Frag} {mg : Str → Option Value} (T : Tx K mg) : Sp := spR K (fun _ : Int => True) (fun c => [.int c]) (fun _ d => ∃ i, Sm i ∧ d = .int i)
abbrev sp__law_shown {K : PySem.W.Frag} {mg : Str → Option Value} (T : Tx K mg) : Sp := spF K (fun x : Int × Int × List Rw => PpOk x.1 x.2.1 x.2.2) (fun x => [pap x.1 x.2.1 x.2.2]) (fun x => (linesT x.1 x.2.1 x.2.2).map .str)
abbrev sp__law_plain {K : PySem.W.Frag} {mg : Str → Option Value} (T : Tx K mg) : Sp := spG K (fun x : Int × Int × List Rw => PpOk x.1 x.2.1 x.2.2) (fun x => [pap x.1 x.2.1 x.2.2]) (fun _ => .bl true)
section
variable {P : Program} {w : World} {K : PySem.W.Frag} {mg : Str → Option Value} {base : Heap}
theorem ok__law_number (T : Tx K mg) : FnOk P w K mg base CX0 1 T.a__law_number T.d__law_number ["_law_draw", "_law_cell"] (sp__law_number T) := by
  refine fn_r T.F__law_number sc__law_number (fun _ => rfl) (fun cdv A outer s H E hr =>
      (pss_one (ps_ret (pe_ix (ixK (K := K) rfl) (pe_lst (pa_cons (pe_op op_mod (pv 0) pe_int) (pa_cons (pe_op op_mod (pv 0) pe_int) (pa_cons (pe_op (addK (K := K) rfl) (pe_op op_mod (pv 1) (pe_op op_pow pe_int pe_int)) (pv 0)) pa_nil)))) (pe_op op_mod (pe_op op_fdivW (pv 0) pe_int) pe_int) (fun _ _ => rfl))))) (fun x hx => ?_)
  obtain ⟨d, c⟩ := x
  obtain ⟨h1, h2⟩ := hx
  dsimp only at h1 h2 ⊢
  have hq1 := Int.emod_nonneg (d / 301) (show (3 : Int) ≠ 0 by decide)
  have hq2 := Int.emod_lt_of_pos (d / 301) (show (0 : Int) < 3 by decide)
  refine xs_ret (ev_ixl (ds := [d % 10, d % 301, c % (10 : Int) ^ (59 : Int).toNat + d].map D.int) (i := d / 301 % 3) (EvF.b (ef_lst (ea_cons (by walk_at "dl ev") (ea_cons (by walk_at "dl ev") (ea_cons (ev_addI (ev_IC (i := c) (j := (10 : Int) ^ (59 : Int).toNat) (ev_var rfl) (by walk_at "dl ev") (by decide +kernel)) (ev_var rfl)) ea_nil))) (Nat.le_of_ble_eq_true rfl))) (by walk_at "dl ev") (atI_int hq1 (by show _ < ((3 : Nat) : Int); omega))) ?_
  show D.int _ = D.int (numb d c)
  unfold numb
  have h : d / 301 % 3 = 0 ∨ d / 301 % 3 = 1 ∨ d / 301 % 3 = 2 := by omega
  rcases h with h | h | h
  · rw [h]
    rfl
  · rw [h]
    rfl
  · rw [h]
    rfl
theorem ok__law_length (T : Tx K mg) : FnOk P w K mg base CX0 1 T.a__law_length T.d__law_length ["_law_cell"] (sp__law_length T) := by
  refine fn_r T.F__law_length sc__law_length (fun _ => rfl) (fun cdv A outer s H E hr =>
      (pss_cons (ps_if (pt_cmpR (eqK (K := K) rfl hr.units) (pe_op op_mod (pv 0) pe_int) pe_int (nomark _)) (pss_one (ps_ret (pe_op op_mod (pe_op op_fdivW (pv 0) pe_int) pe_int))) pss_nil)
      (pss_one (ps_ret (pe_op (addK (K := K) rfl) (pe_op op_sub (pe_op op_mod (pe_op op_fdivW (pv 0) pe_int) (pe_op op_sub (pe_op op_mulA pe_int (pe_op op_pow pe_int pe_int)) pe_int)) (pe_op op_pow pe_int pe_int)) pe_int))))) (fun x hx => ?_)
  refine xs_seq (xs_if (by walk_at "dl ev") (fun _ => ?_) (fun _ => xs_next ?_))
  · exact xs_ret (d := .int (x / 3 % 301)) (by walk_at "dl ev") ⟨_, sm_small (by omega) (by omega), rfl⟩
  refine xs_ret (d := .int (x / 3 % (2 * (10 : Int) ^ (60 : Int).toNat - 1) - (10 : Int) ^ (60 : Int).toNat + 1)) (by walk_at "dl ev") ⟨_, ?_, rfl⟩
  have h4 : (1 : Int) < 10 ^ 60 := by decide +kernel
  show -(10 ^ 60) < x / 3 % (2 * 10 ^ 60 - 1) - 10 ^ 60 + 1 ∧ x / 3 % (2 * 10 ^ 60 - 1) - 10 ^ 60 + 1 < (10 : Int) ^ 60
  generalize (10 : Int) ^ 60 = B at *
  have h2 := Int.emod_nonneg (x / 3) (show 2 * B - 1 ≠ 0 by omega)
  have h3 := Int.emod_lt_of_pos (x / 3) (show 0 < 2 * B - 1 by omega)
  omega
theorem sign_sm (c k : Int) : Sm (sign c k) := by
  have h4 : (4 : Int) < 10 ^ 60 := by decide +kernel
  unfold Sm sign
  generalize mixed c k = m
  generalize (10 : Int) ^ 60 = B at *
  split
  · omega
  · generalize m * m + c = y
    have h2 := Int.emod_nonneg y (show 2 * B - 1 ≠ 0 by omega)
    have h3 := Int.emod_lt_of_pos y (show 0 < 2 * B - 1 by omega)
    omega
theorem rowAt_ok (x : List Int) (k : Nat) : (rowAt x k).good ∧ (∀ i ∈ numsOf (rowAt x k), Sm i) ∧ (numsOf (rowAt x k)).length ≤ 7 := by
  unfold rowAt
  generalize x.getD ((3 : Int) + (k : Int)).toNat 0 = c
  have hb := mixed_b c ((3 : Int) + (k : Int))
  generalize mixed c ((3 : Int) + (k : Int)) = m at hb ⊢
  have hn0 := numb_b (d := m / 4) (c := c) (by omega) (by omega)
  have hs0 : Sm (numb (m / 4) c) := sm_numb (by omega) (by omega)
  have e60 : (0 : Int) < 10 ^ 60 := by decide +kernel
  split
  · have hsl : (((span 0 (1 + m / 2 % 6)).map fun j => sign c j).length : Int) = 1 + m / 2 % 6 := by rw [List.length_map, span_length]; omega
    have hsm : ∀ i ∈ (span 0 (1 + m / 2 % 6)).map fun j => sign c j, Sm i := fun i hi => by
      obtain ⟨j, _, rfl⟩ := List.mem_map.mp hi
      exact sign_sm c j
    generalize ((span 0 (1 + m / 2 % 6)).map fun j => sign c j) = ss at hsl hsm
    refine ⟨⟨hn0.1, fun e => ?_, fun y hy => hsm y hy, by omega⟩, fun i hi => ?_, by show ss.length + 1 ≤ 7; omega⟩
    · rw [e] at hsl
      have hsl : ((0 : Nat) : Int) = 1 + m / 2 % 6 := hsl
      omega
    · rcases List.mem_cons.mp hi with rfl | hi
      · exact hs0
      · exact hsm i hi
  · have hn1 := numb_b (d := m / 9) (c := c) (by omega) (by omega)
    have hn2 := numb_b (d := m / 16) (c := c) (by omega) (by omega)
    refine ⟨⟨hn0.1, hn1.1, by omega⟩, fun i hi => ?_, by show 3 ≤ 7; decide⟩
    have hi : i ∈ [numb (m / 4) c, numb (m / 9) c, 1 + numb (m / 16) c] := hi
    simp only [List.mem_cons, List.not_mem_nil, or_false] at hi
    rcases hi with rfl | rfl | rfl
    · exact hs0
    · exact ⟨by omega, by omega⟩
    · exact ⟨by omega, by omega⟩
theorem rowsOf_ok (x : List Int) : RsOk (rowsOf x) := ⟨fun r hr => by
  obtain ⟨k, _, rfl⟩ := List.mem_map.mp hr
  exact rowAt_ok x k, by unfold rowsOf; rw [List.length_map, List.length_range]; omega⟩
theorem ok__law_rows (T : Tx K mg) : FnOk P w K mg base CX0 3 T.a__law_rows T.d__law_rows ["_law_script"] (sp__law_rows T) := by
  refine fn_r T.F__law_rows sc__law_rows (fun _ => rfl) (fun cdv A outer s H E hr =>
      (pss_cons (ps_set (i := 1) sc__law_rows.nd rfl (by first | exact Or.inl rfl | exact Or.inr rfl) (pe_lst pa_nil))
      (pss_cons (ps_for PassesOwn.never rfl (pi_range2 (by rfl) T.z_range (pa_cons pe_int (pa_cons (pe_callB (call_min2 rfl) (by rfl) T.z_min (by decide +kernel) (pa_cons (pe_callB (lenK (K := K) rfl) (by rfl) T.z_len (by decide +kernel) (pa_cons (pv 0) pa_nil)) (pa_cons pe_int pa_nil))) pa_nil))) (pg_name (i := 2) sc__law_rows.nd rfl (by first | exact Or.inl rfl | exact Or.inr rfl)) (pss_cons (ps_set (i := 3) sc__law_rows.nd rfl (by first | exact Or.inl rfl | exact Or.inr rfl) (pe_call (ok__law_mixed T) (hr.mono (by decide)) (by rfl) T.g__law_mixed T.F__law_mixed.kp T.b__law_mixed .nil pass0 (pa_cons (pe_ix (ixK (K := K) rfl) (pv 0) (pv 2) (fun _ _ => rfl)) (pa_cons (pv 2) pa_nil))))
      (pss_cons (ps_set (i := 4) sc__law_rows.nd rfl (by first | exact Or.inl rfl | exact Or.inr rfl) (pe_call (ok__law_number T) (hr.mono (by decide)) (by rfl) T.g__law_number T.F__law_number.kp T.b__law_number .nil pass0 (pa_cons (pe_op op_fdivW (pv 3) pe_int) (pa_cons (pe_ix (ixK (K := K) rfl) (pv 0) (pv 2) (fun _ _ => rfl)) pa_nil))))
      (pss_one (ps_if (pt_cmpR (eqK (K := K) rfl hr.units) (pe_op op_mod (pv 3) pe_int) pe_int (nomark _)) (pss_cons (ps_setLc (i := 5) (own := [("_law_j", 6)]) rfl sc__law_rows.nd rfl rfl (sw_true rfl rfl rfl (by decide +kernel)) (pi_range1 (by rfl) T.z_range (pa_cons (pe_op (addK (K := K) rfl) pe_int (pe_op op_mod (pe_op op_fdivW (pv 3) pe_int) pe_int)) pa_nil)) (blkOk_by (N := ["_law_script", "_law_rows_here", "_law_k", "_law_draw", "_law_to", "_law_signs", "_law_j"]) (sc := defScope s__law_rows) (by decide +kernel)) (fun _ _ _ _ _ => (pg_name (i := 6) sc__law_rows.nd rfl (by first | exact Or.inl rfl | exact Or.inr rfl))) (fun _ _ _ _ _ => pts_nil) (fun _ _ _ _ _ => (pe_call (ok__law_sign T) hr (by rfl) T.g__law_sign T.F__law_sign.kp T.b__law_sign .nil pass0 (pa_cons (pe_ix (ixK (K := K) rfl) (pv 0) (pv 2) (fun _ _ => rfl)) (pa_cons (pv 6) pa_nil)))))
      (pss_one (ps_expr (bmK (K := K) rfl PySem.F.plainAttrs_list PySem.F.slot_list_append PySem.F.type_list_append mt_append (pv 1) (pa_cons (pe_tup (pa_cons pe_str (pa_cons (pv 4) (pa_cons (pe_callTy (tupleK (K := K) rfl) (by rfl) T.z_tuple (by decide +kernel) (pa_cons (pv 5) pa_nil)) pa_nil)))) pa_nil))))) (pss_one (ps_expr (bmK (K := K) rfl PySem.F.plainAttrs_list PySem.F.slot_list_append PySem.F.type_list_append mt_append (pv 1) (pa_cons (pe_tup (pa_cons pe_str (pa_cons (pv 4) (pa_cons (pe_call (ok__law_number T) (hr.mono (by decide)) (by rfl) T.g__law_number T.F__law_number.kp T.b__law_number .nil pass0 (pa_cons (pe_op op_fdivW (pv 3) pe_int) (pa_cons (pe_ix (ixK (K := K) rfl) (pv 0) (pv 2) (fun _ _ => rfl)) pa_nil))) (pa_cons (pe_op (addK (K := K) rfl) pe_int (pe_call (ok__law_number T) (hr.mono (by decide)) (by rfl) T.g__law_number T.F__law_number.kp T.b__law_number .nil pass0 (pa_cons (pe_op op_fdivW (pv 3) pe_int) (pa_cons (pe_ix (ixK (K := K) rfl) (pv 0) (pv 2) (fun _ _ => rfl)) pa_nil)))) pa_nil))))) pa_nil)))))))))
      (pss_one (ps_ret (pe_callTy (tupleK (K := K) rfl) (by rfl) T.z_tuple (by decide +kernel) (pa_cons (pv 1) pa_nil))))))) (fun x hx => ?_)
  have hx : x.length ≤ 63 := hx
  refine xs_seq (xs_asgF (ef_lst ea_nil (by decide)) ?_)
  dsimp only
  refine xs_seq (xs_for (ei_r2 (lo := 3) (hi := min (x.length : Int) 23) (ea_cons ev_ci (ea_cons (ev_min2 (ev_lenM (f := D.int) (xs := x) (EvD.s (ev_var rfl))) ev_ci) ea_nil)) (by omega)) (fun k ρ => ∃ v2 v3 v4 v5 v6, ρ = [some (.sh (.scr (x.map .int))), some (.ol (((List.range k).map (rowAt x)).map Rw.tl)), v2, v3, v4, v5, v6]) ⟨_, _, _, _, _, rfl⟩ ?_ ?_)
  · rintro k d ρ1 hk ⟨v2, v3, v4, v5, v6, rfl⟩
    obtain ⟨hk1, rfl⟩ := rng_get hk
    refine ⟨_, eg_name, ?_⟩
    have hki : (3 : Int) + (k : Int) < (x.length : Int) := by omega
    have hll : (((List.range k).map (rowAt x)).map Rw.tl).length < 100000 := by rw [List.length_map, List.length_map, List.length_range]; omega
    rw [List.range_succ, List.map_append, List.map_append, List.map_cons, List.map_nil, List.map_cons, List.map_nil]
    have hra : ∀ c m, c = x.getD ((3 : Int) + (k : Int)).toNat 0 → m = mixed c ((3 : Int) + (k : Int)) → rowAt x k = if m % 2 = 0 then .put (numb (m / 4) c) ((span 0 (1 + m / 2 % 6)).map fun j => sign c j) else .take (numb (m / 4) c) (numb (m / 9) c) (1 + numb (m / 16) c) := fun c m hc hm => by subst hc; subst hm; rfl
    generalize ((List.range k).map (rowAt x)).map Rw.tl = L at hll ⊢
    generalize rowAt x k = rk at hra ⊢
    obtain ⟨c, hc⟩ : ∃ c, c = x.getD ((3 : Int) + (k : Int)).toNat 0 := ⟨_, rfl⟩
    have hit : ∀ {ρ : DL.Env}, ρ[0]? = some (some (.sh (.scr (x.map .int)))) → ρ[2]? = some (some (.sh (.int ((3 : Int) + (k : Int))))) → EvD K (tOp (rIx K) (tVar 0) (tVar 2)) ρ (.int c) := fun h0 h2 => by
      rw [hc]
      exact ev_ixl (ds := x.map D.int) (EvD.s (ev_var h0)) (ev_var h2) (atI_int (by omega) hki)
    refine xs_seq (xs_asg (d := .int (mixed c ((3 : Int) + (k : Int)))) (ev_mixed (hit rfl rfl) (ev_var rfl) ⟨by omega, by omega⟩) eg_name ?_)
    have hb := mixed_b c ((3 : Int) + (k : Int))
    have hra := hra c _ hc rfl
    generalize mixed c ((3 : Int) + (k : Int)) = m at hb hra ⊢
    subst hra
    have hnum : ∀ {ρ : DL.Env} {ta : TE} {e : Int}, ρ[0]? = some (some (.sh (.scr (x.map .int)))) → ρ[2]? = some (some (.sh (.int ((3 : Int) + (k : Int))))) → EvD K ta ρ (.int e) → 0 ≤ e ∧ e < 2147483647 → EvD K (tCall (sp__law_number T) [] E0 (tCons ta (tCons (tOp (rIx K) (tVar 0) (tVar 2)) tNil))) ρ (.int (numb e c)) := fun {ρ ta e} h0 h2 he hb => ev_call (x := (e, c)) (ea_cons he (ea_cons (hit h0 h2) ea_nil)) hb
    refine xs_seq (xs_asg (d := .int (numb (m / 4) c)) (hnum rfl rfl (by walk_at "dl ev") (by omega)) eg_name ?_)
    dsimp only
    refine xs_if (by walk_at "dl ev") (fun h => ?_) (fun h => ?_)
    · have h : m % 2 = 0 := of_decide_eq_true h
      rw [if_pos h]
      refine xs_seq (xs_asgF (ds := ((span 0 (1 + m / 2 % 6)).map fun j => sign c j).map D.int) (EvF.is (ef_lcR (a := 0) (n := 1 + m / 2 % 6) (w := fun j => .int (sign c j)) (ei_r1 (n := 1 + m / 2 % 6) (ea_cons (by walk_at "dl ev") ea_nil) (by omega)) rfl (by omega) (fun j h1 h2 => ⟨_, egc_name (by decide), ev_sign (hit rfl rfl) (ev_var rfl) ⟨by omega, by omega⟩⟩)) (by rw [List.map_map]; rfl)) ?_)
      dsimp only
      exact xs_app rfl (d := (Rw.put (numb (m / 4) c) ((span 0 (1 + m / 2 % 6)).map fun j => sign c j)).tl) (ev_tup (ea_cons ev_cs (ea_cons (ev_var rfl) (ea_cons (ev_tupleL (EvM.b (em_var rfl))) ea_nil))) (Nat.le_of_ble_eq_true rfl)) hll ⟨_, _, _, _, _, rfl⟩
    · have h : ¬ m % 2 = 0 := of_decide_eq_false h
      rw [if_neg h]
      exact xs_app rfl (d := (Rw.take (numb (m / 4) c) (numb (m / 9) c) (1 + numb (m / 16) c)).tl) (ev_tup (ea_cons ev_cs (ea_cons (ev_var rfl) (ea_cons (hnum rfl rfl (by walk_at "dl ev") (by omega)) (ea_cons (ev_addI ev_ci (hnum rfl rfl (by walk_at "dl ev") (by omega))) ea_nil)))) (Nat.le_of_ble_eq_true rfl)) hll ⟨_, _, _, _, _, rfl⟩
  · rintro ρ1 ⟨v2, v3, v4, v5, v6, rfl⟩
    rw [rng_length]
    exact xs_ret (ev_tupleL (EvM.b (em_var rfl))) rfl
theorem app_len (a b : Str) : (a ++ b).length = a.length + b.length := by rw [TL.len_tl, TL.tl_append, List.length_append, ← TL.len_tl, ← TL.len_tl]
theorem line2 (o n : Int) : ("paper " : Str) ++ numS o ++ " " ++ numS n = lineS "paper" [o, n] := TL.ext_tl (by
  have e : TL.tl (" " : Str) = [32] := by decide +kernel
  have e2 : TL.tl ("paper " : Str) = TL.tl ("paper" : Str) ++ [32] := by decide +kernel
  unfold lineS
  rw [TL.tl_append, TL.tl_append, TL.tl_append, tl_jn, e, e2]
  show _ = TL.tl ("paper" : Str) ++ ([32] ++ (TL.tl (numS o) ++ ([32] ++ TL.tl (numS n))))
  simp only [List.append_assoc])
theorem line1 (n : Int) : ("sum " : Str) ++ numS n = lineS "sum" [n] := TL.ext_tl (by
  have e : TL.tl (" " : Str) = [32] := by decide +kernel
  have e2 : TL.tl ("sum " : Str) = TL.tl ("sum" : Str) ++ [32] := by decide +kernel
  unfold lineS
  rw [TL.tl_append, tl_jn, e, e2]
  show _ = TL.tl ("sum" : Str) ++ ([32] ++ TL.tl (numS n))
  simp only [List.append_assoc])
theorem alln_snoc {o n : Int} {rs : List Rw} {k : Nat} {r : Rw} (hr : rs[k]? = some r) : (allNums o n (rs.take (k + 1))).map D.int = (allNums o n (rs.take k)).map D.int ++ [D.int (codeOf r)] ++ (numsOf r).map D.int := by
  rw [take_more hr]
  unfold allNums
  simp
theorem ok__law_shown (T : Tx K mg) : FnOk P w K mg base CX0 1 T.a__law_shown T.d__law_shown ["_law_paper"] (sp__law_shown T) := by
  refine fn_f T.F__law_shown sc__law_shown (fun _ => rfl) (fun cdv A outer s H E hr =>
      (pss_cons (ps_asg (pv 0) (gtupK (n := 3) (K := K) rfl rfl (pgs_cons (pg_name (i := 1) sc__law_shown.nd rfl (by first | exact Or.inl rfl | exact Or.inr rfl)) (pgs_cons (pg_name (i := 2) sc__law_shown.nd rfl (by first | exact Or.inl rfl | exact Or.inr rfl)) (pgs_cons (pg_name (i := 3) sc__law_shown.nd rfl (by first | exact Or.inl rfl | exact Or.inr rfl)) pgs_nil)))))
      (pss_cons (ps_set (i := 4) sc__law_shown.nd rfl (by first | exact Or.inl rfl | exact Or.inr rfl) (pe_lst (pa_cons (pe_op (addK (K := K) rfl) (pe_op (addK (K := K) rfl) (pe_op (addK (K := K) rfl) pe_str (pe_callTy call_str_int (by rfl) T.z_str (by decide +kernel) (pa_cons (pv 1) pa_nil))) pe_str) (pe_callTy call_str_int (by rfl) T.z_str (by decide +kernel) (pa_cons (pv 2) pa_nil))) pa_nil)))
      (pss_cons (ps_set (i := 5) sc__law_shown.nd rfl (by first | exact Or.inl rfl | exact Or.inr rfl) (pe_lst (pa_cons pe_int (pa_cons (pv 1) (pa_cons (pv 2) pa_nil)))))
      (pss_cons (ps_for PassesOwn.never rfl (seqK (K := K) rfl (pv 3)) (pg_name (i := 6) sc__law_shown.nd rfl (by first | exact Or.inl rfl | exact Or.inr rfl)) (pss_cons (ps_set (i := 7) sc__law_shown.nd rfl (by first | exact Or.inl rfl | exact Or.inr rfl) (pe_lst (pa_cons (pe_ix (ixK (K := K) rfl) (pv 6) pe_int (fun _ _ => rfl)) pa_nil)))
      (pss_cons (ps_if (pt_cmpR (eqK (K := K) rfl hr.units) (pe_ix (ixK (K := K) rfl) (pv 6) pe_int (fun _ _ => rfl)) pe_str (nomark _)) (pss_cons (ps_set (i := 7) sc__law_shown.nd rfl (by first | exact Or.inl rfl | exact Or.inr rfl) (pe_op (addK (K := K) rfl) (pv 7) (pe_lst (pa_cons (pe_ix (ixK (K := K) rfl) (pv 6) pe_int (fun _ _ => rfl)) (pa_cons (pe_ix (ixK (K := K) rfl) (pv 6) pe_int (fun _ _ => rfl)) pa_nil)))))
      (pss_one (ps_set (i := 5) sc__law_shown.nd rfl (by first | exact Or.inl rfl | exact Or.inr rfl) (pe_op (addK (K := K) rfl) (pe_op (addK (K := K) rfl) (pv 5) (pe_lst (pa_cons pe_int pa_nil))) (pv 7))))) (pss_cons (ps_set (i := 7) sc__law_shown.nd rfl (by first | exact Or.inl rfl | exact Or.inr rfl) (pe_op (addK (K := K) rfl) (pv 7) (pe_callTy (listK (K := K) rfl) (by rfl) T.z_list (by decide +kernel) (pa_cons (pe_ix (ixK (K := K) rfl) (pv 6) pe_int (fun _ _ => rfl)) pa_nil))))
      (pss_one (ps_set (i := 5) sc__law_shown.nd rfl (by first | exact Or.inl rfl | exact Or.inr rfl) (pe_op (addK (K := K) rfl) (pe_op (addK (K := K) rfl) (pv 5) (pe_lst (pa_cons pe_int pa_nil))) (pv 7))))))
      (pss_one (ps_expr (bmK (K := K) rfl PySem.F.plainAttrs_list PySem.F.slot_list_append PySem.F.type_list_append mt_append (pv 4) (pa_cons (bmK (K := K) rfl PySem.F.plainAttrs_str PySem.F.slot_str_join PySem.F.type_str_join (joinK (K := K) rfl) pe_str (pa_cons (pe_op (addK (K := K) rfl) (pe_lst (pa_cons (pe_ix (ixK (K := K) rfl) (pv 6) pe_int (fun _ _ => rfl)) pa_nil)) (pe_lc (own := [("_law_number_here", 9)]) rfl sc__law_shown.nd (seqK (K := K) rfl (pv 7)) (blkOk_by (N := ["_law_paper", "_law_old", "_law_new", "_law_rows_here", "_law_lines", "_law_numbers", "_law_row", "_law_some", "_law_total", "_law_number_here"]) (sc := defScope s__law_shown) (by decide +kernel)) (fun _ _ _ _ _ => (pg_name (i := 9) sc__law_shown.nd rfl (by first | exact Or.inl rfl | exact Or.inr rfl))) (fun _ _ _ _ _ => pts_nil) (fun _ _ _ _ _ => (pe_callTy call_str_int (by rfl) T.z_str (by decide +kernel) (pa_cons (pv 9) pa_nil))))) pa_nil)) pa_nil)))))))
      (pss_cons (ps_set (i := 8) sc__law_shown.nd rfl (by first | exact Or.inl rfl | exact Or.inr rfl) pe_int)
      (pss_cons (ps_for PassesOwn.never rfl (seqK (K := K) rfl (pv 5)) (pg_name (i := 9) sc__law_shown.nd rfl (by first | exact Or.inl rfl | exact Or.inr rfl)) (pss_one (ps_set (i := 8) sc__law_shown.nd rfl (by first | exact Or.inl rfl | exact Or.inr rfl) (pe_op op_mod (pe_op (addK (K := K) rfl) (pe_op (addK (K := K) rfl) (pe_op op_mulA (pv 8) pe_int) (pv 9)) pe_int) pe_int))))
      (pss_one (ps_ret (pe_op (addK (K := K) rfl) (pv 4) (pe_lst (pa_cons (pe_op (addK (K := K) rfl) pe_str (pe_callTy call_str_int (by rfl) T.z_str (by decide +kernel) (pa_cons (pv 8) pa_nil))) pa_nil)))))))))))) (fun x hx => ?_)
  obtain ⟨o, n, rs⟩ := x
  have hx : PpOk o n rs := hx
  have hfew := hx.few
  have l1 := numS_len hx.o
  have l2 := numS_len hx.n
  have z1 : ("paper " : Str).length = 6 := by decide +kernel
  have z2 : (" " : Str).length = 1 := by decide +kernel
  have z3 : ("sum " : Str).length = 4 := by decide +kernel
  refine xs_seq (xs_asg (d := pap o n rs) (ev_var rfl) (eg_tup (egs_cons eg_name (egs_cons eg_name (egs_cons eg_name egs_nil))) rfl) ?_)
  dsimp only
  refine xs_seq (xs_asgF (ds := [D.str (lineS "paper" [o, n])]) (ef_lst (ea_cons (EvD.is (ev_addS (ev_addS (ev_addS ev_cs (ev_strI (ev_var rfl) (sm_log hx.o)) (by rw [sizeLine_eq]; show _ + (numS o).length ≤ _; omega)) ev_cs (by rw [sizeLine_eq, app_len]; show _ + (numS o).length + _ ≤ _; omega)) (ev_strI (ev_var rfl) (sm_log hx.n)) (by rw [sizeLine_eq, app_len, app_len]; show _ + (numS o).length + _ + (numS n).length ≤ _; omega)) (congrArg D.str (line2 o n))) ea_nil) (Nat.le_of_ble_eq_true rfl)) ?_)
  refine xs_seq (xs_asgF (ds := [1, o, n].map D.int) (ef_lst (ea_cons ev_ci (ea_cons (ev_var rfl) (ea_cons (ev_var rfl) ea_nil))) (Nat.le_of_ble_eq_true rfl)) ?_)
  dsimp only
  refine xs_seq (xs_for (ei_seqT (ds := rs.map Rw.tl) (ev_var rfl)) (fun k ρ => ∃ v6 v7 v9, ρ = [some (.sh (pap o n rs)), some (.sh (.int o)), some (.sh (.int n)), some (.sh (.tup (rs.map Rw.tl))), some (.ol ((lineS "paper" [o, n] :: (rs.take k).map lineR).map .str)), some (.ol ((allNums o n (rs.take k)).map .int)), v6, v7, none, v9]) ⟨_, _, _, rfl⟩ ?_ ?_)
  · rintro k d ρ1 hk ⟨v6, v7, v9, rfl⟩
    rw [List.getElem?_map] at hk
    obtain ⟨r, hr, rfl⟩ := Option.map_eq_some_iff.mp hk
    obtain ⟨hg, hs, h7⟩ := hx.rows r (List.mem_of_getElem? hr)
    have hkl := (List.getElem?_eq_some_iff.mp hr).1
    have hal := alln_len (o := o) (n := n) (m := 7) (rs := rs.take k) fun r hr => (hx.rows r (List.mem_of_mem_take hr)).2.2
    have htk : (rs.take k).length ≤ 20 := by rw [List.length_take]; omega
    have hsn := alln_snoc (o := o) (n := n) hr
    refine ⟨_, eg_name, ?_⟩
    rw [hsn]
    generalize allNums o n (rs.take k) = A at hal
    have hll : ((lineS "paper" [o, n] :: (rs.take k).map lineR).map D.str).length < 100000 := by rw [List.length_map, List.length_cons, List.length_map]; omega
    have hlk : (lineS "paper" [o, n] :: (rs.take (k + 1)).map lineR).map D.str = (lineS "paper" [o, n] :: (rs.take k).map lineR).map D.str ++ [D.str (lineR r)] := by
      rw [take_more hr, List.map_append (l₁ := rs.take k), ← List.cons_append, List.map_append]
      rfl
    rw [hlk]
    generalize (lineS "paper" [o, n] :: (rs.take k).map lineR).map D.str = L at hll
    have hpl : PpOk o n rs := hx
    have fin : ∀ {ts : TS} {us : TS} {R : DEnds} {ρ : DL.Env}, ExS K ts ρ { R with nx := fun ρ => ∃ v9, ρ = [some (.sh (pap o n rs)), some (.sh (.int o)), some (.sh (.int n)), some (.sh (.tup (rs.map Rw.tl))), some (.ol L), some (.ol (A.map D.int ++ [D.int (codeOf r)] ++ (numsOf r).map D.int)), some (.sh r.tl), some (.ol ((numsOf r).map D.int)), none, v9] } → (∀ v9, ExS K us [some (.sh (pap o n rs)), some (.sh (.int o)), some (.sh (.int n)), some (.sh (.tup (rs.map Rw.tl))), some (.ol L), some (.ol (A.map D.int ++ [D.int (codeOf r)] ++ (numsOf r).map D.int)), some (.sh r.tl), some (.ol ((numsOf r).map D.int)), none, v9] R) → ExS K (tSeq ts us) ρ R := fun h1 h2 => xs_cut _ h1 fun ρ' ⟨v9, e⟩ => by subst e; exact h2 v9
    have hlast : ∀ v9 (R : DEnds), R.nx [some (.sh (pap o n rs)), some (.sh (.int o)), some (.sh (.int n)), some (.sh (.tup (rs.map Rw.tl))), some (.ol (L ++ [D.str (lineR r)])), some (.ol (A.map D.int ++ [D.int (codeOf r)] ++ (numsOf r).map D.int)), some (.sh r.tl), some (.sh (.lst ((numsOf r).map D.int))), none, v9] → True := fun _ _ _ => trivial
    have hjs : (((wordOf r :: (numsOf r).map numS).map (·.length)).sum + (wordOf r :: (numsOf r).map numS).length * (" " : Str).length) ≤ 16777216 := by
      have h1 := jn_sum fun p hp => ((lnR ⟨hs, h7⟩).parts p hp).1
      rw [List.length_cons, List.length_map] at h1 ⊢
      rw [z2]
      omega
    cases r with
    | take t s m =>
      have hrow : ∀ {ρ : DL.Env} {i : Int} {d : D}, ρ[6]? = some (some (.sh (Rw.take t s m).tl)) → atI [.str "take", .int t, .int s, .int m] i = some d → EvD K (tOp (rIx K) (tVar 6) (tC (.int i))) ρ d := fun h q => ev_ixt (ds := [.str "take", .int t, .int s, .int m]) (ev_var h) ev_ci q
      refine xs_seq (xs_asgF (ds := [D.int t]) (ef_lst (ea_cons (hrow rfl (atI_nat (j := 1) rfl)) ea_nil) (Nat.le_of_ble_eq_true rfl)) ?_)
      refine fin (xs_yes (et_t (ev_isTk' (r := .take t s m) (ev_var rfl))) rfl ?_) fun v9 => ?_
      · refine xs_seq (xs_asgF (ds := (numsOf (.take t s m)).map D.int) (EvF.is (ef_addL (ds := [D.int t]) (es := [D.int s, D.int m]) (em_var rfl) (EvF.m (ef_lst (ea_cons (hrow rfl (atI_nat (j := 2) rfl)) (ea_cons (hrow rfl (atI_nat (j := 3) rfl)) ea_nil)) (Nat.le_of_ble_eq_true rfl))) (Nat.le_of_ble_eq_true rfl)) rfl) ?_)
        exact xs_asgF (ef_addL (EvF.m (ef_addL (em_var rfl) (EvF.m (ef_lst (ea_cons ev_ci ea_nil) (Nat.le_of_ble_eq_true rfl))) (by rw [List.length_map]; show _ + 1 ≤ _; omega))) (em_var rfl) (by rw [List.length_append, List.length_map]; show _ + 1 + 3 ≤ _; omega)) ⟨_, rfl⟩
      · refine xs_fz 7 rfl ?_
        exact xs_app rfl (d := .str (lineR (.take t s m))) (ev_join (a := " ") (ys := wordOf (.take t s m) :: (numsOf (.take t s m)).map numS) ev_cs (EvF.b (EvF.is (ef_addL (EvF.m (ef_lst (ea_cons (tl_word (.take t s m) rfl) ea_nil) (Nat.le_of_ble_eq_true rfl))) (EvF.m (ef_lc0 (numsOf (.take t s m)) D.int (fun i => .str (numS i)) rfl (ei_seqL (ev_var rfl)) (by omega) (fun k i hk => ⟨_, egc_name (by decide), ev_strI (ev_var rfl) (sm_log (hs i (List.mem_of_getElem? hk)))⟩))) (by rw [List.length_map]; show 1 + _ ≤ _; omega)) (by rw [List.map_cons, List.map_map]; rfl))) hjs) hll ⟨some (.sh (Rw.take t s m).tl), some (.sh (.lst ((numsOf (.take t s m)).map D.int))), v9, rfl⟩
    | put t ss =>
      have hrow : ∀ {ρ : DL.Env} {i : Int} {d : D}, ρ[6]? = some (some (.sh (Rw.put t ss).tl)) → atI [.str "put", .int t, .tup (ss.map .int)] i = some d → EvD K (tOp (rIx K) (tVar 6) (tC (.int i))) ρ d := fun h q => ev_ixt (ds := [.str "put", .int t, .tup (ss.map .int)]) (ev_var h) ev_ci q
      have hs7 : ss.length + 1 ≤ 7 := h7
      refine xs_seq (xs_asgF (ds := [D.int t]) (ef_lst (ea_cons (hrow rfl (atI_nat (j := 1) rfl)) ea_nil) (Nat.le_of_ble_eq_true rfl)) ?_)
      refine fin (xs_no2 (et_t (ev_isTk' (r := .put t ss) (ev_var rfl))) rfl ?_) fun v9 => ?_
      · refine xs_seq (xs_asgF (ds := (numsOf (.put t ss)).map D.int) (EvF.is (ef_addL (ds := [D.int t]) (es := ss.map D.int) (em_var rfl) (EvF.m (ef_listT (hrow rfl (atI_nat (j := 2) rfl)))) (by rw [List.length_map]; show 1 + _ ≤ _; omega)) rfl) ?_)
        exact xs_asgF (ef_addL (EvF.m (ef_addL (em_var rfl) (EvF.m (ef_lst (ea_cons ev_ci ea_nil) (Nat.le_of_ble_eq_true rfl))) (by rw [List.length_map]; show _ + 1 ≤ _; omega))) (em_var rfl) (by rw [List.length_append, List.length_map, List.length_map]; show _ + 1 + (ss.length + 1) ≤ _; omega)) ⟨_, rfl⟩
      · refine xs_fz 7 rfl ?_
        exact xs_app rfl (d := .str (lineR (.put t ss))) (ev_join (a := " ") (ys := wordOf (.put t ss) :: (numsOf (.put t ss)).map numS) ev_cs (EvF.b (EvF.is (ef_addL (EvF.m (ef_lst (ea_cons (tl_word (.put t ss) rfl) ea_nil) (Nat.le_of_ble_eq_true rfl))) (EvF.m (ef_lc0 (numsOf (.put t ss)) D.int (fun i => .str (numS i)) rfl (ei_seqL (ev_var rfl)) (by omega) (fun k i hk => ⟨_, egc_name (by decide), ev_strI (ev_var rfl) (sm_log (hs i (List.mem_of_getElem? hk)))⟩))) (by rw [List.length_map]; show 1 + _ ≤ _; omega)) (by rw [List.map_cons, List.map_map]; rfl))) hjs) hll ⟨some (.sh (Rw.put t ss).tl), some (.sh (.lst ((numsOf (.put t ss)).map D.int))), v9, rfl⟩
  · rintro ρ1 ⟨v6, v7, v9, rfl⟩
    rw [List.length_map, List.take_length]
    have hal := alln_len (o := o) (n := n) (m := 7) (rs := rs) fun r hr => (hx.rows r hr).2.2
    refine xs_seq (xs_asg ev_ci eg_name ?_)
    refine xs_fz 5 rfl ?_
    generalize hA : allNums o n rs = A at hal
    refine xs_seq (xs_for (ei_seqL (ev_var (d := .lst (A.map .int)) rfl)) (fun k ρ => ∃ v9, ρ = [some (.sh (pap o n rs)), some (.sh (.int o)), some (.sh (.int n)), some (.sh (.tup (rs.map Rw.tl))), some (.ol ((lineS "paper" [o, n] :: rs.map lineR).map .str)), some (.sh (.lst (A.map .int))), v6, v7, some (.sh (.int (sumF (A.take k)))), v9]) ⟨_, rfl⟩ ?_ ?_)
    · rintro k d ρ1 hk ⟨v9, rfl⟩
      rw [List.getElem?_map] at hk
      obtain ⟨i, hi, rfl⟩ := Option.map_eq_some_iff.mp hk
      have hb := sumF_b (A.take k)
      have e : sumF (A.take (k + 1)) = (sumF (A.take k) * 31 + i + 7) % 1000003 := by
        rw [take_more hi]
        unfold sumF
        rw [List.foldl_append]
        rfl
      rw [e]
      generalize sumF (A.take k) = f at hb
      exact ⟨_, eg_name, xs_asg (d := .int ((f * 31 + i + 7) % 1000003)) (by walk_at "dl ev") eg_name ⟨_, rfl⟩⟩
    · rintro ρ1 ⟨v9, rfl⟩
      rw [List.length_map, List.take_length]
      have hb := sumF_b A
      have hsm := sm_small hb.1 hb.2
      have l3 := numS_len hsm
      refine xs_retF (EvF.is (ef_addL (em_var rfl) (EvF.m (ef_lst (ea_cons (EvD.is (ev_addS ev_cs (ev_strI (ev_var rfl) (sm_log hsm)) (by rw [sizeLine_eq]; show _ + (numS (sumF A)).length ≤ _; omega)) (congrArg D.str (line1 (sumF A)))) ea_nil) (Nat.le_of_ble_eq_true rfl))) (by rw [List.length_map, List.length_cons, List.length_map]; show _ + 1 ≤ _; omega)) ?_) rfl
      unfold linesT
      rw [hA, List.map_append (l₁ := lineS "paper" [o, n] :: rs.map lineR)]
      rfl
theorem ok__law_plain (T : Tx K mg) : FnOk P w K mg base CX0 1 T.a__law_plain T.d__law_plain ["_law_paper"] (sp__law_plain T) := by
  refine fn_r T.F__law_plain sc__law_plain (fun _ => rfl) (fun cdv A outer s H E hr =>
      (pss_cons (ps_set (i := 1) sc__law_plain.nd rfl (by first | exact Or.inl rfl | exact Or.inr rfl) (pe_lst (pa_cons (pe_ix (ixK (K := K) rfl) (pv 0) pe_int (fun _ _ => rfl)) (pa_cons (pe_ix (ixK (K := K) rfl) (pv 0) pe_int (fun _ _ => rfl)) pa_nil))))
      (pss_cons (ps_for PassesOwn.never rfl (seqK (K := K) rfl (pe_ix (ixK (K := K) rfl) (pv 0) pe_int (fun _ _ => rfl))) (pg_name (i := 2) sc__law_plain.nd rfl (by first | exact Or.inl rfl | exact Or.inr rfl)) (pss_cons (ps_if (pt_not (pt_val (pe_callB (isiK (K := K) rfl) (by rfl) T.z_isinstance (by decide +kernel) (pa_cons (pv 2) (pa_cons (pe_bltn (v := .ty "tuple") (by rfl) T.z_tuple (by decide +kernel) rfl) pa_nil))))) (pss_one (ps_ret pe_bl)) pss_nil)
      (pss_cons (ps_set (i := 1) sc__law_plain.nd rfl (by first | exact Or.inl rfl | exact Or.inr rfl) (pe_op (addK (K := K) rfl) (pv 1) (pe_lst (pa_cons (pe_ix (ixK (K := K) rfl) (pv 2) pe_int (fun _ _ => rfl)) pa_nil))))
      (pss_one (ps_if (pt_cmpR (eqK (K := K) rfl hr.units) (pe_ix (ixK (K := K) rfl) (pv 2) pe_int (fun _ _ => rfl)) pe_str (nomark _)) (pss_cons (ps_if (pt_not (pt_val (pe_callB (isiK (K := K) rfl) (by rfl) T.z_isinstance (by decide +kernel) (pa_cons (pe_ix (ixK (K := K) rfl) (pv 2) pe_int (fun _ _ => rfl)) (pa_cons (pe_bltn (v := .ty "tuple") (by rfl) T.z_tuple (by decide +kernel) rfl) pa_nil))))) (pss_one (ps_ret pe_bl)) pss_nil)
      (pss_one (ps_set (i := 1) sc__law_plain.nd rfl (by first | exact Or.inl rfl | exact Or.inr rfl) (pe_op (addK (K := K) rfl) (pv 1) (pe_callTy (listK (K := K) rfl) (by rfl) T.z_list (by decide +kernel) (pa_cons (pe_ix (ixK (K := K) rfl) (pv 2) pe_int (fun _ _ => rfl)) pa_nil)))))) (pss_one (ps_set (i := 1) sc__law_plain.nd rfl (by first | exact Or.inl rfl | exact Or.inr rfl) (pe_op (addK (K := K) rfl) (pv 1) (pe_lst (pa_cons (pe_ix (ixK (K := K) rfl) (pv 2) pe_int (fun _ _ => rfl)) (pa_cons (pe_ix (ixK (K := K) rfl) (pv 2) pe_int (fun _ _ => rfl)) pa_nil)))))))))))
      (pss_one (ps_ret (pe_cmpR (eqK (K := K) rfl hr.units) (pe_lc (own := [("_law_number_here", 3)]) rfl sc__law_plain.nd (seqK (K := K) rfl (pv 1)) (blkOk_by (N := ["_law_paper", "_law_numbers", "_law_row", "_law_number_here"]) (sc := defScope s__law_plain) (by decide +kernel)) (fun _ _ _ _ _ => (pg_name (i := 3) sc__law_plain.nd rfl (by first | exact Or.inl rfl | exact Or.inr rfl))) (fun _ _ _ _ _ => pts_one (PW.pt (pw_or (pt_not (pt_val (pe_callB (isiK (K := K) rfl) (by rfl) T.z_isinstance (by decide +kernel) (pa_cons (pv 3) (pa_cons (pe_bltn (v := .ty "int") (by rfl) T.z_int (by decide +kernel) rfl) pa_nil))))) (pw_or1 (pt_val (pe_callB (isiK (K := K) rfl) (by rfl) T.z_isinstance (by decide +kernel) (pa_cons (pv 3) (pa_cons (pe_bltn (v := .ty "bool") (by rfl) T.z_bool (by decide +kernel) rfl) pa_nil)))))))) (fun _ _ _ _ _ => (pv 3))) (pe_lst pa_nil) (nomark _))))))) (fun x hx => ?_)
  obtain ⟨o, n, rs⟩ := x
  have hx : PpOk o n rs := hx
  have hfew := hx.few
  have hpap : ∀ {ρ : DL.Env} {i : Int} {d : D}, ρ[0]? = some (some (.sh (pap o n rs))) → atI [D.int o, .int n, .tup (rs.map Rw.tl)] i = some d → EvD K (tOp (rIx K) (tVar 0) (tC (.int i))) ρ d := fun h q => ev_ixt (ds := [.int o, .int n, .tup (rs.map Rw.tl)]) (ev_var h) ev_ci q
  refine xs_seq (xs_asgF (ds := [o, n].map D.int) (ef_lst (ea_cons (hpap rfl (atI_nat (j := 0) rfl)) (ea_cons (hpap rfl (atI_nat (j := 1) rfl)) ea_nil)) (Nat.le_of_ble_eq_true rfl)) ?_)
  dsimp only
  refine xs_seq (xs_for (ei_seqT (ds := rs.map Rw.tl) (hpap rfl (atI_nat (j := 2) rfl))) (fun k ρ => ∃ (A : List Int) (v2 : Option SV), A.length ≤ 2 + k * 7 ∧ ρ = [some (.sh (pap o n rs)), some (.ol (A.map D.int)), v2, none]) ⟨[o, n], _, by simp, rfl⟩ ?_ ?_)
  · rintro k d ρ1 hk ⟨A, v2, hA, rfl⟩
    rw [List.getElem?_map] at hk
    obtain ⟨r, hr, rfl⟩ := Option.map_eq_some_iff.mp hk
    obtain ⟨hg, hs, h7⟩ := hx.rows r (List.mem_of_getElem? hr)
    have hkl := (List.getElem?_eq_some_iff.mp hr).1
    refine ⟨_, eg_name, ?_⟩
    have hA1 : ((A.map D.int).length : Nat) = A.length := List.length_map _
    cases r with
    | take t s m =>
      have hrow : ∀ {ρ : DL.Env} {i : Int} {d : D}, ρ[2]? = some (some (.sh (Rw.take t s m).tl)) → atI [.str "take", .int t, .int s, .int m] i = some d → EvD K (tOp (rIx K) (tVar 2) (tC (.int i))) ρ d := fun h q => ev_ixt (ds := [.str "take", .int t, .int s, .int m]) (ev_var h) ev_ci q
      refine xs_seq (xs_no (et_not (et_t (isi_tup_tuple (ds := [.str "take", .int t, .int s, .int m]) (EvD.r (ev_var rfl))))) rfl ?_)
      refine xs_seq (xs_asgF (ds := (A ++ [t]).map D.int) (EvF.is (ef_addL (ds := A.map D.int) (es := [D.int t]) (em_var rfl) (EvF.m (ef_lst (ea_cons (hrow rfl (atI_nat (j := 1) rfl)) ea_nil) (Nat.le_of_ble_eq_true rfl))) (by rw [hA1]; show _ + 1 ≤ _; omega)) (by rw [List.map_append]; rfl)) ?_)
      refine xs_no2 (et_t ((ev_eqS (x := "take") (y := "put") (hrow rfl (atI_nat (j := 0) rfl)) ev_cs (by decide +kernel) (by decide +kernel)).is (congrArg D.bl (by decide +kernel : decide (("take" : Str) = "put") = false)))) rfl ?_
      exact xs_asgF (ds := (A ++ [t] ++ [s, m]).map D.int) (EvF.is (ef_addL (ds := (A ++ [t]).map D.int) (es := [D.int s, D.int m]) (em_var rfl) (EvF.m (ef_lst (ea_cons (hrow rfl (atI_nat (j := 2) rfl)) (ea_cons (hrow rfl (atI_nat (j := 3) rfl)) ea_nil)) (Nat.le_of_ble_eq_true rfl))) (by rw [List.length_map, List.length_append]; show _ + 1 + 2 ≤ _; omega)) (by rw [List.map_append (l₁ := A ++ [t])]; rfl)) ⟨A ++ [t] ++ [s, m], _, by rw [List.length_append, List.length_append]; show _ + 1 + 2 ≤ _; omega, rfl⟩
    | put t ss =>
      have hs7 : ss.length + 1 ≤ 7 := h7
      have hrow : ∀ {ρ : DL.Env} {i : Int} {d : D}, ρ[2]? = some (some (.sh (Rw.put t ss).tl)) → atI [.str "put", .int t, .tup (ss.map .int)] i = some d → EvD K (tOp (rIx K) (tVar 2) (tC (.int i))) ρ d := fun h q => ev_ixt (ds := [.str "put", .int t, .tup (ss.map .int)]) (ev_var h) ev_ci q
      refine xs_seq (xs_no (et_not (et_t (isi_tup_tuple (ds := [.str "put", .int t, .tup (ss.map .int)]) (EvD.r (ev_var rfl))))) rfl ?_)
      refine xs_seq (xs_asgF (ds := (A ++ [t]).map D.int) (EvF.is (ef_addL (ds := A.map D.int) (es := [D.int t]) (em_var rfl) (EvF.m (ef_lst (ea_cons (hrow rfl (atI_nat (j := 1) rfl)) ea_nil) (Nat.le_of_ble_eq_true rfl))) (by rw [hA1]; show _ + 1 ≤ _; omega)) (by rw [List.map_append]; rfl)) ?_)
      refine xs_yes (et_t ((ev_eqS (x := "put") (y := "put") (hrow rfl (atI_nat (j := 0) rfl)) ev_cs (by decide +kernel) (by decide +kernel)).is (by rw [decide_eq_true rfl]))) rfl ?_
      refine xs_seq (xs_no (et_not (et_t (isi_tup_tuple (ds := ss.map D.int) (EvD.r (hrow rfl (atI_nat (j := 2) rfl)))))) rfl ?_)
      exact xs_asgF (ds := (A ++ [t] ++ ss).map D.int) (EvF.is (ef_addL (ds := (A ++ [t]).map D.int) (es := ss.map D.int) (em_var rfl) (EvF.m (ef_listT (hrow rfl (atI_nat (j := 2) rfl)))) (by rw [List.length_map, List.length_append, List.length_map]; show _ + 1 + _ ≤ _; omega)) (by rw [List.map_append (l₁ := A ++ [t])])) ⟨A ++ [t] ++ ss, _, by rw [List.length_append, List.length_append]; show _ + 1 + _ ≤ _; omega, rfl⟩
  · rintro ρ1 ⟨A, v2, hA, rfl⟩
    rw [List.length_map] at hA
    refine xs_fz 1 rfl ?_
    refine xs_ret (ev_eqX (d := .lst []) (EvM.r (EvF.m (EvF.is (ef_lc A D.int (fun _ => false) D.int rfl (ei_seqL (ev_var rfl)) (by omega) (fun k i hk => ⟨_, egc_name (by decide), et_orF (et_not (et_t (isi_int_int (EvD.r (ev_var rfl))))) (et_t (isi_int_bool (EvD.r (ev_var rfl)))), fun h => nomatch h⟩)) (by rw [List.filter_eq_nil_iff.mpr (fun _ _ => by simp)]; rfl)))) (EvM.r (EvF.m (ef_lst ea_nil (by decide)))) (by decide)) rfl
theorem ft_tl62 (r : Rw) : Ft 2 r.tl := by
  cases r with
  | take t s n =>
    exact Ft.up (n := 1) (ft_tup fun e he => by
      simp only [List.mem_cons, List.not_mem_nil, or_false] at he
      rcases he with rfl | rfl | rfl | rfl
      · exact ft_str (by decide +kernel)
      · exact ft_int _
      · exact ft_int _
      · exact ft_int _) (by decide)
  | put t ss =>
    exact (ft_tup fun e he => by
      simp only [List.mem_cons, List.not_mem_nil, or_false] at he
      rcases he with rfl | rfl | rfl
      · exact (ft_str (by decide +kernel)).up (by decide)
      · exact (ft_int _).up (by decide)
      · exact ft_tints ss)
theorem pap_fit (o n : Int) (rs : List Rw) : (pap o n rs).fit = true := Ft.fit (n := 4) (ft_tup fun e he => by
  simp only [List.mem_cons, List.not_mem_nil, or_false] at he
  rcases he with rfl | rfl | rfl
  · exact (ft_int _).up (by decide)
  · exact (ft_int _).up (by decide)
  · exact ft_tup fun e he => by
      obtain ⟨r, _, rfl⟩ := List.mem_map.mp he
      exact ft_tl62 r) (by decide)
theorem ok_law (T : Tx K mg) : FnOk P w K mg base CX0 7 T.a_law T.d_law ["_law_script"] (sp_law T) := by
  refine fn_r T.F_law sc_law (fun _ => rfl) (fun cdv A outer s H E hr =>
      (pss_cons (ps_set (i := 1) sc_law.nd rfl (by first | exact Or.inl rfl | exact Or.inr rfl) (pe_call (ok__law_length T) (hr.mono (by decide)) (by rfl) T.g__law_length T.F__law_length.kp T.b__law_length .nil pass0 (pa_cons (pe_call (ok__law_cell_at T) (hr.mono (by decide)) (by rfl) T.g__law_cell_at T.F__law_cell_at.kp T.b__law_cell_at .nil pass0 (pa_cons (pv 0) (pa_cons pe_int pa_nil))) pa_nil)))
      (pss_cons (ps_set (i := 2) sc_law.nd rfl (by first | exact Or.inl rfl | exact Or.inr rfl) (pe_call (ok__law_length T) (hr.mono (by decide)) (by rfl) T.g__law_length T.F__law_length.kp T.b__law_length .nil pass0 (pa_cons (pe_call (ok__law_cell_at T) (hr.mono (by decide)) (by rfl) T.g__law_cell_at T.F__law_cell_at.kp T.b__law_cell_at .nil pass0 (pa_cons (pv 0) (pa_cons pe_int pa_nil))) pa_nil)))
      (pss_cons (ps_set (i := 3) sc_law.nd rfl (by first | exact Or.inl rfl | exact Or.inr rfl) (pe_tup (pa_cons (pv 1) (pa_cons (pv 2) (pa_cons (pe_call (ok__law_rows T) (hr.mono (by decide)) (by rfl) T.g__law_rows T.F__law_rows.kp T.b__law_rows .nil pass0 (pa_cons (pv 0) pa_nil)) pa_nil)))))
      (pss_cons (ps_set (i := 4) sc_law.nd rfl (by first | exact Or.inl rfl | exact Or.inr rfl) (bmK (K := K) rfl PySem.F.plainAttrs_str PySem.F.slot_str_join PySem.F.type_str_join (joinK (K := K) rfl) pe_str (pa_cons (pe_call (ok__law_shown T) (hr.mono (by decide)) (by rfl) T.g__law_shown T.F__law_shown.kp T.b__law_shown .nil pass0 (pa_cons (pv 3) pa_nil)) pa_nil)))
      (pss_cons (ps_for PassesOwn.never rfl (pi_range1 (by rfl) T.z_range (pa_cons pe_int pa_nil)) (pg_name (i := 5) sc_law.nd rfl (by first | exact Or.inl rfl | exact Or.inr rfl)) (pss_cons (ps_if (pt_cmpR (neK (K := K) rfl hr.units) (pe_call (ok_paper_text T) (hr.mono (by decide)) (by rfl) T.g_paper_text T.F_paper_text.kp T.b_paper_text .nil pass0 (pa_cons (pv 3) pa_nil)) (pv 4) (nomark _)) (pss_one (ps_ret pe_bl)) pss_nil)
      (pss_cons (ps_set (i := 6) sc_law.nd rfl (by first | exact Or.inl rfl | exact Or.inr rfl) (pe_call (ok_read_paper T) hr (by rfl) T.g_read_paper T.F_read_paper.kp T.b_read_paper .nil pass0 (pa_cons (pv 4) pa_nil)))
      (pss_one (ps_if (PW.pt (pw_or (pt_not (pt_val (pe_callB (isiK (K := K) rfl) (by rfl) T.z_isinstance (by decide +kernel) (pa_cons (pv 6) (pa_cons (pe_bltn (v := .ty "tuple") (by rfl) T.z_tuple (by decide +kernel) rfl) pa_nil))))) (pw_or (pt_not (pt_val (pe_callB (isiK (K := K) rfl) (by rfl) T.z_isinstance (by decide +kernel) (pa_cons (pe_ix (ixK (K := K) rfl) (pv 6) pe_int (fun _ _ => rfl)) (pa_cons (pe_bltn (v := .ty "tuple") (by rfl) T.z_tuple (by decide +kernel) rfl) pa_nil))))) (pw_or (pt_cmpR (neK (K := K) rfl hr.units) (pv 6) (pv 3) (nomark _)) (pw_or1 (pt_not (pt_val (pe_call (ok__law_plain T) (hr.mono (by decide)) (by rfl) T.g__law_plain T.F__law_plain.kp T.b__law_plain .nil pass0 (pa_cons (pv 6) pa_nil))))))))) (pss_one (ps_ret pe_bl)) pss_nil)))))
      (pss_one (ps_ret (pe_cmpR (eqK (K := K) rfl hr.units) (pe_call (ok_paper_text T) (hr.mono (by decide)) (by rfl) T.g_paper_text T.F_paper_text.kp T.b_paper_text .nil pass0 (pa_cons (pe_call (ok_read_paper T) hr (by rfl) T.g_read_paper T.F_read_paper.kp T.b_read_paper .nil pass0 (pa_cons (pv 4) pa_nil)) pa_nil)) (pv 4) (nomark _)))))))))) (fun x hx => ?_)
  have hx : x.length ≤ 63 := hx
  refine xs_seq (xs_asgR (x := cellAt x 0) (ea_cons (ev_cell_at (ns := x) (k := 0) (ev_var rfl) ev_ci (by decide)) ea_nil) trivial fun d ⟨o, ho, hd⟩ => ?_)
  subst hd
  refine xs_seq (xs_asgR (x := cellAt x 1) (ea_cons (ev_cell_at (ns := x) (k := 1) (ev_var rfl) ev_ci (by decide)) ea_nil) trivial fun d ⟨n, hn, hd⟩ => ?_)
  subst hd
  refine xs_seq (xs_asg (d := pap o n (rowsOf x)) (ev_tup (ea_cons (ev_var rfl) (ea_cons (ev_var rfl) (ea_cons (ev_call (x := x) (ea_cons (ev_var rfl) ea_nil) hx) ea_nil))) (Nat.le_of_ble_eq_true rfl)) eg_name ?_)
  dsimp only
  have hro := rowsOf_ok x
  generalize rowsOf x = rs at hro ⊢
  have hP : PpOk o n rs := ⟨ho, hn, hro.rows, hro.few⟩
  refine xs_seq (xs_asg (d := .str (textT o n rs)) (ev_join (a := "\n") (ys := linesT o n rs) ev_cs (EvF.b (ef_call (x := (o, n, rs)) (ea_cons (ev_var rfl) ea_nil) hP)) (Nat.le_trans hP.len.1 (by decide))) eg_name ?_)
  dsimp only
  have hpt : ∀ {ρ : DL.Env} {te : TE}, EvD K te ρ (pap o n rs) → EvD K (tCall (sp_paper_text T) [] E0 (tCons te tNil)) ρ (.str (textT o n rs)) := fun h => ev_call (x := (o, n, rs)) (ea_cons h ea_nil) hP
  have hrp : ∀ {ρ : DL.Env}, ρ[4]? = some (some (.sh (.str (textT o n rs)))) → EvD K (tCall (sp_read_paper T) [] E0 (tCons (tVar 4) tNil)) ρ (pap o n rs) := fun h => ev_call (x := (o, n, rs)) (ea_cons (ev_var h) ea_nil) hP
  have hft := fit_of hP.asc
  refine xs_seq (xs_for (ei_r1 (n := 2) (ea_cons ev_ci ea_nil) (by decide)) (fun k ρ => ∃ v5 v6, ρ = [some (.sh (.scr (x.map .int))), some (.sh (.int o)), some (.sh (.int n)), some (.sh (pap o n rs)), some (.sh (.str (textT o n rs))), v5, v6]) ⟨_, _, rfl⟩ ?_ ?_)
  · rintro k d ρ1 hk ⟨v5, v6, rfl⟩
    refine ⟨_, eg_name, ?_⟩
    refine xs_seq (xs_no (b := false) (EvT.is (et_t (ev_neS (hpt (ev_var rfl)) (ev_var rfl) hft hft)) (by rw [decide_eq_true rfl]; rfl)) rfl ?_)
    refine xs_seq (xs_asg (d := pap o n rs) (hrp rfl) eg_name ?_)
    dsimp only
    refine xs_no (b := false) (et_orF (et_not (et_t (isi_tup_tuple (ds := [.int o, .int n, .tup (rs.map Rw.tl)]) (EvD.r (ev_var rfl))))) (et_orF (et_not (et_t (isi_tup_tuple (ds := rs.map Rw.tl) (EvD.r (ev_ixt (ds := [.int o, .int n, .tup (rs.map Rw.tl)]) (ev_var rfl) ev_ci (atI_nat (j := 2) rfl)))))) (et_orF (et_t (ev_neX (d := pap o n rs) (EvD.r (ev_var rfl)) (EvD.r (ev_var rfl)) (pap_fit o n rs))) (EvT.is (et_not (a := true) (et_B (ev_call (x := (o, n, rs)) (ea_cons (ev_var rfl) ea_nil) hP))) rfl)))) rfl ⟨_, _, rfl⟩
  · rintro ρ1 ⟨v5, v6, rfl⟩
    exact xs_ret (EvD.is (ev_eqS (hpt (hrp rfl)) (ev_var rfl) hft hft) (by rw [decide_eq_true rfl])) rfl
end
theorem all_mk {l : PySem.W.OpenLaw} {w : World} {K : PySem.W.Frag} {h : Heap} {mg : Str → Option Value} {fa : Addr} (X : K.In h) (G : h.Ns mainGlobals mg) (hfa : mg "law" = some (.ref fa))
    {od__law_length an__law_length : Option Addr} {sl__law_length : Array (Option Value)} {oc__law_length kV__law_length dc__law_length pm__law_length cd__law_length ct__law_length : Value} {f__law_length : Addr}
    {od__law_cell_at an__law_cell_at : Option Addr} {sl__law_cell_at : Array (Option Value)} {oc__law_cell_at kV__law_cell_at dc__law_cell_at pm__law_cell_at cd__law_cell_at ct__law_cell_at : Value} {f__law_cell_at : Addr}
    {od__law_mixed an__law_mixed : Option Addr} {sl__law_mixed : Array (Option Value)} {oc__law_mixed kV__law_mixed dc__law_mixed pm__law_mixed cd__law_mixed ct__law_mixed : Value} {f__law_mixed : Addr}
    {od__law_number an__law_number : Option Addr} {sl__law_number : Array (Option Value)} {oc__law_number kV__law_number dc__law_number pm__law_number cd__law_number ct__law_number : Value} {f__law_number : Addr}
    {od__law_sign an__law_sign : Option Addr} {sl__law_sign : Array (Option Value)} {oc__law_sign kV__law_sign dc__law_sign pm__law_sign cd__law_sign ct__law_sign : Value} {f__law_sign : Addr}
    {od__law_rows an__law_rows : Option Addr} {sl__law_rows : Array (Option Value)} {oc__law_rows kV__law_rows dc__law_rows pm__law_rows cd__law_rows ct__law_rows : Value} {f__law_rows : Addr}
    {od__law_shown an__law_shown : Option Addr} {sl__law_shown : Array (Option Value)} {oc__law_shown kV__law_shown dc__law_shown pm__law_shown cd__law_shown ct__law_shown : Value} {f__law_shown : Addr}
    {od_number_of an_number_of : Option Addr} {sl_number_of : Array (Option Value)} {oc_number_of kV_number_of dc_number_of pm_number_of cd_number_of ct_number_of : Value} {f_number_of : Addr}
    {od_row_read an_row_read : Option Addr} {sl_row_read : Array (Option Value)} {oc_row_read kV_row_read dc_row_read pm_row_read cd_row_read ct_row_read : Value} {f_row_read : Addr}
    {od_Take_told an_Take_told : Option Addr} {sl_Take_told : Array (Option Value)} {oc_Take_told kV_Take_told dc_Take_told pm_Take_told cd_Take_told ct_Take_told : Value} {f_Take_told : Addr}
    {od_Put_told an_Put_told : Option Addr} {sl_Put_told : Array (Option Value)} {oc_Put_told kV_Put_told dc_Put_told pm_Put_told cd_Put_told ct_Put_told : Value} {f_Put_told : Addr}
    {od_row_shown an_row_shown : Option Addr} {sl_row_shown : Array (Option Value)} {oc_row_shown kV_row_shown dc_row_shown pm_row_shown cd_row_shown ct_row_shown : Value} {f_row_shown : Addr}
    {od_numbers_of an_numbers_of : Option Addr} {sl_numbers_of : Array (Option Value)} {oc_numbers_of kV_numbers_of dc_numbers_of pm_numbers_of cd_numbers_of ct_numbers_of : Value} {f_numbers_of : Addr}
    {od_sum_of an_sum_of : Option Addr} {sl_sum_of : Array (Option Value)} {oc_sum_of kV_sum_of dc_sum_of pm_sum_of cd_sum_of ct_sum_of : Value} {f_sum_of : Addr}
    {od_paper_text an_paper_text : Option Addr} {sl_paper_text : Array (Option Value)} {oc_paper_text kV_paper_text dc_paper_text pm_paper_text cd_paper_text ct_paper_text : Value} {f_paper_text : Addr}
    {od_is_number an_is_number : Option Addr} {sl_is_number : Array (Option Value)} {oc_is_number kV_is_number dc_is_number pm_is_number cd_is_number ct_is_number : Value} {f_is_number : Addr}
    {od_is_take an_is_take : Option Addr} {sl_is_take : Array (Option Value)} {oc_is_take kV_is_take dc_is_take pm_is_take cd_is_take ct_is_take : Value} {f_is_take : Addr}
    {od_is_sign an_is_sign : Option Addr} {sl_is_sign : Array (Option Value)} {oc_is_sign kV_is_sign dc_is_sign pm_is_sign cd_is_sign ct_is_sign : Value} {f_is_sign : Addr}
    {od_is_put an_is_put : Option Addr} {sl_is_put : Array (Option Value)} {oc_is_put kV_is_put dc_is_put pm_is_put cd_is_put ct_is_put : Value} {f_is_put : Addr}
    {od_Row___init__ an_Row___init__ : Option Addr} {sl_Row___init__ : Array (Option Value)} {oc_Row___init__ kV_Row___init__ dc_Row___init__ pm_Row___init__ cd_Row___init__ ct_Row___init__ : Value} {f_Row___init__ : Addr}
    {od_Take___init__ an_Take___init__ : Option Addr} {sl_Take___init__ : Array (Option Value)} {oc_Take___init__ kV_Take___init__ dc_Take___init__ pm_Take___init__ cd_Take___init__ ct_Take___init__ : Value} {f_Take___init__ : Addr}
    {od_Put___init__ an_Put___init__ : Option Addr} {sl_Put___init__ : Array (Option Value)} {oc_Put___init__ kV_Put___init__ dc_Put___init__ pm_Put___init__ cd_Put___init__ ct_Put___init__ : Value} {f_Put___init__ : Addr}
    {od_row_of an_row_of : Option Addr} {sl_row_of : Array (Option Value)} {oc_row_of kV_row_of dc_row_of pm_row_of cd_row_of ct_row_of : Value} {f_row_of : Addr}
    {od_read_paper an_read_paper : Option Addr} {sl_read_paper : Array (Option Value)} {oc_read_paper kV_read_paper dc_read_paper pm_read_paper cd_read_paper ct_read_paper : Value} {f_read_paper : Addr}
    {od__law_plain an__law_plain : Option Addr} {sl__law_plain : Array (Option Value)} {oc__law_plain kV__law_plain dc__law_plain pm__law_plain cd__law_plain ct__law_plain : Value} {f__law_plain : Addr}
    {od_law an_law : Option Addr} {sl_law : Array (Option Value)} {oc_law kV_law dc_law pm_law cd_law ct_law : Value} {f_law : Addr}
    {C_Row C_Take C_Put C_NoRow W_WORDS : Addr}
    {k_FIGURES : Tok}
    (hg_Row : PySem.W.nsIn K mainGlobals "Row" = some (some (.ref C_Row)))
    (hg_Take : PySem.W.nsIn K mainGlobals "Take" = some (some (.ref C_Take)))
    (hg_Put : PySem.W.nsIn K mainGlobals "Put" = some (some (.ref C_Put)))
    (pg_Take : PySem.W.plainGet K C_Take Str.empty = true)
    (hd_Take : PySem.W.hasDictIn K C_Take = true)
    (po_Take : PySem.W.plainOver K C_Take = true)
    (sa_Take : PySem.W.findIn K (.ref C_Take) "__setattr__" = some (some (.builtin "object.__setattr__")))
    (mk_Take : PySem.W.makesIn K C_Take = true)
    (in_Take : PySem.W.findIn K (.ref C_Take) "__init__" = some (some (.ref f_Take___init__)))
    (if_Take : PySem.W.isFn K (.ref f_Take___init__) = true)
    (kc_Take : PySem.W.keepIn K (.ref C_Take) = true)
    (n_Take_to : PySem.W.findIn K (.ref C_Take) "to" = some none)
    (n_Take_source : PySem.W.findIn K (.ref C_Take) "source" = some none)
    (n_Take_amount : PySem.W.findIn K (.ref C_Take) "amount" = some none)
    (pg_Put : PySem.W.plainGet K C_Put Str.empty = true)
    (hd_Put : PySem.W.hasDictIn K C_Put = true)
    (po_Put : PySem.W.plainOver K C_Put = true)
    (sa_Put : PySem.W.findIn K (.ref C_Put) "__setattr__" = some (some (.builtin "object.__setattr__")))
    (mk_Put : PySem.W.makesIn K C_Put = true)
    (in_Put : PySem.W.findIn K (.ref C_Put) "__init__" = some (some (.ref f_Put___init__)))
    (if_Put : PySem.W.isFn K (.ref f_Put___init__) = true)
    (kc_Put : PySem.W.keepIn K (.ref C_Put) = true)
    (n_Put_to : PySem.W.findIn K (.ref C_Put) "to" = some none)
    (n_Put_signs : PySem.W.findIn K (.ref C_Put) "signs" = some none)
    (hg_NoRow : PySem.W.nsIn K mainGlobals "NoRow" = some (some (.ref C_NoRow)))
    (hc_FIGURES : PySem.W.nsIn K mainGlobals "FIGURES" = some (some (.str "0123456789" k_FIGURES)))
    (hc_WORDS : PySem.W.nsIn K mainGlobals "WORDS" = some (some (.ref W_WORDS)))
    (ob_wWORDS : DL.tupB K W_WORDS ["paper", "take", "put"] = true)
    (ma_Put_told : PySem.W.findIn K (.ref C_Put) "told" = some (some (.ref f_Put_told)))
    (mf_Put_told : PySem.W.isFn K (.ref f_Put_told) = true)
    (mk_Put_told : PySem.W.keepIn K (.ref f_Put_told) = true)
    (ma_Take_told : PySem.W.findIn K (.ref C_Take) "told" = some (some (.ref f_Take_told)))
    (mf_Take_told : PySem.W.isFn K (.ref f_Take_told) = true)
    (mk_Take_told : PySem.W.keepIn K (.ref f_Take_told) = true)
    (cr_Row___init__ : PySem.W.readsIn K C_Row (.type "type") = true)
    (cg_Row___init__ : PySem.W.specialIn K (.ref C_Row) "__getattribute__" = some (some (.builtin "type.__getattribute__")))
    (cv_Row___init__ : PySem.W.findCls K (.ref C_Row) (.type "type") "__init__" = some (.val (.ref f_Row___init__)))
    (a__law_length : PySem.W.nsIn K mainGlobals "_law_length" = some (some (.ref f__law_length)))
    (l__law_length : K.lookup f__law_length = some ⟨oc__law_length, od__law_length, .func (PySem.W.fnOf "_law_length" "_law_length" (defArgs s__law_length) (defBody s__law_length) (defScope s__law_length) .none kV__law_length dc__law_length pm__law_length an__law_length cd__law_length ct__law_length), sl__law_length⟩)
    (c__law_length : PySem.W.codeIn K cd__law_length "_law_length" = true)
    (k__law_length : PySem.W.keepIn K (.ref f__law_length) = true)
    (a__law_cell_at : PySem.W.nsIn K mainGlobals "_law_cell_at" = some (some (.ref f__law_cell_at)))
    (l__law_cell_at : K.lookup f__law_cell_at = some ⟨oc__law_cell_at, od__law_cell_at, .func (PySem.W.fnOf "_law_cell_at" "_law_cell_at" (defArgs s__law_cell_at) (defBody s__law_cell_at) (defScope s__law_cell_at) .none kV__law_cell_at dc__law_cell_at pm__law_cell_at an__law_cell_at cd__law_cell_at ct__law_cell_at), sl__law_cell_at⟩)
    (c__law_cell_at : PySem.W.codeIn K cd__law_cell_at "_law_cell_at" = true)
    (k__law_cell_at : PySem.W.keepIn K (.ref f__law_cell_at) = true)
    (a__law_mixed : PySem.W.nsIn K mainGlobals "_law_mixed" = some (some (.ref f__law_mixed)))
    (l__law_mixed : K.lookup f__law_mixed = some ⟨oc__law_mixed, od__law_mixed, .func (PySem.W.fnOf "_law_mixed" "_law_mixed" (defArgs s__law_mixed) (defBody s__law_mixed) (defScope s__law_mixed) .none kV__law_mixed dc__law_mixed pm__law_mixed an__law_mixed cd__law_mixed ct__law_mixed), sl__law_mixed⟩)
    (c__law_mixed : PySem.W.codeIn K cd__law_mixed "_law_mixed" = true)
    (k__law_mixed : PySem.W.keepIn K (.ref f__law_mixed) = true)
    (a__law_number : PySem.W.nsIn K mainGlobals "_law_number" = some (some (.ref f__law_number)))
    (l__law_number : K.lookup f__law_number = some ⟨oc__law_number, od__law_number, .func (PySem.W.fnOf "_law_number" "_law_number" (defArgs s__law_number) (defBody s__law_number) (defScope s__law_number) .none kV__law_number dc__law_number pm__law_number an__law_number cd__law_number ct__law_number), sl__law_number⟩)
    (c__law_number : PySem.W.codeIn K cd__law_number "_law_number" = true)
    (k__law_number : PySem.W.keepIn K (.ref f__law_number) = true)
    (a__law_sign : PySem.W.nsIn K mainGlobals "_law_sign" = some (some (.ref f__law_sign)))
    (l__law_sign : K.lookup f__law_sign = some ⟨oc__law_sign, od__law_sign, .func (PySem.W.fnOf "_law_sign" "_law_sign" (defArgs s__law_sign) (defBody s__law_sign) (defScope s__law_sign) .none kV__law_sign dc__law_sign pm__law_sign an__law_sign cd__law_sign ct__law_sign), sl__law_sign⟩)
    (c__law_sign : PySem.W.codeIn K cd__law_sign "_law_sign" = true)
    (k__law_sign : PySem.W.keepIn K (.ref f__law_sign) = true)
    (a__law_rows : PySem.W.nsIn K mainGlobals "_law_rows" = some (some (.ref f__law_rows)))
    (l__law_rows : K.lookup f__law_rows = some ⟨oc__law_rows, od__law_rows, .func (PySem.W.fnOf "_law_rows" "_law_rows" (defArgs s__law_rows) (defBody s__law_rows) (defScope s__law_rows) .none kV__law_rows dc__law_rows pm__law_rows an__law_rows cd__law_rows ct__law_rows), sl__law_rows⟩)
    (c__law_rows : PySem.W.codeIn K cd__law_rows "_law_rows" = true)
    (k__law_rows : PySem.W.keepIn K (.ref f__law_rows) = true)
    (a__law_shown : PySem.W.nsIn K mainGlobals "_law_shown" = some (some (.ref f__law_shown)))
    (l__law_shown : K.lookup f__law_shown = some ⟨oc__law_shown, od__law_shown, .func (PySem.W.fnOf "_law_shown" "_law_shown" (defArgs s__law_shown) (defBody s__law_shown) (defScope s__law_shown) .none kV__law_shown dc__law_shown pm__law_shown an__law_shown cd__law_shown ct__law_shown), sl__law_shown⟩)
    (c__law_shown : PySem.W.codeIn K cd__law_shown "_law_shown" = true)
    (k__law_shown : PySem.W.keepIn K (.ref f__law_shown) = true)
    (a_number_of : PySem.W.nsIn K mainGlobals "number_of" = some (some (.ref f_number_of)))
    (l_number_of : K.lookup f_number_of = some ⟨oc_number_of, od_number_of, .func (PySem.W.fnOf "number_of" "number_of" (defArgs s_number_of) (defBody s_number_of) (defScope s_number_of) .none kV_number_of dc_number_of pm_number_of an_number_of cd_number_of ct_number_of), sl_number_of⟩)
    (c_number_of : PySem.W.codeIn K cd_number_of "number_of" = true)
    (k_number_of : PySem.W.keepIn K (.ref f_number_of) = true)
    (a_row_read : PySem.W.nsIn K mainGlobals "row_read" = some (some (.ref f_row_read)))
    (l_row_read : K.lookup f_row_read = some ⟨oc_row_read, od_row_read, .func (PySem.W.fnOf "row_read" "row_read" (defArgs s_row_read) (defBody s_row_read) (defScope s_row_read) .none kV_row_read dc_row_read pm_row_read an_row_read cd_row_read ct_row_read), sl_row_read⟩)
    (c_row_read : PySem.W.codeIn K cd_row_read "row_read" = true)
    (k_row_read : PySem.W.keepIn K (.ref f_row_read) = true)
    (l_Take_told : K.lookup f_Take_told = some ⟨oc_Take_told, od_Take_told, .func (PySem.W.fnOf "told" "Take.told" (defArgs s_Take_told) (defBody s_Take_told) (defScope s_Take_told) .none kV_Take_told dc_Take_told pm_Take_told an_Take_told cd_Take_told ct_Take_told), sl_Take_told⟩)
    (c_Take_told : PySem.W.codeIn K cd_Take_told "Take.told" = true)
    (k_Take_told : PySem.W.keepIn K (.ref f_Take_told) = true)
    (l_Put_told : K.lookup f_Put_told = some ⟨oc_Put_told, od_Put_told, .func (PySem.W.fnOf "told" "Put.told" (defArgs s_Put_told) (defBody s_Put_told) (defScope s_Put_told) .none kV_Put_told dc_Put_told pm_Put_told an_Put_told cd_Put_told ct_Put_told), sl_Put_told⟩)
    (c_Put_told : PySem.W.codeIn K cd_Put_told "Put.told" = true)
    (k_Put_told : PySem.W.keepIn K (.ref f_Put_told) = true)
    (a_row_shown : PySem.W.nsIn K mainGlobals "row_shown" = some (some (.ref f_row_shown)))
    (l_row_shown : K.lookup f_row_shown = some ⟨oc_row_shown, od_row_shown, .func (PySem.W.fnOf "row_shown" "row_shown" (defArgs s_row_shown) (defBody s_row_shown) (defScope s_row_shown) .none kV_row_shown dc_row_shown pm_row_shown an_row_shown cd_row_shown ct_row_shown), sl_row_shown⟩)
    (c_row_shown : PySem.W.codeIn K cd_row_shown "row_shown" = true)
    (k_row_shown : PySem.W.keepIn K (.ref f_row_shown) = true)
    (a_numbers_of : PySem.W.nsIn K mainGlobals "numbers_of" = some (some (.ref f_numbers_of)))
    (l_numbers_of : K.lookup f_numbers_of = some ⟨oc_numbers_of, od_numbers_of, .func (PySem.W.fnOf "numbers_of" "numbers_of" (defArgs s_numbers_of) (defBody s_numbers_of) (defScope s_numbers_of) .none kV_numbers_of dc_numbers_of pm_numbers_of an_numbers_of cd_numbers_of ct_numbers_of), sl_numbers_of⟩)
    (c_numbers_of : PySem.W.codeIn K cd_numbers_of "numbers_of" = true)
    (k_numbers_of : PySem.W.keepIn K (.ref f_numbers_of) = true)
    (a_sum_of : PySem.W.nsIn K mainGlobals "sum_of" = some (some (.ref f_sum_of)))
    (l_sum_of : K.lookup f_sum_of = some ⟨oc_sum_of, od_sum_of, .func (PySem.W.fnOf "sum_of" "sum_of" (defArgs s_sum_of) (defBody s_sum_of) (defScope s_sum_of) .none kV_sum_of dc_sum_of pm_sum_of an_sum_of cd_sum_of ct_sum_of), sl_sum_of⟩)
    (c_sum_of : PySem.W.codeIn K cd_sum_of "sum_of" = true)
    (k_sum_of : PySem.W.keepIn K (.ref f_sum_of) = true)
    (a_paper_text : PySem.W.nsIn K mainGlobals "paper_text" = some (some (.ref f_paper_text)))
    (l_paper_text : K.lookup f_paper_text = some ⟨oc_paper_text, od_paper_text, .func (PySem.W.fnOf "paper_text" "paper_text" (defArgs s_paper_text) (defBody s_paper_text) (defScope s_paper_text) .none kV_paper_text dc_paper_text pm_paper_text an_paper_text cd_paper_text ct_paper_text), sl_paper_text⟩)
    (c_paper_text : PySem.W.codeIn K cd_paper_text "paper_text" = true)
    (k_paper_text : PySem.W.keepIn K (.ref f_paper_text) = true)
    (a_is_number : PySem.W.nsIn K mainGlobals "is_number" = some (some (.ref f_is_number)))
    (l_is_number : K.lookup f_is_number = some ⟨oc_is_number, od_is_number, .func (PySem.W.fnOf "is_number" "is_number" (defArgs s_is_number) (defBody s_is_number) (defScope s_is_number) .none kV_is_number dc_is_number pm_is_number an_is_number cd_is_number ct_is_number), sl_is_number⟩)
    (c_is_number : PySem.W.codeIn K cd_is_number "is_number" = true)
    (k_is_number : PySem.W.keepIn K (.ref f_is_number) = true)
    (a_is_take : PySem.W.nsIn K mainGlobals "is_take" = some (some (.ref f_is_take)))
    (l_is_take : K.lookup f_is_take = some ⟨oc_is_take, od_is_take, .func (PySem.W.fnOf "is_take" "is_take" (defArgs s_is_take) (defBody s_is_take) (defScope s_is_take) .none kV_is_take dc_is_take pm_is_take an_is_take cd_is_take ct_is_take), sl_is_take⟩)
    (c_is_take : PySem.W.codeIn K cd_is_take "is_take" = true)
    (k_is_take : PySem.W.keepIn K (.ref f_is_take) = true)
    (a_is_sign : PySem.W.nsIn K mainGlobals "is_sign" = some (some (.ref f_is_sign)))
    (l_is_sign : K.lookup f_is_sign = some ⟨oc_is_sign, od_is_sign, .func (PySem.W.fnOf "is_sign" "is_sign" (defArgs s_is_sign) (defBody s_is_sign) (defScope s_is_sign) .none kV_is_sign dc_is_sign pm_is_sign an_is_sign cd_is_sign ct_is_sign), sl_is_sign⟩)
    (c_is_sign : PySem.W.codeIn K cd_is_sign "is_sign" = true)
    (k_is_sign : PySem.W.keepIn K (.ref f_is_sign) = true)
    (a_is_put : PySem.W.nsIn K mainGlobals "is_put" = some (some (.ref f_is_put)))
    (l_is_put : K.lookup f_is_put = some ⟨oc_is_put, od_is_put, .func (PySem.W.fnOf "is_put" "is_put" (defArgs s_is_put) (defBody s_is_put) (defScope s_is_put) .none kV_is_put dc_is_put pm_is_put an_is_put cd_is_put ct_is_put), sl_is_put⟩)
    (c_is_put : PySem.W.codeIn K cd_is_put "is_put" = true)
    (k_is_put : PySem.W.keepIn K (.ref f_is_put) = true)
    (l_Row___init__ : K.lookup f_Row___init__ = some ⟨oc_Row___init__, od_Row___init__, .func (PySem.W.fnOf "__init__" "Row.__init__" (defArgs s_Row___init__) (defBody s_Row___init__) (defScope s_Row___init__) .none kV_Row___init__ dc_Row___init__ pm_Row___init__ an_Row___init__ cd_Row___init__ ct_Row___init__), sl_Row___init__⟩)
    (c_Row___init__ : PySem.W.codeIn K cd_Row___init__ "Row.__init__" = true)
    (k_Row___init__ : PySem.W.keepIn K (.ref f_Row___init__) = true)
    (l_Take___init__ : K.lookup f_Take___init__ = some ⟨oc_Take___init__, od_Take___init__, .func (PySem.W.fnOf "__init__" "Take.__init__" (defArgs s_Take___init__) (defBody s_Take___init__) (defScope s_Take___init__) .none kV_Take___init__ dc_Take___init__ pm_Take___init__ an_Take___init__ cd_Take___init__ ct_Take___init__), sl_Take___init__⟩)
    (c_Take___init__ : PySem.W.codeIn K cd_Take___init__ "Take.__init__" = true)
    (k_Take___init__ : PySem.W.keepIn K (.ref f_Take___init__) = true)
    (l_Put___init__ : K.lookup f_Put___init__ = some ⟨oc_Put___init__, od_Put___init__, .func (PySem.W.fnOf "__init__" "Put.__init__" (defArgs s_Put___init__) (defBody s_Put___init__) (defScope s_Put___init__) .none kV_Put___init__ dc_Put___init__ pm_Put___init__ an_Put___init__ cd_Put___init__ ct_Put___init__), sl_Put___init__⟩)
    (c_Put___init__ : PySem.W.codeIn K cd_Put___init__ "Put.__init__" = true)
    (k_Put___init__ : PySem.W.keepIn K (.ref f_Put___init__) = true)
    (a_row_of : PySem.W.nsIn K mainGlobals "row_of" = some (some (.ref f_row_of)))
    (l_row_of : K.lookup f_row_of = some ⟨oc_row_of, od_row_of, .func (PySem.W.fnOf "row_of" "row_of" (defArgs s_row_of) (defBody s_row_of) (defScope s_row_of) .none kV_row_of dc_row_of pm_row_of an_row_of cd_row_of ct_row_of), sl_row_of⟩)
    (c_row_of : PySem.W.codeIn K cd_row_of "row_of" = true)
    (k_row_of : PySem.W.keepIn K (.ref f_row_of) = true)
    (a_read_paper : PySem.W.nsIn K mainGlobals "read_paper" = some (some (.ref f_read_paper)))
    (l_read_paper : K.lookup f_read_paper = some ⟨oc_read_paper, od_read_paper, .func (PySem.W.fnOf "read_paper" "read_paper" (defArgs s_read_paper) (defBody s_read_paper) (defScope s_read_paper) .none kV_read_paper dc_read_paper pm_read_paper an_read_paper cd_read_paper ct_read_paper), sl_read_paper⟩)
    (c_read_paper : PySem.W.codeIn K cd_read_paper "read_paper" = true)
    (k_read_paper : PySem.W.keepIn K (.ref f_read_paper) = true)
    (a__law_plain : PySem.W.nsIn K mainGlobals "_law_plain" = some (some (.ref f__law_plain)))
    (l__law_plain : K.lookup f__law_plain = some ⟨oc__law_plain, od__law_plain, .func (PySem.W.fnOf "_law_plain" "_law_plain" (defArgs s__law_plain) (defBody s__law_plain) (defScope s__law_plain) .none kV__law_plain dc__law_plain pm__law_plain an__law_plain cd__law_plain ct__law_plain), sl__law_plain⟩)
    (c__law_plain : PySem.W.codeIn K cd__law_plain "_law_plain" = true)
    (k__law_plain : PySem.W.keepIn K (.ref f__law_plain) = true)
    (a_law : PySem.W.nsIn K mainGlobals "law" = some (some (.ref f_law)))
    (l_law : K.lookup f_law = some ⟨oc_law, od_law, .func (PySem.W.fnOf "law" "law" (defArgs s_law) (defBody s_law) (defScope s_law) .none kV_law dc_law pm_law an_law cd_law ct_law), sl_law⟩)
    (c_law : PySem.W.codeIn K cd_law "law" = true)
    (k_law : PySem.W.keepIn K (.ref f_law) = true)
    (z_abs : PySem.W.nsIn K mainGlobals "abs" = some none)
    (z_all : PySem.W.nsIn K mainGlobals "all" = some none)
    (z_bool : PySem.W.nsIn K mainGlobals "bool" = some none)
    (z_int : PySem.W.nsIn K mainGlobals "int" = some none)
    (z_isinstance : PySem.W.nsIn K mainGlobals "isinstance" = some none)
    (z_len : PySem.W.nsIn K mainGlobals "len" = some none)
    (z_list : PySem.W.nsIn K mainGlobals "list" = some none)
    (z_min : PySem.W.nsIn K mainGlobals "min" = some none)
    (z_range : PySem.W.nsIn K mainGlobals "range" = some none)
    (z_str : PySem.W.nsIn K mainGlobals "str" = some none)
    (z_tuple : PySem.W.nsIn K mainGlobals "tuple" = some none)
    : ∃ fd : FuncData, ∃ T : Tx K mg, T.a_law = fa ∧ T.d_law = fd ∧ (∀ (s : Shared) (v : Value), BindsTo s fd ⟨[v], []⟩ [("_law_script", v)]) := by
  have e := hfa.symm.trans (PySem.W.mg_of X G a_law)
  cases e
  have F__law_length := fun_mk (st := s__law_length) l__law_length c__law_length k__law_length
  have b__law_length := F__law_length.binds (ps := ["_law_cell"]) fun _ _ _ _ _ _ us hl => match us, hl with | [_], _ => rfl
  have F__law_cell_at := fun_mk (st := s__law_cell_at) l__law_cell_at c__law_cell_at k__law_cell_at
  have b__law_cell_at := F__law_cell_at.binds (ps := ["_law_script", "_law_k"]) fun _ _ _ _ _ _ us hl => match us, hl with | [_, _], _ => rfl
  have F__law_mixed := fun_mk (st := s__law_mixed) l__law_mixed c__law_mixed k__law_mixed
  have b__law_mixed := F__law_mixed.binds (ps := ["_law_cell", "_law_k"]) fun _ _ _ _ _ _ us hl => match us, hl with | [_, _], _ => rfl
  have F__law_number := fun_mk (st := s__law_number) l__law_number c__law_number k__law_number
  have b__law_number := F__law_number.binds (ps := ["_law_draw", "_law_cell"]) fun _ _ _ _ _ _ us hl => match us, hl with | [_, _], _ => rfl
  have F__law_sign := fun_mk (st := s__law_sign) l__law_sign c__law_sign k__law_sign
  have b__law_sign := F__law_sign.binds (ps := ["_law_cell", "_law_k"]) fun _ _ _ _ _ _ us hl => match us, hl with | [_, _], _ => rfl
  have F__law_rows := fun_mk (st := s__law_rows) l__law_rows c__law_rows k__law_rows
  have b__law_rows := F__law_rows.binds (ps := ["_law_script"]) fun _ _ _ _ _ _ us hl => match us, hl with | [_], _ => rfl
  have F__law_shown := fun_mk (st := s__law_shown) l__law_shown c__law_shown k__law_shown
  have b__law_shown := F__law_shown.binds (ps := ["_law_paper"]) fun _ _ _ _ _ _ us hl => match us, hl with | [_], _ => rfl
  have F_number_of := fun_mk (st := s_number_of) l_number_of c_number_of k_number_of
  have b_number_of := F_number_of.binds (ps := ["word"]) fun _ _ _ _ _ _ us hl => match us, hl with | [_], _ => rfl
  have F_row_read := fun_mk (st := s_row_read) l_row_read c_row_read k_row_read
  have b_row_read := F_row_read.binds (ps := ["words"]) fun _ _ _ _ _ _ us hl => match us, hl with | [_], _ => rfl
  have F_Take_told := fun_mk (st := s_Take_told) l_Take_told c_Take_told k_Take_told
  have b_Take_told := F_Take_told.binds (ps := ["self"]) fun _ _ _ _ _ _ us hl => match us, hl with | [_], _ => rfl
  have F_Put_told := fun_mk (st := s_Put_told) l_Put_told c_Put_told k_Put_told
  have b_Put_told := F_Put_told.binds (ps := ["self"]) fun _ _ _ _ _ _ us hl => match us, hl with | [_], _ => rfl
  have F_row_shown := fun_mk (st := s_row_shown) l_row_shown c_row_shown k_row_shown
  have b_row_shown := F_row_shown.binds (ps := ["word", "numbers"]) fun _ _ _ _ _ _ us hl => match us, hl with | [_, _], _ => rfl
  have F_numbers_of := fun_mk (st := s_numbers_of) l_numbers_of c_numbers_of k_numbers_of
  have b_numbers_of := F_numbers_of.binds (ps := ["told"]) fun _ _ _ _ _ _ us hl => match us, hl with | [_], _ => rfl
  have F_sum_of := fun_mk (st := s_sum_of) l_sum_of c_sum_of k_sum_of
  have b_sum_of := F_sum_of.binds (ps := ["numbers"]) fun _ _ _ _ _ _ us hl => match us, hl with | [_], _ => rfl
  have F_paper_text := fun_mk (st := s_paper_text) l_paper_text c_paper_text k_paper_text
  have b_paper_text := F_paper_text.binds (ps := ["paper"]) fun _ _ _ _ _ _ us hl => match us, hl with | [_], _ => rfl
  have F_is_number := fun_mk (st := s_is_number) l_is_number c_is_number k_is_number
  have b_is_number := F_is_number.binds (ps := ["thing"]) fun _ _ _ _ _ _ us hl => match us, hl with | [_], _ => rfl
  have F_is_take := fun_mk (st := s_is_take) l_is_take c_is_take k_is_take
  have b_is_take := F_is_take.binds (ps := ["told"]) fun _ _ _ _ _ _ us hl => match us, hl with | [_], _ => rfl
  have F_is_sign := fun_mk (st := s_is_sign) l_is_sign c_is_sign k_is_sign
  have b_is_sign := F_is_sign.binds (ps := ["thing"]) fun _ _ _ _ _ _ us hl => match us, hl with | [_], _ => rfl
  have F_is_put := fun_mk (st := s_is_put) l_is_put c_is_put k_is_put
  have b_is_put := F_is_put.binds (ps := ["told"]) fun _ _ _ _ _ _ us hl => match us, hl with | [_], _ => rfl
  have F_Row___init__ := fun_mk (st := s_Row___init__) l_Row___init__ c_Row___init__ k_Row___init__
  have b_Row___init__ := F_Row___init__.binds (ps := ["self", "to"]) fun _ _ _ _ _ _ us hl => match us, hl with | [_, _], _ => rfl
  have F_Take___init__ := fun_mk (st := s_Take___init__) l_Take___init__ c_Take___init__ k_Take___init__
  have b_Take___init__ := F_Take___init__.binds (ps := ["self", "to", "start", "count"]) fun _ _ _ _ _ _ us hl => match us, hl with | [_, _, _, _], _ => rfl
  have F_Put___init__ := fun_mk (st := s_Put___init__) l_Put___init__ c_Put___init__ k_Put___init__
  have b_Put___init__ := F_Put___init__.binds (ps := ["self", "to", "signs"]) fun _ _ _ _ _ _ us hl => match us, hl with | [_, _, _], _ => rfl
  have F_row_of := fun_mk (st := s_row_of) l_row_of c_row_of k_row_of
  have b_row_of := F_row_of.binds (ps := ["told"]) fun _ _ _ _ _ _ us hl => match us, hl with | [_], _ => rfl
  have F_read_paper := fun_mk (st := s_read_paper) l_read_paper c_read_paper k_read_paper
  have b_read_paper := F_read_paper.binds (ps := ["text"]) fun _ _ _ _ _ _ us hl => match us, hl with | [_], _ => rfl
  have F__law_plain := fun_mk (st := s__law_plain) l__law_plain c__law_plain k__law_plain
  have b__law_plain := F__law_plain.binds (ps := ["_law_paper"]) fun _ _ _ _ _ _ us hl => match us, hl with | [_], _ => rfl
  have F_law := fun_mk (st := s_law) l_law c_law k_law
  have b_law := F_law.binds (ps := ["_law_script"]) fun _ _ _ _ _ _ us hl => match us, hl with | [_], _ => rfl
  let T : Tx K mg := {
    a__law_length := f__law_length, d__law_length := _, F__law_length := F__law_length, b__law_length := b__law_length, g__law_length := PySem.W.mg_of X G a__law_length,
    a__law_cell_at := f__law_cell_at, d__law_cell_at := _, F__law_cell_at := F__law_cell_at, b__law_cell_at := b__law_cell_at, g__law_cell_at := PySem.W.mg_of X G a__law_cell_at,
    a__law_mixed := f__law_mixed, d__law_mixed := _, F__law_mixed := F__law_mixed, b__law_mixed := b__law_mixed, g__law_mixed := PySem.W.mg_of X G a__law_mixed,
    a__law_number := f__law_number, d__law_number := _, F__law_number := F__law_number, b__law_number := b__law_number, g__law_number := PySem.W.mg_of X G a__law_number,
    a__law_sign := f__law_sign, d__law_sign := _, F__law_sign := F__law_sign, b__law_sign := b__law_sign, g__law_sign := PySem.W.mg_of X G a__law_sign,
    a__law_rows := f__law_rows, d__law_rows := _, F__law_rows := F__law_rows, b__law_rows := b__law_rows, g__law_rows := PySem.W.mg_of X G a__law_rows,
    a__law_shown := f__law_shown, d__law_shown := _, F__law_shown := F__law_shown, b__law_shown := b__law_shown, g__law_shown := PySem.W.mg_of X G a__law_shown,
    a_number_of := f_number_of, d_number_of := _, F_number_of := F_number_of, b_number_of := b_number_of, g_number_of := PySem.W.mg_of X G a_number_of,
    a_row_read := f_row_read, d_row_read := _, F_row_read := F_row_read, b_row_read := b_row_read, g_row_read := PySem.W.mg_of X G a_row_read,
    a_Take_told := f_Take_told, d_Take_told := _, F_Take_told := F_Take_told, b_Take_told := b_Take_told,
    a_Put_told := f_Put_told, d_Put_told := _, F_Put_told := F_Put_told, b_Put_told := b_Put_told,
    a_row_shown := f_row_shown, d_row_shown := _, F_row_shown := F_row_shown, b_row_shown := b_row_shown, g_row_shown := PySem.W.mg_of X G a_row_shown,
    a_numbers_of := f_numbers_of, d_numbers_of := _, F_numbers_of := F_numbers_of, b_numbers_of := b_numbers_of, g_numbers_of := PySem.W.mg_of X G a_numbers_of,
    a_sum_of := f_sum_of, d_sum_of := _, F_sum_of := F_sum_of, b_sum_of := b_sum_of, g_sum_of := PySem.W.mg_of X G a_sum_of,
    a_paper_text := f_paper_text, d_paper_text := _, F_paper_text := F_paper_text, b_paper_text := b_paper_text, g_paper_text := PySem.W.mg_of X G a_paper_text,
    a_is_number := f_is_number, d_is_number := _, F_is_number := F_is_number, b_is_number := b_is_number, g_is_number := PySem.W.mg_of X G a_is_number,
    a_is_take := f_is_take, d_is_take := _, F_is_take := F_is_take, b_is_take := b_is_take, g_is_take := PySem.W.mg_of X G a_is_take,
    a_is_sign := f_is_sign, d_is_sign := _, F_is_sign := F_is_sign, b_is_sign := b_is_sign, g_is_sign := PySem.W.mg_of X G a_is_sign,
    a_is_put := f_is_put, d_is_put := _, F_is_put := F_is_put, b_is_put := b_is_put, g_is_put := PySem.W.mg_of X G a_is_put,
    a_Row___init__ := f_Row___init__, d_Row___init__ := _, F_Row___init__ := F_Row___init__, b_Row___init__ := b_Row___init__,
    a_Take___init__ := f_Take___init__, d_Take___init__ := _, F_Take___init__ := F_Take___init__, b_Take___init__ := b_Take___init__,
    a_Put___init__ := f_Put___init__, d_Put___init__ := _, F_Put___init__ := F_Put___init__, b_Put___init__ := b_Put___init__,
    a_row_of := f_row_of, d_row_of := _, F_row_of := F_row_of, b_row_of := b_row_of, g_row_of := PySem.W.mg_of X G a_row_of,
    a_read_paper := f_read_paper, d_read_paper := _, F_read_paper := F_read_paper, b_read_paper := b_read_paper, g_read_paper := PySem.W.mg_of X G a_read_paper,
    a__law_plain := f__law_plain, d__law_plain := _, F__law_plain := F__law_plain, b__law_plain := b__law_plain, g__law_plain := PySem.W.mg_of X G a__law_plain,
    a_law := fa, d_law := _, F_law := F_law, b_law := b_law, g_law := PySem.W.mg_of X G a_law,
    C_Row := C_Row,
    C_Take := C_Take,
    C_Put := C_Put,
    g_Row := PySem.W.mg_of X G hg_Row,
    g_Take := PySem.W.mg_of X G hg_Take,
    g_Put := PySem.W.mg_of X G hg_Put,
    cl_Take := ⟨pg_Take, hd_Take, po_Take, sa_Take⟩,
    mk_Take := ⟨mk_Take, in_Take, if_Take, kc_Take⟩,
    n_Take_to := n_Take_to,
    n_Take_source := n_Take_source,
    n_Take_amount := n_Take_amount,
    cl_Put := ⟨pg_Put, hd_Put, po_Put, sa_Put⟩,
    mk_Put := ⟨mk_Put, in_Put, if_Put, kc_Put⟩,
    n_Put_to := n_Put_to,
    n_Put_signs := n_Put_signs,
    C_NoRow := C_NoRow,
    g_NoRow := PySem.W.mg_of X G hg_NoRow,
    k_FIGURES := k_FIGURES,
    c_FIGURES := PySem.W.mg_of X G hc_FIGURES,
    W_WORDS := W_WORDS,
    c_WORDS := PySem.W.mg_of X G hc_WORDS,
    w_WORDS := DL.tupc_of ob_wWORDS,
    m_Put_told := ⟨ma_Put_told, mf_Put_told, mk_Put_told⟩,
    m_Take_told := ⟨ma_Take_told, mf_Take_told, mk_Take_told⟩,
    cf_Row___init__ := ⟨⟨cr_Row___init__, cg_Row___init__⟩, cv_Row___init__⟩,
    z_abs := PySem.W.mg_none_of X G z_abs,
    z_all := PySem.W.mg_none_of X G z_all,
    z_bool := PySem.W.mg_none_of X G z_bool,
    z_int := PySem.W.mg_none_of X G z_int,
    z_isinstance := PySem.W.mg_none_of X G z_isinstance,
    z_len := PySem.W.mg_none_of X G z_len,
    z_list := PySem.W.mg_none_of X G z_list,
    z_min := PySem.W.mg_none_of X G z_min,
    z_range := PySem.W.mg_none_of X G z_range,
    z_str := PySem.W.mg_none_of X G z_str,
    z_tuple := PySem.W.mg_none_of X G z_tuple }
  exact ⟨_, T, rfl, rfl, fun s v => .of_eq rfl⟩
theorem all_fin {l : PySem.W.OpenLaw} {w : World} {K : PySem.W.Frag} {h : Heap} {mg : Str → Option Value} {fa : Addr} (X : K.In h) (z : ∃ fd : FuncData, ∃ T : Tx K mg, T.a_law = fa ∧ T.d_law = fd ∧ (∀ (s : Shared) (v : Value), BindsTo s fd ⟨[v], []⟩ [("_law_script", v)])) : ∃ fd : FuncData, (∀ (s : Shared) (v : Value), BindsTo s fd ⟨[v], []⟩ [("_law_script", v)]) ∧ ∀ base : Heap, K.In base → base.Ns mainGlobals mg → FnOk l.prog w K mg base CX0 7 fa fd ["_law_script"] (spEnd K) := by
  obtain ⟨fd, T, e1, e2, hb⟩ := z
  subst e1 e2
  exact ⟨T.d_law, hb, fun base _ _ => (ok_law T).imp fun vs H Q E h => law_sp T h⟩
end Lw
open PySem PySem.W PyProof.Rows
set_option maxRecDepth 100000 in
set_option maxHeartbeats 0 in
theorem PySem.Challenge.cw_oneroom_k62_papers_shown_holds : PySem.Challenge.rw_oneroom_k62_papers_shown.Holds := by
  w_on; o_law; k_head; (case hw => w_witness2)
  k_fill
  refine L2.walk_of (l := PySem.Challenge.rw_oneroom_k62_papers_shown) (n := 63) (k := 7) (x := "_law_script") (CX := fun w => L2.CX0) (sp := fun w => Lw.spEnd _) rfl (by decide) rfl ⟨rfl, by decide, by decide⟩ (fun w h Y => PySem.W.kIn_of Y) ?F (fun _ H a ns hl _ hS => Lw.law_in H a ns hl hS (fun _ hp => nomatch hp)) (fun _ _ _ _ _ h => h)
  case F =>
    intro w mg fa h KX G hmg
    refine' Lw.all_fin KX (Lw.all_mk (l := PySem.Challenge.rw_oneroom_k62_papers_shown) (w := w) KX G hmg ?hg_Row ?hg_Take ?hg_Put ?pg_Take ?hd_Take ?po_Take ?sa_Take ?mk_Take ?in_Take ?if_Take ?kc_Take ?n_Take_to ?n_Take_source ?n_Take_amount ?pg_Put ?hd_Put ?po_Put ?sa_Put ?mk_Put ?in_Put ?if_Put ?kc_Put ?n_Put_to ?n_Put_signs ?hg_NoRow ?hc_FIGURES ?hc_WORDS ?ob_wWORDS ?ma_Put_told ?mf_Put_told ?mk_Put_told ?ma_Take_told ?mf_Take_told ?mk_Take_told ?cr_Row___init__ ?cg_Row___init__ ?cv_Row___init__ ?a__law_length ?l__law_length ?c__law_length ?k__law_length ?a__law_cell_at ?l__law_cell_at ?c__law_cell_at ?k__law_cell_at ?a__law_mixed ?l__law_mixed ?c__law_mixed ?k__law_mixed ?a__law_number ?l__law_number ?c__law_number ?k__law_number ?a__law_sign ?l__law_sign ?c__law_sign ?k__law_sign ?a__law_rows ?l__law_rows ?c__law_rows ?k__law_rows ?a__law_shown ?l__law_shown ?c__law_shown ?k__law_shown ?a_number_of ?l_number_of ?c_number_of ?k_number_of ?a_row_read ?l_row_read ?c_row_read ?k_row_read ?l_Take_told ?c_Take_told ?k_Take_told ?l_Put_told ?c_Put_told ?k_Put_told ?a_row_shown ?l_row_shown ?c_row_shown ?k_row_shown ?a_numbers_of ?l_numbers_of ?c_numbers_of ?k_numbers_of ?a_sum_of ?l_sum_of ?c_sum_of ?k_sum_of ?a_paper_text ?l_paper_text ?c_paper_text ?k_paper_text ?a_is_number ?l_is_number ?c_is_number ?k_is_number ?a_is_take ?l_is_take ?c_is_take ?k_is_take ?a_is_sign ?l_is_sign ?c_is_sign ?k_is_sign ?a_is_put ?l_is_put ?c_is_put ?k_is_put ?l_Row___init__ ?c_Row___init__ ?k_Row___init__ ?l_Take___init__ ?c_Take___init__ ?k_Take___init__ ?l_Put___init__ ?c_Put___init__ ?k_Put___init__ ?a_row_of ?l_row_of ?c_row_of ?k_row_of ?a_read_paper ?l_read_paper ?c_read_paper ?k_read_paper ?a__law_plain ?l__law_plain ?c__law_plain ?k__law_plain ?a_law ?l_law ?c_law ?k_law ?z_abs ?z_all ?z_bool ?z_int ?z_isinstance ?z_len ?z_list ?z_min ?z_range ?z_str ?z_tuple)
    (case hg_Row => k_is); (case hg_Take => k_is); (case hg_Put => k_is); (case pg_Take => k_is); (case hd_Take => k_is); (case po_Take => k_is); (case sa_Take => k_is); (case mk_Take => k_is); (case in_Take => k_is); (case if_Take => k_is); (case kc_Take => k_is); (case n_Take_to => k_is); (case n_Take_source => k_is); (case n_Take_amount => k_is); (case pg_Put => k_is); (case hd_Put => k_is); (case po_Put => k_is); (case sa_Put => k_is); (case mk_Put => k_is); (case in_Put => k_is); (case if_Put => k_is); (case kc_Put => k_is); (case n_Put_to => k_is); (case n_Put_signs => k_is); (case hg_NoRow => k_is); (case hc_FIGURES => k_is); (case hc_WORDS => k_is); (case ob_wWORDS => kernel_rfl); (case ma_Put_told => k_is); (case mf_Put_told => k_is); (case mk_Put_told => k_is); (case ma_Take_told => k_is); (case mf_Take_told => k_is); (case mk_Take_told => k_is); (case cr_Row___init__ => k_is); (case cg_Row___init__ => k_is); (case cv_Row___init__ => k_is); (case a__law_length => k_is); (case l__law_length => k_is); (case c__law_length => k_is); (case k__law_length => k_is); (case a__law_cell_at => k_is); (case l__law_cell_at => k_is); (case c__law_cell_at => k_is); (case k__law_cell_at => k_is); (case a__law_mixed => k_is); (case l__law_mixed => k_is); (case c__law_mixed => k_is); (case k__law_mixed => k_is); (case a__law_number => k_is); (case l__law_number => k_is); (case c__law_number => k_is); (case k__law_number => k_is); (case a__law_sign => k_is); (case l__law_sign => k_is); (case c__law_sign => k_is); (case k__law_sign => k_is); (case a__law_rows => k_is); (case l__law_rows => k_is); (case c__law_rows => k_is); (case k__law_rows => k_is); (case a__law_shown => k_is); (case l__law_shown => k_is); (case c__law_shown => k_is); (case k__law_shown => k_is); (case a_number_of => k_is); (case l_number_of => k_is); (case c_number_of => k_is); (case k_number_of => k_is); (case a_row_read => k_is); (case l_row_read => k_is); (case c_row_read => k_is); (case k_row_read => k_is); (case l_Take_told => k_is); (case c_Take_told => k_is); (case k_Take_told => k_is); (case l_Put_told => k_is); (case c_Put_told => k_is); (case k_Put_told => k_is); (case a_row_shown => k_is); (case l_row_shown => k_is); (case c_row_shown => k_is); (case k_row_shown => k_is); (case a_numbers_of => k_is); (case l_numbers_of => k_is); (case c_numbers_of => k_is); (case k_numbers_of => k_is); (case a_sum_of => k_is); (case l_sum_of => k_is); (case c_sum_of => k_is); (case k_sum_of => k_is); (case a_paper_text => k_is); (case l_paper_text => k_is); (case c_paper_text => k_is); (case k_paper_text => k_is); (case a_is_number => k_is); (case l_is_number => k_is); (case c_is_number => k_is); (case k_is_number => k_is); (case a_is_take => k_is); (case l_is_take => k_is); (case c_is_take => k_is); (case k_is_take => k_is); (case a_is_sign => k_is); (case l_is_sign => k_is); (case c_is_sign => k_is); (case k_is_sign => k_is); (case a_is_put => k_is); (case l_is_put => k_is); (case c_is_put => k_is); (case k_is_put => k_is); (case l_Row___init__ => k_is); (case c_Row___init__ => k_is); (case k_Row___init__ => k_is); (case l_Take___init__ => k_is); (case c_Take___init__ => k_is); (case k_Take___init__ => k_is); (case l_Put___init__ => k_is); (case c_Put___init__ => k_is); (case k_Put___init__ => k_is); (case a_row_of => k_is); (case l_row_of => k_is); (case c_row_of => k_is); (case k_row_of => k_is); (case a_read_paper => k_is); (case l_read_paper => k_is); (case c_read_paper => k_is); (case k_read_paper => k_is); (case a__law_plain => k_is); (case l__law_plain => k_is); (case c__law_plain => k_is); (case k__law_plain => k_is); (case a_law => k_is); (case l_law => k_is); (case c_law => k_is); (case k_law => k_is); (case z_abs => k_is); (case z_all => k_is); (case z_bool => k_is); (case z_int => k_is); (case z_isinstance => k_is); (case z_len => k_is); (case z_list => k_is); (case z_min => k_is); (case z_range => k_is); (case z_str => k_is); (case z_tuple => k_is)

