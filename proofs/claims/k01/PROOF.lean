import PyProof.Rows.All
import Wide.All
import OpenK.AllK
import Wide.FinOn
import HandS.ForMost
import HandS.Wide
import HandS.TupAny
import HandS.IsInst
import HandS.Conv
import HandS.Deep
import HandS.ClsMeth
import PyProof.ListRange
import PyProof.WalksMore
import HandS.Exc
import HandS.Style
import HandS.Sort
import HandS.Small
import HandS.More
import HandS.ExcOwn
import HandS.ExcIs
import HandS.TryOnly
import HandS.WordsExc
import HandS.Lambda
import KE.GoesEnum
import HandS.Flt
import KE.KRevIter
import KE.GoesRev
import HandS.Zip
import HandS.Rev
import PyProof.CollectIter
import HandS.Nested
import HandS.SortInts
import HandS.SortKw
import KE.SortKeyHeap
import HandS.Defaults
import HandS.Lambda
import HandS.Iter
import KE.DataMinKey
import KE.SortData
import KE.DataMinMax
import HandS.ExcInit
import HandS.ExcField
import HandS.TryMany
import HandS.Text
import HandS.Strs
import HandS.EndTab
import KE.KNestM
import PySem.Challenge.RW_oneroom_k01_a_store
set_option Elab.async false
set_option linter.all false
set_option maxRecDepth 100000
set_option maxHeartbeats 4000000
/-! DCore: a deep-data calculus over the hand layer. -/
namespace DL
open PySem L2

/-! ### functions that a running def makes -/
/-- a nested def, or a lambda -/
structure CF where
  at_ : Addr → Heap → Prop
  c : Addr
  qual : Str
  cl : List (Str × Addr)
  fn : ∀ (f : Addr) (h : Heap), at_ f h → ∃ (oc : Value) (od : Option Addr) (fd : FuncData) (sl : Array (Option Value)), h.get? f = some (⟨oc, od, .func fd, sl⟩ : Obj)
@[reducible] def CF.ob (F : CF) (f : Addr) : HO := .ext (F.at_ f)
theorem CF.ne {F : CF} {f : Addr} (ps : Array Value) : F.ob f ≠ .tbl ps := fun z => by cases z
/-- a nested def -/
@[reducible] def CF.n (F : NdefX.NF) : CF where
  at_ := fun f h => ∃ (od : Option Addr) (sl : Array (Option Value)) (doc pm ctv : Value), h.get? f = some (⟨.type "function", od, .func (F.fd doc pm ctv), sl⟩ : Obj)
  c := F.c
  qual := F.qual
  cl := F.cl
  fn := fun f h ⟨od, sl, doc, pm, ctv, e⟩ => ⟨_, od, _, sl, e⟩
/-- what it promises: ws what its captured cells hold at the call -/
structure COk (P : Program) (w : World) (K : PySem.W.Frag) (mg : Str → Option Value) (base : Heap) (CX : CXT) (k : Nat) (f : Addr) (F : CF) (ps fr : List Str) (sp : List (Option V) → Sp) : Prop where
  len : ∀ ws vs H Q E, sp ws vs H Q E → vs.length = ps.length
  run : ∀ (A : Around) (outer : List Env) (s : Shared) (H : Hp) (us : List Value) (vs : List V) (ws : List (Option V)) (Q : VK) (E : XK), Room k A → Env0 P w K mg base A outer s H → H f = some (F.ob f) → H F.c = some (LamX.CodeO F.c F.qual) →
    NdefX.CellsAt F.cl fr ws s.heap H → Vals vs us → sp ws vs H Q E → codeAny (model P w) A (.call (.ref f) ⟨us, []⟩) (CR CX outer P w H s Q E) s
theorem COk.of {P : Program} {w : World} {K : PySem.W.Frag} {mg : Str → Option Value} {base : Heap} {CX : CXT} {k : Nat} {f : Addr} {F : NdefX.NF} {ps fr : List Str} {sp : List (Option V) → Sp} (h : NdefX.NOk P w K mg base CX k f F ps fr sp) : COk P w K mg base CX k f (CF.n F) ps fr sp := ⟨h.len, h.run⟩
theorem COk.mono {P : Program} {w : World} {K : PySem.W.Frag} {mg : Str → Option Value} {base : Heap} {CX : CXT} {j k : Nat} {f : Addr} {F : CF} {ps fr : List Str} {sp : List (Option V) → Sp} (o : COk P w K mg base CX j f F ps fr sp) (h : j ≤ k) : COk P w K mg base CX k f F ps fr sp := ⟨o.len, fun A outer s H us vs ws Q E hr => o.run A outer s H us vs ws Q E (hr.mono h)⟩
theorem cfAt_of {X : Cx} {pins : List (Addr × Obj)} {σ : St} {H : Hp} {s : Shared} {f : Addr} {F : CF} (I : Inv X pins σ H s) (e : H f = some (F.ob f)) : PySem.W.FnAt f s.heap := by
  obtain ⟨z, _, _⟩ := I.hok f _ e
  obtain ⟨oc, od, fd, sl, ho⟩ := F.fn f _ z
  exact ⟨oc, od, fd, sl, ho⟩

/-! ### deep data -/
inductive D where
  | non
  | bl (b : Bool)
  | int (i : Int)
  | str (s : Str)
  | ty (n : String)
  | fn (a : Addr)
  | lst (xs : List D)
  | scr (xs : List D)
  | tup (xs : List D)
  | obj (C : Addr) (ns : List Str) (xs : List D)
  | clo (F : CF) (us : List V) (xs : List D)

def Ex (H H' : Hp) : Prop := ∀ a o, H a = some o → H' a = some o
theorem Ex.refl (H : Hp) : Ex H H := fun _ _ h => h
theorem Ex.trans {H H1 H2 : Hp} (a : Ex H H1) (b : Ex H1 H2) : Ex H H2 := fun x o h => b x o (a x o h)
theorem Ex.new {H : Hp} {p : Addr} {o : HO} (h : H p = none) : Ex H (upd H p o) := fun a u e => by
  rw [upd_ne (ne_of_none e h)]
  exact e
theorem Ex.rd {H H' : Hp} {a : Addr} {u : HO} (e : Ex H H') (h : Rd H a u) : Rd H' a u := by
  rcases h with h | ⟨o, h⟩
  · exact Or.inl (e a _ h)
  · exact Or.inr ⟨o, e a _ h⟩
theorem Ex.sl {K : PySem.W.Frag} {H H' : Hp} {a : Addr} {xs : List V} (e : Ex H H') (h : SqL K H a xs) : SqL K H' a xs := by
  rcases h with h | h
  · exact Or.inl (e.rd h)
  · exact Or.inr h
theorem Ex.st {K : PySem.W.Frag} {H H' : Hp} {a : Addr} {xs : List V} (e : Ex H H') (h : SqT K H a xs) : SqT K H' a xs := by
  rcases h with h | h
  · exact Or.inl (e.rd h)
  · exact Or.inr h

mutual
inductive Rep (K : PySem.W.Frag) (H : Hp) : V → D → Prop
  | non : Rep K H .non .non
  | bl (b : Bool) : Rep K H (.bl b) (.bl b)
  | int (i : Int) : Rep K H (.int i) (.int i)
  | str (x : Str) : Rep K H (.str x) (.str x)
  | ty (n : String) : Rep K H (.ty n) (.ty n)
  | fn (a : Addr) : Rep K H (.ref a) (.fn a)
  | lst {a : Addr} {vs : List V} {ds : List D} : H a = some (.lst vs) → RepL K H vs ds → Rep K H (.ref a) (.lst ds)
  | scr {a : Addr} {vs : List V} {ds : List D} : SqL K H a vs → RepL K H vs ds → Rep K H (.ref a) (.scr ds)
  | tup {a : Addr} {vs : List V} {ds : List D} : H a = some (.tup vs) → RepL K H vs ds → Rep K H (.ref a) (.tup ds)
  | obj {a C dx : Addr} {ns : List Str} {vs : List V} {ds : List D} : H a = some (.ins C dx (ns.zip vs)) → RepL K H vs ds → Rep K H (.ref a) (.obj C ns ds)
  | clo {f : Addr} {F : CF} {us : List V} {ds : List D} : H f = some (F.ob f) → H F.c = some (LamX.CodeO F.c F.qual) → RepL K H us ds → Rep K H (.ref f) (.clo F us ds)
inductive RepL (K : PySem.W.Frag) (H : Hp) : List V → List D → Prop
  | nil : RepL K H [] []
  | cons {v : V} {vs : List V} {d : D} {ds : List D} : Rep K H v d → RepL K H vs ds → RepL K H (v :: vs) (d :: ds)
end

section
variable {K : PySem.W.Frag} {H H' : Hp}
mutual
theorem Rep.mono (e : Ex H H') : ∀ {v : V} {d : D}, Rep K H v d → Rep K H' v d
  | _, _, .non => .non
  | _, _, .bl b => .bl b
  | _, _, .int i => .int i
  | _, _, .str x => .str x
  | _, _, .ty n => .ty n
  | _, _, .fn a => .fn a
  | _, _, .lst h r => .lst (e _ _ h) (RepL.mono e r)
  | _, _, .scr h r => .scr (e.sl h) (RepL.mono e r)
  | _, _, .tup h r => .tup (e _ _ h) (RepL.mono e r)
  | _, _, .obj h r => .obj (e _ _ h) (RepL.mono e r)
  | _, _, .clo h k r => .clo (e _ _ h) (e _ _ k) (RepL.mono e r)
theorem RepL.mono (e : Ex H H') : ∀ {vs : List V} {ds : List D}, RepL K H vs ds → RepL K H' vs ds
  | _, _, .nil => .nil
  | _, _, .cons h r => .cons (Rep.mono e h) (RepL.mono e r)
end
theorem RepL.length : ∀ {vs : List V} {ds : List D}, RepL K H vs ds → vs.length = ds.length
  | _, _, .nil => rfl
  | _, _, .cons _ r => by rw [List.length_cons, List.length_cons, RepL.length r]
theorem RepL.get : ∀ {vs : List V} {ds : List D} {i : Nat} {v : V}, RepL K H vs ds → vs[i]? = some v → ∃ d, ds[i]? = some d ∧ Rep K H v d
  | _, _, _, _, .nil, e => by simp at e
  | _, _, 0, _, .cons h _, e => by
    have e' := Option.some.inj e
    subst e'
    exact ⟨_, rfl, h⟩
  | _, _, i + 1, v, .cons _ r, e => RepL.get (i := i) (v := v) r e
theorem RepL.at : ∀ {vs : List V} {ds : List D} {i : Nat} {d : D}, RepL K H vs ds → ds[i]? = some d → ∃ v, vs[i]? = some v ∧ Rep K H v d
  | _, _, _, _, .nil, e => by simp at e
  | _, _, 0, _, .cons h _, e => by
    have e' := Option.some.inj e
    subst e'
    exact ⟨_, rfl, h⟩
  | _, _, i + 1, d, .cons _ r, e => RepL.at (i := i) (d := d) r e
theorem RepL.append : ∀ {vs ws : List V} {ds es : List D}, RepL K H vs ds → RepL K H ws es → RepL K H (vs ++ ws) (ds ++ es)
  | _, _, _, _, .nil, q => q
  | _, _, _, _, .cons h r, q => .cons h (RepL.append r q)
theorem RepL.take : ∀ {vs : List V} {ds : List D} (n : Nat), RepL K H vs ds → RepL K H (vs.take n) (ds.take n)
  | _, _, 0, _ => .nil
  | _, _, _ + 1, .nil => .nil
  | _, _, n + 1, .cons h r => .cons h (RepL.take n r)
theorem RepL.drop : ∀ {vs : List V} {ds : List D} (n : Nat), RepL K H vs ds → RepL K H (vs.drop n) (ds.drop n)
  | _, _, 0, r => r
  | _, _, _ + 1, .nil => .nil
  | _, _, n + 1, .cons _ r => RepL.drop n r
theorem RepL.set {v : V} {d : D} (h : Rep K H v d) : ∀ {vs : List V} {ds : List D} (i : Nat), RepL K H vs ds → RepL K H (vs.set i v) (ds.set i d)
  | _, _, _, .nil => .nil
  | _, _, 0, .cons _ r => .cons h r
  | _, _, i + 1, .cons q r => .cons q (RepL.set h i r)
theorem RepL.erase : ∀ {vs : List V} {ds : List D} (i : Nat), RepL K H vs ds → RepL K H (vs.eraseIdx i) (ds.eraseIdx i)
  | _, _, _, .nil => .nil
  | _, _, 0, .cons _ r => r
  | _, _, i + 1, .cons q r => .cons q (RepL.erase i r)
theorem RepL.rev {vs : List V} {ds : List D} (h : RepL K H vs ds) : RepL K H vs.reverse ds.reverse := by
  induction vs generalizing ds with
  | nil => cases h; exact .nil
  | cons v vs ih =>
    cases h with
    | cons a b =>
      rw [List.reverse_cons, List.reverse_cons]
      exact (ih b).append (.cons a .nil)
theorem RepL.rep {vs : List V} {ds : List D} (h : RepL K H vs ds) : ∀ n : Nat, RepL K H (List.replicate n vs).flatten (List.replicate n ds).flatten
  | 0 => .nil
  | n + 1 => by
    rw [List.replicate_succ, List.replicate_succ, List.flatten_cons, List.flatten_cons]
    exact h.append (RepL.rep h n)
theorem RepL.ints : ∀ {vs : List V} {ns : List Int}, RepL K H vs (ns.map D.int) → vs = ns.map V.int
  | [], [], _ => rfl
  | [], _ :: _, h => by cases h
  | v :: vs, [], h => by cases h
  | v :: vs, n :: ns, h => by
    cases h with
    | cons a b =>
      cases a
      rw [RepL.ints b] <;> rfl
theorem RepL.ofInts : ∀ (ns : List Int), RepL K H (ns.map V.int) (ns.map D.int)
  | [] => .nil
  | n :: ns => .cons (.int n) (RepL.ofInts ns)
theorem RepL.bls : ∀ {vs : List V} {bs : List Bool}, RepL K H vs (bs.map D.bl) → vs = bs.map V.bl
  | [], [], _ => rfl
  | [], _ :: _, h => by cases h
  | v :: vs, [], h => by cases h
  | v :: vs, n :: ns, h => by
    cases h with
    | cons a b =>
      cases a
      rw [RepL.bls b] <;> rfl
theorem RepL.strs : ∀ {vs : List V} {bs : List Str}, RepL K H vs (bs.map D.str) → vs = bs.map V.str
  | [], [], _ => rfl
  | [], _ :: _, h => by cases h
  | v :: vs, [], h => by cases h
  | v :: vs, n :: ns, h => by
    cases h with
    | cons a b =>
      cases a
      rw [RepL.strs b] <;> rfl
end

/-- scalars: what needs no heap -/
def D.scal : D → Bool
  | .non => true | .bl _ => true | .int _ => true | .str _ => true | .ty _ => true | .fn _ => true
  | _ => false
theorem Rep.scal {K : PySem.W.Frag} {H H' : Hp} {v : V} {d : D} (h : Rep K H v d) (s : d.scal = true) : Rep K H' v d := by
  cases h with
  | non => exact .non
  | bl b => exact .bl b
  | int i => exact .int i
  | str x => exact .str x
  | ty n => exact .ty n
  | fn a => exact .fn a
  | lst _ _ => cases s
  | scr _ _ => cases s
  | tup _ _ => cases s
  | obj _ _ => cases s
  | clo _ _ _ => cases s
theorem RepL.scal {K : PySem.W.Frag} {H H' : Hp} : ∀ {vs : List V} {ds : List D}, RepL K H vs ds → ds.all D.scal = true → RepL K H' vs ds
  | _, _, .nil, _ => .nil
  | _, _, .cons h r, s => by
    rw [List.all_cons, Bool.and_eq_true] at s
    exact .cons (h.scal s.1) (RepL.scal r s.2)

/-! ### tables of code objects: they alone may grow -/
class TbC where
  T : List NdefX.NTab
/-- what a region may hold -/
def _root_.L2.HO.pln : HO → Bool
  | .tbl _ => false
  | .ext _ => false
  | _ => true
theorem pln_tbl {o : HO} (h : o.pln = true) : ∀ ps, o ≠ .tbl ps := fun ps z => by
  subst z
  cases h
theorem pln_code {o : HO} {c : Addr} {q : Str} (h : o.pln = true) : o ≠ LamX.CodeO c q := fun z => by
  subst z
  cases h
theorem pln_fn {o : HO} {f : Addr} {F : CF} (h : o.pln = true) : o ≠ F.ob f := fun z => by
  subst z
  cases h
def PlR (R : Hp) : Prop := ∀ a o, R a = some o → o.pln = true
/-- all but tables stay -/
def ExN (H H' : Hp) : Prop := ∀ a o, H a = some o → (∀ ps, o ≠ .tbl ps) → H' a = some o
theorem ExN.refl (H : Hp) : ExN H H := fun _ _ h _ => h
theorem Ex.n {H H' : Hp} (e : Ex H H') : ExN H H' := fun a o h _ => e a o h
theorem ExN.trans {H H1 H2 : Hp} (a : ExN H H1) (b : ExN H1 H2) : ExN H H2 := fun x o h n => b x o (a x o h n) n
theorem ExN.pl {H H' : Hp} {a : Addr} {o : HO} (e : ExN H H') (h : H a = some o) (n : o.pln = true := by rfl) : H' a = some o := e a o h (pln_tbl n)
theorem ExN.rd {H H' : Hp} {a : Addr} {u : HO} (e : ExN H H') (h : Rd H a u) (n : u.pln = true := by rfl) : Rd H' a u := by
  rcases h with h | ⟨o, h⟩
  · exact Or.inl (e.pl h n)
  · exact Or.inr ⟨o, e.pl h rfl⟩
theorem ExN.sl {K : PySem.W.Frag} {H H' : Hp} {a : Addr} {xs : List V} (e : ExN H H') (h : SqL K H a xs) : SqL K H' a xs := by
  rcases h with h | h
  · exact Or.inl (e.rd h)
  · exact Or.inr h
theorem ExN.st {K : PySem.W.Frag} {H H' : Hp} {a : Addr} {xs : List V} (e : ExN H H') (h : SqT K H a xs) : SqT K H' a xs := by
  rcases h with h | h
  · exact Or.inl (e.rd h)
  · exact Or.inr h
mutual
theorem Rep.monoN {K : PySem.W.Frag} {H H' : Hp} (e : ExN H H') : ∀ {v : V} {d : D}, Rep K H v d → Rep K H' v d
  | _, _, .non => .non
  | _, _, .bl b => .bl b
  | _, _, .int i => .int i
  | _, _, .str x => .str x
  | _, _, .ty n => .ty n
  | _, _, .fn a => .fn a
  | _, _, .lst h r => .lst (e.pl h) (RepL.monoN e r)
  | _, _, .scr h r => .scr (e.sl h) (RepL.monoN e r)
  | _, _, .tup h r => .tup (e.pl h) (RepL.monoN e r)
  | _, _, .obj h r => .obj (e.pl h) (RepL.monoN e r)
  | _, _, .clo h k r => .clo (e _ _ h CF.ne) (e _ _ k LamX.codeO_ne) (RepL.monoN e r)
theorem RepL.monoN {K : PySem.W.Frag} {H H' : Hp} (e : ExN H H') : ∀ {vs : List V} {ds : List D}, RepL K H vs ds → RepL K H' vs ds
  | _, _, .nil => .nil
  | _, _, .cons h r => .cons (Rep.monoN e h) (RepL.monoN e r)
end
/-- the tables tell codes of the right names -/
def TB [TbC] (H : Hp) : Prop := NdefX.TabsN TbC.T H
/-- no table is shared -/
def NT (Hs : Hp) : Prop := ∀ a ps, Hs a ≠ some (.tbl ps)
def Pn (H : Hp) (a : Addr) : Prop := ∃ o, H a = some o ∧ o.pln = true
theorem Pn.ne {H : Hp} {a : Addr} (h : Pn H a) : H a ≠ none := by
  obtain ⟨o, e, _⟩ := h
  rw [e]
  exact fun z => nomatch z
theorem Pn.of {H : Hp} {a : Addr} {o : HO} (e : H a = some o) (n : o.pln = true := by rfl) : Pn H a := ⟨o, e, n⟩
variable [TbC]
/-- H' is H but for plain objects, that were none, or plain -/
theorem TB.ch {H H' : Hp} (t : TB H) (c : ∀ a, H' a = H a ∨ H a = none ∨ Pn H a) : TB H' := by
  have keep : ∀ a o, H a = some o → o.pln = false → H' a = some o := fun a o e n => by
    rcases c a with z | z | ⟨u, z, z2⟩
    · rw [z]; exact e
    · rw [z] at e; cases e
    · rw [z] at e
      cases e
      rw [z2] at n
      cases n
  intro p hp
  obtain ⟨ps, h1, h2, h3⟩ := t p hp
  refine ⟨ps, keep _ _ h1 rfl, h2, fun pos cv hc => ?_⟩
  obtain ⟨c0, e1, e2⟩ := h3 pos cv hc
  exact ⟨c0, e1, keep _ _ e2 rfl⟩
/-! ### growth: Hs is what is shared for good, H the heap, Hf what must be kept -/
structure Gr (Hs Hf H Hs' H' : Hp) : Prop where
  fr : ExN Hf H'
  sh : Ex Hs Hs'
  lv : Ex Hs' H'
  nw : ∀ a, Pn H a → Hs' a = Hs a
  dm : ∀ a, H a ≠ none → H' a ≠ none
  fd : ∀ a, Hf a ≠ none → H' a ≠ none
  dp : ∀ a, Pn H a → Pn H' a
  nt : NT Hs → NT Hs'
  tb : TB H → TB H'
theorem Gr.refl {Hs H : Hp} (e : Ex Hs H) : Gr Hs H H Hs H := ⟨ExN.refl H, Ex.refl Hs, e, fun _ _ => rfl, fun _ h => h, fun _ h => h, fun _ h => h, id, id⟩
theorem Gr.trans {Hs Hf H Hs1 H1 Hs2 H2 : Hp} (a : Gr Hs Hf H Hs1 H1) (b : Gr Hs1 H1 H1 Hs2 H2) : Gr Hs Hf H Hs2 H2 :=
  ⟨a.fr.trans b.fr, a.sh.trans b.sh, b.lv, fun x h => (b.nw x (a.dp x h)).trans (a.nw x h), fun x h => b.dm x (a.dm x h), fun x h => b.dm x (a.fd x h), fun x h => b.dp x (a.dp x h), fun t => b.nt (a.nt t), fun t => b.tb (a.tb t)⟩
/-- what is new now was new before -/
theorem Gr.new0 {Hs Hf H Hs' H' : Hp} (g : Gr Hs Hf H Hs' H') {a : Addr} (n : H' a = none) : H a = none ∧ Hf a = none := by
  constructor
  · cases z : H a with
    | none => rfl
    | some o => exact absurd n (g.dm a (by rw [z]; exact fun y => nomatch y))
  · cases z : Hf a with
    | none => rfl
    | some o => exact absurd n (g.fd a (by rw [z]; exact fun y => nomatch y))
theorem upd_ch {H : Hp} {p : Addr} {o : HO} (h : H p = none ∨ Pn H p) (a : Addr) : upd H p o a = H a ∨ H a = none ∨ Pn H a := by
  by_cases q : a = p
  · subst q
    exact .inr h
  · exact .inl (upd_ne q)
theorem upd_dm {H : Hp} {p : Addr} {o : HO} {a : Addr} (x : H a ≠ none) : upd H p o a ≠ none := by
  by_cases q : a = p
  · rw [q, upd_same]
    exact fun z => nomatch z
  · rw [upd_ne q]
    exact x
theorem upd_new {H : Hp} {p : Addr} {o : HO} (h : H p = none) {a : Addr} (x : Pn H a) : Pn (upd H p o) a := by
  obtain ⟨u, e, n⟩ := x
  exact ⟨u, by rw [upd_ne (ne_of_none e h)]; exact e, n⟩
/-- what is not plain -/
def npl (H : Hp) : Hp := fun a => match H a with
  | some o => if o.pln = true then none else some o
  | none => none
theorem npl_pn {H : Hp} (a : Addr) : ¬ Pn (npl H) a := fun ⟨o, e, n⟩ => by
  unfold npl at e
  split at e
  · split at e
    · cases e
    · rename_i z
      cases e
      exact z n
  · cases e
theorem npl_of {H : Hp} {a : Addr} {o : HO} (e : H a = some o) (n : o.pln = false) : npl H a = some o := by
  unfold npl
  rw [e]
  exact if_neg (by rw [n]; decide)
theorem npl_le {H : Hp} {a : Addr} (h : npl H a ≠ none) : H a ≠ none := fun z => h (by
  unfold npl
  rw [z])
theorem npl_no {H : Hp} {a : Addr} {o : HO} (e : H a = some o) (n : o.pln = true) : npl H a = none := by
  unfold npl
  rw [e]
  exact if_pos n
theorem TB.npl {H : Hp} (t : TB H) : TB (npl H) := fun p hp => by
  obtain ⟨ps, h1, h2, h3⟩ := t p hp
  refine ⟨ps, npl_of h1 rfl, h2, fun pos cv hc => ?_⟩
  obtain ⟨c0, e1, e2⟩ := h3 pos cv hc
  exact ⟨c0, e1, npl_of e2 rfl⟩
/-- each object is as before, or plain -/
def Ch (H H' : Hp) : Prop := ∀ a, H' a = H a ∨ Pn H' a
theorem Ch.refl (H : Hp) : Ch H H := fun _ => .inl rfl
theorem Ch.upd {H : Hp} {p : Addr} {o : HO} (n : o.pln = true := by rfl) : Ch H (upd H p o) := fun a => by
  by_cases q : a = p
  · subst q
    exact .inr ⟨o, upd_same, n⟩
  · exact .inl (upd_ne q)
theorem Ch.pn {H H' : Hp} (c : Ch H H') (a : Addr) (h : Pn H a) : Pn H' a := by
  rcases c a with z | z
  · obtain ⟨o, e, n⟩ := h
    exact ⟨o, z.trans e, n⟩
  · exact z
theorem NT.upd {Hs : Hp} {p : Addr} {o : HO} (h : NT Hs) (n : o.pln = true) : NT (upd Hs p o) := fun a ps z => by
  by_cases q : a = p
  · rw [q, upd_same] at z
    cases z
    cases n
  · rw [upd_ne q] at z
    exact h a ps z
/-- a new object that is shared at once -/
theorem Gr.new {Hs H : Hp} {p : Addr} {o : HO} (e : Ex Hs H) (h : H p = none) (pl : o.pln = true := by rfl) : Gr Hs H H (upd Hs p o) (upd H p o) := by
  have hs : Hs p = none := by
    cases q : Hs p with
    | none => rfl
    | some u =>
      rw [e p u q] at h
      cases h
  refine ⟨(Ex.new h).n, Ex.new hs, fun a u x => ?_, fun a x => upd_ne (fun q => x.ne (by rw [q]; exact h)), fun a x => upd_dm x, fun a x => upd_dm x, fun a x => upd_new h x, fun t => t.upd pl, fun t => t.ch (upd_ch (.inl h))⟩
  by_cases q : a = p
  · rw [q, upd_same] at x ⊢
    exact x
  · rw [upd_ne q] at x ⊢
    exact e a u x
/-- a new object that nobody else knows -/
theorem Gr.newO {Hs H : Hp} {p : Addr} {o : HO} (e : Ex Hs H) (h : H p = none) : Gr Hs H H Hs (upd H p o) :=
  ⟨(Ex.new h).n, Ex.refl Hs, e.trans (Ex.new h), fun a x => rfl, fun a x => upd_dm x, fun a x => upd_dm x, fun a x => upd_new h x, id, fun t => t.ch (upd_ch (.inl h))⟩
/-- an object that was new is shared from now on -/
theorem Gr.share {Hs H Hs' H' : Hp} {p : Addr} {o : HO} (g : Gr Hs H H Hs' H') (n : H p = none) (ns : Hs' p = none) (h : H' p = some o) (pl : o.pln = true := by rfl) : Gr Hs H H (upd Hs' p o) H' := by
  refine ⟨g.fr, g.sh.trans (Ex.new ns), fun a u x => ?_, fun a x => ?_, g.dm, g.fd, g.dp, fun t => (g.nt t).upd pl, g.tb⟩
  · by_cases q : a = p
    · rw [q, upd_same] at x
      cases x
      rw [q]
      exact h
    · rw [upd_ne q] at x
      exact g.lv a u x
  · rw [upd_ne (fun q => x.ne (by rw [q]; exact n))]
    exact g.nw a x

/-! ### what a frame's slots hold -/
inductive SV where
  | sh (d : D)
  | ol (ds : List D)
  | ow (nw : Bool) (Φ : Hp → V → Hp → Prop) (pl : ∀ Hs v R, Φ Hs v R → PlR R)
/-- made in this frame -/
def SV.nw : SV → Bool
  | .sh _ => true
  | .ol _ => true
  | .ow b _ _ => b

/-- what slot i holds; R is its own region -/
def Holds (K : PySem.W.Frag) (Hs : Hp) (R : Hp) (v : V) : SV → Prop
  | .sh d => Rep K Hs v d ∧ ∀ a, R a = none
  | .ol ds => ∃ (p : Addr) (vs : List V), v = .ref p ∧ R = (fun a => if a = p then some (.lst vs) else none) ∧ RepL K Hs vs ds
  | .ow _ Φ _ => ∀ Hs1, Ex Hs Hs1 → Φ Hs1 v R

abbrev Env := List (Option SV)
structure Base where
  s : Hp
  f : Hp
  h : Hp
  t : NT s ∧ TB h

structure RS (K : PySem.W.Frag) (B : Base) (Hs H : Hp) (σ : St) (ρ : Env) : Prop where
  gr : Gr B.s B.f B.h Hs H
  len : σ.length = ρ.length
  reg : ∃ R : Nat → Hp, (∀ i sv, ρ[i]? = some (some sv) → ∃ v, σ[i]? = some (some v) ∧ Holds K Hs (R i) v sv) ∧
    (∀ i a o, R i a = some o → H a = some o ∧ Hs a = none ∧ B.f a = none ∧ o.pln = true) ∧ (∀ i j a, R i a ≠ none → R j a ≠ none → i = j) ∧
    ∀ i sv a, ρ[i]? = some (some sv) → sv.nw = true → R i a ≠ none → B.h a = none

section
variable {K : PySem.W.Frag} {B : Base} {Hs H Hs' H' : Hp} {σ : St} {ρ : Env}
theorem Holds.mono {R : Hp} {v : V} {sv : SV} (e : Ex Hs Hs') (h : Holds K Hs R v sv) : Holds K Hs' R v sv := by
  cases sv with
  | sh d => exact ⟨h.1.mono e, h.2⟩
  | ol ds =>
    obtain ⟨p, vs, e1, e2, r⟩ := h
    exact ⟨p, vs, e1, e2, r.mono e⟩
  | ow _ Φ _ => exact fun Hs1 x => h Hs1 (e.trans x)
theorem Holds.pl {R : Hp} {v : V} {sv : SV} (h : Holds K Hs R v sv) : PlR R := by
  cases sv with
  | sh d =>
    intro a o e
    rw [h.2 a] at e
    cases e
  | ol ds =>
    obtain ⟨p, vs, e1, e2, r⟩ := h
    intro a o e
    rw [e2] at e
    have e : (if a = p then some (HO.lst vs) else none) = some o := e
    split at e
    · cases e
      rfl
    · cases e
  | ow _ Φ pl => exact pl Hs v R (h Hs (Ex.refl Hs))
theorem RS.tb (r : RS K B Hs H σ ρ) : NT Hs ∧ TB H := ⟨r.gr.nt B.t.1, r.gr.tb B.t.2⟩
theorem RS.ex (r : RS K B Hs H σ ρ) : Ex Hs H := r.gr.lv
theorem RS.get (r : RS K B Hs H σ ρ) {i : Nat} {d : D} (h : ρ[i]? = some (some (.sh d))) : ∃ v, σ[i]? = some (some v) ∧ Rep K Hs v d := by
  obtain ⟨R, h1, _⟩ := r.reg
  obtain ⟨v, e, q⟩ := h1 i _ h
  exact ⟨v, e, q.1⟩
theorem RS.grow (r : RS K B Hs H σ ρ) (g : Gr Hs H H Hs' H') : RS K B Hs' H' σ ρ := by
  obtain ⟨R, h1, h2, h3, h4⟩ := r.reg
  refine ⟨r.gr.trans g, r.len, R, fun i sv e => ?_, fun i a o e => ?_, h3, h4⟩
  · obtain ⟨v, e1, q⟩ := h1 i sv e
    exact ⟨v, e1, q.mono g.sh⟩
  · obtain ⟨e1, e2, e3⟩ := h2 i a o e
    refine ⟨g.fr.pl e1 e3.2, ?_, e3⟩
    rw [g.nw a (.of e1 e3.2)]
    exact e2
/-- a slot gets a shared value -/
theorem RS.set (r : RS K B Hs H σ ρ) (i : Nat) {v : V} {d : D} (h : Rep K Hs v d) : RS K B Hs H (σ.set i (some v)) (ρ.set i (some (.sh d))) := by
  obtain ⟨R, h1, h2, h3, h4⟩ := r.reg
  refine ⟨r.gr, by rw [List.length_set, List.length_set, r.len], fun j => if j = i then (fun _ => none) else R j, fun j sv e => ?_, fun j a o e => ?_, fun j k a e1 e2 => ?_, fun j ds a e1 e0 e2 => ?_⟩
  · by_cases q : j = i
    · subst q
      have hl : j < ρ.length := by
        have := (List.getElem?_eq_some_iff.mp e).1
        rwa [List.length_set] at this
      rw [List.getElem?_set_self hl] at e
      cases e
      refine ⟨v, List.getElem?_set_self (by rw [r.len]; exact hl), h, fun a => ?_⟩
      simp
    · rw [List.getElem?_set_ne (Ne.symm q)] at e ⊢
      dsimp only
      rw [if_neg q]
      exact h1 j sv e
  · dsimp only at e
    by_cases q : j = i
    · rw [if_pos q] at e
      cases e
    · rw [if_neg q] at e
      exact h2 j a o e
  · dsimp only at e1 e2
    by_cases q : j = i
    · rw [if_pos q] at e1
      exact absurd rfl e1
    · rw [if_neg q] at e1
      by_cases q' : k = i
      · rw [if_pos q'] at e2
        exact absurd rfl e2
      · rw [if_neg q'] at e2
        exact h3 j k a e1 e2
  · dsimp only at e2
    by_cases q : j = i
    · rw [if_pos q] at e2
      exact absurd rfl e2
    · rw [if_neg q] at e2
      rw [List.getElem?_set_ne (Ne.symm q)] at e1
      exact h4 j ds a e1 e0 e2
/-- a slot gets what is its own: a region of new objects -/
theorem RS.setR (r : RS K B Hs H σ ρ) (g : Gr Hs H H Hs' H') (i : Nat) {v : V} {sv : SV} {T : Hp} (hT : ∀ a o, T a = some o → H a = none ∧ H' a = some o ∧ Hs' a = none) (h : Holds K Hs' T v sv) :
    RS K B Hs' H' (σ.set i (some v)) (ρ.set i (some sv)) := by
  have r' := r.grow g
  obtain ⟨R, h1, h2, h3, h4⟩ := r.reg
  have nT : ∀ j a, R j a ≠ none → T a = none := fun j a x => by
    cases q : T a with
    | none => rfl
    | some o =>
      cases q' : R j a with
      | none => exact absurd q' x
      | some u =>
        have z := (h2 j a u q').1
        rw [(hT a o q).1] at z
        cases z
  refine ⟨r'.gr, by rw [List.length_set, List.length_set, r.len], fun j => if j = i then T else R j, fun j sv' e => ?_, fun j a o e => ?_, fun j k a e1 e2 => ?_, fun j ds a e1 e0 e2 => ?_⟩
  · by_cases q : j = i
    · subst q
      have hl : j < ρ.length := by
        have := (List.getElem?_eq_some_iff.mp e).1
        rwa [List.length_set] at this
      rw [List.getElem?_set_self hl] at e
      cases e
      refine ⟨v, List.getElem?_set_self (by rw [r.len]; exact hl), ?_⟩
      dsimp only
      rw [if_pos rfl]
      exact h
    · rw [List.getElem?_set_ne (Ne.symm q)] at e ⊢
      dsimp only
      rw [if_neg q]
      obtain ⟨v', e1, q1⟩ := h1 j sv' e
      exact ⟨v', e1, q1.mono g.sh⟩
  · dsimp only at e
    by_cases q : j = i
    · rw [if_pos q] at e
      obtain ⟨e1, e2, e3⟩ := hT a o e
      exact ⟨e2, e3, (r.gr.new0 e1).2, h.pl a o e⟩
    · rw [if_neg q] at e
      obtain ⟨e1, e2, e3⟩ := h2 j a o e
      refine ⟨g.fr.pl e1 e3.2, ?_, e3⟩
      rw [g.nw a (.of e1 e3.2)]
      exact e2
  · dsimp only at e1 e2
    by_cases q : j = i
    · rw [if_pos q] at e1
      by_cases q' : k = i
      · rw [q, q']
      · rw [if_neg q'] at e2
        exact absurd (nT k a e2) e1
    · rw [if_neg q] at e1
      by_cases q' : k = i
      · rw [if_pos q'] at e2
        exact absurd (nT j a e1) e2
      · rw [if_neg q'] at e2
        exact h3 j k a e1 e2
  · dsimp only at e2
    by_cases q : j = i
    · rw [if_pos q] at e2
      cases z : T a with
      | none => exact absurd z e2
      | some o =>
        cases y : B.h a with
        | none => rfl
        | some u => exact absurd (hT a o z).1 (r.gr.dm a (by rw [y]; exact fun z => nomatch z))
    · rw [if_neg q] at e2
      rw [List.getElem?_set_ne (Ne.symm q)] at e1
      exact h4 j ds a e1 e0 e2
/-- a slot gets a new list that is its own -/
theorem RS.setO (r : RS K B Hs H σ ρ) (g : Gr Hs H H Hs' H') (i : Nat) {p : Addr} {vs : List V} {ds : List D} (hn : H p = none) (hp : H' p = some (.lst vs)) (hs : Hs' p = none) (h : RepL K Hs' vs ds) :
    RS K B Hs' H' (σ.set i (some (.ref p))) (ρ.set i (some (.ol ds))) := by
  refine r.setR g i (T := fun a => if a = p then some (.lst vs) else none) (fun a o e => ?_) ⟨p, vs, rfl, rfl, h⟩
  by_cases q : a = p
  · rw [if_pos q] at e
    cases e
    subst q
    exact ⟨hn, hp, hs⟩
  · rw [if_neg q] at e
    cases e
/-- the slots' own regions are R -/
def Reg (K : PySem.W.Frag) (B : Base) (Hs H : Hp) (σ : St) (ρ : Env) (R : Nat → Hp) : Prop :=
  (∀ i sv, ρ[i]? = some (some sv) → ∃ v, σ[i]? = some (some v) ∧ Holds K Hs (R i) v sv) ∧
    (∀ i a o, R i a = some o → H a = some o ∧ Hs a = none ∧ B.f a = none ∧ o.pln = true) ∧ (∀ i j a, R i a ≠ none → R j a ≠ none → i = j) ∧
    ∀ i sv a, ρ[i]? = some (some sv) → sv.nw = true → R i a ≠ none → B.h a = none
def Fresh (B : Base) (Hs : Hp) (R : Nat → Hp) (a : Addr) : Prop := (∀ j, R j a = none) ∧ Hs a = none ∧ B.f a = none ∧ B.h a = none
theorem Reg.grow {R : Nat → Hp} (rg : Reg K B Hs H σ ρ R) (g : Gr Hs H H Hs' H') : Reg K B Hs' H' σ ρ R := by
  obtain ⟨h1, h2, h3, h4⟩ := rg
  refine ⟨fun i sv e => ?_, fun i a o e => ?_, h3, h4⟩
  · obtain ⟨v, e1, q⟩ := h1 i sv e
    exact ⟨v, e1, q.mono g.sh⟩
  · obtain ⟨e1, e2, e3⟩ := h2 i a o e
    refine ⟨g.fr.pl e1 e3.2, ?_, e3⟩
    rw [g.nw a (.of e1 e3.2)]
    exact e2
theorem RS.fresh (r : RS K B Hs H σ ρ) {R : Nat → Hp} (rg : Reg K B Hs H σ ρ R) {a : Addr} (n : H a = none) : Fresh B Hs R a := by
  refine ⟨fun j => ?_, ?_, ?_, ?_⟩
  · cases z : R j a with
    | none => rfl
    | some o =>
      rw [(rg.2.1 j a o z).1] at n
      cases n
  · cases z : Hs a with
    | none => rfl
    | some o =>
      rw [r.ex a o z] at n
      cases n
  · exact (r.gr.new0 n).2
  · cases z : B.h a with
    | none => rfl
    | some o => exact absurd n (r.gr.dm a (by rw [z]; exact fun y => nomatch y))
theorem Fresh.grow {R : Nat → Hp} {a : Addr} (f : Fresh B Hs R a) (n : Hs' a = none) : Fresh B Hs' R a := ⟨f.1, n, f.2.2⟩
/-- a slot's own region is changed (new objects may come to it) -/
theorem RS.mutR (r : RS K B Hs H σ ρ) {R : Nat → Hp} (rg : Reg K B Hs H σ ρ R) (i : Nat) {sv sv' : SV} (hi : ρ[i]? = some (some sv)) (nsh : sv'.nw = true → sv.nw = true)
    {v : V} (hv : σ[i]? = some (some v)) {T : Hp} (t1 : Holds K Hs T v sv') (t2 : ∀ a o, T a = some o → H' a = some o ∧ (R i a ≠ none ∨ Fresh B Hs R a))
    (t3 : ∀ a o, R i a = none → H a = some o → H' a = some o) (t4 : ∀ a, H a ≠ none → H' a ≠ none) (t5 : Ch H H' := by first | exact DL.Ch.upd | exact DL.Ch.refl _) : RS K B Hs H' σ (ρ.set i (some sv')) := by
  obtain ⟨h1, h2, h3, h4⟩ := rg
  have hl : i < ρ.length := (List.getElem?_eq_some_iff.mp hi).1
  have keep : ∀ a o, Hs a = some o → H' a = some o := fun a o e => t3 a o (by
    cases q : R i a with
    | none => rfl
    | some u =>
      rw [(h2 i a u q).2.1] at e
      cases e) (r.ex a o e)
  have nT : ∀ j a, j ≠ i → R j a ≠ none → T a = none := fun j a nj x => by
    cases q : T a with
    | none => rfl
    | some o =>
      rcases (t2 a o q).2 with z | z
      · exact absurd (h3 j i a x z) nj
      · exact absurd (z.1 j) x
  refine ⟨⟨fun a o e n => t3 a o ?_ (r.gr.fr a o e n), r.gr.sh, keep, r.gr.nw, fun a x => t4 a (r.gr.dm a x), fun a x => t4 a (r.gr.fd a x), fun a x => t5.pn a (r.gr.dp a x), r.gr.nt, fun t => (r.gr.tb t).ch fun a => ?_⟩, by rw [List.length_set, r.len], fun j => if j = i then T else R j, fun j sv2 e => ?_, fun j a o e => ?_, fun j l a e1 e2 => ?_, fun j ds a e1 e0 e2 => ?_⟩
  · cases q : R i a with
    | none => rfl
    | some u =>
      rw [(h2 i a u q).2.2.1] at e
      cases e
  · cases q : R i a with
    | some u => exact .inr (.inr ⟨u, (h2 i a u q).1, (h2 i a u q).2.2.2⟩)
    | none =>
      cases z : H a with
      | none => exact .inr (.inl rfl)
      | some u => exact .inl (t3 a u q z)
  · by_cases q : j = i
    · subst q
      rw [List.getElem?_set_self hl] at e
      cases e
      refine ⟨v, hv, ?_⟩
      dsimp only
      rw [if_pos rfl]
      exact t1
    · rw [List.getElem?_set_ne (Ne.symm q)] at e
      dsimp only
      rw [if_neg q]
      obtain ⟨v', e1, q1⟩ := h1 j sv2 e
      exact ⟨v', e1, q1⟩
  · dsimp only at e
    by_cases q : j = i
    · rw [if_pos q] at e
      obtain ⟨e1, e2⟩ := t2 a o e
      refine ⟨e1, ?_, ?_, t1.pl a o e⟩
      · cases z : Hs a with
        | none => rfl
        | some u =>
          rcases e2 with e2 | e2
          · cases q' : R i a with
            | none => exact absurd q' e2
            | some w =>
              rw [(h2 i a w q').2.1] at z
              cases z
          · rw [e2.2.1] at z
            cases z
      · cases z : B.f a with
        | none => rfl
        | some u =>
          rcases e2 with e2 | e2
          · cases q' : R i a with
            | none => exact absurd q' e2
            | some w =>
              rw [(h2 i a w q').2.2.1] at z
              cases z
          · rw [e2.2.2.1] at z
            cases z
    · rw [if_neg q] at e
      obtain ⟨e1, e2, e3⟩ := h2 j a o e
      refine ⟨t3 a o ?_ e1, e2, e3⟩
      cases z : R i a with
      | none => rfl
      | some u => exact absurd (h3 j i a (by rw [e]; exact fun z => nomatch z) (by rw [z]; exact fun z => nomatch z)) q
  · dsimp only at e1 e2
    by_cases q : j = i
    · rw [if_pos q] at e1
      by_cases q' : l = i
      · rw [q, q']
      · rw [if_neg q'] at e2
        exact absurd (nT l a q' e2) e1
    · rw [if_neg q] at e1
      by_cases q' : l = i
      · rw [if_pos q'] at e2
        exact absurd (nT j a q e1) e2
      · rw [if_neg q'] at e2
        exact h3 j l a e1 e2
  · dsimp only at e2
    by_cases q : j = i
    · subst q
      rw [if_pos rfl] at e2
      rw [List.getElem?_set_self hl] at e1
      have e3 : sv' = ds := Option.some.inj (Option.some.inj e1)
      have e4 : sv.nw = true := nsh (by rw [e3]; exact e0)
      cases z : T a with
      | none => exact absurd z e2
      | some o =>
        rcases (t2 a o z).2 with y | y
        · exact h4 j sv a hi e4 y
        · exact y.2.2.2
    · rw [if_neg q] at e2
      rw [List.getElem?_set_ne (Ne.symm q)] at e1
      exact h4 j ds a e1 e0 e2
theorem RS.mut (r : RS K B Hs H σ ρ) (i : Nat) {sv sv' : SV} (hi : ρ[i]? = some (some sv)) (nsh : sv'.nw = true → sv.nw = true)
    (k : ∀ v R, σ[i]? = some (some v) → Holds K Hs R v sv → (∀ a o, R a = some o → H a = some o ∧ Hs a = none) → ∃ T : Hp, Holds K Hs T v sv' ∧ (∀ a o, T a = some o → H' a = some o ∧ (R a ≠ none ∨ H a = none)) ∧
      (∀ a o, R a = none → H a = some o → H' a = some o) ∧ ∀ a, H a ≠ none → H' a ≠ none) (t5 : Ch H H' := by first | exact DL.Ch.upd | exact DL.Ch.refl _) : RS K B Hs H' σ (ρ.set i (some sv')) := by
  obtain ⟨R, h1, h2, h3, h4⟩ := id r.reg
  obtain ⟨v, hv, hh⟩ := h1 i sv hi
  obtain ⟨T, t1, t2, t3, t4⟩ := k v (R i) hv hh fun a o e => ⟨(h2 i a o e).1, (h2 i a o e).2.1⟩
  exact r.mutR ⟨h1, h2, h3, h4⟩ i hi nsh hv t1 (fun a o e => ⟨(t2 a o e).1, (t2 a o e).2.imp id fun z => r.fresh ⟨h1, h2, h3, h4⟩ z⟩) t3 t4 t5
/-- an own list is changed in place -/
theorem RS.mutL (r : RS K B Hs H σ ρ) (i : Nat) {ds : List D} (hi : ρ[i]? = some (some (.ol ds))) :
    ∃ p vs, σ[i]? = some (some (.ref p)) ∧ H p = some (.lst vs) ∧ RepL K Hs vs ds ∧ ∀ ws es, RepL K Hs ws es → RS K B Hs (upd H p (.lst ws)) σ (ρ.set i (some (.ol es))) := by
  obtain ⟨R, h1, h2, h3, h4⟩ := id r.reg
  obtain ⟨v, hv, p, vs, e1, e2, q⟩ := h1 i _ hi
  subst e1
  have hp : R i p = some (.lst vs) := by rw [e2]; exact if_pos rfl
  refine ⟨p, vs, hv, (h2 i p _ hp).1, q, fun ws es h => r.mut i hi (fun _ => rfl) fun v' R' hv' hh hR => ?_⟩
  obtain ⟨p', vs', e3, e4, _⟩ := hh
  rw [hv] at hv'
  have e5 := Option.some.inj (Option.some.inj hv')
  rw [e3] at e5
  cases e5
  subst e3
  refine ⟨fun a => if a = p then some (.lst ws) else none, ⟨p, ws, rfl, rfl, h⟩, fun a o e => ?_, fun a o e e' => ?_, fun a x => ?_⟩
  · dsimp only at e
    by_cases z : a = p
    · rw [if_pos z] at e
      cases e
      subst z
      refine ⟨upd_same, .inl ?_⟩
      rw [e4]
      show (if a = a then some (HO.lst vs') else none) ≠ none
      rw [if_pos rfl]
      exact fun z => nomatch z
    · rw [if_neg z] at e
      cases e
  · have z : a ≠ p := fun z => by
      subst z
      rw [e4] at e
      have e'' : (if a = a then some (HO.lst vs') else none) = none := e
      rw [if_pos rfl] at e''
      cases e''
    rw [upd_ne z]
    exact e'
  · by_cases z : a = p
    · rw [z, upd_same]
      exact fun z => nomatch z
    · rw [upd_ne z]
      exact x
/-- two heaps as one -/
def jn (R S : Hp) : Hp := fun a => match R a with
  | some o => some o
  | none => S a
theorem jn_l {R S : Hp} {a : Addr} {o : HO} (h : R a = some o) : jn R S a = some o := by unfold jn; rw [h]
theorem jn_r {R S : Hp} {a : Addr} (h : R a = none) : jn R S a = S a := by unfold jn; rw [h]
/-- what is a slot's own is shared from now on -/
theorem RS.fzR (r : RS K B Hs H σ ρ) (i : Nat) {sv : SV} (hi : ρ[i]? = some (some sv)) (hn : sv.nw = true ∨ ∀ a, ¬ Pn B.h a) {d : D} (k : ∀ v R, Holds K Hs R v sv → (∀ a o, R a = some o → Hs a = none) → Rep K (jn R Hs) v d) :
    ∃ Hs2, Ex Hs Hs2 ∧ Ex Hs2 H ∧ RS K B Hs2 H σ (ρ.set i (some (.sh d))) := by
  obtain ⟨R, h1, h2, h3, h4⟩ := r.reg
  obtain ⟨v, hv, hh⟩ := h1 i _ hi
  have q := k v (R i) hh fun a o e => (h2 i a o e).2.1
  have exs : Ex Hs (jn (R i) Hs) := fun a o e => by
    rw [jn_r]
    · exact e
    · cases z : R i a with
      | none => rfl
      | some u =>
        rw [(h2 i a u z).2.1] at e
        cases e
  have lv : Ex (jn (R i) Hs) H := fun a o e => by
    cases z : R i a with
    | some u =>
      rw [jn_l z] at e
      exact (h2 i a o (z.trans e)).1
    | none =>
      rw [jn_r z] at e
      exact r.ex a o e
  have hl : i < ρ.length := (List.getElem?_eq_some_iff.mp hi).1
  refine ⟨jn (R i) Hs, exs, lv, ⟨r.gr.fr, r.gr.sh.trans exs, lv, fun a x => ?_, r.gr.dm, r.gr.fd, r.gr.dp, fun t a ps e => ?_, r.gr.tb⟩, by rw [List.length_set, r.len], fun j => if j = i then (fun _ => none) else R j, fun j sv e => ?_, fun j a o e => ?_, fun j k a e1 e2 => ?_, fun j ds a e1 e0 e2 => ?_⟩
  · cases z : R i a with
    | some u =>
      rcases hn with hn | hn
      · exact absurd (h4 i _ a hi hn (by rw [z]; exact fun y => nomatch y)) x.ne
      · exact absurd x (hn a)
    | none =>
      rw [jn_r z]
      exact r.gr.nw a x
  · cases z : R i a with
    | some u =>
      rw [jn_l z] at e
      cases e
      have w := (h2 i a _ z).2.2.2
      cases w
    | none =>
      rw [jn_r z] at e
      exact r.gr.nt t a ps e
  · by_cases y : j = i
    · subst y
      rw [List.getElem?_set_self hl] at e
      cases e
      refine ⟨v, hv, q, fun a => ?_⟩
      dsimp only
      rw [if_pos rfl]
    · rw [List.getElem?_set_ne (Ne.symm y)] at e
      obtain ⟨v', e3, q'⟩ := h1 j sv e
      dsimp only
      rw [if_neg y]
      exact ⟨v', e3, q'.mono exs⟩
  · dsimp only at e
    by_cases y : j = i
    · rw [if_pos y] at e
      cases e
    · rw [if_neg y] at e
      obtain ⟨e3, e4, e5⟩ := h2 j a o e
      refine ⟨e3, ?_, e5⟩
      rw [jn_r]
      · exact e4
      · cases z : R i a with
        | none => rfl
        | some u => exact absurd (h3 j i a (by rw [e]; exact fun z => nomatch z) (by rw [z]; exact fun z => nomatch z)) y
  · dsimp only at e1 e2
    by_cases y : j = i
    · rw [if_pos y] at e1
      exact absurd rfl e1
    · rw [if_neg y] at e1
      by_cases y' : k = i
      · rw [if_pos y'] at e2
        exact absurd rfl e2
      · rw [if_neg y'] at e2
        exact h3 j k a e1 e2
  · dsimp only at e2
    by_cases y : j = i
    · rw [if_pos y] at e2
      exact absurd rfl e2
    · rw [if_neg y] at e2
      rw [List.getElem?_set_ne (Ne.symm y)] at e1
      exact h4 j ds a e1 e0 e2
/-- an own list is shared from now on -/
theorem RS.fz (r : RS K B Hs H σ ρ) (i : Nat) {ds : List D} (hi : ρ[i]? = some (some (.ol ds))) : ∃ Hs2, Ex Hs Hs2 ∧ Ex Hs2 H ∧ RS K B Hs2 H σ (ρ.set i (some (.sh (.lst ds)))) :=
  r.fzR i hi (.inl rfl) fun v R hh n => by
    obtain ⟨p, vs, rfl, e2, q⟩ := hh
    have hp : R p = some (.lst vs) := by rw [e2]; exact if_pos rfl
    refine .lst (jn_l hp) (q.mono fun a o e => ?_)
    rw [jn_r]
    · exact e
    · cases z : R a with
      | none => rfl
      | some u =>
        rw [n a u z] at e
        cases e
end
end DL

/-! DOwn: trees of objects that nobody else knows: lists, instances, dicts of numbers; what is done with them. -/
namespace DL
open PySem L2
variable [TbC]

inductive O where
  | sh (d : D)
  | ol (xs : List O)
  | ob (C : Addr) (ns : List Str) (xs : List O)
  /-- a tuple -/
  | tp (xs : List O)
  | dg (Φ : List (Key × V) → Prop) (n : Nat)
  /-- a closure: what its cells hold (its own from now on); tk: the names of the captured, where the cells are told by the heap -/
  | cl (tk : Option (List Str)) (F : CF) (us : List V) (xs : List O)
/-- a known cell -/
def CellO (ob : Obj) : HO := .frz ob (.ext fun _ => True)
/-- the cells of a closure, told by the heap -/
structure Trk (H : Hp) (cl : List (Str × Addr)) (fr : List Str) (us : List V) : Prop where
  len : us.length = fr.length
  inj : ∀ x y c, cl.lookup x = some c → cl.lookup y = some c → x = y
  all : ∀ y c, cl.lookup y = some c → ∃ ob v, H c = some (CellO ob) ∧ ob.data = .cell v
  has : ∀ (i : Nat) (y : Str) (v : V), fr[i]? = some y → us[i]? = some v → ∃ c ob u, cl.lookup y = some c ∧ H c = some (CellO ob) ∧ ob.data = .cell (some u) ∧ L2.RelV v u
theorem Trk.mono {H H' : Hp} {cl : List (Str × Addr)} {fr : List Str} {us : List V} (e : Ex H H') (t : Trk H cl fr us) : Trk H' cl fr us := by
  refine ⟨t.len, t.inj, fun y c h => ?_, fun i y v h1 h2 => ?_⟩
  · obtain ⟨ob, v, h1, h2⟩ := t.all y c h
    exact ⟨ob, v, e _ _ h1, h2⟩
  · obtain ⟨c, ob, u, h3, h4, h5⟩ := t.has i y v h1 h2
    exact ⟨c, ob, u, h3, e _ _ h4, h5⟩
/-- a dict of numbers, told by its keys -/
abbrev O.dk (P : Int → Bool) (n : Nat) : O := .dg (fun kvs => ∀ i : Int, (valV kvs (Sum.inl i : Key)).isSome = P i) n
/-- a dict from numbers to numbers -/
abbrev O.dv (f : Int → Option Int) (n : Nat) : O := .dg (fun kvs => ∀ i : Int, valV kvs (Sum.inl i : Key) = (f i).map V.int) n

def em : Hp := fun _ => none

mutual
inductive Own (K : PySem.W.Frag) (Hs : Hp) : V → O → Hp → Prop
  | sh {v : V} {d : D} : Rep K Hs v d → Own K Hs v (.sh d) em
  | ol {p : Addr} {vs : List V} {xs : List O} {R : Hp} : R p = none → OwnL K Hs vs xs R → Own K Hs (.ref p) (.ol xs) (upd R p (.lst vs))
  | ob {p C dx : Addr} {ns : List Str} {vs : List V} {xs : List O} {R : Hp} : R p = none → ns.length = xs.length → OwnL K Hs vs xs R → Own K Hs (.ref p) (.ob C ns xs) (upd R p (.ins C dx (ns.zip vs)))
  | tp {p : Addr} {vs : List V} {xs : List O} {R : Hp} : R p = none → OwnL K Hs vs xs R → Own K Hs (.ref p) (.tp xs) (upd R p (.tup vs))
  | dg {p : Addr} {Φ : List (Key × V) → Prop} {n : Nat} {kvs : List (Key × V)} : kvs.length ≤ n ∧ Φ kvs → Own K Hs (.ref p) (.dg Φ n) (upd em p (.dK kvs))
  | cl {f : Addr} {tk : Option (List Str)} {F : CF} {us : List V} {xs : List O} {R : Hp} : (Hs f = some (F.ob f) ∧ Hs F.c = some (LamX.CodeO F.c F.qual) ∧ ∀ fr, tk = some fr → Trk Hs F.cl fr us) → OwnL K Hs us xs R → Own K Hs (.ref f) (.cl tk F us xs) R
inductive OwnL (K : PySem.W.Frag) (Hs : Hp) : List V → List O → Hp → Prop
  | nil : OwnL K Hs [] [] em
  | cons {v : V} {o : O} {vs : List V} {os : List O} {R S : Hp} : Own K Hs v o R → OwnL K Hs vs os S → (∀ a, R a ≠ none → S a = none) → OwnL K Hs (v :: vs) (o :: os) (jn R S)
end

section
variable {K : PySem.W.Frag} {Hs Hs' : Hp}
mutual
theorem Own.mono (e : Ex Hs Hs') : ∀ {v : V} {o : O} {R : Hp}, Own K Hs v o R → Own K Hs' v o R
  | _, _, _, .sh h => .sh (h.mono e)
  | _, _, _, .ol n h => .ol n (OwnL.mono e h)
  | _, _, _, .ob n l h => .ob n l (OwnL.mono e h)
  | _, _, _, .tp n h => .tp n (OwnL.mono e h)
  | _, _, _, .dg h => .dg h
  | _, _, _, .cl h r => .cl ⟨e _ _ h.1, e _ _ h.2.1, fun fr q => (h.2.2 fr q).mono e⟩ (OwnL.mono e r)
theorem OwnL.mono (e : Ex Hs Hs') : ∀ {vs : List V} {os : List O} {R : Hp}, OwnL K Hs vs os R → OwnL K Hs' vs os R
  | _, _, _, .nil => .nil
  | _, _, _, .cons h r d => .cons (Own.mono e h) (OwnL.mono e r) d
end
theorem OwnL.length : ∀ {vs : List V} {os : List O} {R : Hp}, OwnL K Hs vs os R → vs.length = os.length
  | _, _, _, .nil => rfl
  | _, _, _, .cons _ r _ => by rw [List.length_cons, List.length_cons, r.length]
theorem jn_em (R : Hp) : jn em R = R := funext fun a => rfl
theorem jn_em' (R : Hp) : jn R em = R := funext fun a => by
  unfold jn em
  cases R a <;> rfl
theorem jn_none {R S : Hp} {a : Addr} : jn R S a = none ↔ R a = none ∧ S a = none := by
  unfold jn
  cases h : R a with
  | some o => simp
  | none => simp
theorem PlR.em : PlR em := fun a o e => nomatch e
theorem PlR.upd {R : Hp} {p : Addr} {u : HO} (h : PlR R) (n : u.pln = true := by rfl) : PlR (upd R p u) := fun a o e => by
  by_cases q : a = p
  · rw [q, upd_same] at e
    cases e
    exact n
  · rw [upd_ne q] at e
    exact h a o e
theorem PlR.jn {R S : Hp} (h : PlR R) (k : PlR S) : PlR (jn R S) := fun a o e => by
  cases z : R a with
  | some u =>
    rw [jn_l z] at e
    cases e
    exact h a o z
  | none =>
    rw [jn_r z] at e
    exact k a o e
mutual
theorem Own.pl : ∀ {v : V} {o : O} {R : Hp}, Own K Hs v o R → PlR R
  | _, _, _, .sh _ => PlR.em
  | _, _, _, .ol n h => (OwnL.pl h).upd
  | _, _, _, .ob n l h => (OwnL.pl h).upd
  | _, _, _, .tp n h => (OwnL.pl h).upd
  | _, _, _, .dg h => PlR.em.upd
  | _, _, _, .cl h r => OwnL.pl r
theorem OwnL.pl : ∀ {vs : List V} {os : List O} {R : Hp}, OwnL K Hs vs os R → PlR R
  | _, _, _, .nil => PlR.em
  | _, _, _, .cons h r d => (Own.pl h).jn (OwnL.pl r)
end
theorem ownL_sh {vs : List V} {ds : List D} (h : RepL K Hs vs ds) : OwnL K Hs vs (ds.map .sh) em := by
  induction vs generalizing ds with
  | nil => cases h; exact .nil
  | cons v vs ih =>
    cases h with
    | cons a b =>
      have := OwnL.cons (Own.sh a) (ih b) (fun x hx => absurd rfl hx)
      rw [jn_em] at this
      exact this
theorem OwnL.reps : ∀ {vs : List V} {ds : List D} {R : Hp}, OwnL K Hs vs (ds.map .sh) R → RepL K Hs vs ds ∧ R = em
  | vs, [], R, h => by cases h; exact ⟨.nil, rfl⟩
  | vs, d :: ds, R, h => by
    cases h with
    | cons a b c =>
      cases a with
      | sh q =>
        obtain ⟨r, e⟩ := OwnL.reps (ds := ds) b
        subst e
        exact ⟨.cons q r, jn_em _⟩
/-- a list's item with its part of the region -/
theorem OwnL.split : ∀ {vs : List V} {os : List O} {R : Hp} {j : Nat} {o : O}, OwnL K Hs vs os R → os[j]? = some o → ∃ v S T, vs[j]? = some v ∧ Own K Hs v o S ∧ (∀ a, S a ≠ none → T a = none) ∧ (∀ a, R a = jn S T a) ∧
    ∀ {G : Hp}, Ex Hs G → ∀ {v' : V} {o' : O} {S' : Hp}, Own K G v' o' S' → (∀ a, S' a ≠ none → T a = none) → OwnL K G (vs.set j v') (os.set j o') (jn S' T)
  | _, _, _, j, o, .nil, e => by simp at e
  | _, _, _, 0, o, .cons (v := v) (R := R1) (S := R2) h r d, e => by
    have e' := Option.some.inj e
    subst e'
    exact ⟨v, R1, R2, rfl, h, d, fun a => rfl, fun {G} eg {v' o' S'} h' d' => .cons h' (r.mono eg) d'⟩
  | _, _, _, j + 1, o, .cons (v := v) (R := R1) (S := R2) h r d, e => by
    obtain ⟨u, S, T, e1, h1, d1, e2, k⟩ := OwnL.split (j := j) (o := o) r e
    refine ⟨u, S, jn R1 T, e1, h1, fun a ha => ?_, fun a => ?_, fun {G} eg {v' o' S'} h' d' => ?_⟩
    · have hS : R2 a ≠ none := by
        rw [e2]
        intro z
        exact ha (jn_none.mp z).1
      refine jn_none.mpr ⟨?_, d1 a ha⟩
      cases z : R1 a with
      | none => rfl
      | some o => exact absurd (d a (by rw [z]; exact fun y => nomatch y)) hS
    · show jn R1 R2 a = jn S (jn R1 T) a
      cases z : R1 a with
      | some o =>
        have hS : S a = none := by
          cases y : S a with
          | none => rfl
          | some u =>
            have := d a (by rw [z]; exact fun y => nomatch y)
            rw [e2, jn_l y] at this
            cases this
        rw [jn_l z, jn_r hS, jn_l z]
      | none =>
        rw [jn_r z, e2]
        cases y : S a with
        | some u => rw [jn_l y, jn_l y]
        | none => rw [jn_r y, jn_r y, jn_r z]
    · have q := k eg (v' := v') (o' := o') (S' := S') h' (fun a ha => (jn_none.mp (d' a ha)).2)
      have c := OwnL.cons (h.mono eg) q (fun a ha => by
        refine jn_none.mpr ⟨?_, ?_⟩
        · cases y : S' a with
          | none => rfl
          | some u => exact absurd (jn_none.mp (d' a (by rw [y]; exact fun z => nomatch z))).1 ha
        · have := d a ha
          rw [e2] at this
          exact (jn_none.mp this).2)
      have e3 : jn S' (jn R1 T) = jn R1 (jn S' T) := funext fun a => by
        cases z : R1 a with
        | some o =>
          have hS : S' a = none := by
            cases y : S' a with
            | none => rfl
            | some u =>
              have := (jn_none.mp (d' a (by rw [y]; exact fun z => nomatch z))).1
              rw [z] at this
              cases this
          rw [jn_r hS, jn_l z, jn_l z]
        | none =>
          rw [jn_r z]
          cases y : S' a with
          | some u => rw [jn_l y, jn_l y]
          | none => rw [jn_r y, jn_r y, jn_r z]
      rw [e3]
      exact c
theorem OwnL.snoc {v : V} {o : O} {S : Hp} (h : Own K Hs v o S) : ∀ {vs : List V} {os : List O} {R : Hp}, OwnL K Hs vs os R → (∀ a, S a ≠ none → R a = none) → OwnL K Hs (vs ++ [v]) (os ++ [o]) (jn S R)
  | _, _, _, .nil, d => by
    exact .cons h .nil (fun _ _ => rfl)
  | _, _, _, .cons (R := R1) (S := R2) h1 r d1, d => by
    have q := OwnL.snoc h r fun a ha => (jn_none.mp (d a ha)).2
    have c := OwnL.cons h1 q fun a ha => jn_none.mpr ⟨by
      cases y : S a with
      | none => rfl
      | some u => exact absurd (jn_none.mp (d a (by rw [y]; exact fun z => nomatch z))).1 ha, d1 a ha⟩
    have e3 : jn S (jn R1 R2) = jn R1 (jn S R2) := funext fun a => by
      cases z : R1 a with
      | some o =>
        have hS : S a = none := by
          cases y : S a with
          | none => rfl
          | some u =>
            have := (jn_none.mp (d a (by rw [y]; exact fun z => nomatch z))).1
            rw [z] at this
            cases this
        rw [jn_r hS, jn_l z, jn_l z]
      | none =>
        rw [jn_r z]
        cases y : S a with
        | some u => rw [jn_l y, jn_l y]
        | none => rw [jn_r y, jn_r y, jn_r z]
    rw [e3]
    exact c

/-! ### paths -/
def O.kids : O → List O
  | .sh _ => []
  | .ol xs => xs
  | .ob _ _ xs => xs
  | .tp xs => xs
  | .dg _ _ => []
  | .cl _ _ _ _ => []
def O.wk : O → List O → O
  | .sh d, _ => .sh d
  | .ol _, ys => .ol ys
  | .ob C ns _, ys => .ob C ns ys
  | .tp _, ys => .tp ys
  | .dg P n, _ => .dg P n
  | .cl tk F us xs, _ => .cl tk F us xs
def O.at_ : O → List Nat → Option O
  | o, [] => some o
  | o, j :: p => (o.kids[j]?).bind fun x => x.at_ p
def O.put : O → List Nat → O → O
  | _, [], o' => o'
  | o, j :: p, o' => match o.kids[j]? with
    | none => o
    | some x => o.wk (o.kids.set j (x.put p o'))
/-- the value at a path -/
inductive VAt (H : Hp) : V → List Nat → V → Prop
  | nil {v : V} : VAt H v [] v
  | lst {a : Addr} {vs : List V} {j : Nat} {u w : V} {p : List Nat} : H a = some (.lst vs) → vs[j]? = some u → VAt H u p w → VAt H (.ref a) (j :: p) w
  | ins {a C dx : Addr} {fs : List (Str × V)} {f : Str} {j : Nat} {u w : V} {p : List Nat} : H a = some (.ins C dx fs) → fs[j]? = some (f, u) → VAt H u p w → VAt H (.ref a) (j :: p) w
  | tup {a : Addr} {vs : List V} {j : Nat} {u w : V} {p : List Nat} : H a = some (.tup vs) → vs[j]? = some u → VAt H u p w → VAt H (.ref a) (j :: p) w
theorem VAt.mono {H H' : Hp} (e : Ex H H') : ∀ {v : V} {p : List Nat} {w : V}, VAt H v p w → VAt H' v p w
  | _, _, _, .nil => .nil
  | _, _, _, .lst h g r => .lst (e _ _ h) g (VAt.mono e r)
  | _, _, _, .ins h g r => .ins (e _ _ h) g (VAt.mono e r)
  | _, _, _, .tup h g r => .tup (e _ _ h) g (VAt.mono e r)
theorem VAt.monoN {H H' : Hp} (e : ExN H H') : ∀ {v : V} {p : List Nat} {w : V}, VAt H v p w → VAt H' v p w
  | _, _, _, .nil => .nil
  | _, _, _, .lst h g r => .lst (e.pl h) g (VAt.monoN e r)
  | _, _, _, .ins h g r => .ins (e.pl h) g (VAt.monoN e r)
  | _, _, _, .tup h g r => .tup (e.pl h) g (VAt.monoN e r)
theorem VAt.app {H : Hp} {q : List Nat} {u : V} : ∀ {v : V} {p : List Nat} {w : V}, VAt H v p w → VAt H w q u → VAt H v (p ++ q) u
  | _, _, _, .nil, r => r
  | _, _, _, .lst h g r, s => .lst h g (VAt.app r s)
  | _, _, _, .ins h g r, s => .ins h g (VAt.app r s)
  | _, _, _, .tup h g r, s => .tup h g (VAt.app r s)
theorem VAt.det {H : Hp} : ∀ {v : V} {p : List Nat} {w u : V}, VAt H v p w → VAt H v p u → w = u
  | _, _, _, _, .nil, .nil => rfl
  | _, _, _, _, .lst h g r, .lst h' g' r' => by
    rw [h] at h'
    cases h'
    rw [g] at g'
    cases g'
    exact VAt.det r r'
  | _, _, _, _, .ins h g r, .ins h' g' r' => by
    rw [h] at h'
    cases h'
    rw [g] at g'
    cases g'
    exact VAt.det r r'
  | _, _, _, _, .lst h g r, .ins h' g' r' => by rw [h] at h'; cases h'
  | _, _, _, _, .lst h g r, .tup h' g' r' => by rw [h] at h'; cases h'
  | _, _, _, _, .tup h g r, .lst h' g' r' => by rw [h] at h'; cases h'
  | _, _, _, _, .tup h g r, .ins h' g' r' => by rw [h] at h'; cases h'
  | _, _, _, _, .ins h g r, .tup h' g' r' => by rw [h] at h'; cases h'
  | _, _, _, _, .tup h g r, .tup h' g' r' => by
    rw [h] at h'
    cases h'
    rw [g] at g'
    cases g'
    exact r.det r'
  | _, _, _, _, .ins h g r, .lst h' g' r' => by rw [h] at h'; cases h'
theorem zip_get {ns : List Str} {vs : List V} {j : Nat} {u : V} (hl : ns.length = vs.length) (h : vs[j]? = some u) : ∃ f, (ns.zip vs)[j]? = some (f, u) := by
  have hj := (List.getElem?_eq_some_iff.mp h).1
  refine ⟨ns[j]'(by omega), ?_⟩
  rw [List.getElem?_zip_eq_some]
  exact ⟨List.getElem?_eq_getElem _, h⟩
theorem zip_set {ns : List Str} {vs : List V} {j : Nat} {u : V} : vs[j]? = some u → ns.zip (vs.set j u) = ns.zip vs := fun h => by
  have e : vs.set j u = vs := by
    apply List.ext_getElem?
    intro i
    by_cases q : i = j
    · subst q
      rw [List.getElem?_set_self (List.getElem?_eq_some_iff.mp h).1, h]
    · rw [List.getElem?_set_ne (Ne.symm q)]
  rw [e]
/-- what lies at a path, and what may be put there in its stead (its address stays) -/
theorem Own.part : ∀ {p : List Nat} {v : V} {o o1 : O} {R : Hp}, Own K Hs v o R → o.at_ p = some o1 → ∃ v1 S T, VAt R v p v1 ∧ Own K Hs v1 o1 S ∧ (∀ a, S a ≠ none → T a = none) ∧ (∀ a, R a = jn S T a) ∧
    ∀ {G : Hp}, Ex Hs G → ∀ {o' : O} {S' : Hp}, Own K G v1 o' S' → (∀ a, S' a ≠ none → T a = none) → Own K G v (o.put p o') (jn S' T)
  | [], v, o, o1, R, h, e => by
    have e' := Option.some.inj e
    subst e'
    exact ⟨v, R, em, .nil, h, fun _ _ => rfl, fun a => by rw [jn_em'], fun {G} eg {o' S'} h' _ => by
      rw [jn_em']
      exact h'⟩
  | j :: p, v, o, o1, R, h, e => by
    obtain ⟨x, hx, e⟩ := Option.bind_eq_some_iff.mp e
    have shape : ∃ (q : Addr) (vs : List V) (xs : List O) (R1 : Hp) (mk : List V → HO), v = .ref q ∧ o.kids = xs ∧ R1 q = none ∧ OwnL K Hs vs xs R1 ∧ R = upd R1 q (mk vs) ∧
        (∀ (G : Hp) (vs' : List V) (xs' : List O) (R' : Hp), R' q = none → xs'.length = xs.length → OwnL K G vs' xs' R' → Own K G (.ref q) (o.wk xs') (upd R' q (mk vs'))) ∧
        (∀ (G : Hp) (vs' : List V) (u w : V), vs'.length = vs.length → G q = some (mk vs') → vs'[j]? = some u → VAt G u p w → VAt G (.ref q) (j :: p) w) := by
      cases h with
      | sh _ => simp [O.kids] at hx
      | dg _ => simp [O.kids] at hx
      | cl _ _ => simp [O.kids] at hx
      | @ol q vs xs R1 hn hl =>
        exact ⟨q, vs, xs, R1, fun vs => .lst vs, rfl, rfl, hn, hl, rfl, fun G vs' xs' R' hn' _ hl' => .ol hn' hl', fun G vs' u w _ hg hu r => .lst hg hu r⟩
      | @tp q vs xs R1 hn hl =>
        exact ⟨q, vs, xs, R1, fun vs => .tup vs, rfl, rfl, hn, hl, rfl, fun G vs' xs' R' hn' _ hl' => .tp hn' hl', fun G vs' u w _ hg hu r => .tup hg hu r⟩
      | @ob q C dx ns vs xs R1 hn hlen hl =>
        refine ⟨q, vs, xs, R1, fun vs => .ins C dx (ns.zip vs), rfl, rfl, hn, hl, rfl, fun G vs' xs' R' hn' hlen' hl' => .ob hn' (by omega) hl', fun G vs' u w hlen' hg hu r => ?_⟩
        obtain ⟨f, hf⟩ := zip_get (ns := ns) (by rw [hlen', hl.length]; exact hlen) hu
        exact .ins hg hf r
    obtain ⟨q, vs, xs, R1, mk, rfl, ek, hn, hl, rfl, build, step⟩ := shape
    rw [ek] at hx
    obtain ⟨u, S1, T1, hu, ho, d1, e1, k1⟩ := hl.split hx
    obtain ⟨v1, S, T, va, h1, d2, e2, k2⟩ := Own.part (p := p) ho e
    have qS1 : S1 q = none ∧ T1 q = none := jn_none.mp (by rw [← e1]; exact hn)
    have qST : S q = none ∧ T q = none := jn_none.mp (by rw [← e2]; exact qS1.1)
    refine ⟨v1, S, upd (jn T T1) q (mk vs), ?_, h1, fun a ha => ?_, fun a => ?_, fun {G} eg {o' S'} h' d' => ?_⟩
    · refine step _ vs u v1 rfl upd_same hu (va.mono fun a o ea => ?_)
      have na : a ≠ q := fun z => by rw [z, qS1.1] at ea; cases ea
      rw [upd_ne na, e1, jn_l ea]
    · have na : a ≠ q := fun z => by rw [z] at ha; exact ha qST.1
      rw [upd_ne na]
      refine jn_none.mpr ⟨d2 a ha, d1 a ?_⟩
      rw [e2]
      intro z
      exact ha (jn_none.mp z).1
    · by_cases na : a = q
      · subst na
        rw [upd_same, jn_r qST.1, upd_same]
      · rw [upd_ne na, e1]
        cases y : S a with
        | some o =>
          have y1 : S1 a = some o := by rw [e2, jn_l y]
          rw [jn_l y1, jn_l y]
        | none =>
          rw [jn_r y, upd_ne na]
          cases z : T a with
          | some o =>
            have y1 : S1 a = some o := by rw [e2, jn_r y, z]
            rw [jn_l y1, jn_l z]
          | none =>
            have y1 : S1 a = none := by rw [e2, jn_r y, z]
            rw [jn_r y1, jn_r z]
    · have c2 := k2 eg h' fun a ha => by
        have := d' a ha
        by_cases na : a = q
        · subst na
          exact qST.2
        · rw [upd_ne na] at this
          exact (jn_none.mp this).1
      have c1 := k1 eg c2 fun a ha => by
        by_cases hS' : S' a = none
        · have hT : T a ≠ none := fun z => ha (jn_none.mpr ⟨hS', z⟩)
          refine d1 a ?_
          rw [e2]
          intro z
          exact hT (jn_none.mp z).2
        · have := d' a hS'
          by_cases na : a = q
          · subst na
            exact qS1.2
          · rw [upd_ne na] at this
            exact (jn_none.mp this).2
      have hq' : S' q = none := by
        cases y : S' q with
        | none => rfl
        | some w =>
          have := d' q (by rw [y]; exact fun z => nomatch z)
          rw [upd_same] at this
          cases this
      have eput : o.put (j :: p) o' = o.wk (xs.set j (x.put p o')) := by
        show (match o.kids[j]? with
          | none => o
          | some x => o.wk (o.kids.set j (x.put p o'))) = _
        rw [ek, hx]
      rw [eput]
      have b := build G (vs.set j u) (xs.set j (x.put p o')) (jn (jn S' T) T1) (jn_none.mpr ⟨jn_none.mpr ⟨hq', qST.2⟩, qS1.2⟩) (by rw [List.length_set]) c1
      have ev : vs.set j u = vs := by
        apply List.ext_getElem?
        intro i
        by_cases qi : i = j
        · subst qi
          rw [List.getElem?_set_self (List.getElem?_eq_some_iff.mp hu).1, hu]
        · rw [List.getElem?_set_ne (Ne.symm qi)]
      rw [ev] at b
      have er : jn S' (upd (jn T T1) q (mk vs)) = upd (jn (jn S' T) T1) q (mk vs) := funext fun a => by
        by_cases na : a = q
        · subst na
          rw [jn_r hq', upd_same, upd_same]
        · rw [upd_ne na]
          cases y : S' a with
          | some w => rw [jn_l y, jn_l (show jn S' T a = some w by rw [jn_l y])]
          | none =>
            rw [jn_r y, upd_ne na]
            cases z : T a with
            | some w => rw [jn_l z, jn_l (show jn S' T a = some w by rw [jn_r y, z])]
            | none => rw [jn_r z, jn_r (show jn S' T a = none from jn_none.mpr ⟨y, z⟩)]
      rw [er]
      exact b
end
end DL

/-! DRules: what readings do on deep data. -/
namespace DL
open PySem L2
variable [TbC]

theorem SqT_of {K : PySem.W.Frag} {H : Hp} {a : Addr} {vs : List V} (h : H a = some (.tup vs)) : SqT K H a vs := .of h
/-! ### judgements -/
/-- te gives d -/
def EvD (K : PySem.W.Frag) (te : TE) (ρ : Env) (d : D) : Prop := ∀ B Hs H σ, RS K B Hs H σ ρ → ∀ Q : VK, (∀ Hs' H' v, Gr Hs H H Hs' H' → Rep K Hs' v d → Q v H') → te σ H Q
/-- te gives a new list that nobody else knows -/
def EvF (K : PySem.W.Frag) (te : TE) (ρ : Env) (ds : List D) : Prop := ∀ B Hs H σ, RS K B Hs H σ ρ → ∀ Q : VK, (∀ Hs' H' p vs, Gr Hs H H Hs' H' → H p = none → Hs' p = none → H' p = some (.lst vs) → RepL K Hs' vs ds → Q (.ref p) H') → te σ H Q
/-- te gives a list that may be read now -/
def EvB (K : PySem.W.Frag) (te : TE) (ρ : Env) (ds : List D) : Prop := ∀ B Hs H σ, RS K B Hs H σ ρ → ∀ Q : VK, (∀ Hs' H' p vs, Gr Hs H H Hs' H' → SqL K H' p vs → RepL K Hs' vs ds → Q (.ref p) H') → te σ H Q
/-- .. a list that is tracked (not the script) -/
def EvM (K : PySem.W.Frag) (te : TE) (ρ : Env) (ds : List D) : Prop := ∀ B Hs H σ, RS K B Hs H σ ρ → ∀ Q : VK, (∀ Hs' H' p vs, Gr Hs H H Hs' H' → H' p = some (.lst vs) → RepL K Hs' vs ds → Q (.ref p) H') → te σ H Q
/-- te gives what may be read now as d -/
def EvR (K : PySem.W.Frag) (te : TE) (ρ : Env) (d : D) : Prop := ∀ B Hs H σ, RS K B Hs H σ ρ → ∀ Q : VK, (∀ Hs' H' v, Gr Hs H H Hs' H' → Rep K H' v d → Q v H') → te σ H Q
/-- a test -/
def EvT (K : PySem.W.Frag) (tt : TT) (ρ : Env) (b : Bool) : Prop := ∀ B Hs H σ, RS K B Hs H σ ρ → ∀ Q : Bool → Hp → Prop, (∀ Hs' H', Gr Hs H H Hs' H' → Q b H') → tt σ H Q
/-- arguments -/
def EvA (K : PySem.W.Frag) (ta : TA) (ρ : Env) (ds : List D) : Prop := ∀ B Hs H σ, RS K B Hs H σ ρ → ∀ Q : List V → Hp → Prop, (∀ Hs' H' vs, Gr Hs H H Hs' H' → RepL K Hs' vs ds → Q vs H') → ta σ H Q
/-- a part of a slice -/
def EvO (K : PySem.W.Frag) (to : TO) (ρ : Env) (o : Option Int) : Prop := ∀ B Hs H σ, RS K B Hs H σ ρ → ∀ Q : Option Int → Hp → Prop, (∀ Hs' H', Gr Hs H H Hs' H' → Q o H') → to σ H Q
/-- what an iterator yields -/
def ItD (K : PySem.W.Frag) (J : It) (Hs1 : Hp) (ds : List D) : Prop := ∀ i Hs2 H2, Ex Hs1 Hs2 → Ex Hs2 H2 →
  (∀ d, ds[i]? = some d → J.go i H2 ∧ ∀ x H3, J.yld i H2 x H3 → ∃ Hs3, Gr Hs2 H2 H2 Hs3 H3 ∧ Rep K Hs3 x d) ∧ (i = ds.length → J.stop i H2)
def EvI (K : PySem.W.Frag) (wi : TI) (ρ : Env) (ds : List D) : Prop := ∀ B Hs H σ, RS K B Hs H σ ρ → ∀ R : It → Hp → Prop, (∀ J Hs1 H1, Gr Hs H H Hs1 H1 → ItD K J Hs1 ds → R J H1) → wi σ H R
/-- a target takes d -/
def EvG (K : PySem.W.Frag) (g : TG) (d : D) (ρ ρ' : Env) : Prop := ∀ B Hs H σ x, RS K B Hs H σ ρ → Rep K Hs x d → ∀ Q : St → Hp → Prop, (∀ Hs' H' σ', Gr Hs H H Hs' H' → RS K B Hs' H' σ' ρ' → Q σ' H') → g x σ H Q
def EvGs (K : PySem.W.Frag) (g : TGs) (ds : List D) (ρ ρ' : Env) : Prop := ∀ B Hs H σ xs, RS K B Hs H σ ρ → RepL K Hs xs ds → ∀ Q : St → Hp → Prop, (∀ Hs' H' σ', Gr Hs H H Hs' H' → RS K B Hs' H' σ' ρ' → Q σ' H') → g xs σ H Q

section
variable {K : PySem.W.Frag} {ρ : Env} {te ta tb tx : TE} {d e : D} {ds es : List D} {tt tu : TT}

theorem EvD.is (h : EvD K te ρ d) (q : d = e) : EvD K te ρ e := q ▸ h
theorem EvF.is (h : EvF K te ρ ds) (q : ds = es) : EvF K te ρ es := q ▸ h
theorem EvT.is {a b : Bool} (h : EvT K tt ρ a) (q : a = b) : EvT K tt ρ b := q ▸ h
theorem EvD.r (h : EvD K te ρ d) : EvR K te ρ d := fun B Hs H σ r Q q => h B Hs H σ r Q fun Hs' H' v g x => q Hs' H' v g (x.mono g.lv)
theorem EvF.m (h : EvF K te ρ ds) : EvM K te ρ ds := fun B Hs H σ r Q q => h B Hs H σ r Q fun Hs' H' p vs g _ _ e x => q Hs' H' p vs g e x
theorem EvM.b (h : EvM K te ρ ds) : EvB K te ρ ds := fun B Hs H σ r Q q => h B Hs H σ r Q fun Hs' H' p vs g e x => q Hs' H' p vs g (.of e) x
theorem EvF.b (h : EvF K te ρ ds) : EvB K te ρ ds := h.m.b
theorem EvF.v (h : EvF K te ρ ds) : EvD K te ρ (.lst ds) := fun B Hs H σ r Q q => h B Hs H σ r Q fun Hs' H' p vs g n ns e x =>
  q (upd Hs' p (.lst vs)) H' (.ref p) (g.share n ns e) (.lst upd_same (x.mono (Ex.new ns)))
theorem EvD.m (h : EvD K te ρ (.lst ds)) : EvM K te ρ ds := fun B Hs H σ r Q q => h B Hs H σ r Q fun Hs' H' v g x => by
  cases x with
  | lst hs hr => exact q Hs' H' _ _ g (g.lv _ _ hs) hr
theorem EvD.s (h : EvD K te ρ (.scr ds)) : EvB K te ρ ds := fun B Hs H σ r Q q => h B Hs H σ r Q fun Hs' H' v g x => by
  cases x with
  | scr hs hr => exact q Hs' H' _ _ g (g.lv.sl hs) hr
theorem EvM.r (h : EvM K te ρ ds) : EvR K te ρ (.lst ds) := fun B Hs H σ r Q q => h B Hs H σ r Q fun Hs' H' p vs g e x => q Hs' H' (.ref p) g (.lst e (x.mono g.lv))

/-! ### names and constants -/
theorem ev_var {i : Nat} (h : ρ[i]? = some (some (.sh d))) : EvD K (tVar i) ρ d := fun B Hs H σ r Q q => by
  obtain ⟨v, e, x⟩ := r.get h
  exact ⟨v, e, q Hs H v (Gr.refl r.ex) x⟩
theorem em_var {i : Nat} (h : ρ[i]? = some (some (.ol ds))) : EvM K (tVar i) ρ ds := fun B Hs H σ r Q q => by
  obtain ⟨p, vs, e, hp, x, _⟩ := r.mutL i h
  exact ⟨.ref p, e, q Hs H p vs (Gr.refl r.ex) hp x⟩
theorem ev_ci {i : Int} : EvD K (tC (.int i)) ρ (.int i) := fun B Hs H σ r Q q => q Hs H _ (Gr.refl r.ex) (.int i)
theorem ev_cs {s : Str} : EvD K (tC (.str s)) ρ (.str s) := fun B Hs H σ r Q q => q Hs H _ (Gr.refl r.ex) (.str s)
theorem ev_cb {b : Bool} : EvD K (tC (.bl b)) ρ (.bl b) := fun B Hs H σ r Q q => q Hs H _ (Gr.refl r.ex) (.bl b)
theorem ev_cn : EvD K (tC .non) ρ .non := fun B Hs H σ r Q q => q Hs H _ (Gr.refl r.ex) .non
theorem ev_cf {a : Addr} : EvD K (tC (.ref a)) ρ (.fn a) := fun B Hs H σ r Q q => q Hs H _ (Gr.refl r.ex) (.fn a)
theorem ev_ct {n : String} : EvD K (tC (.ty n)) ρ (.ty n) := fun B Hs H σ r Q q => q Hs H _ (Gr.refl r.ex) (.ty n)

/-! ### operators on ints -/
theorem ev_I {g : Int → Int → Int} {i j : Int} (ha : EvD K ta ρ (.int i)) (hb : EvD K tb ρ (.int j)) : EvD K (tOp (rI0 fun i j => .int (g i j)) ta tb) ρ (.int (g i j)) := fun B Hs H σ r Q q =>
  ha B Hs H σ r _ fun Hs1 H1 x g1 x1 => hb B Hs1 H1 σ (r.grow g1) _ fun Hs2 H2 y g2 y2 => by
    cases x1
    cases y2
    exact ⟨i, j, rfl, rfl, q Hs2 H2 _ (g1.trans g2) (.int _)⟩
theorem ev_Ib {g : Int → Int → Bool} {i j : Int} (ha : EvD K ta ρ (.int i)) (hb : EvD K tb ρ (.int j)) : EvD K (tOp (rI0 fun i j => .bl (g i j)) ta tb) ρ (.bl (g i j)) := fun B Hs H σ r Q q =>
  ha B Hs H σ r _ fun Hs1 H1 x g1 x1 => hb B Hs1 H1 σ (r.grow g1) _ fun Hs2 H2 y g2 y2 => by
    cases x1
    cases y2
    exact ⟨i, j, rfl, rfl, q Hs2 H2 _ (g1.trans g2) (.bl _)⟩
theorem ev_IC {C : Int → Int → Prop} {g : Int → Int → Int} {i j : Int} (ha : EvD K ta ρ (.int i)) (hb : EvD K tb ρ (.int j)) (hc : C i j) : EvD K (tOp (rI C fun i j => .int (g i j)) ta tb) ρ (.int (g i j)) := fun B Hs H σ r Q q =>
  ha B Hs H σ r _ fun Hs1 H1 x g1 x1 => hb B Hs1 H1 σ (r.grow g1) _ fun Hs2 H2 y g2 y2 => by
    cases x1
    cases y2
    exact ⟨i, j, rfl, rfl, hc, q Hs2 H2 _ (g1.trans g2) (.int _)⟩
theorem ev_U {g : Int → Int} {i : Int} (ha : EvD K ta ρ (.int i)) : EvD K (tUn (rU fun i => .int (g i)) ta) ρ (.int (g i)) := fun B Hs H σ r Q q =>
  ha B Hs H σ r _ fun Hs1 H1 x g1 x1 => by
    cases x1
    exact ⟨i, rfl, q Hs1 H1 _ g1 (.int _)⟩

/-! ### == of data -/
mutual
def D.pd : D → PyData
  | .non => .none | .bl b => .bool b | .int i => .int i | .str s => .str s
  | .lst xs => .list (D.pds xs) | .scr xs => .list (D.pds xs) | .tup xs => .tuple (D.pds xs)
  | .ty _ => .none | .fn _ => .none | .obj _ _ _ => .none | .clo _ _ _ => .none
def D.pds : List D → List PyData
  | [] => []
  | x :: xs => D.pd x :: D.pds xs
end
mutual
/-- data that == compares as data -/
def D.pl : D → Bool
  | .non => true | .bl _ => true | .int _ => true | .str _ => true
  | .lst xs => D.pls xs | .scr xs => D.pls xs | .tup xs => D.pls xs
  | .ty _ => false | .fn _ => false | .obj _ _ _ => false | .clo _ _ _ => false
def D.pls : List D → Bool
  | [] => true
  | x :: xs => D.pl x && D.pls xs
end
mutual
theorem Rep.dp {H : Hp} : ∀ {v : V} {d : D}, Rep K H v d → d.pl = true → Dp K H v d.pd
  | _, _, .non, _ => .non
  | _, _, .bl b, _ => .bl b
  | _, _, .int i, _ => .int i
  | _, _, .str x, _ => .str x
  | _, _, .ty n, s => by cases s
  | _, _, .fn a, s => by cases s
  | _, _, .lst h r, s => by
    unfold D.pd
    exact .lst (.of h) (RepL.dp r (by unfold D.pl at s; exact s))
  | _, _, .scr h r, s => by
    unfold D.pd
    exact .lst h (RepL.dp r (by unfold D.pl at s; exact s))
  | _, _, .tup h r, s => by
    unfold D.pd
    exact .tup (.of h) (RepL.dp r (by unfold D.pl at s; exact s))
  | _, _, .obj h r, s => by cases s
  | _, _, .clo h k r, s => by cases s
theorem RepL.dp {H : Hp} : ∀ {vs : List V} {ds : List D}, RepL K H vs ds → D.pls ds = true → DpAll K H vs (D.pds ds)
  | _, _, .nil, _ => by
    unfold D.pds
    exact .nil
  | _, _, .cons h r, s => by
    unfold D.pls at s
    rw [Bool.and_eq_true] at s
    unfold D.pds
    exact .cons (Rep.dp h s.1) (RepL.dp r s.2)
end
/-- fit to be compared -/
def D.fit (d : D) : Bool := d.pl && SeqAt.shaped d.pd
theorem ev_eq (ha : EvR K ta ρ d) (hb : EvR K tb ρ e) (fd : d.fit = true) (fe : e.fit = true) : EvD K (tOp (rEqD K) ta tb) ρ (.bl (PyData.eqv d.pd e.pd)) := fun B Hs H σ r Q q =>
  ha B Hs H σ r _ fun Hs1 H1 x g1 x1 => hb B Hs1 H1 σ (r.grow g1) _ fun Hs2 H2 y g2 y2 => by
    unfold D.fit at fd fe
    rw [Bool.and_eq_true] at fd fe
    exact ⟨_, _, (x1.monoN g2.fr).dp fd.1, y2.dp fe.1, fd.2, fe.2, q Hs2 H2 _ (g1.trans g2) (.bl _)⟩
theorem ev_ne (ha : EvR K ta ρ d) (hb : EvR K tb ρ e) (fd : d.fit = true) (fe : e.fit = true) : EvD K (tOp (rNeD K) ta tb) ρ (.bl (!PyData.eqv d.pd e.pd)) := fun B Hs H σ r Q q =>
  ha B Hs H σ r _ fun Hs1 H1 x g1 x1 => hb B Hs1 H1 σ (r.grow g1) _ fun Hs2 H2 y g2 y2 => by
    unfold D.fit at fd fe
    rw [Bool.and_eq_true] at fd fe
    exact ⟨_, _, (x1.monoN g2.fr).dp fd.1, y2.dp fe.1, fd.2, fe.2, q Hs2 H2 _ (g1.trans g2) (.bl _)⟩
theorem ev_eqI {i j : Int} (ha : EvD K ta ρ (.int i)) (hb : EvD K tb ρ (.int j)) : EvD K (tOp (rEqD K) ta tb) ρ (.bl (decide (i = j))) :=
  (ev_eq ha.r hb.r rfl rfl).is (by
    show D.bl (i == j) = _
    rw [Bool.beq_eq_decide_eq])
theorem ev_neI {i j : Int} (ha : EvD K ta ρ (.int i)) (hb : EvD K tb ρ (.int j)) : EvD K (tOp (rNeD K) ta tb) ρ (.bl (!decide (i = j))) :=
  (ev_ne ha.r hb.r rfl rfl).is (by
    show D.bl (!(i == j)) = _
    rw [Bool.beq_eq_decide_eq])
theorem ev_eqB {i j : Bool} (ha : EvD K ta ρ (.bl i)) (hb : EvD K tb ρ (.bl j)) : EvD K (tOp (rEqD K) ta tb) ρ (.bl (decide (i = j))) :=
  (ev_eq ha.r hb.r rfl rfl).is (by
    show D.bl (i == j) = _
    rw [Bool.beq_eq_decide_eq])
theorem ev_neB {i j : Bool} (ha : EvD K ta ρ (.bl i)) (hb : EvD K tb ρ (.bl j)) : EvD K (tOp (rNeD K) ta tb) ρ (.bl (!decide (i = j))) :=
  (ev_ne ha.r hb.r rfl rfl).is (by
    show D.bl (!(i == j)) = _
    rw [Bool.beq_eq_decide_eq])

/-- a kind of data: == of its codes is =. n: how deep -/
structure Cod {α : Type} [DecidableEq α] (n : Nat) (f : α → D) : Prop where
  pl : ∀ x, (f x).pl = true
  lay : ∀ x, (f x).pd.canLay0 = true
  dp : ∀ x, (f x).pd.depth ≤ n
  eq : ∀ x y, PyData.eqv (f x).pd (f y).pd = decide (x = y)
section
variable {α β γ δ : Type} [DecidableEq α] [DecidableEq β] [DecidableEq γ] [DecidableEq δ] {n m k l : Nat} {f : α → D} {g : β → D} {h : γ → D} {u : δ → D}
theorem Cod.fit (c : Cod n f) (hn : n ≤ 64) (x : α) : (f x).fit = true := by
  unfold D.fit SeqAt.shaped
  have h2 : decide ((f x).pd.depth ≤ 64) = true := decide_eq_true (Nat.le_trans (c.dp x) hn)
  rw [c.pl, c.lay, h2]
  rfl
theorem cod_int : Cod 0 D.int := ⟨fun _ => rfl, fun _ => rfl, fun _ => Nat.le_refl _, fun x y => by
  show (x == y) = _
  rw [Bool.beq_eq_decide_eq]⟩
theorem cod_bl : Cod 0 D.bl := ⟨fun _ => rfl, fun _ => rfl, fun _ => Nat.le_refl _, fun x y => by
  show (x == y) = _
  rw [Bool.beq_eq_decide_eq]⟩
theorem Cod.pls (c : Cod n f) : ∀ xs : List α, D.pls (xs.map f) = true
  | [] => rfl
  | x :: xs => by
    show (D.pl (f x) && D.pls (xs.map f)) = true
    rw [c.pl, Cod.pls c xs]
    rfl
theorem Cod.lays (c : Cod n f) : ∀ xs : List α, PyData.canLayAll0 (D.pds (xs.map f)) = true
  | [] => rfl
  | x :: xs => by
    have h1 := c.lay x
    have h2 := Cod.lays c xs
    show PyData.canLayAll0 (D.pd (f x) :: D.pds (xs.map f)) = true
    simp only [PyData.canLayAll0, h1, h2, Bool.and_self]
theorem Cod.dps (c : Cod n f) : ∀ xs : List α, PyData.depthAll (D.pds (xs.map f)) ≤ n
  | [] => Nat.zero_le _
  | x :: xs => by
    have h1 := c.dp x
    have h2 := Cod.dps c xs
    show PyData.depthAll (D.pd (f x) :: D.pds (xs.map f)) ≤ n
    simp only [PyData.depthAll]
    omega
theorem Cod.eqs (c : Cod n f) : ∀ xs ys : List α, PyData.eqvAll (D.pds (xs.map f)) (D.pds (ys.map f)) = decide (xs = ys)
  | [], [] => by simp [D.pds, PyData.eqvAll]
  | [], y :: ys => by simp [D.pds, PyData.eqvAll]
  | x :: xs, [] => by simp [D.pds, PyData.eqvAll]
  | x :: xs, y :: ys => by
    have h1 := c.eq x y
    have h2 := Cod.eqs c xs ys
    show (PyData.eqv (f x).pd (f y).pd && PyData.eqvAll (D.pds (xs.map f)) (D.pds (ys.map f))) = _
    rw [h1, h2]
    by_cases e1 : x = y <;> by_cases e2 : xs = ys <;> simp [e1, e2]
theorem Cod.lst (c : Cod n f) : Cod (n + 1) (fun xs : List α => D.lst (xs.map f)) := ⟨fun xs => c.pls xs, fun xs => c.lays xs, fun xs => by
  have h := c.dps xs
  show PyData.depthAll (D.pds (xs.map f)) + 1 ≤ n + 1
  omega, fun xs ys => c.eqs xs ys⟩
theorem Cod.tps (c : Cod n f) : Cod (n + 1) (fun xs : List α => D.tup (xs.map f)) := ⟨fun xs => c.pls xs, fun xs => c.lays xs, fun xs => by
  have h := c.dps xs
  show PyData.depthAll (D.pds (xs.map f)) + 1 ≤ n + 1
  omega, fun xs ys => c.eqs xs ys⟩
theorem Cod.tup2 (a : Cod n f) (b : Cod m g) : Cod (max n m + 1) (fun x : α × β => D.tup [f x.1, g x.2]) := ⟨fun x => by simp [D.pl, D.pls, a.pl, b.pl], fun x => by simp [D.pd, D.pds, PyData.canLay0, PyData.canLayAll0, a.lay, b.lay],
  fun x => by
    have h1 := a.dp x.1
    have h2 := b.dp x.2
    simp only [D.pd, D.pds, PyData.depth, PyData.depthAll]
    omega, fun x y => by
    simp only [D.pd, D.pds, PyData.eqv, PyData.eqvAll, a.eq, b.eq]
    obtain ⟨x1, x2⟩ := x
    obtain ⟨y1, y2⟩ := y
    by_cases e1 : x1 = y1 <;> by_cases e2 : x2 = y2 <;> simp [e1, e2]⟩
theorem Cod.tup3 (a : Cod n f) (b : Cod m g) (c : Cod k h) : Cod (max n (max m k) + 1) (fun x : α × β × γ => D.tup [f x.1, g x.2.1, h x.2.2]) := ⟨fun x => by simp [D.pl, D.pls, a.pl, b.pl, c.pl], fun x => by simp [D.pd, D.pds, PyData.canLay0, PyData.canLayAll0, a.lay, b.lay, c.lay],
  fun x => by
    have h1 := a.dp x.1
    have h2 := b.dp x.2.1
    have h3 := c.dp x.2.2
    simp only [D.pd, D.pds, PyData.depth, PyData.depthAll]
    omega, fun x y => by
    simp only [D.pd, D.pds, PyData.eqv, PyData.eqvAll, a.eq, b.eq, c.eq]
    obtain ⟨x1, x2, x3⟩ := x
    obtain ⟨y1, y2, y3⟩ := y
    by_cases e1 : x1 = y1 <;> by_cases e2 : x2 = y2 <;> by_cases e3 : x3 = y3 <;> simp [e1, e2, e3]⟩
end
theorem ev_eqC {α : Type} [DecidableEq α] {n : Nat} {f : α → D} (c : Cod n f) (hn : n ≤ 64) {x y : α} (ha : EvR K ta ρ (f x)) (hb : EvR K tb ρ (f y)) : EvD K (tOp (rEqD K) ta tb) ρ (.bl (decide (x = y))) :=
  (ev_eq ha hb (c.fit hn x) (c.fit hn y)).is (by rw [c.eq])
theorem ev_neC {α : Type} [DecidableEq α] {n : Nat} {f : α → D} (c : Cod n f) (hn : n ≤ 64) {x y : α} (ha : EvR K ta ρ (f x)) (hb : EvR K tb ρ (f y)) : EvD K (tOp (rNeD K) ta tb) ρ (.bl (!decide (x = y))) :=
  (ev_ne ha hb (c.fit hn x) (c.fit hn y)).is (by rw [c.eq])
theorem ev_eqL {xs ys : List Int} (ha : EvR K ta ρ (.lst (xs.map .int))) (hb : EvR K tb ρ (.lst (ys.map .int))) : EvD K (tOp (rEqD K) ta tb) ρ (.bl (decide (xs = ys))) := ev_eqC cod_int.lst (by decide) ha hb
theorem ev_neL {xs ys : List Int} (ha : EvR K ta ρ (.lst (xs.map .int))) (hb : EvR K tb ρ (.lst (ys.map .int))) : EvD K (tOp (rNeD K) ta tb) ρ (.bl (!decide (xs = ys))) := ev_neC cod_int.lst (by decide) ha hb
/-- xs == [], xs != [] -/
theorem ev_eqN {xs : List D} (ha : EvR K ta ρ (.lst xs)) (hb : EvR K tb ρ (.lst [])) (fx : (D.lst xs).fit = true) : EvD K (tOp (rEqD K) ta tb) ρ (.bl xs.isEmpty) := (ev_eq ha hb fx rfl).is (by
  cases xs <;> rfl)
theorem ev_neN {xs : List D} (ha : EvR K ta ρ (.lst xs)) (hb : EvR K tb ρ (.lst [])) (fx : (D.lst xs).fit = true) : EvD K (tOp (rNeD K) ta tb) ρ (.bl (!xs.isEmpty)) := (ev_ne ha hb fx rfl).is (by
  cases xs <;> rfl)
def D.isN : D → Bool
  | .non => true
  | _ => false
/-! ### tests -/
theorem et_B {b : Bool} (h : EvD K te ρ (.bl b)) : EvT K (tB te) ρ b := fun B Hs H σ r Q q => h B Hs H σ r _ fun Hs' H' v g x => by
  cases x
  exact ⟨b, rfl, q Hs' H' g⟩
theorem et_t {b : Bool} (h : EvD K te ρ (.bl b)) : EvT K (tTest te) ρ b := fun B Hs H σ r Q q => h B Hs H σ r _ fun Hs' H' v g x => by
  cases x
  exact ⟨b, rfl, q Hs' H' g⟩
theorem et_and {a b : Bool} (h1 : EvT K tt ρ a) (h2 : a = true → EvT K tu ρ b) : EvT K (tAnd tt tu) ρ (a && b) := fun B Hs H σ r Q q => h1 B Hs H σ r _ fun Hs1 H1 g1 => by
  cases a with
  | true =>
    show tu σ H1 Q
    exact h2 rfl B Hs1 H1 σ (r.grow g1) Q fun Hs2 H2 g2 => q Hs2 H2 (g1.trans g2)
  | false =>
    show Q false H1
    exact q Hs1 H1 g1
theorem et_or {a b : Bool} (h1 : EvT K tt ρ a) (h2 : a = false → EvT K tu ρ b) : EvT K (tOr tt tu) ρ (a || b) := fun B Hs H σ r Q q => h1 B Hs H σ r _ fun Hs1 H1 g1 => by
  cases a with
  | true =>
    show Q true H1
    exact q Hs1 H1 g1
  | false =>
    show tu σ H1 Q
    exact h2 rfl B Hs1 H1 σ (r.grow g1) Q fun Hs2 H2 g2 => q Hs2 H2 (g1.trans g2)
theorem et_not {a : Bool} (h1 : EvT K tt ρ a) : EvT K (tNot tt) ρ (!a) := fun B Hs H σ r Q q => h1 B Hs H σ r _ q
theorem et_and' {a b : Bool} (h1 : EvT K tt ρ a) (h2 : EvT K tu ρ b) : EvT K (tAnd tt tu) ρ (a && b) := et_and h1 fun _ => h2
theorem et_or' {a b : Bool} (h1 : EvT K tt ρ a) (h2 : EvT K tu ρ b) : EvT K (tOr tt tu) ρ (a || b) := et_or h1 fun _ => h2
theorem et_yes : EvT K tYes ρ true := fun B Hs H σ r Q q => q Hs H (Gr.refl r.ex)
theorem ev_and {a b : Bool} (h1 : EvD K ta ρ (.bl a)) (h2 : a = true → EvD K tb ρ (.bl b)) : EvD K (tAndV ta tb) ρ (.bl (a && b)) := fun B Hs H σ r Q q => h1 B Hs H σ r _ fun Hs1 H1 v g1 x => by
  cases x
  refine ⟨a, rfl, ?_⟩
  cases a with
  | true =>
    show tb σ H1 Q
    exact h2 rfl B Hs1 H1 σ (r.grow g1) Q fun Hs2 H2 w g2 => q Hs2 H2 w (g1.trans g2)
  | false =>
    show Q (.bl false) H1
    exact q Hs1 H1 _ g1 (.bl _)
theorem ev_or {a b : Bool} (h1 : EvD K ta ρ (.bl a)) (h2 : a = false → EvD K tb ρ (.bl b)) : EvD K (tOrV ta tb) ρ (.bl (a || b)) := fun B Hs H σ r Q q => h1 B Hs H σ r _ fun Hs1 H1 v g1 x => by
  cases x
  refine ⟨a, rfl, ?_⟩
  cases a with
  | true =>
    show Q (.bl true) H1
    exact q Hs1 H1 _ g1 (.bl _)
  | false =>
    show tb σ H1 Q
    exact h2 rfl B Hs1 H1 σ (r.grow g1) Q fun Hs2 H2 w g2 => q Hs2 H2 w (g1.trans g2)
theorem ev_and' {a b : Bool} (h1 : EvD K ta ρ (.bl a)) (h2 : EvD K tb ρ (.bl b)) : EvD K (tAndV ta tb) ρ (.bl (a && b)) := ev_and h1 fun _ => h2
theorem ev_or' {a b : Bool} (h1 : EvD K ta ρ (.bl a)) (h2 : EvD K tb ρ (.bl b)) : EvD K (tOrV ta tb) ρ (.bl (a || b)) := ev_or h1 fun _ => h2
theorem ev_not {a : Bool} (h1 : EvD K ta ρ (.bl a)) : EvD K (tNotV ta) ρ (.bl (!a)) := fun B Hs H σ r Q q => h1 B Hs H σ r _ fun Hs1 H1 v g1 x => by
  cases x
  exact ⟨a, rfl, q Hs1 H1 _ g1 (.bl _)⟩
theorem ev_if {b : Bool} (h : EvT K tt ρ b) (h1 : b = true → EvD K ta ρ d) (h2 : b = false → EvD K tb ρ d) : EvD K (tIf tt ta tb) ρ d := fun B Hs H σ r Q q => h B Hs H σ r _ fun Hs1 H1 g1 => by
  cases b with
  | true =>
    show ta σ H1 Q
    exact h1 rfl B Hs1 H1 σ (r.grow g1) Q fun Hs2 H2 v g2 => q Hs2 H2 v (g1.trans g2)
  | false =>
    show tb σ H1 Q
    exact h2 rfl B Hs1 H1 σ (r.grow g1) Q fun Hs2 H2 v g2 => q Hs2 H2 v (g1.trans g2)
/-- a < b < c -/
theorem ev_chain {g h : Int → Int → Bool} {i j k : Int} {tc : TE} (ha : EvD K ta ρ (.int i)) (hb : EvD K tb ρ (.int j)) (hc : EvD K tc ρ (.int k)) :
    EvD K (tChain (rI0 fun i j => .bl (g i j)) (rI0 fun i j => .bl (h i j)) ta tb tc) ρ (.bl (g i j && h j k)) := fun B Hs H σ r Q q =>
  ha B Hs H σ r _ fun Hs1 H1 x g1 x1 => hb B Hs1 H1 σ (r.grow g1) _ fun Hs2 H2 y g2 y2 => by
    cases x1
    cases y2
    refine ⟨i, j, rfl, rfl, g i j, rfl, ?_⟩
    cases e : g i j with
    | true =>
      show tc σ H2 _
      refine hc B Hs2 H2 σ ((r.grow g1).grow g2) _ fun Hs3 H3 z g3 z3 => ?_
      cases z3
      rw [e, Bool.true_and] at q
      exact ⟨j, k, rfl, rfl, q Hs3 H3 _ ((g1.trans g2).trans g3) (.bl _)⟩
    | false =>
      show Q (.bl false) H2
      rw [e, Bool.false_and] at q
      exact q Hs2 H2 _ (g1.trans g2) (.bl _)
/-- is None -/
theorem ev_isN (ha : EvR K ta ρ d) : EvD K (tIsN ta) ρ (.bl d.isN) := fun B Hs H σ r Q q => ha B Hs H σ r _ fun Hs1 H1 v g x => by
  have e : decide (v = V.non) = d.isN := by
    cases x <;> rfl
  show Q (.bl (decide (v = V.non))) H1
  rw [e]
  exact q Hs1 H1 _ g (.bl _)
theorem ev_notN (ha : EvR K ta ρ d) : EvD K (tNotN ta) ρ (.bl (!d.isN)) := fun B Hs H σ r Q q => ha B Hs H σ r _ fun Hs1 H1 v g x => by
  have e : (!decide (v = V.non)) = (!d.isN) := by
    cases x <;> rfl
  show Q (.bl (!decide (v = V.non))) H1
  rw [e]
  exact q Hs1 H1 _ g (.bl _)

/-! ### arguments, displays -/
theorem ea_nil : EvA K tNil ρ [] := fun B Hs H σ r Q q => q Hs H _ (Gr.refl r.ex) .nil
theorem ea_cons {tr : TA} (h : EvD K ta ρ d) (hr : EvA K tr ρ ds) : EvA K (tCons ta tr) ρ (d :: ds) := fun B Hs H σ r Q q =>
  h B Hs H σ r _ fun Hs1 H1 v g1 x => hr B Hs1 H1 σ (r.grow g1) _ fun Hs2 H2 vs g2 xs => q Hs2 H2 _ (g1.trans g2) (.cons (x.mono g2.sh) xs)
theorem sz_of {n : Nat} (h : n ≤ 100000) : n ≤ sizeLine := Nat.le_trans h (by decide)
theorem sz_lt {n : Nat} (h : n < 100000) : n < sizeLine := Nat.lt_of_lt_of_le h (by decide)
theorem ev_tup {ta : TA} (h : EvA K ta ρ ds) (hl : ds.length ≤ 100000) : EvD K (tTup ta) ρ (.tup ds) := fun B Hs H σ r Q q =>
  h B Hs H σ r _ fun Hs1 H1 vs g xs => ⟨by rw [xs.length]; exact sz_of hl, fun p hp => by
    have g2 := Gr.new (o := .tup vs) g.lv hp
    have n : Hs1 p = none := by
      cases q : Hs1 p with
      | none => rfl
      | some u =>
        rw [g.lv p u q] at hp
        cases hp
    exact q _ _ _ (g.trans g2) (.tup upd_same (xs.mono (Ex.new n)))⟩
theorem gr_none {Hs H Hs' H' : Hp} (g : Gr Hs H H Hs' H') {p : Addr} (h : H' p = none) : H p = none ∧ Hs' p = none := by
  constructor
  · exact (g.new0 h).1
  · cases q : Hs' p with
    | none => rfl
    | some u =>
      rw [g.lv p u q] at h
      cases h
theorem ef_lst {ta : TA} (h : EvA K ta ρ ds) (hl : ds.length ≤ 100000) : EvF K (tLst ta) ρ ds := fun B Hs H σ r Q q =>
  h B Hs H σ r _ fun Hs1 H1 vs g xs => ⟨by rw [xs.length]; exact sz_of hl, fun p hp => by
    obtain ⟨n1, n2⟩ := gr_none g hp
    exact q Hs1 _ p vs (g.trans (Gr.newO g.lv hp)) n1 n2 upd_same xs⟩

/-! ### lists read -/
theorem ev_ixL {i : Int} (ha : EvB K ta ρ ds) (hb : EvD K tb ρ (.int i)) (h : atI ds i = some d) : EvD K (tOp (rIxL K) ta tb) ρ d := fun B Hs H σ r Q q =>
  ha B Hs H σ r _ fun Hs1 H1 p vs g1 hp xs => hb B Hs1 H1 σ (r.grow g1) _ fun Hs2 H2 y g2 y2 => by
    cases y2
    unfold atI at h
    obtain ⟨j, e1, e2⟩ := Option.bind_eq_some_iff.mp h
    obtain ⟨v, e3, x⟩ := xs.at e2
    refine ⟨p, vs, i, v, rfl, rfl, g2.fr.sl hp, ?_, q Hs2 H2 v (g1.trans g2) (x.mono g2.sh)⟩
    unfold atI
    rw [xs.length, e1]
    exact e3
theorem ev_ixT {i : Int} (ha : EvD K ta ρ (.tup ds)) (hb : EvD K tb ρ (.int i)) (h : atI ds i = some d) : EvD K (tOp (rIxT K) ta tb) ρ d := fun B Hs H σ r Q q =>
  ha B Hs H σ r _ fun Hs1 H1 x g1 x1 => hb B Hs1 H1 σ (r.grow g1) _ fun Hs2 H2 y g2 y2 => by
    cases y2
    cases x1 with
    | @tup p vs _ hp' xs =>
      have hp := SqT_of (K := K) hp'
      unfold atI at h
      obtain ⟨j, e1, e2⟩ := Option.bind_eq_some_iff.mp h
      obtain ⟨v, e3, x⟩ := xs.at e2
      refine ⟨p, vs, i, v, rfl, rfl, (g1.lv.n.trans g2.fr).st hp, ?_, q Hs2 H2 v (g1.trans g2) (x.mono g2.sh)⟩
      unfold atI
      rw [xs.length, e1]
      exact e3
/-- x[i] of a list or a tuple or a text, by the rule of all three -/
theorem ev_ixl {i : Int} (ha : EvB K ta ρ ds) (hb : EvD K tb ρ (.int i)) (h : atI ds i = some d) : EvD K (tOp (rIx K) ta tb) ρ d := fun B Hs H σ r Q q =>
  ha B Hs H σ r _ fun Hs1 H1 p vs g1 hp xs => hb B Hs1 H1 σ (r.grow g1) _ fun Hs2 H2 y g2 y2 => by
    cases y2
    unfold atI at h
    obtain ⟨j, e1, e2⟩ := Option.bind_eq_some_iff.mp h
    obtain ⟨v, e3, x⟩ := xs.at e2
    refine .inl ⟨p, vs, i, v, rfl, rfl, g2.fr.sl hp, ?_, q Hs2 H2 v (g1.trans g2) (x.mono g2.sh)⟩
    unfold atI
    rw [xs.length, e1]
    exact e3
theorem ev_ixt {i : Int} (ha : EvD K ta ρ (.tup ds)) (hb : EvD K tb ρ (.int i)) (h : atI ds i = some d) : EvD K (tOp (rIx K) ta tb) ρ d := fun B Hs H σ r Q q =>
  ha B Hs H σ r _ fun Hs1 H1 x g1 x1 => hb B Hs1 H1 σ (r.grow g1) _ fun Hs2 H2 y g2 y2 => by
    cases y2
    cases x1 with
    | @tup p vs _ hp' xs =>
      have hp := SqT_of (K := K) hp'
      unfold atI at h
      obtain ⟨j, e1, e2⟩ := Option.bind_eq_some_iff.mp h
      obtain ⟨v, e3, x⟩ := xs.at e2
      refine .inr (.inl ⟨p, vs, i, v, rfl, rfl, (g1.lv.n.trans g2.fr).st hp, ?_, q Hs2 H2 v (g1.trans g2) (x.mono g2.sh)⟩)
      unfold atI
      rw [xs.length, e1]
      exact e3
theorem eo_none : EvO K tNoPart ρ none := fun B Hs H σ r Q q => q Hs H (Gr.refl r.ex)
theorem eo_some {i : Int} (h : EvD K te ρ (.int i)) : EvO K (tPart te) ρ (some i) := fun B Hs H σ r Q q => h B Hs H σ r _ fun Hs' H' v g x => by
  cases x
  exact ⟨i, rfl, q Hs' H' g⟩
def cutD (xs : List D) (lo hi : Option Int) : List D := (xs.drop (HT.sIx xs.length 0 lo)).take (HT.sIx xs.length xs.length hi - HT.sIx xs.length 0 lo)
theorem RepL.cut {H : Hp} {vs : List V} (h : RepL K H vs ds) (lo hi : Option Int) : RepL K H (cutV vs lo hi) (cutD ds lo hi) := by
  unfold cutV cutD
  rw [h.length]
  exact (h.drop _).take _
theorem ef_slice {tl th : TO} {lo hi : Option Int} (ha : EvB K ta ρ ds) (hl : EvO K tl ρ lo) (hh : EvO K th ρ hi) : EvF K (tSl (rSlL K) ta tl th) ρ (cutD ds lo hi) := fun B Hs H σ r Q q =>
  ha B Hs H σ r _ fun Hs1 H1 p vs g1 hp xs => hl B Hs1 H1 σ (r.grow g1) _ fun Hs2 H2 g2 => hh B Hs2 H2 σ ((r.grow g1).grow g2) _ fun Hs3 H3 g3 => by
    refine ⟨p, vs, rfl, g3.fr.sl (g2.fr.sl hp), fun l hn => ?_⟩
    have g := (g1.trans g2).trans g3
    obtain ⟨n1, n2⟩ := gr_none g hn
    exact q Hs3 _ l _ (g.trans (Gr.newO g3.lv hn)) n1 n2 upd_same ((xs.mono (g2.sh.trans g3.sh)).cut lo hi)
theorem ef_cat (ha : EvM K ta ρ ds) (hb : EvM K tb ρ es) (hl : ds.length + es.length ≤ 100000) : EvF K (tOp rCat ta tb) ρ (ds ++ es) := fun B Hs H σ r Q q =>
  ha B Hs H σ r _ fun Hs1 H1 p vs g1 hp xs => hb B Hs1 H1 σ (r.grow g1) _ fun Hs2 H2 p2 ws g2 hp2 ys => by
    have g := g1.trans g2
    refine ⟨p, p2, vs, ws, rfl, rfl, g2.fr.pl hp, hp2, by rw [xs.length, ys.length]; exact sz_of hl, fun l hn => ?_⟩
    obtain ⟨n1, n2⟩ := gr_none g hn
    exact q Hs2 _ l _ (g.trans (Gr.newO g2.lv hn)) n1 n2 upd_same ((xs.mono g2.sh).append ys)
theorem ef_rep {k : Int} (ha : EvM K ta ρ ds) (hb : EvD K tb ρ (.int k)) (hk : k ≤ 100000) (hk' : -100000 ≤ k) (hl : ds.length * k.toNat ≤ 100000) : EvF K (tOp rRep ta tb) ρ (List.replicate k.toNat ds).flatten := fun B Hs H σ r Q q =>
  ha B Hs H σ r _ fun Hs1 H1 p vs g1 hp xs => hb B Hs1 H1 σ (r.grow g1) _ fun Hs2 H2 y g2 y2 => by
    cases y2
    have g := g1.trans g2
    refine ⟨p, k, vs, rfl, rfl, g2.fr.pl hp, by omega, by omega, by rw [xs.length]; exact sz_of hl, fun l hn => ?_⟩
    obtain ⟨n1, n2⟩ := gr_none g hn
    exact q Hs2 _ l _ (g.trans (Gr.newO g2.lv hn)) n1 n2 upd_same ((xs.mono g2.sh).rep _)

/-! ### built-ins on lists -/
abbrev rLen (K : PySem.W.Frag) : List V → Hp → VK → Prop := fun xs H Q => ∃ p ys, xs = [V.ref p] ∧ (SqL K H p ys ∨ SqT K H p ys) ∧ Q (.int ys.length) H
theorem ev_lenL (ha : EvB K ta ρ ds) : EvD K (tCB (rLen K) (tCons ta tNil)) ρ (.int (ds.length : Int)) := fun B Hs H σ r Q q =>
  ha B Hs H σ r _ fun Hs1 H1 p vs g1 hp xs => ⟨p, vs, rfl, .inl hp, by
    rw [xs.length]
    exact q Hs1 H1 _ g1 (.int _)⟩
theorem ev_lenT (ha : EvD K ta ρ (.tup ds)) : EvD K (tCB (rLen K) (tCons ta tNil)) ρ (.int (ds.length : Int)) := fun B Hs H σ r Q q =>
  ha B Hs H σ r _ fun Hs1 H1 v g1 x => by
    cases x with
    | @tup p vs _ hp' xs =>
      have hp := SqT_of (K := K) hp'
      refine ⟨p, vs, rfl, .inr (g1.lv.st hp), ?_⟩
      rw [xs.length]
      exact q Hs1 H1 _ g1 (.int _)
abbrev rLenS : List V → Hp → VK → Prop := fun xs H Q => ∃ z : Str, xs = [V.str z] ∧ z.length ≤ sizeLine ∧ Q (.int z.length) H
abbrev rList (K : PySem.W.Frag) : List V → Hp → VK → Prop := fun xs H Q => ∃ p ys, xs = [V.ref p] ∧ (SqL K H p ys ∨ SqT K H p ys) ∧ ∀ l, H l = none → Q (.ref l) (upd H l (.lst ys))
theorem ef_listL (ha : EvB K ta ρ ds) : EvF K (tCB (rList K) (tCons ta tNil)) ρ ds := fun B Hs H σ r Q q =>
  ha B Hs H σ r _ fun Hs1 H1 p vs g1 hp xs => ⟨p, vs, rfl, .inl hp, fun l hn => by
    obtain ⟨n1, n2⟩ := gr_none g1 hn
    exact q Hs1 _ l _ (g1.trans (Gr.newO g1.lv hn)) n1 n2 upd_same xs⟩
theorem ef_listT (ha : EvD K ta ρ (.tup ds)) : EvF K (tCB (rList K) (tCons ta tNil)) ρ ds := fun B Hs H σ r Q q =>
  ha B Hs H σ r _ fun Hs1 H1 v g1 x => by
    cases x with
    | @tup p vs _ hp' xs =>
      have hp := SqT_of (K := K) hp'
      refine ⟨p, vs, rfl, .inr (g1.lv.st hp), fun l hn => ?_⟩
      obtain ⟨n1, n2⟩ := gr_none g1 hn
      exact q Hs1 _ l _ (g1.trans (Gr.newO g1.lv hn)) n1 n2 upd_same xs
abbrev rTuple (K : PySem.W.Frag) : List V → Hp → VK → Prop := fun xs H Q => ∃ p ys, xs = [V.ref p] ∧ ((SqL K H p ys ∧ ∀ l, H l = none → Q (.ref l) (upd H l (.tup ys))) ∨ (SqT K H p ys ∧ Q (.ref p) H))
theorem ev_tupleL (ha : EvB K ta ρ ds) : EvD K (tCB (rTuple K) (tCons ta tNil)) ρ (.tup ds) := fun B Hs H σ r Q q =>
  ha B Hs H σ r _ fun Hs1 H1 p vs g1 hp xs => ⟨p, vs, rfl, .inl ⟨hp, fun l hn => by
    obtain ⟨n1, n2⟩ := gr_none g1 hn
    exact q _ _ _ (g1.trans (Gr.new g1.lv hn)) (.tup upd_same (xs.mono (Ex.new n2)))⟩⟩
theorem ev_tupleT (ha : EvD K ta ρ (.tup ds)) : EvD K (tCB (rTuple K) (tCons ta tNil)) ρ (.tup ds) := fun B Hs H σ r Q q =>
  ha B Hs H σ r _ fun Hs1 H1 v g1 x => by
    cases x with
    | @tup p vs _ hp' xs =>
      have hp := SqT_of (K := K) hp'
      exact ⟨p, vs, rfl, .inr ⟨g1.lv.st hp, q Hs1 H1 _ g1 (.tup hp' xs)⟩⟩
theorem ev_sum {ns : List Int} (ha : EvB K ta ρ (ns.map D.int)) : EvD K (tCB (rSum K) (tCons ta tNil)) ρ (.int ns.sum) := fun B Hs H σ r Q q =>
  ha B Hs H σ r _ fun Hs1 H1 p vs g1 hp xs => by
    have e := xs.ints
    subst e
    exact ⟨p, ns, rfl, hp, q Hs1 H1 _ g1 (.int _)⟩
theorem ev_all {bs : List Bool} (ha : EvB K ta ρ (bs.map D.bl)) : EvD K (tCB (rAll K) (tCons ta tNil)) ρ (.bl (bs.all id)) := fun B Hs H σ r Q q =>
  ha B Hs H σ r _ fun Hs1 H1 p vs g1 hp xs => by
    have e := xs.bls
    subst e
    exact ⟨p, bs, rfl, hp, q Hs1 H1 _ g1 (.bl _)⟩
theorem ev_any {bs : List Bool} (ha : EvB K ta ρ (bs.map D.bl)) : EvD K (tCB (rAny K) (tCons ta tNil)) ρ (.bl (bs.any id)) := fun B Hs H σ r Q q =>
  ha B Hs H σ r _ fun Hs1 H1 p vs g1 hp xs => by
    have e := xs.bls
    subst e
    exact ⟨p, bs, rfl, hp, q Hs1 H1 _ g1 (.bl _)⟩
abbrev rAbs : List V → Hp → VK → Prop := fun xs H Q => ∃ i : Int, xs = [V.int i] ∧ Q (.int (if i < 0 then -i else i)) H
theorem ev_abs {i : Int} (ha : EvD K ta ρ (.int i)) : EvD K (tCB rAbs (tCons ta tNil)) ρ (.int (if i < 0 then -i else i)) := fun B Hs H σ r Q q =>
  ha B Hs H σ r _ fun Hs1 H1 v g1 x => by
    cases x
    exact ⟨i, rfl, q Hs1 H1 _ g1 (.int _)⟩
abbrev rMax2 : List V → Hp → VK → Prop := fun xs H Q => ∃ i j : Int, xs = [V.int i, V.int j] ∧ Q (.int (if j > i then j else i)) H
abbrev rMin2 : List V → Hp → VK → Prop := fun xs H Q => ∃ i j : Int, xs = [V.int i, V.int j] ∧ Q (.int (if j < i then j else i)) H
theorem ev_max2 {i j : Int} (ha : EvD K ta ρ (.int i)) (hb : EvD K tb ρ (.int j)) : EvD K (tCB rMax2 (tCons ta (tCons tb tNil))) ρ (.int (max i j)) := fun B Hs H σ r Q q =>
  ha B Hs H σ r _ fun Hs1 H1 v g1 x => hb B Hs1 H1 σ (r.grow g1) _ fun Hs2 H2 w g2 y => by
    cases x
    cases y
    refine ⟨i, j, rfl, ?_⟩
    have e : (if j > i then j else i) = max i j := by
      by_cases h : j > i
      · rw [if_pos h]
        omega
      · rw [if_neg h]
        omega
    rw [e]
    exact q Hs2 H2 _ (g1.trans g2) (.int _)
theorem ev_min2 {i j : Int} (ha : EvD K ta ρ (.int i)) (hb : EvD K tb ρ (.int j)) : EvD K (tCB rMin2 (tCons ta (tCons tb tNil))) ρ (.int (min i j)) := fun B Hs H σ r Q q =>
  ha B Hs H σ r _ fun Hs1 H1 v g1 x => hb B Hs1 H1 σ (r.grow g1) _ fun Hs2 H2 w g2 y => by
    cases x
    cases y
    refine ⟨i, j, rfl, ?_⟩
    have e : (if j < i then j else i) = min i j := by
      by_cases h : j < i
      · rw [if_pos h]
        omega
      · rw [if_neg h]
        omega
    rw [e]
    exact q Hs2 H2 _ (g1.trans g2) (.int _)
end

/-! ### statements on deep data -/
structure DEnds where
  nx : Env → Prop
  rt : D → Prop
  rf : List D → Prop := fun _ => False
  bk : Env → Prop := fun _ => False
  ct : Env → Prop := fun _ => False
  /-- a value comes back, the own things of the frame are so -/
  ro : Env → D → Prop := fun _ _ => False
  /-- an exception leaves: its class, its own dict -/
  ex : Env → Value → Option (List (Str × D)) → Prop := fun _ _ _ => False
  W : WX := fun _ _ _ _ => True
  /-- a new tree comes back -/
  rn : O → Prop := fun _ => False

/-- an exception's own dict -/
def XRep (K : PySem.W.Frag) (Hs H : Hp) : Option Addr → Option (List (Str × D)) → Prop
  | none, none => True
  | some a, some fs => ∃ vs, Hs a = some (.xd ((fs.map (·.1)).zip vs)) ∧ RepL K Hs vs (fs.map (·.2))
  | _, _ => False

/-- what follows a statement, over the frame's base B -/
structure Lk (K : PySem.W.Frag) (B : Base) (R : DEnds) (Dn : Ends) : Prop where
  nx : ∀ Hs H σ ρ, RS K B Hs H σ ρ → R.nx ρ → Dn.nx σ H
  rt : ∀ Hs H v d, Gr B.s B.f B.h Hs H → Rep K Hs v d → R.rt d → Dn.rt v H
  rf : ∀ Hs H p vs ds, Gr B.s B.f B.h Hs H → B.h p = none → Hs p = none → H p = some (.lst vs) → RepL K Hs vs ds → R.rf ds → Dn.rt (.ref p) H
  bk : ∀ Hs H σ ρ, RS K B Hs H σ ρ → R.bk ρ → Dn.bk σ H
  ct : ∀ Hs H σ ρ, RS K B Hs H σ ρ → R.ct ρ → Dn.ct σ H
  ro : ∀ Hs H σ ρ v d, RS K B Hs H σ ρ → Rep K Hs v d → R.ro ρ d → Dn.rt v H
  ex : ∀ Hs H σ ρ cls dd fs, RS K B Hs H σ ρ → XRep K Hs H dd fs → R.ex ρ cls fs → R.W cls dd σ H
  rn : ∀ Hs H v o S, Gr B.s B.f B.h Hs H → Own K Hs v o S → (∀ a u, S a = some u → H a = some u ∧ B.h a = none ∧ Hs a = none) → R.rn o → Dn.rt v H
def ExS (K : PySem.W.Frag) (ts : TS) (ρ : Env) (R : DEnds) : Prop := ∀ B Hs H σ Dn, RS K B Hs H σ ρ → Lk K B R Dn → ts Dn σ H

section
variable {K : PySem.W.Frag} {ρ ρ' : Env} {te ta tb : TE} {d : D} {ds : List D} {tt : TT} {t u : TS} {R : DEnds}
theorem xs_next (h : R.nx ρ) : ExS K tNext ρ R := fun B Hs H σ Dn r l => l.nx Hs H σ ρ r h
theorem xs_brk (h : R.bk ρ) : ExS K tBreak ρ R := fun B Hs H σ Dn r l => l.bk Hs H σ ρ r h
theorem xs_cont (h : R.ct ρ) : ExS K tCont ρ R := fun B Hs H σ Dn r l => l.ct Hs H σ ρ r h
theorem xs_seq (h : ExS K t ρ { R with nx := fun ρ' => ExS K u ρ' R }) : ExS K (tSeq t u) ρ R := fun B Hs H σ Dn r l =>
  h B Hs H σ _ r ⟨fun Hs' H' σ' ρ' r' q => q B Hs' H' σ' Dn r' l, l.rt, l.rf, l.bk, l.ct, l.ro, l.ex, l.rn⟩
theorem xs_if {b : Bool} (h : EvT K tt ρ b) (h1 : b = true → ExS K t ρ R) (h2 : b = false → ExS K u ρ R) : ExS K (tIfS tt t u) ρ R := fun B Hs H σ Dn r l =>
  h B Hs H σ r _ fun Hs1 H1 g1 => by
    cases b with
    | true =>
      show t Dn σ H1
      exact h1 rfl B Hs1 H1 σ Dn (r.grow g1) l
    | false =>
      show u Dn σ H1
      exact h2 rfl B Hs1 H1 σ Dn (r.grow g1) l
/-- a test that fails -/
theorem xs_no {b : Bool} (h : EvT K tt ρ b) (e : b = false) (q : R.nx ρ) : ExS K (tIfS tt t tNext) ρ R := xs_if h (fun h1 => by rw [e] at h1; cases h1) fun _ => xs_next q
theorem xs_no2 {b : Bool} (h : EvT K tt ρ b) (e : b = false) (q : ExS K u ρ R) : ExS K (tIfS tt t u) ρ R := xs_if h (fun h1 => by rw [e] at h1; cases h1) fun _ => q
theorem xs_yes {b : Bool} (h : EvT K tt ρ b) (e : b = true) (q : ExS K t ρ R) : ExS K (tIfS tt t u) ρ R := xs_if h (fun _ => q) fun h1 => by rw [e] at h1; cases h1
theorem xs_ret (h : EvD K te ρ d) (q : R.rt d) : ExS K (tRet te) ρ R := fun B Hs H σ Dn r l =>
  h B Hs H σ r _ fun Hs1 H1 v g x => l.rt Hs1 H1 v d (r.gr.trans g) x q
theorem xs_retF (h : EvF K te ρ ds) (q : R.rf ds) : ExS K (tRet te) ρ R := fun B Hs H σ Dn r l =>
  h B Hs H σ r _ fun Hs1 H1 p vs g n ns e x => l.rf Hs1 H1 p vs ds (r.gr.trans g) (by
    cases z : B.h p with
    | none => rfl
    | some o => exact absurd n (r.gr.dm p (by rw [z]; exact fun y => nomatch y))) ns e x q
theorem xs_retO (h : EvD K te ρ d) (q : R.ro ρ d) : ExS K (tRet te) ρ R := fun B Hs H σ Dn r l =>
  h B Hs H σ r _ fun Hs1 H1 v g x => l.ro Hs1 H1 σ ρ v d (r.grow g) x q
theorem xs_retNO (q : R.ro ρ .non) : ExS K tRetN ρ R := fun B Hs H σ Dn r l => l.ro Hs H σ ρ .non .non r .non q
theorem xs_retN (q : R.rt .non) : ExS K tRetN ρ R := fun B Hs H σ Dn r l => l.rt Hs H .non .non r.gr .non q
theorem xs_drop (h : EvD K te ρ d) (q : R.nx ρ) : ExS K (tDrop te) ρ R := fun B Hs H σ Dn r l =>
  h B Hs H σ r _ fun Hs1 H1 v g x => l.nx Hs1 H1 σ ρ (r.grow g) q
theorem eg_name {i : Nat} : EvG K (gName i) d ρ (ρ.set i (some (.sh d))) := fun B Hs H σ x r h Q q => q Hs H _ (Gr.refl r.ex) (r.set i h)
theorem egs_nil : EvGs K gNil [] ρ ρ := fun B Hs H σ xs r h Q q => by
  cases h
  exact ⟨rfl, q Hs H σ (Gr.refl r.ex) r⟩
theorem egs_cons {g : TG} {gs : TGs} {ρ2 : Env} (h1 : EvG K g d ρ ρ') (h2 : EvGs K gs ds ρ' ρ2) : EvGs K (gCons g gs) (d :: ds) ρ ρ2 := fun B Hs H σ xs r h Q q => by
  cases h with
  | @cons v vs _ _ a b =>
    refine ⟨v, vs, rfl, h1 B Hs H σ v r a _ fun Hs1 H1 σ1 g1 r1 => ?_⟩
    exact h2 B Hs1 H1 σ1 vs r1 (b.mono g1.sh) _ fun Hs2 H2 σ2 g2 r2 => q Hs2 H2 σ2 (g1.trans g2) r2
theorem eg_tup {gs : TGs} {n : Nat} (h : EvGs K gs ds ρ ρ') (hn : ds.length = n) : EvG K (gTup K n gs) (.tup ds) ρ ρ' := fun B Hs H σ x r hx Q q => by
  cases hx with
  | @tup p vs _ hp' xs =>
    have hp := SqT_of (K := K) hp'
    exact ⟨p, vs, rfl, r.ex.st hp, by rw [xs.length]; exact hn, h B Hs H σ vs r xs Q q⟩
theorem xs_asg {g : TG} (h : EvD K te ρ d) (hg : EvG K g d ρ ρ') (q : R.nx ρ') : ExS K (tAsg te g) ρ R := fun B Hs H σ Dn r l =>
  h B Hs H σ r _ fun Hs1 H1 v g1 x => hg B Hs1 H1 σ v (r.grow g1) x _ fun Hs2 H2 σ2 g2 r2 => l.nx Hs2 H2 σ2 ρ' r2 q
/-- a new list of the frame's own -/
theorem xs_asgF {i : Nat} (h : EvF K te ρ ds) (q : R.nx (ρ.set i (some (.ol ds)))) : ExS K (tAsg te (gName i)) ρ R := fun B Hs H σ Dn r l =>
  h B Hs H σ r _ fun Hs1 H1 p vs g n ns e x => l.nx Hs1 H1 _ _ (r.setO g i n e ns x) q
theorem xs_aug {i : Nat} {f : Int → Int → Int} {a b : Int} (hx : ρ[i]? = some (some (.sh (.int a)))) (h : EvD K te ρ (.int b)) (q : R.nx (ρ.set i (some (.sh (.int (f a b)))))) : ExS K (tAug i te (ipI f)) ρ R := fun B Hs H σ Dn r l => by
  obtain ⟨v, e, x⟩ := r.get hx
  cases x
  refine ⟨.int a, e, h B Hs H σ r _ fun Hs1 H1 w g y => ?_⟩
  cases y
  exact ⟨a, b, rfl, rfl, l.nx Hs1 H1 _ _ ((r.grow g).set i (.int _)) q⟩
/-- xs.append(e), xs the frame's own -/
theorem xs_app {i : Nat} (hx : ρ[i]? = some (some (.ol ds))) (h : EvD K te ρ d) (hz : ds.length < 100000) (q : R.nx (ρ.set i (some (.ol (ds ++ [d]))))) : ExS K (tDrop (tBM K "list" rAppend (tVar i) (tCons te tNil))) ρ R := fun B Hs H σ Dn r l => by
  obtain ⟨p, vs, e, hp, x, _⟩ := r.mutL i hx
  refine ⟨.ref p, e, .inl ⟨rfl, _, .of hp⟩, h B Hs H σ r _ fun Hs1 H1 w g y => ?_⟩
  obtain ⟨p', vs', e', hp', x', m⟩ := (r.grow g).mutL i hx
  rw [e] at e'
  cases e'
  refine ⟨p, vs', w, rfl, rfl, hp', by rw [x'.length]; exact sz_lt hz, ?_⟩
  exact l.nx Hs1 _ _ _ (m _ _ (x'.append (.cons y .nil))) q
end
end DL

/-! DLoop: iterators, loops, comprehensions, calls, defs. -/
namespace DL
open PySem L2
variable [TbC]

section
variable {K : PySem.W.Frag} {ρ ρ' : Env} {te ta tb : TE} {d e : D} {ds es : List D} {tt : TT} {R : DEnds}
/-! ### iterators -/
theorem ei_list (h : EvD K ta ρ (.lst ds)) : EvI K (iList K ta) ρ ds := fun B Hs H σ r R q => h B Hs H σ r _ fun Hs1 H1 v g x => by
  cases x with
  | @lst p vs _ hp' xs =>
    have hp : SqL K Hs1 p vs := .of hp'
    refine ⟨p, rfl, ⟨vs, g.lv.sl hp⟩, q _ Hs1 H1 g fun i Hs2 H2 e1 e2 => ⟨fun d hd => ?_, fun hi => ?_⟩⟩
    · have hq := (e1.trans e2).sl hp
      obtain ⟨v, hv, xv⟩ := xs.at hd
      refine ⟨⟨vs, v, hq, hv⟩, fun x H3 y => ?_⟩
      obtain ⟨rfl, y⟩ := y
      have z := y vs hq
      rw [hv] at z
      cases z
      exact ⟨Hs2, Gr.refl e2, xv.mono e1⟩
    · exact ⟨vs, (e1.trans e2).sl hp, by rw [xs.length, hi]; exact Nat.le_refl _⟩
theorem ei_tup (h : EvD K ta ρ (.tup ds)) : EvI K (iTup K ta) ρ ds := fun B Hs H σ r R q => h B Hs H σ r _ fun Hs1 H1 v g x => by
  cases x with
  | @tup p vs _ hp' xs =>
    have hp := SqT_of (K := K) hp'
    refine ⟨p, rfl, ⟨vs, g.lv.st hp⟩, q _ Hs1 H1 g fun i Hs2 H2 e1 e2 => ⟨fun d hd => ?_, fun hi => ?_⟩⟩
    · have hq := (e1.trans e2).st hp
      obtain ⟨v, hv, xv⟩ := xs.at hd
      refine ⟨⟨vs, v, hq, hv⟩, fun x H3 y => ?_⟩
      obtain ⟨rfl, y⟩ := y
      have z := y vs hq
      rw [hv] at z
      cases z
      exact ⟨Hs2, Gr.refl e2, xv.mono e1⟩
    · exact ⟨vs, (e1.trans e2).st hp, by rw [xs.length, hi]; exact Nat.le_refl _⟩
def rng (lo : Int) (n : Nat) : List D := (List.range n).map fun i : Nat => D.int (lo + (i : Int))
theorem rng_length (lo : Int) (n : Nat) : (rng lo n).length = n := by unfold rng; rw [List.length_map, List.length_range]
theorem rng_get {lo : Int} {n i : Nat} {d : D} (h : (rng lo n)[i]? = some d) : i < n ∧ d = .int (lo + (i : Int)) := by
  unfold rng at h
  rw [List.getElem?_map] at h
  obtain ⟨j, e1, e2⟩ := Option.map_eq_some_iff.mp h
  have := List.getElem?_eq_some_iff.mp e1
  obtain ⟨hl, e3⟩ := this
  rw [List.length_range] at hl
  rw [List.getElem_range] at e3
  subst e3
  exact ⟨hl, e2.symm⟩
theorem itd_r (lo : Int) (n : Nat) (Hs1 : Hp) : ItD K (Itr lo n) Hs1 (rng lo n) := fun i Hs2 H2 e1 e2 => ⟨fun d hd => by
  obtain ⟨h1, rfl⟩ := rng_get hd
  refine ⟨h1, fun x H3 y => ?_⟩
  obtain ⟨rfl, rfl⟩ := y
  exact ⟨Hs2, Gr.refl e2, .int _⟩, fun hi => by
  rw [rng_length] at hi
  exact Nat.le_of_eq hi.symm⟩
theorem ei_r1 {ta : TA} {n : Int} (h : EvA K ta ρ [.int n]) (hn : -1000000000 ≤ n ∧ n ≤ 1000000000) : EvI K (iRng1 ta) ρ (rng 0 n.toNat) := fun B Hs H σ r R q => h B Hs H σ r _ fun Hs1 H1 vs g x => by
  cases x with
  | cons a b =>
    cases b
    cases a
    exact ⟨n, rfl, by omega, by omega, q _ Hs1 H1 g (itd_r 0 n.toNat Hs1)⟩
theorem ei_r2 {ta : TA} {lo hi : Int} (h : EvA K ta ρ [.int lo, .int hi]) (hn : -4000000000000000000 ≤ lo ∧ lo ≤ 4000000000000000000 ∧ -4000000000000000000 ≤ hi ∧ hi ≤ 4000000000000000000) : EvI K (iRng2 ta) ρ (rng lo (hi - lo).toNat) := fun B Hs H σ r R q => h B Hs H σ r _ fun Hs1 H1 vs g x => by
  cases x with
  | cons a b =>
    cases b with
    | cons a' b =>
      cases b
      cases a
      cases a'
      exact ⟨lo, hi, rfl, ⟨by omega, by omega, by omega, by omega⟩, q _ Hs1 H1 g (itd_r lo (hi - lo).toNat Hs1)⟩
def rngC (lo c : Int) (n : Nat) : List D := (List.range n).map fun i : Nat => D.int (lo + (i : Int) * c)
theorem ei_r3 {ta : TA} {lo hi c : Int} {n : Nat} (h : EvA K ta ρ [.int lo, .int hi, .int c]) (hn : RgC lo hi c n) : EvI K (iRng3 ta) ρ (rngC lo c n) := fun B Hs H σ r R q => h B Hs H σ r _ fun Hs1 H1 vs g x => by
  cases x with
  | cons a b =>
    cases b with
    | cons a' b =>
      cases b with
      | cons a'' b =>
        cases b
        cases a
        cases a'
        cases a''
        refine ⟨lo, hi, c, n, rfl, hn, q _ Hs1 H1 g fun i Hs2 H2 e1 e2 => ⟨fun d hd => ?_, fun hi => ?_⟩⟩
        · unfold rngC at hd
          rw [List.getElem?_map] at hd
          obtain ⟨j, e3, e4⟩ := Option.map_eq_some_iff.mp hd
          obtain ⟨hl, e5⟩ := List.getElem?_eq_some_iff.mp e3
          rw [List.length_range] at hl
          rw [List.getElem_range] at e5
          subst e5
          subst e4
          refine ⟨hl, fun x H3 y => ?_⟩
          obtain ⟨rfl, rfl⟩ := y
          exact ⟨Hs2, Gr.refl e2, .int _⟩
        · unfold rngC at hi
          rw [List.length_map, List.length_range] at hi
          exact Nat.le_of_eq hi.symm
/-- the items with their numbers -/
def numD (k : Nat) : List D → List D
  | [] => []
  | d :: ds => .tup [.int (k : Int), d] :: numD (k + 1) ds
theorem numD_length : ∀ (k : Nat) (ds : List D), (numD k ds).length = ds.length
  | _, [] => rfl
  | k, d :: ds => by
    unfold numD
    rw [List.length_cons, List.length_cons, numD_length (k + 1) ds]
theorem numD_get : ∀ {k : Nat} {ds : List D} {i : Nat}, (numD k ds)[i]? = (ds[i]?).map fun d => D.tup [.int ((k + i : Nat) : Int), d]
  | _, [], i => by simp [numD]
  | k, d :: ds, 0 => by simp [numD]
  | k, d :: ds, i + 1 => by
    unfold numD
    rw [List.getElem?_cons_succ, List.getElem?_cons_succ, numD_get]
    have e : k + 1 + i = k + (i + 1) := by omega
    rw [e]
theorem ei_enum (h : EvD K ta ρ (.lst ds)) : EvI K (iEnum K (tCons ta tNil)) ρ (numD 0 ds) := fun B Hs H σ r R q => h B Hs H σ r _ fun Hs1 H1 v g x => by
  cases x with
  | @lst p vs _ hp' xs =>
    have hp : SqL K Hs1 p vs := .of hp'
    refine ⟨p, vs, rfl, g.lv.sl hp, q _ Hs1 H1 g fun i Hs2 H2 e1 e2 => ⟨fun d hd => ?_, fun hi => ?_⟩⟩
    · rw [numD_get, Nat.zero_add] at hd
      obtain ⟨d0, e3, e4⟩ := Option.map_eq_some_iff.mp hd
      subst e4
      have hq := (e1.trans e2).sl hp
      obtain ⟨v, hv, xv⟩ := xs.at e3
      refine ⟨⟨vs, v, hq, hv⟩, fun x H3 y => ?_⟩
      obtain ⟨T, w, rfl, hT, rfl, y⟩ := y
      have z := y vs hq
      rw [hv] at z
      cases z
      have n2 : Hs2 T = none := by
        cases q : Hs2 T with
        | none => rfl
        | some u =>
          rw [e2 T u q] at hT
          cases hT
      exact ⟨_, Gr.new e2 hT, .tup upd_same (.cons (.int _) (.cons (xv.mono (e1.trans (Ex.new n2))) .nil))⟩
    · rw [numD_length] at hi
      exact ⟨vs, (e1.trans e2).sl hp, by rw [xs.length, hi]; exact Nat.le_refl _⟩

/-! ### for -/
theorem RS.rebase {B : Base} {Hs H : Hp} {σ : St} (r : RS K B Hs H σ ρ) : RS K ⟨Hs, B.f, B.h, r.tb.1, B.t.2⟩ Hs H σ ρ :=
  ⟨⟨r.gr.fr, Ex.refl Hs, r.gr.lv, fun _ _ => rfl, r.gr.dm, r.gr.fd, r.gr.dp, id, r.gr.tb⟩, r.len, r.reg⟩
theorem Gr.back {Bs Bf Bh Hs H Hs' H' : Hp} (g : Gr Bs Bf Bh Hs H) (g' : Gr Hs Bf Bh Hs' H') : Gr Bs Bf Bh Hs' H' :=
  ⟨g'.fr, g.sh.trans g'.sh, g'.lv, fun a h => (g'.nw a h).trans (g.nw a h), g'.dm, g'.fd, g'.dp, fun t => g'.nt (g.nt t), g'.tb⟩
theorem RS.back {B : Base} {Hs H Hs' H' : Hp} {σ' : St} (g : Gr B.s B.f B.h Hs H) {t : NT Hs ∧ TB B.h} (r : RS K ⟨Hs, B.f, B.h, t⟩ Hs' H' σ' ρ') : RS K B Hs' H' σ' ρ' :=
  ⟨g.back r.gr, r.len, r.reg⟩
/-- a statement run from here tells also that what is shared here stays -/
theorem ExS.run {ts : TS} {B : Base} {Hs H : Hp} {σ : St} {Dn : Ends} (h : ExS K ts ρ R) (r : RS K B Hs H σ ρ)
    (nx : ∀ Hs' H' σ' ρ', Ex Hs Hs' → RS K B Hs' H' σ' ρ' → R.nx ρ' → Dn.nx σ' H')
    (rt : ∀ Hs' H' v d, Gr B.s B.f B.h Hs' H' → Rep K Hs' v d → R.rt d → Dn.rt v H')
    (rf : ∀ Hs' H' p vs ds, Gr B.s B.f B.h Hs' H' → B.h p = none → Hs' p = none → H' p = some (.lst vs) → RepL K Hs' vs ds → R.rf ds → Dn.rt (.ref p) H')
    (bk : ∀ Hs' H' σ' ρ', Ex Hs Hs' → RS K B Hs' H' σ' ρ' → R.bk ρ' → Dn.bk σ' H')
    (ct : ∀ Hs' H' σ' ρ', Ex Hs Hs' → RS K B Hs' H' σ' ρ' → R.ct ρ' → Dn.ct σ' H')
    (ro : ∀ Hs' H' σ' ρ' v d, Ex Hs Hs' → RS K B Hs' H' σ' ρ' → Rep K Hs' v d → R.ro ρ' d → Dn.rt v H')
    (ex : ∀ Hs' H' σ' ρ' cls dd fs, Ex Hs Hs' → RS K B Hs' H' σ' ρ' → XRep K Hs' H' dd fs → R.ex ρ' cls fs → R.W cls dd σ' H')
    (rn : ∀ Hs' H' v o S, Gr B.s B.f B.h Hs' H' → Own K Hs' v o S → (∀ a u, S a = some u → H' a = some u ∧ B.h a = none ∧ Hs' a = none) → R.rn o → Dn.rt v H') : ts Dn σ H :=
  h ⟨Hs, B.f, B.h, r.tb.1, B.t.2⟩ Hs H σ Dn r.rebase
    ⟨fun Hs' H' σ' ρ' r' q => nx Hs' H' σ' ρ' r'.gr.sh (RS.back r.gr r') q, fun Hs' H' v d g x q => rt Hs' H' v d (r.gr.back g) x q,
      fun Hs' H' p vs ds g n ns e x q => rf Hs' H' p vs ds (r.gr.back g) n ns e x q,
      fun Hs' H' σ' ρ' r' q => bk Hs' H' σ' ρ' r'.gr.sh (RS.back r.gr r') q, fun Hs' H' σ' ρ' r' q => ct Hs' H' σ' ρ' r'.gr.sh (RS.back r.gr r') q,
      fun Hs' H' σ' ρ' v d r' x q => ro Hs' H' σ' ρ' v d r'.gr.sh (RS.back r.gr r') x q, fun Hs' H' σ' ρ' cls dd fs r' x q => ex Hs' H' σ' ρ' cls dd fs r'.gr.sh (RS.back r.gr r') x q, fun Hs' H' v o S g ow c q => rn Hs' H' v o S (r.gr.back g) ow c q⟩
theorem xs_for {wi : TI} {g : TG} {tb : TS} (h : EvI K wi ρ ds) (I : Nat → Env → Prop) (h0 : I 0 ρ)
    (hs : ∀ k d ρ1, ds[k]? = some d → I k ρ1 → ∃ ρ2, EvG K g d ρ1 ρ2 ∧ ExS K tb ρ2 { R with nx := I (k + 1), ct := I (k + 1), bk := R.nx })
    (hd : ∀ ρ1, I ds.length ρ1 → R.nx ρ1) : ExS K (tFor wi g tb) ρ R := fun B Hs H σ Dn r l =>
  h B Hs H σ r _ fun J Hs1 H1 g1 it => by
    refine ⟨fun i m σ H => m = ds.length - i ∧ i ≤ ds.length ∧ ∃ Hs2 ρ1, RS K B Hs2 H σ ρ1 ∧ Ex Hs1 Hs2 ∧ I i ρ1, ⟨ds.length, rfl, Nat.zero_le _, Hs1, ρ, r.grow g1, Ex.refl _, h0⟩, ?_⟩
    rintro i m σ2 H2 ⟨rfl, hi, Hs2, ρ1, r2, e2, hI⟩
    obtain ⟨go, stop⟩ := it i Hs2 H2 e2 r2.ex
    by_cases hlt : i < ds.length
    · obtain ⟨go1, go2⟩ := go _ (List.getElem?_eq_getElem hlt)
      refine .inr ⟨go1, fun σ' H' => ∃ Hs3 ρ3, RS K B Hs3 H' σ' ρ3 ∧ Ex Hs1 Hs3 ∧ I (i + 1) ρ3, fun σ' H' ⟨Hs3, ρ3, r3, e3, i3⟩ => ⟨ds.length - (i + 1), by omega, rfl, hlt, Hs3, ρ3, r3, e3, i3⟩, fun x H3 y => ?_⟩
      obtain ⟨Hs3, g3, x3⟩ := go2 x H3 y
      obtain ⟨ρ2, hg, hx⟩ := hs i _ ρ1 (List.getElem?_eq_getElem hlt) hI
      refine hg B Hs3 H3 σ2 x (r2.grow g3) x3 _ fun Hs4 H4 σ4 g4 r4 => ?_
      have e4 : Ex Hs1 Hs4 := (e2.trans g3.sh).trans g4.sh
      exact hx.run r4 (fun Hs5 H5 σ5 ρ5 e5 r5 q => ⟨Hs5, ρ5, r5, e4.trans e5, q⟩) l.rt l.rf (fun Hs5 H5 σ5 ρ5 e5 r5 q => l.nx Hs5 H5 σ5 ρ5 r5 q) (fun Hs5 H5 σ5 ρ5 e5 r5 q => ⟨Hs5, ρ5, r5, e4.trans e5, q⟩) (fun Hs5 H5 σ5 ρ5 v d e5 r5 x q => l.ro Hs5 H5 σ5 ρ5 v d r5 x q) (fun Hs5 H5 σ5 ρ5 cls dd fs e5 r5 x q => l.ex Hs5 H5 σ5 ρ5 cls dd fs r5 x q) l.rn
    · have e : i = ds.length := by omega
      subst e
      exact .inl ⟨stop rfl, l.nx Hs2 H2 σ2 ρ1 r2 (hd ρ1 hI)⟩
theorem xs_while {tc : TT} {tb : TS} (I : Nat → Env → Prop) (m0 : Nat) (h0 : I m0 ρ)
    (hs : ∀ m ρ1, I m ρ1 → ∃ b, EvT K tc ρ1 b ∧ (b = true → ExS K tb ρ1 { R with nx := fun ρ2 => ∃ m', m' < m ∧ I m' ρ2, ct := fun ρ2 => ∃ m', m' < m ∧ I m' ρ2, bk := R.nx }) ∧ (b = false → R.nx ρ1)) : ExS K (tWhile tc tb) ρ R := fun B Hs H σ Dn r l => by
  refine ⟨fun m σ H => ∃ Hs2 ρ1, RS K B Hs2 H σ ρ1 ∧ I m ρ1, ⟨m0, Hs, ρ, r, h0⟩, ?_⟩
  rintro m σ2 H2 ⟨Hs2, ρ1, r2, hI⟩
  obtain ⟨b, hb, h1, h2⟩ := hs m ρ1 hI
  refine hb B Hs2 H2 σ2 r2 _ fun Hs3 H3 g3 => ?_
  cases b with
  | true =>
    refine ⟨fun σ' H' => ∃ m', m' < m ∧ ∃ Hs4 ρ4, RS K B Hs4 H' σ' ρ4 ∧ I m' ρ4, fun σ' H' ⟨m', hm, Hs4, ρ4, r4, i4⟩ => ⟨m', hm, Hs4, ρ4, r4, i4⟩, ?_⟩
    exact h1 rfl B Hs3 H3 σ2 _ (r2.grow g3) ⟨fun Hs4 H4 σ4 ρ4 r4 ⟨m', hm, q⟩ => ⟨m', hm, Hs4, ρ4, r4, q⟩, l.rt, l.rf, l.nx, fun Hs4 H4 σ4 ρ4 r4 ⟨m', hm, q⟩ => ⟨m', hm, Hs4, ρ4, r4, q⟩, l.ro, l.ex, l.rn⟩
  | false =>
    show Dn.nx σ2 H3
    exact l.nx Hs3 H3 σ2 ρ1 (r2.grow g3) (h2 rfl)

/-! ### comprehensions -/
def wD (ρ : Env) : List Nat → Env
  | [] => ρ
  | v :: vs => (wD ρ vs).set v none
theorem RS.forget {B : Base} {Hs H : Hp} {σ : St} (r : RS K B Hs H σ ρ) (i : Nat) (o : Option V) : RS K B Hs H (σ.set i o) (ρ.set i none) := by
  obtain ⟨R, h1, h2, h3, h4⟩ := r.reg
  refine ⟨r.gr, by rw [List.length_set, List.length_set, r.len], R, fun j sv e => ?_, h2, h3, fun j ds a e1 e0 e2 => ?_⟩
  rotate_left
  · by_cases q : j = i
    · subst q
      by_cases hl : j < ρ.length
      · rw [List.getElem?_set_self hl] at e1
        cases e1
      · rw [List.getElem?_eq_none (by rw [List.length_set]; omega)] at e1
        cases e1
    · rw [List.getElem?_set_ne (Ne.symm q)] at e1
      exact h4 j ds a e1 e0 e2
  by_cases q : j = i
  · subst q
    by_cases hl : j < ρ.length
    · rw [List.getElem?_set_self hl] at e
      cases e
    · rw [List.getElem?_eq_none (by rw [List.length_set]; omega)] at e
      cases e
  · rw [List.getElem?_set_ne (Ne.symm q)] at e ⊢
    exact h1 j sv e
theorem RS.wipe {B : Base} {Hs H : Hp} {σ : St} (r : RS K B Hs H σ ρ) : ∀ vs : List Nat, RS K B Hs H (wipe σ vs) (wD ρ vs)
  | [] => r
  | v :: vs => (RS.wipe r vs).forget v none
/-- a comprehension's target: the slots js, all of the block's own -/
def EvGc (K : PySem.W.Frag) (g : TG) (d : D) (ρ ρ' : Env) (vs : List Nat) : Prop := ∀ B Hs H σ x, RS K B Hs H σ ρ → Rep K Hs x d → ∀ Q : St → Hp → Prop, (∀ Hs' H' σ', Gr Hs H H Hs' H' → RS K B Hs' H' σ' ρ' → wipe σ' vs = wipe σ vs → Q σ' H') → g x σ H Q
def EvGsc (K : PySem.W.Frag) (g : TGs) (ds : List D) (ρ ρ' : Env) (vs : List Nat) : Prop := ∀ B Hs H σ xs, RS K B Hs H σ ρ → RepL K Hs xs ds → ∀ Q : St → Hp → Prop, (∀ Hs' H' σ', Gr Hs H H Hs' H' → RS K B Hs' H' σ' ρ' → wipe σ' vs = wipe σ vs → Q σ' H') → g xs σ H Q
theorem set_wipe : ∀ (vs : List Nat) (σ : St) (i : Nat) (x : Option V), i ∈ vs → wipe (σ.set i x) vs = wipe σ vs
  | [], _, _, _, h => by simp at h
  | v :: vs, σ, i, x, h => by
    show (wipe (σ.set i x) vs).set v none = (wipe σ vs).set v none
    by_cases hi : i ∈ vs
    · rw [set_wipe vs σ i x hi]
    · have e : i = v := by
        rcases List.mem_cons.mp h with q | q
        · exact q
        · exact absurd q hi
      subst e
      have key : ∀ (ws : List Nat), i ∉ ws → wipe (σ.set i x) ws = (wipe σ ws).set i x := by
        intro ws
        induction ws with
        | nil => intro _; rfl
        | cons w ws ih =>
          intro hw
          have h1 : w ≠ i := fun q => hw (by rw [q]; exact List.mem_cons_self)
          show (wipe (σ.set i x) ws).set w none = ((wipe σ ws).set w none).set i x
          rw [ih fun q => hw (List.mem_cons_of_mem _ q), List.set_comm _ _ h1]
      rw [key vs hi, List.set_set]
theorem egc_name {i : Nat} {vs : List Nat} (h : i ∈ vs) : EvGc K (gName i) d ρ (ρ.set i (some (.sh d))) vs := fun B Hs H σ x r hx Q q => q Hs H _ (Gr.refl r.ex) (r.set i hx) (set_wipe vs σ i _ h)
theorem egsc_nil {vs : List Nat} : EvGsc K gNil [] ρ ρ vs := fun B Hs H σ xs r h Q q => by
  cases h
  exact ⟨rfl, q Hs H σ (Gr.refl r.ex) r rfl⟩
theorem egsc_cons {g : TG} {gs : TGs} {ρ2 : Env} {vs : List Nat} (h1 : EvGc K g d ρ ρ' vs) (h2 : EvGsc K gs ds ρ' ρ2 vs) : EvGsc K (gCons g gs) (d :: ds) ρ ρ2 vs := fun B Hs H σ xs r h Q q => by
  cases h with
  | @cons v ws _ _ a b =>
    refine ⟨v, ws, rfl, h1 B Hs H σ v r a _ fun Hs1 H1 σ1 g1 r1 w1 => ?_⟩
    exact h2 B Hs1 H1 σ1 ws r1 (b.mono g1.sh) _ fun Hs2 H2 σ2 g2 r2 w2 => q Hs2 H2 σ2 (g1.trans g2) r2 (w2.trans w1)
theorem egc_tup {gs : TGs} {n : Nat} {vs : List Nat} (h : EvGsc K gs ds ρ ρ' vs) (hn : ds.length = n) : EvGc K (gTup K n gs) (.tup ds) ρ ρ' vs := fun B Hs H σ x r hx Q q => by
  cases hx with
  | @tup p ws _ hp' xs =>
    have hp := SqT_of (K := K) hp'
    exact ⟨p, ws, rfl, r.ex.st hp, by rw [xs.length]; exact hn, h B Hs H σ ws r xs Q q⟩
theorem Gr.mut {Hs H Hs' H' : Hp} {p : Addr} {o : HO} (g : Gr Hs H H Hs' H') (n : H p = none) (ns : Hs' p = none) (hp : Pn H' p) : Gr Hs H H Hs' (upd H' p o) := by
  refine ⟨fun a u e z => ?_, g.sh, fun a u e => ?_, g.nw, fun a x => upd_dm (g.dm a x), fun a x => upd_dm (g.dm a x), fun a x => ?_, g.nt, fun t => (g.tb t).ch (upd_ch (.inr hp))⟩
  · rw [upd_ne (ne_of_none e n)]
    exact g.fr a u e z
  · rw [upd_ne (ne_of_none e ns)]
    exact g.lv a u e
  · obtain ⟨u, e, z⟩ := g.dp a x
    exact ⟨u, by rw [upd_ne (fun q => x.ne (by rw [q]; exact n))]; exact e, z⟩
theorem take_more {α : Type} : ∀ {l : List α} {i : Nat} {x : α}, l[i]? = some x → l.take (i + 1) = l.take i ++ [x]
  | [], i, x, h => by simp at h
  | a :: l, 0, x, h => by
    have e := Option.some.inj h
    subst e
    rfl
  | a :: l, i + 1, x, h => by
    have ih := take_more (l := l) (i := i) (x := x) h
    show a :: l.take (i + 1) = a :: l.take i ++ [x]
    rw [ih]
    rfl
theorem wipe_wipe (σ : St) : ∀ vs : List Nat, wipe (wipe σ vs) vs = wipe σ vs := by
  have key : ∀ (vs ws : List Nat) (σ : St), (∀ v ∈ vs, v ∈ ws) → wipe (wipe σ vs) ws = wipe σ ws := by
    intro vs
    induction vs with
    | nil => intro ws σ _; rfl
    | cons v vs ih =>
      intro ws σ h
      show wipe ((wipe σ vs).set v none) ws = wipe σ ws
      rw [set_wipe ws _ v none (h v List.mem_cons_self)]
      exact ih ws σ fun u hu => h u (List.mem_cons_of_mem _ hu)
  exact fun vs => key vs vs σ fun _ h => h
theorem ef_lc {α : Type} (xs : List α) (enc : α → D) (f : α → Bool) (w : α → D) {wi : TI} {g : TG} {vs : List Nat} (hx : xs.map enc = ds) (h : EvI K wi ρ ds) (hz : xs.length ≤ 50000)
    (hs : ∀ (k : Nat) (x : α), xs[k]? = some x → ∃ ρ2, EvGc K g (enc x) (wD ρ vs) ρ2 vs ∧ EvT K tt ρ2 (f x) ∧ (f x = true → EvD K te ρ2 (w x))) :
    EvF K (tLc wi g tt te vs) ρ ((xs.filter f).map w) := fun B Hs H σ r Q q => h B Hs H σ r _ fun J Hs1 H1 g1 it p hp => by
  obtain ⟨n1, n2⟩ := gr_none g1 hp
  have r1 := r.grow g1
  have len : ds.length = xs.length := by rw [← hx, List.length_map]
  have zl : ∀ i, ((xs.take i).filter f).length < 100000 := fun i => by
    have h1 := List.length_filter_le f (xs.take i)
    have h2 : (xs.take i).length ≤ xs.length := by rw [List.length_take]; exact Nat.min_le_right _ _
    omega
  refine ⟨fun i m H => m = xs.length - i ∧ i ≤ xs.length ∧ ∃ Hs2 ws, Gr Hs1 H1 H1 Hs2 H ∧ Hs2 p = none ∧ H p = some (.lst ws) ∧ RepL K Hs2 ws (((xs.take i).filter f).map w),
    ⟨xs.length, rfl, Nat.zero_le _, Hs1, [], Gr.newO g1.lv hp, n2, upd_same, .nil⟩, ?_⟩
  rintro i m H2 ⟨rfl, hi, Hs2, ws, g2, e2, e3, x2⟩
  have r2 := r1.grow g2
  obtain ⟨go, stop⟩ := it i Hs2 H2 g2.sh g2.lv
  by_cases hlt : i < xs.length
  · have gx : xs[i]? = some xs[i] := List.getElem?_eq_getElem hlt
    have gd : ds[i]? = some (enc xs[i]) := by rw [← hx, List.getElem?_map, gx]; rfl
    obtain ⟨go1, go2⟩ := go _ gd
    refine .inr ⟨go1, fun H' => ∃ Hs3 ws, Gr Hs1 H1 H1 Hs3 H' ∧ Hs3 p = none ∧ H' p = some (.lst ws) ∧ RepL K Hs3 ws (((xs.take (i + 1)).filter f).map w), fun H' q' => ⟨xs.length - (i + 1), by omega, rfl, hlt, q'⟩, fun x H3 y => ?_⟩
    obtain ⟨Hs3, g3, x3⟩ := go2 x H3 y
    obtain ⟨ρ2, hg, ht, he⟩ := hs i _ gx
    refine hg B Hs3 H3 _ x ((r2.grow g3).wipe vs) x3 _ fun Hs4 H4 σ4 g4 r4 w4 => ?_
    refine ⟨by rw [w4]; exact wipe_wipe σ vs, ht B Hs4 H4 σ4 r4 _ fun Hs5 H5 g5 => ?_⟩
    have g25 : Gr Hs2 H2 H2 Hs5 H5 := (g3.trans g4).trans g5
    have p5 : H5 p = some (.lst ws) := g25.fr.pl e3
    have n5 : Hs5 p = none := by rw [g25.nw p (.of e3)]; exact e2
    cases hf : f xs[i] with
    | true =>
      show te σ4 H5 fun y H6 => ∃ acc, H6 p = some (.lst acc) ∧ acc.length < sizeLine ∧ ∃ Hs3 ws, Gr Hs1 H1 H1 Hs3 (upd H6 p (.lst (acc ++ [y]))) ∧ Hs3 p = none ∧ (upd H6 p (.lst (acc ++ [y]))) p = some (.lst ws) ∧ RepL K Hs3 ws (((xs.take (i + 1)).filter f).map w)
      refine he hf B Hs5 H5 σ4 (r4.grow g5) _ fun Hs6 H6 y g6 x6 => ?_
      have n6 : Hs6 p = none := by rw [g6.nw p (.of p5)]; exact n5
      refine ⟨ws, g6.fr.pl p5, by rw [x2.length, List.length_map]; exact sz_lt (zl i), Hs6, ws ++ [y], ((g2.trans g25).trans g6).mut hp n6 (.of (g6.fr.pl p5)), n6, upd_same, ?_⟩
      rw [take_more gx, List.filter_append, List.map_append]
      have e1 : List.filter f [xs[i]] = [xs[i]] := by simp [hf]
      rw [e1]
      exact (x2.mono (g25.sh.trans g6.sh)).append (.cons x6 .nil)
    | false =>
      refine ⟨Hs5, ws, g2.trans g25, n5, p5, ?_⟩
      rw [take_more gx, List.filter_append, List.map_append]
      have e1 : List.filter f [xs[i]] = [] := by simp [hf]
      rw [e1, List.map_nil, List.append_nil]
      exact x2.mono g25.sh
  · have e : i = xs.length := by omega
    subst e
    refine .inl ⟨stop len.symm, ?_⟩
    rw [List.take_length] at x2
    have g12 := g1.trans g2
    exact q Hs2 H2 p ws g12 n1 e2 e3 x2
/-- .. without tests -/
theorem ef_lc0 {α : Type} (xs : List α) (enc : α → D) (w : α → D) {wi : TI} {g : TG} {vs : List Nat} (hx : xs.map enc = ds) (h : EvI K wi ρ ds) (hz : xs.length ≤ 50000)
    (hs : ∀ (k : Nat) (x : α), xs[k]? = some x → ∃ ρ2, EvGc K g (enc x) (wD ρ vs) ρ2 vs ∧ EvD K te ρ2 (w x)) : EvF K (tLc wi g tYes te vs) ρ (xs.map w) := by
  have h2 := ef_lc (te := te) (tt := tYes) xs enc (fun _ => true) w hx h hz fun k x hk => by
    obtain ⟨ρ2, h1, h2⟩ := hs k x hk
    exact ⟨ρ2, h1, et_yes, fun _ => h2⟩
  have e : xs.filter (fun _ => true) = xs := List.filter_eq_self.mpr fun _ _ => rfl
  rw [e] at h2
  exact h2
theorem EvI.is {wi : TI} (h : EvI K wi ρ ds) (q : ds = es) : EvI K wi ρ es := q ▸ h
end
end DL

/-! DCall: what a def promises on deep data; calls; frozen lists. -/
namespace DL
open PySem L2
open PyProof.Rows (envOfC)
variable [TbC]

/-- called with arg x, where pre x: gives something of post x, all that stood stands -/
def spR (K : PySem.W.Frag) {α : Type} (pre : α → Prop) (arg : α → List D) (post : α → D → Prop) : Sp := fun vs H Q _ => ∃ (Hs : Hp) (x : α), (Ex Hs H ∧ NT Hs ∧ TB H) ∧ RepL K Hs vs (arg x) ∧ pre x ∧
  ∀ Hs' H' v d, Gr Hs H H Hs' H' → Rep K Hs' v d → post x d → Q v H'
abbrev spG (K : PySem.W.Frag) {α : Type} (pre : α → Prop) (arg : α → List D) (res : α → D) : Sp := spR K pre arg fun x d => d = res x
/-- .. gives a new list -/
def spF (K : PySem.W.Frag) {α : Type} (pre : α → Prop) (arg : α → List D) (res : α → List D) : Sp := fun vs H Q _ => ∃ (Hs : Hp) (x : α), (Ex Hs H ∧ NT Hs ∧ TB H) ∧ RepL K Hs vs (arg x) ∧ pre x ∧
  ∀ Hs' H' p ws, Gr Hs H H Hs' H' → H p = none → Hs' p = none → H' p = some (.lst ws) → RepL K Hs' ws (res x) → Q (.ref p) H'
/-- what is shared at the law's entry: all but tables -/
def noT (H : Hp) : Hp := fun a => match H a with
  | some (.tbl _) => none
  | o => o
theorem noT_ex (H : Hp) : Ex (noT H) H := fun a o e => by
  unfold noT at e
  split at e
  · cases e
  · exact e
theorem noT_nt (H : Hp) : NT (noT H) := fun a ps e => by
  unfold noT at e
  split at e
  · cases e
  · rename_i h
    exact h ps e
theorem noT_n (H : Hp) : ExN H (noT H) := fun a o e n => by
  unfold noT
  split
  · rename_i ps h
    rw [e] at h
    exact absurd (Option.some.inj h) (n ps)
  · exact e
/-- a frame at its entry -/
def entry (N : List Str) (ds : List D) : Env := ds.map (fun d => some (.sh d)) ++ List.replicate (N.length - ds.length) none

section
variable {K : PySem.W.Frag} {ρ ρ' : Env} {te ta tb : TE} {d e : D} {ds es : List D} {tt : TT} {R : DEnds}
theorem rs_entry {N : List Str} {vs : List V} {Hs H : Hp} (e : Ex Hs H ∧ NT Hs ∧ TB H) (x : RepL K Hs vs ds) (hN : ds.length ≤ N.length) : RS K ⟨Hs, H, H, e.2⟩ Hs H (L2.start N vs) (entry N ds) := by
  have hl := x.length
  refine ⟨Gr.refl e.1, ?_, fun _ _ => none, fun i sv h => ?_, fun i a o h => (nomatch h), fun i j a h => absurd rfl h, fun i ds a _ _ h => absurd rfl h⟩
  · unfold L2.start entry
    rw [List.length_append, List.length_append, List.length_map, List.length_map, List.length_replicate, List.length_replicate, hl]
  · unfold entry at h
    by_cases hi : i < ds.length
    · rw [List.getElem?_append_left (by simpa using hi), List.getElem?_map, List.getElem?_eq_getElem hi] at h
      cases h
      obtain ⟨v, hv, xv⟩ := x.at (List.getElem?_eq_getElem hi)
      refine ⟨v, ?_, xv, fun _ => rfl⟩
      unfold L2.start
      rw [List.getElem?_append_left (by rw [List.length_map, hl]; exact hi), List.getElem?_map, hv]
      rfl
    · rw [List.getElem?_append_right (by rw [List.length_map]; omega), List.getElem?_replicate] at h
      split at h <;> cases h
variable {P : Program} {w : World} {mg : Str → Option Value} {base : Heap} {x qual : Str} {st : Stmt} {f : Addr} {fd : FuncData} {N ps : List Str} {k : Nat} {α : Type} {pre : α → Prop} {arg : α → List D}
theorem fn_r {post : α → D → Prop} (F : Fun K x qual st f fd) (S : FnScope N ps (defScope st)) (hl : ∀ x, (arg x).length = ps.length) {t : TS}
    (hb : ∀ (cdv : Value) (A : Around) (outer : List PySem.Env) (s : Shared) (H : Hp) (E : XK), Room k (A.deeper (envOfC qual (defScope st) s.heap.objs.size f cdv)) → PSs (cxOf CX0 P w K mg base N qual (defScope st) f cdv A outer s H E).nox (defBody st) t)
    (hd : ∀ x, pre x → ExS K t (entry N (arg x)) { nx := fun _ => post x .non, rt := post x }) : FnOk P w K mg base CX0 (k + 1) f fd ps (spR K pre arg post) := by
  have hN : ps.length ≤ N.length := by have := congrArg List.length S.pre; rw [List.length_take] at this; omega
  refine F.ok S (fun vs H Q E h => ?_) (fun cdv A outer s H vs Q E hr h => ?_)
  · obtain ⟨Hs, x, _, r, _⟩ := h
    rw [r.length, hl]
  · obtain ⟨Hs, x, e, r, hp, q⟩ := h
    refine ⟨t, hb cdv A outer s H E hr, ?_⟩
    exact hd x hp ⟨Hs, H, H, e.2⟩ Hs H (L2.start N vs) _ (rs_entry e r (by rw [hl]; exact hN))
      ⟨fun Hs' H' σ ρ r' z => q Hs' H' .non .non r'.gr .non z, fun Hs' H' v d g x z => q Hs' H' v d g x z, fun _ _ _ _ _ _ _ _ _ _ z => z.elim, fun _ _ _ _ _ z => z.elim, fun _ _ _ _ _ z => z.elim, fun _ _ _ _ _ _ _ _ z => z.elim, fun _ _ _ _ _ _ _ _ _ z => z.elim, fun _ _ _ _ _ _ _ _ z => z.elim⟩
theorem fn_f {res : α → List D} (F : Fun K x qual st f fd) (S : FnScope N ps (defScope st)) (hl : ∀ x, (arg x).length = ps.length) {t : TS}
    (hb : ∀ (cdv : Value) (A : Around) (outer : List PySem.Env) (s : Shared) (H : Hp) (E : XK), Room k (A.deeper (envOfC qual (defScope st) s.heap.objs.size f cdv)) → PSs (cxOf CX0 P w K mg base N qual (defScope st) f cdv A outer s H E).nox (defBody st) t)
    (hd : ∀ x, pre x → ExS K t (entry N (arg x)) { nx := fun _ => False, rt := fun _ => False, rf := fun ds => ds = res x }) : FnOk P w K mg base CX0 (k + 1) f fd ps (spF K pre arg res) := by
  have hN : ps.length ≤ N.length := by have := congrArg List.length S.pre; rw [List.length_take] at this; omega
  refine F.ok S (fun vs H Q E h => ?_) (fun cdv A outer s H vs Q E hr h => ?_)
  · obtain ⟨Hs, x, _, r, _⟩ := h
    rw [r.length, hl]
  · obtain ⟨Hs, x, e, r, hp, q⟩ := h
    refine ⟨t, hb cdv A outer s H E hr, ?_⟩
    exact hd x hp ⟨Hs, H, H, e.2⟩ Hs H (L2.start N vs) _ (rs_entry e r (by rw [hl]; exact hN))
      ⟨fun Hs' H' σ ρ r' z => z.elim, fun Hs' H' v d g x z => z.elim, fun Hs' H' p ws ds g n ns e x z => q Hs' H' p ws g n ns e (z ▸ x), fun _ _ _ _ _ z => z.elim, fun _ _ _ _ _ z => z.elim, fun _ _ _ _ _ _ _ _ z => z.elim, fun _ _ _ _ _ _ _ _ _ z => z.elim, fun _ _ _ _ _ _ _ _ z => z.elim⟩

/-! ### calls -/
theorem ev_call {res : α → D} {E : XK} {ta : TA} (x : α) (h : EvA K ta ρ (arg x)) (p : pre x) : EvD K (tCall (spG K pre arg res) [] E ta) ρ (res x) := fun B Hs H σ r Q q =>
  h B Hs H σ r _ fun Hs1 H1 vs g1 xs => by
    rw [List.append_nil]
    exact ⟨Hs1, x, ⟨g1.lv, (r.grow g1).tb⟩, xs, p, fun Hs' H' v d g y e => q Hs' H' v (g1.trans g) (e ▸ y)⟩
theorem ef_call {res : α → List D} {E : XK} {ta : TA} (x : α) (h : EvA K ta ρ (arg x)) (p : pre x) : EvF K (tCall (spF K pre arg res) [] E ta) ρ (res x) := fun B Hs H σ r Q q =>
  h B Hs H σ r _ fun Hs1 H1 vs g1 xs => by
    rw [List.append_nil]
    refine ⟨Hs1, x, ⟨g1.lv, (r.grow g1).tb⟩, xs, p, fun Hs' H' l ws g n ns e y => q Hs' H' l ws (g1.trans g) ?_ ns e y⟩
    exact (g1.new0 n).1

/-! ### own lists, frozen for a while, or for good -/
theorem RS.temp {B : Base} {Hs H : Hp} {σ : St} (r : RS K B Hs H σ ρ) : RS K ⟨Hs, fun _ => none, npl H, r.tb.1, r.tb.2.npl⟩ Hs H σ ρ := by
  obtain ⟨R, h1, h2, h3, h4⟩ := r.reg
  exact ⟨⟨fun _ _ z => (nomatch z), Ex.refl Hs, r.ex, fun _ z => absurd z (npl_pn _), fun _ z => npl_le z, fun _ z => absurd rfl z, fun _ z => absurd z (npl_pn _), id, fun _ => r.tb.2⟩, r.len, R, h1, fun i a o e => ⟨(h2 i a o e).1, (h2 i a o e).2.1, rfl, (h2 i a o e).2.2.2⟩, h3, fun i _ a _ _ z => by
    cases q : R i a with
    | none => exact absurd q z
    | some o => exact npl_no (h2 i a o q).1 (h2 i a o q).2.2.2⟩
theorem gr_thaw {Hs Hs2 H Hs' H' : Hp} (e : Ex Hs Hs2) (g : Gr Hs2 H H Hs' H') : Gr Hs H H Hs H' := ⟨g.fr, Ex.refl Hs, (e.trans g.sh).trans g.lv, fun _ _ => rfl, g.dm, g.fd, g.dp, id, g.tb⟩
/-- an own list at slot i is read as shared, what comes is a scalar -/
theorem EvD.thaw (i : Nat) (hi : ρ[i]? = some (some (.ol ds))) (h : EvD K te (ρ.set i (some (.sh (.lst ds)))) d) (hd : d.scal = true) : EvD K te ρ d := fun B Hs H σ r Q q => by
  obtain ⟨Hs2, e1, e2, r2⟩ := r.temp.fz i hi
  exact h _ Hs2 H σ r2 Q fun Hs' H' v g x => q Hs H' v (gr_thaw e1 g) (x.scal hd)
theorem EvF.thaw (i : Nat) (hi : ρ[i]? = some (some (.ol ds))) (h : EvF K te (ρ.set i (some (.sh (.lst ds)))) es) (hd : es.all D.scal = true) : EvF K te ρ es := fun B Hs H σ r Q q => by
  obtain ⟨Hs2, e1, e2, r2⟩ := r.temp.fz i hi
  refine h _ Hs2 H σ r2 Q fun Hs' H' p vs g n ns e x => q Hs H' p vs (gr_thaw e1 g) n ?_ e (x.scal hd)
  cases z : Hs p with
  | none => rfl
  | some o =>
    rw [r.ex p o z] at n
    cases n
theorem EvT.thaw (i : Nat) {b : Bool} (hi : ρ[i]? = some (some (.ol ds))) (h : EvT K tt (ρ.set i (some (.sh (.lst ds)))) b) : EvT K tt ρ b := fun B Hs H σ r Q q => by
  obtain ⟨Hs2, e1, e2, r2⟩ := r.temp.fz i hi
  exact h _ Hs2 H σ r2 Q fun Hs' H' g => q Hs H' (gr_thaw e1 g)
/-- for good -/
theorem xs_fz {ts : TS} (i : Nat) (hi : ρ[i]? = some (some (.ol ds))) (h : ExS K ts (ρ.set i (some (.sh (.lst ds)))) R) : ExS K ts ρ R := fun B Hs H σ Dn r l => by
  obtain ⟨Hs2, e1, e2, r2⟩ := r.fz i hi
  exact h B Hs2 H σ Dn r2 l
end
end DL

/-! DOps: one rule an operator, whatever the kinds; which kind it is, is told on deep data. -/
namespace DL
open PySem L2
variable [TbC]

section
variable {X : Cx}
/-! ### the rules -/
def rAddS0 : R2 := fun x y H Q => ∃ i j, x = .str i ∧ y = .str j ∧ i.length + j.length ≤ sizeLine ∧ Q (.str (i ++ j)) H
abbrev rAddI : R2 := rI0 fun i j => .int (i + j)
def rAddA (K : PySem.W.Frag) : R2 := fun x y H Q => rAddI x y H Q ∨ rCat x y H Q ∨ rCatA K x y H Q ∨ rAddS0 x y H Q
theorem op_addA : OpR X (binaryOp .Add) (rAddA X.K) := op_add.or (op_cat.or (op_catA.or op_add_str))
def CMulX (i j : Int) : Prop := CMulW i j ∨ CMul i j
abbrev rMulI : R2 := rI CMulX fun i j => .int (i * j)
theorem op_mulX : OpR X (binaryOp .Mult) rMulI := by
  intro pins s σ H x y v u Q I rx ry h
  obtain ⟨i, j, rfl, rfl, hc, q⟩ := h
  rcases hc with hc | hc
  · exact op_mulW pins s σ H _ _ v u Q I rx ry ⟨i, j, rfl, rfl, hc, q⟩
  · exact op_mul pins s σ H _ _ v u Q I rx ry ⟨i, j, rfl, rfl, hc, q⟩
def rMulA : R2 := fun x y H Q => rMulI x y H Q ∨ rRep x y H Q
theorem op_mulA : OpR X (binaryOp .Mult) rMulA := op_mulX.or op_rep
abbrev rDivW : R2 := rI CDivW fun i j => .int (i / j)
abbrev rModI : R2 := rI (fun _ j => 0 < j) fun i j => .int (i % j)
abbrev rSubI : R2 := rI0 fun i j => .int (i - j)
abbrev rPowI : R2 := rI CPow fun i j => .int (i ^ j.toNat)
abbrev rShrI : R2 := rI (fun _ j => 0 ≤ j) fun i j => .int (i / 2 ^ j.toNat)
abbrev rAndI : R2 := rI0 fun i j => .int (Builtin.bitAnd i j)
def rSlA' (K : PySem.W.Frag) : V → Option Int → Option Int → Hp → VK → Prop := fun x lo hi H Q => rSlL K x lo hi H Q ∨ rSlA K x lo hi H Q
theorem sl_A : SlR X (rSlA' X.K) := sl_list.or sl_tupA
abbrev rLenA (K : PySem.W.Frag) : List V → Hp → VK → Prop := fun xs H Q => rLen K xs H Q ∨ rLenS xs H Q
theorem call_lenA : CallR X (.builtin "len") (rLenA X.K) := call_len_seq.or call_len_str
end

/-- 2 ^ n bounds, for products and divisors of great numbers -/
def Big (n : Nat) (i : Int) : Prop := i.natAbs < 2 ^ n
theorem mulW_l {i j : Int} (h1 : -18446744073709551616 < i) (h2 : i < 18446744073709551616) : CMulX i j := .inr (.inl ⟨by omega, by omega⟩)
theorem mulW_r {i j : Int} (h1 : -18446744073709551616 < j) (h2 : j < 18446744073709551616) : CMulX i j := .inr (.inr ⟨by omega, by omega⟩)
theorem mulW_s {i j : Int} (h1 : -18446744073709551616 < i) (h2 : i < 18446744073709551616) (h3 : -18446744073709551616 < j) (h4 : j < 18446744073709551616) : CMulX i j := mulW_l h1 h2
theorem divW_c {i j : Int} (h0 : 0 < j) (h1 : j < 18446744073709551616) : CDivW i j := by
  refine ⟨h0, ?_⟩
  by_cases z : j.natAbs = 0
  · rw [z]
    decide
  · have := (Nat.log2_lt z (k := 65)).mpr (by omega)
    omega

section
variable {K : PySem.W.Frag} {ρ ρ' : Env} {te ta tb : TE} {d e : D} {ds es : List D} {tt : TT} {R : DEnds}
theorem ev_addI {i j : Int} (ha : EvD K ta ρ (.int i)) (hb : EvD K tb ρ (.int j)) : EvD K (tOp (rAddA K) ta tb) ρ (.int (i + j)) := fun B Hs H σ r Q q =>
  ha B Hs H σ r _ fun Hs1 H1 x g1 x1 => hb B Hs1 H1 σ (r.grow g1) _ fun Hs2 H2 y g2 y2 => by
    cases x1
    cases y2
    exact .inl ⟨i, j, rfl, rfl, q Hs2 H2 _ (g1.trans g2) (.int _)⟩
theorem ef_addL (ha : EvM K ta ρ ds) (hb : EvM K tb ρ es) (hl : ds.length + es.length ≤ 100000) : EvF K (tOp (rAddA K) ta tb) ρ (ds ++ es) := fun B Hs H σ r Q q =>
  ha B Hs H σ r _ fun Hs1 H1 p vs g1 hp xs => hb B Hs1 H1 σ (r.grow g1) _ fun Hs2 H2 p2 ws g2 hp2 ys => by
    have g := g1.trans g2
    refine .inr (.inl ⟨p, p2, vs, ws, rfl, rfl, g2.fr.pl hp, hp2, by rw [xs.length, ys.length]; exact sz_of hl, fun l hn => ?_⟩)
    obtain ⟨n1, n2⟩ := gr_none g hn
    exact q Hs2 _ l _ (g.trans (Gr.newO g2.lv hn)) n1 n2 upd_same ((xs.mono g2.sh).append ys)
theorem ev_mulI {i j : Int} (ha : EvD K ta ρ (.int i)) (hb : EvD K tb ρ (.int j)) (hc : CMulX i j) : EvD K (tOp rMulA ta tb) ρ (.int (i * j)) := fun B Hs H σ r Q q =>
  ha B Hs H σ r _ fun Hs1 H1 x g1 x1 => hb B Hs1 H1 σ (r.grow g1) _ fun Hs2 H2 y g2 y2 => by
    cases x1
    cases y2
    exact .inl ⟨i, j, rfl, rfl, hc, q Hs2 H2 _ (g1.trans g2) (.int _)⟩
theorem ef_mulL {k : Int} (ha : EvM K ta ρ ds) (hb : EvD K tb ρ (.int k)) (hk : k ≤ 100000) (hk' : -100000 ≤ k) (hl : ds.length * k.toNat ≤ 100000) : EvF K (tOp rMulA ta tb) ρ (List.replicate k.toNat ds).flatten := fun B Hs H σ r Q q =>
  ha B Hs H σ r _ fun Hs1 H1 p vs g1 hp xs => hb B Hs1 H1 σ (r.grow g1) _ fun Hs2 H2 y g2 y2 => by
    cases y2
    have g := g1.trans g2
    refine .inr ⟨p, k, vs, rfl, rfl, g2.fr.pl hp, by omega, by omega, by rw [xs.length]; exact sz_of hl, fun l hn => ?_⟩
    obtain ⟨n1, n2⟩ := gr_none g hn
    exact q Hs2 _ l _ (g.trans (Gr.newO g2.lv hn)) n1 n2 upd_same ((xs.mono g2.sh).rep _)
theorem ef_slL {tl th : TO} {lo hi : Option Int} (ha : EvB K ta ρ ds) (hl : EvO K tl ρ lo) (hh : EvO K th ρ hi) : EvF K (tSl (rSlA' K) ta tl th) ρ (cutD ds lo hi) := fun B Hs H σ r Q q =>
  ha B Hs H σ r _ fun Hs1 H1 p vs g1 hp xs => hl B Hs1 H1 σ (r.grow g1) _ fun Hs2 H2 g2 => hh B Hs2 H2 σ ((r.grow g1).grow g2) _ fun Hs3 H3 g3 => by
    refine .inl ⟨p, vs, rfl, g3.fr.sl (g2.fr.sl hp), fun l hn => ?_⟩
    have g := (g1.trans g2).trans g3
    obtain ⟨n1, n2⟩ := gr_none g hn
    exact q Hs3 _ l _ (g.trans (Gr.newO g3.lv hn)) n1 n2 upd_same ((xs.mono (g2.sh.trans g3.sh)).cut lo hi)
theorem ev_lenLA (ha : EvB K ta ρ ds) : EvD K (tCB (rLenA K) (tCons ta tNil)) ρ (.int (ds.length : Int)) := fun B Hs H σ r Q q =>
  ha B Hs H σ r _ fun Hs1 H1 p vs g1 hp xs => .inl ⟨p, vs, rfl, .inl hp, by
    rw [xs.length]
    exact q Hs1 H1 _ g1 (.int _)⟩
theorem ev_lenTA (ha : EvD K ta ρ (.tup ds)) : EvD K (tCB (rLenA K) (tCons ta tNil)) ρ (.int (ds.length : Int)) := fun B Hs H σ r Q q =>
  ha B Hs H σ r _ fun Hs1 H1 v g1 x => by
    cases x with
    | @tup p vs _ hp' xs =>
      have hp := SqT_of (K := K) hp'
      refine .inl ⟨p, vs, rfl, .inr (g1.lv.st hp), ?_⟩
      rw [xs.length]
      exact q Hs1 H1 _ g1 (.int _)
theorem ev_lenSA {z : Str} (ha : EvD K ta ρ (.str z)) (hz : z.length ≤ sizeLine) : EvD K (tCB (rLenA K) (tCons ta tNil)) ρ (.int (z.length : Int)) := fun B Hs H σ r Q q =>
  ha B Hs H σ r _ fun Hs1 H1 v g1 x => by
    cases x
    exact .inr ⟨z, rfl, hz, q Hs1 H1 _ g1 (.int _)⟩
/-! ### isinstance of a built-in class -/
def D.tyn : D → String
  | .non => "NoneType" | .bl _ => "bool" | .int _ => "int" | .str _ => "str" | .lst _ => "list" | .scr _ => "list" | .tup _ => "tuple" | _ => ""
end
end DL
namespace DL
open PySem L2
variable [TbC]
section
variable {K : PySem.W.Frag} {ρ ρ' : Env} {te ta tb : TE} {d e : D} {ds es : List D} {tt : TT} {R : DEnds}
theorem Rep.tyx {H : Hp} {v : V} {d : D} (h : Rep K H v d) (hd : d.tyn ≠ "") : TyX K H v (.type d.tyn) := by
  cases h with
  | non => exact .base .non
  | bl b => exact .base (.bl b)
  | int i => exact .base (.int i)
  | str x => exact .base (.str x)
  | ty n => exact absurd rfl hd
  | fn a => exact absurd rfl hd
  | lst hs r => exact .base (.lst hs)
  | scr hs r =>
    rcases hs with (hs | ⟨o, hs⟩) | ⟨o, its, n, e, c, _⟩
    · exact .base (.lst hs)
    · exact .base (.frz hs)
    · exact .kList e c
  | tup hs r => exact .base (.tup hs)
  | clo _ _ _ => exact absurd rfl hd
  | obj _ _ => exact absurd rfl hd
theorem ev_isi {n : String} {b : Bool} (ha : EvR K ta ρ d) {t : String} (ht : d.tyn = t) (hk : kitB t n = some b) (hd : t ≠ "") : EvD K (tCB (rIsi K) (tCons ta (tCons (tC (.ty n)) tNil))) ρ (.bl b) := fun B Hs H σ r Q q =>
  ha B Hs H σ r _ fun Hs1 H1 v g x => ⟨v, .ty n, .type d.tyn, .type n, b, rfl, .ty n, x.tyx (by rw [ht]; exact hd), by rw [ht]; exact kit_ty hk, q Hs1 H1 _ g (.bl b)⟩
theorem isi_int_int {i : Int} (ha : EvR K ta ρ (.int i)) : EvD K (tCB (rIsi K) (tCons ta (tCons (tC (.ty "int")) tNil))) ρ (.bl true) := ev_isi ha (t := "int") rfl (by decide +kernel) (by decide +kernel)
theorem isi_int_bool {i : Int} (ha : EvR K ta ρ (.int i)) : EvD K (tCB (rIsi K) (tCons ta (tCons (tC (.ty "bool")) tNil))) ρ (.bl false) := ev_isi ha (t := "int") rfl (by decide +kernel) (by decide +kernel)
theorem isi_bool_bool {b : Bool} (ha : EvR K ta ρ (.bl b)) : EvD K (tCB (rIsi K) (tCons ta (tCons (tC (.ty "bool")) tNil))) ρ (.bl true) := ev_isi ha (t := "bool") rfl (by decide +kernel) (by decide +kernel)
theorem isi_bool_int {b : Bool} (ha : EvR K ta ρ (.bl b)) : EvD K (tCB (rIsi K) (tCons ta (tCons (tC (.ty "int")) tNil))) ρ (.bl true) := ev_isi ha (t := "bool") rfl (by decide +kernel) (by decide +kernel)
theorem isi_lst_list (ha : EvR K ta ρ (.lst ds)) : EvD K (tCB (rIsi K) (tCons ta (tCons (tC (.ty "list")) tNil))) ρ (.bl true) := ev_isi ha (t := "list") rfl (by decide +kernel) (by decide +kernel)
theorem isi_tup_tuple (ha : EvR K ta ρ (.tup ds)) : EvD K (tCB (rIsi K) (tCons ta (tCons (tC (.ty "tuple")) tNil))) ρ (.bl true) := ev_isi ha (t := "tuple") rfl (by decide +kernel) (by decide +kernel)
theorem isi_lst_tuple (ha : EvR K ta ρ (.lst ds)) : EvD K (tCB (rIsi K) (tCons ta (tCons (tC (.ty "tuple")) tNil))) ρ (.bl false) := ev_isi ha (t := "list") rfl (by decide +kernel) (by decide +kernel)
theorem isi_str_str {s : Str} (ha : EvR K ta ρ (.str s)) : EvD K (tCB (rIsi K) (tCons ta (tCons (tC (.ty "str")) tNil))) ρ (.bl true) := ev_isi ha (t := "str") rfl (by decide +kernel) (by decide +kernel)
/-- a place in a written list -/
theorem atI_lt {α : Type} {xs : List α} {i : Int} (h0 : 0 ≤ i) (h1 : i < (xs.length : Int)) : atI xs i = xs[i.toNat]? := by
  obtain ⟨n, rfl⟩ := Int.eq_ofNat_of_zero_le h0
  have hn : n < xs.length := by omega
  rw [show (Int.toNat ((n : Nat) : Int)) = n from rfl, List.getElem?_eq_getElem hn]
  exact atI_nat (List.getElem?_eq_getElem hn)
theorem atI_int {xs : List Int} {i : Int} (h0 : 0 ≤ i) (h1 : i < (xs.length : Int)) : atI (xs.map D.int) i = some (.int (xs.getD i.toNat 0)) := by
  rw [atI_lt h0 (by rw [List.length_map]; exact h1), List.getElem?_map]
  have hn : i.toNat < xs.length := by omega
  rw [List.getElem?_eq_getElem hn, List.getD_eq_getElem?_getD, List.getElem?_eq_getElem hn]
  rfl
theorem cutD_map {α : Type} (f : α → D) (xs : List α) (lo hi : Option Int) : cutD (xs.map f) lo hi = (((xs.drop (HT.sIx xs.length 0 lo)).take (HT.sIx xs.length xs.length hi - HT.sIx xs.length 0 lo))).map f := by
  unfold cutD
  rw [List.length_map, List.map_take, List.map_drop]
theorem sIx_pos (n d k : Nat) : HT.sIx n d (some (k : Int)) = min k n := HT.sIx_nat n d k
theorem cut_to {α : Type} (xs : List α) (k : Nat) : (xs.drop (HT.sIx xs.length 0 none)).take (HT.sIx xs.length xs.length (some (k : Int)) - HT.sIx xs.length 0 none) = xs.take k := by
  rw [HT.sIx_none, HT.sIx_nat, List.drop_zero, Nat.sub_zero]
  by_cases h : k ≤ xs.length
  · rw [Nat.min_eq_left h]
  · rw [Nat.min_eq_right (by omega), List.take_length, List.take_of_length_le (by omega)]
theorem cut_from {α : Type} (xs : List α) (k : Nat) : (xs.drop (HT.sIx xs.length 0 (some (k : Int)))).take (HT.sIx xs.length xs.length none - HT.sIx xs.length 0 (some (k : Int))) = xs.drop k := by
  rw [HT.sIx_none, HT.sIx_nat]
  by_cases h : k ≤ xs.length
  · rw [Nat.min_eq_left h]
    exact List.take_of_length_le (by rw [List.length_drop]; omega)
  · rw [Nat.min_eq_right (by omega), Nat.sub_self, List.take_zero, List.drop_eq_nil_of_le (by omega)]
theorem cut_mid {α : Type} (xs : List α) (i j : Nat) : (xs.drop (HT.sIx xs.length 0 (some (i : Int)))).take (HT.sIx xs.length xs.length (some (j : Int)) - HT.sIx xs.length 0 (some (i : Int))) = (xs.take j).drop i := by
  rw [HT.sIx_nat, HT.sIx_nat, List.drop_take]
  by_cases h : i ≤ xs.length
  · rw [Nat.min_eq_left h]
    by_cases h2 : j ≤ xs.length
    · rw [Nat.min_eq_left h2]
    · rw [Nat.min_eq_right (by omega)]
      rw [List.take_of_length_le (by rw [List.length_drop]; omega), List.take_of_length_le (by rw [List.length_drop]; omega)]
  · rw [Nat.min_eq_right (show xs.length ≤ i by omega), List.drop_eq_nil_of_le (Nat.le_refl _), List.drop_eq_nil_of_le (show xs.length ≤ i by omega)]
    simp
end
/-! ### what is walked: a list or a tuple -/
section
variable {X : Cx} {tg : Expr}
def iSeq (K : PySem.W.Frag) (tl : TE) : TI := fun σ H R => tl σ H fun x H1 => ∃ a, x = .ref a ∧ (((∃ xs, SqL K H1 a xs) ∧ R (Itl K a) H1) ∨ ((∃ xs, SqT K H1 a xs) ∧ R (Itt K a) H1))
theorem pi_seq {l : Expr} {tl : TE} (hl : PE X l tl) : PI X tg l (iSeq X.K tl) := by
  refine ⟨fun pins s σ H R I h => ?_⟩
  refine thn (hl.run pins s σ H _ I h) fun v s1 ⟨x, H1, I1, r1, q1⟩ => ?_
  obtain ⟨a, e, q⟩ := q1
  subst e
  cases r1
  rcases q with ⟨⟨xs, hq⟩, q⟩ | ⟨⟨xs, hq⟩, q⟩
  · obtain ⟨its, rv, p, hz⟩ := I1.list hq
    refine wpAny_pyIter_list p.isList ?_
    refine ⟨s1.heap.objs.size, [s1.heap.objs.size], _, _, H1, rfl, I1.kept (t' := s1.toks) fun b o e => Heap.get?_push_of_some _ e, turn_list a _, ⟨_, Heap.get?_push_size _ rfl, rfl, rfl⟩, fun b hb => ?_, q⟩
    have e : b = s1.heap.objs.size := by simpa using hb
    subst e
    exact I1.fpOk (Nat.le_refl _) (I1.hok.fresh (Nat.le_refl _))
  · obtain ⟨its, rv, p, hz⟩ := I1.tuple hq
    refine wpAny_pyIter_tuple (show s1.heap.IsTuple a its.toArray from p) ?_
    refine ⟨s1.heap.objs.size, [s1.heap.objs.size], _, _, H1, rfl, I1.kept (t' := s1.toks) fun b o e => Heap.get?_push_of_some _ e, turn_tuple a _, ⟨_, Heap.get?_push_size _ rfl, rfl, rfl⟩, fun b hb => ?_, q⟩
    have e : b = s1.heap.objs.size := by simpa using hb
    subst e
    exact I1.fpOk (Nat.le_refl _) (I1.hok.fresh (Nat.le_refl _))
variable {K : PySem.W.Frag} {ρ : Env} {ta : TE} {ds : List D}
theorem ei_seqL (h : EvD K ta ρ (.lst ds)) : EvI K (iSeq K ta) ρ ds := fun B Hs H σ r R q => h B Hs H σ r _ fun Hs1 H1 v g x => by
  cases x with
  | @lst p vs _ hp' xs =>
    have hp : SqL K Hs1 p vs := .of hp'
    refine ⟨p, rfl, .inl ⟨⟨vs, g.lv.sl hp⟩, q _ Hs1 H1 g fun i Hs2 H2 e1 e2 => ⟨fun d hd => ?_, fun hi => ?_⟩⟩⟩
    · have hq := (e1.trans e2).sl hp
      obtain ⟨v, hv, xv⟩ := xs.at hd
      refine ⟨⟨vs, v, hq, hv⟩, fun x H3 y => ?_⟩
      obtain ⟨rfl, y⟩ := y
      have z := y vs hq
      rw [hv] at z
      cases z
      exact ⟨Hs2, Gr.refl e2, xv.mono e1⟩
    · exact ⟨vs, (e1.trans e2).sl hp, by rw [xs.length, hi]; exact Nat.le_refl _⟩
theorem ei_seqS (h : EvD K ta ρ (.scr ds)) : EvI K (iSeq K ta) ρ ds := fun B Hs H σ r R q => h B Hs H σ r _ fun Hs1 H1 v g x => by
  cases x with
  | @scr p vs _ hp xs =>
    refine ⟨p, rfl, .inl ⟨⟨vs, g.lv.sl hp⟩, q _ Hs1 H1 g fun i Hs2 H2 e1 e2 => ⟨fun d hd => ?_, fun hi => ?_⟩⟩⟩
    · have hq := (e1.trans e2).sl hp
      obtain ⟨v, hv, xv⟩ := xs.at hd
      refine ⟨⟨vs, v, hq, hv⟩, fun x H3 y => ?_⟩
      obtain ⟨rfl, y⟩ := y
      have z := y vs hq
      rw [hv] at z
      cases z
      exact ⟨Hs2, Gr.refl e2, xv.mono e1⟩
    · exact ⟨vs, (e1.trans e2).sl hp, by rw [xs.length, hi]; exact Nat.le_refl _⟩
theorem ei_seqT (h : EvD K ta ρ (.tup ds)) : EvI K (iSeq K ta) ρ ds := fun B Hs H σ r R q => h B Hs H σ r _ fun Hs1 H1 v g x => by
  cases x with
  | @tup p vs _ hp' xs =>
    have hp := SqT_of (K := K) hp'
    refine ⟨p, rfl, .inr ⟨⟨vs, g.lv.st hp⟩, q _ Hs1 H1 g fun i Hs2 H2 e1 e2 => ⟨fun d hd => ?_, fun hi => ?_⟩⟩⟩
    · have hq := (e1.trans e2).st hp
      obtain ⟨v, hv, xv⟩ := xs.at hd
      refine ⟨⟨vs, v, hq, hv⟩, fun x H3 y => ?_⟩
      obtain ⟨rfl, y⟩ := y
      have z := y vs hq
      rw [hv] at z
      cases z
      exact ⟨Hs2, Gr.refl e2, xv.mono e1⟩
    · exact ⟨vs, (e1.trans e2).st hp, by rw [xs.length, hi]; exact Nat.le_refl _⟩
end
end DL
namespace DL
open PySem L2
variable [TbC]
/-! ### the rules whose reading names the written part, with that part given by hand (K := K) rfl -/
section
variable {X : Cx} {K : PySem.W.Frag} {tg : Expr}
theorem addK (h : X.K = K) : OpR X (binaryOp .Add) (rAddA K) := by subst h; exact op_addA
theorem eqK (h : X.K = K) (hu : X.A.units + 64 < cLine) : OpR X (compareOp .Eq) (rEqD K) := by subst h; exact op_eqD hu
theorem neK (h : X.K = K) (hu : X.A.units + 64 < cLine) : OpR X (compareOp .NotEq) (rNeD K) := by subst h; exact op_neD hu
theorem ixK (h : X.K = K) : IxR X (rIx K) := by subst h; exact ix_seq
theorem slK (h : X.K = K) : SlR X (rSlA' K) := by subst h; exact sl_A
theorem lenK (h : X.K = K) : CallR X (.builtin "len") (rLenA K) := by subst h; exact call_lenA
theorem listK (h : X.K = K) : CallR X (.type "list") (rList K) := by subst h; exact call_list_of
theorem tupleK (h : X.K = K) : CallR X (.type "tuple") (rTuple K) := by subst h; exact call_tuple_of
theorem sumK (h : X.K = K) (hc : X.calm = true) : CallR X (.builtin "sum") (rSum K) := by subst h; exact cr_sum hc
theorem allK (h : X.K = K) (hc : X.calm = true) : CallR X (.builtin "all") (rAll K) := by subst h; exact cr_all hc
theorem anyK (h : X.K = K) (hc : X.calm = true) : CallR X (.builtin "any") (rAny K) := by subst h; exact cr_any hc
theorem isiK (h : X.K = K) : CallR X (.builtin "isinstance") (rIsi K) := by subst h; exact call_isi
theorem seqK (h : X.K = K) {l : Expr} {tl : TE} (hl : PE X l tl) : PI X tg l (iSeq K tl) := by subst h; exact pi_seq hl
theorem enumK (h : X.K = K) {e : Expr} {ta : TA} {p pos tpos : Pos} {elts : List Expr} {kk : Nat} (hg : Gl X "enumerate") (hm : X.mg "enumerate" = none) (ha : PA X [e] ta) (hs : starEach [e] X.env = [(false, eval e X.env)] := by rfl) :
    PI X (.Tuple elts kk tpos) (.Call (.Name "enumerate" p) [e] [] pos) (iEnum K ta) := by subst h; exact pi_enum hg hm ha hs
theorem revK (h : X.K = K) {e : Expr} {ta : TA} {p pos : Pos} (hg : Gl X "reversed") (hm : X.mg "reversed" = none) (ha : PA X [e] ta) (hs : starEach [e] X.env = [(false, eval e X.env)] := by rfl) :
    PI X tg (.Call (.Name "reversed" p) [e] [] pos) (iRev K ta) := by subst h; exact pi_reversed hg hm ha hs
theorem gtupK (h : X.K = K) {pos : Pos} {es : List Expr} {k : Nat} {t : TGs} {n : Nat} (hc : X.calm = true) (hh : PGs X es t)
    (hn : (assignEach es X.env).length = n := by rfl) (hst : (assignEach es X.env).findIdx? (·.1) = none := by rfl) : PG X (.Tuple es k pos) (gTup K n t) := by subst h; exact pg_tup hc hh hn hst
theorem fldK (h : X.K = K) {pos : Pos} {e : Expr} {f : Str} {ta : TE} (he : PE X e ta) (hb : attributeBase e f X.env (eval e X.env) = eval e X.env) : PE X (.Attribute e f pos) (tFld K ta f) := by subst h; exact pe_fld he hb
theorem sfldK (h : X.K = K) {o value : Expr} {f : Str} {pos pos' : Pos} {ta tv : TE} (ha : PE X o ta) (hv : PE X value tv) (hs : swapsWith value (some (.Attribute o f pos')) pos.line X.env = pure false) : PS X (.Assign [.Attribute o f pos'] value pos) (sFld K ta tv f) := by
  subst h; exact ps_fld ha hv hs
section

variable {T id : String} {o e : Expr} {es : List Expr} {to : TE} {t : TA} {name : Str} {apos cpos : Pos} {r : V → List V → Hp → VK → Prop}
theorem bmK (h : X.K = K) (pa : PlainAttrs T) (slot : Slot T name id) (hty : typeOf (.builtin id) = pure (.type "method_descriptor")) (hm : MtR X id r) (ho : PE X o to) (ha : PA X (e :: es) t)
    (hbase : attributeBase o name X.env (eval o X.env) = eval o X.env := by rfl)
    (hfew : ((backTo cpos (starEach (e :: es) X.env)).all (fun x => !x.1) && (backToKw cpos (keywordEach [] X.env)).all (fun x => x.1.isSome)
      && decide ((e :: es).length + ([] : List Keyword).length + (if ([] : List Keyword).isEmpty then 0 else 1) < 30)) = true := by rfl)
    (hline : (apos.endLine == cpos.line) = true := by rfl) (hs : starEach (e :: es) X.env = (false, eval e X.env) :: starEach es X.env := by rfl) (hplain : (backTo cpos (starEach es X.env)).any (·.1) = false := by rfl) :
    PE X (.Call (.Attribute o name apos) (e :: es) [] cpos) (tBM K T r to t) := by subst h; exact pe_bm pa slot hty hm ho ha hbase hfew hline hs hplain
theorem bm0K (h : X.K = K) (pa : PlainAttrs T) (slot : Slot T name id) (hty : typeOf (.builtin id) = pure (.type "method_descriptor")) (hm : MtR X id r) (ho : PE X o to)
    (hbase : attributeBase o name X.env (eval o X.env) = eval o X.env := by rfl) (hline : (apos.endLine == cpos.line) = true := by rfl) : PE X (.Call (.Attribute o name apos) [] [] cpos) (tBM0 K T r to) := by
  subst h; exact pe_bm0 pa slot hty hm ho hbase hline
end
/-! ### o[i] = v: a list or a dict; x in c: a list or tuple of flat things, data in a list, a dict's key, a sign of a text -/
def rSetD : TSet := fun o i v H Q => ∃ a H4, o = .ref a ∧ DPut H a i v H4 ∧ Q H4
def rSetA : TSet := fun o i v H Q => rSetL o i v H Q ∨ rSetD o i v H Q
theorem set_A (hu : X.A.units + 1 < cLine) : PSet X rSetA := by
  intro pins s σ H o i v ov iv u Q I ro ri rv h
  rcases h with h | ⟨a, H4, rfl, g, q⟩
  · exact set_list pins s σ H o i v ov iv u Q I ro ri rv h
  · cases ro
    exact d_setItem hu I g ri rv fun s' I' => ⟨H4, I', q⟩
def rInDk : R2 := fun x y H Q => ∃ a o, y = .ref a ∧ DGet H a x o ∧ Q (.bl o.isSome) H
def rNotInDk : R2 := fun x y H Q => ∃ a o, y = .ref a ∧ DGet H a x o ∧ Q (.bl (!o.isSome)) H
theorem op_inDk (hu : X.A.units + 1 < cLine) : OpR X (compareOp .In) rInDk := by
  intro pins s σ H x y v u Q I rx ry h
  obtain ⟨a, o, rfl, g, q⟩ := h
  cases ry
  exact d_in hu I g rx fun s' I' => ⟨.bl _, H, I', rfl, q⟩
theorem op_notInDk (hu : X.A.units + 1 < cLine) : OpR X (compareOp .NotIn) rNotInDk := by
  intro pins s σ H x y v u Q I rx ry h
  obtain ⟨a, o, rfl, g, q⟩ := h
  cases ry
  exact d_notIn hu I g rx fun s' I' => ⟨.bl _, H, I', rfl, q⟩
def rInSg : R2 := fun x y H Q => ∃ (c : Nat) (z : Str), x = .str ⟨#[c]⟩ ∧ y = .str z ∧ Q (.bl (decide (c ∈ z.cps.toList))) H
def rNotInSg : R2 := fun x y H Q => ∃ (c : Nat) (z : Str), x = .str ⟨#[c]⟩ ∧ y = .str z ∧ Q (.bl (!decide (c ∈ z.cps.toList))) H
def rInA (K : PySem.W.Frag) : R2 := fun x y H Q => rIn K false x y H Q ∨ rInD K x y H Q ∨ rInDk x y H Q ∨ rInSg x y H Q
def rNotInA (K : PySem.W.Frag) : R2 := fun x y H Q => rIn K true x y H Q ∨ rNotInD K x y H Q ∨ rNotInDk x y H Q ∨ rNotInSg x y H Q
theorem inK (h : X.K = K) (hu : X.A.units + 65 < cLine) : OpR X (compareOp .In) (rInA K) := by subst h; exact op_in_seq.or ((op_inD hu).or ((op_inDk (by omega)).or op_in_sign))
theorem notInK (h : X.K = K) (hu : X.A.units + 65 < cLine) : OpR X (compareOp .NotIn) (rNotInA K) := by subst h; exact op_notIn_seq.or ((op_notInD hu).or ((op_notInDk (by omega)).or op_notIn_sign))
theorem hu65 {k : Nat} {A : Around} (hr : Room k A) : A.units + 65 < cLine := by have := hr.un; omega
end
section
variable {K : PySem.W.Frag} {ρ ρ' : Env} {te ti ta tb : TE} {d e : D} {ds es : List D} {tt : TT} {R : DEnds}
/-- xs[i] = e, xs the frame's own -/
theorem xs_setO {i : Nat} {k : Int} {j : Nat} (hx : ρ[i]? = some (some (.ol ds))) (h : EvD K te ρ d) (hi : EvD K ti ρ (.int k)) (hj : ixN ds.length k = some j) (q : R.nx (ρ.set i (some (.ol (ds.set j d))))) :
    ExS K (tAsg te (gSub (tVar i) ti rSetA)) ρ R := fun B Hs H σ Dn r l => by
  refine h B Hs H σ r _ fun Hs1 H1 w g y => ?_
  obtain ⟨p, vs, e, hp, x, _⟩ := (r.grow g).mutL i hx
  refine ⟨.ref p, e, hi B Hs1 H1 σ (r.grow g) _ fun Hs2 H2 z g2 z2 => ?_⟩
  cases z2
  obtain ⟨p', vs', e', hp', x', m⟩ := ((r.grow g).grow g2).mutL i hx
  rw [e] at e'
  cases e'
  refine .inl ⟨p, vs', k, j, rfl, rfl, hp', by rw [x'.length]; exact hj, ?_⟩
  exact l.nx Hs2 _ _ _ (m _ _ (x'.set (y.mono g2.sh) j)) q
end
end DL

/-! DMeth: a def of a class called off the class; a method of whichever class the object has; objects as data. -/
namespace DL
open PySem L2
variable [TbC]

/-- m of the class at C is the def at f, read off the class -/
structure CFn (K : PySem.W.Frag) (C : Addr) (m : Str) (f : Addr) : Prop where
  rd : ClX.CRead K C (.type "type")
  at_ : PySem.W.findCls K (.ref C) (.type "type") m = some (.val (.ref f))
section
variable {X : Cx} {CX : CXT} {k : Nat} {f C : Addr} {fd : FuncData} {ps : List Str} {sp : Sp} {dvs : List V} {ds : List Value} {E : XK} {m : Str} {pos apos : Pos} {e o : Expr} {es : List Expr} {ta : TE} {t : TA} {pl : Sem Bool}
/-- C.m(e, ..) -/
theorem pe_ccall (he : PE X o (tC (.ref C))) (r : CFn X.K C m f) (F : FnOk X.prog X.w X.K X.mg X.base CX k f fd ps sp) (hr : Room k X.A) (hk : PySem.W.keepIn X.K (.ref f) = true) (hb : Binds X.K fd ps ds) (hd : Vals dvs ds) (hx : Passes CX X E) (ha : PA X (e :: es) t)
    (hst : starEach (e :: es) X.env = (false, eval e X.env) :: starEach es X.env := by rfl) (hpl : (backTo pos (starEach es X.env)).any (·.1) = false := by rfl)
    (ht : eval (.Call (.Attribute o m apos) (e :: es) [] pos) X.env = (do
      let ov ← eval o X.env
      standAt apos.atName
      let (f, first) ← holding [ov] (getMethod ov m pl)
      callWith pos f first (backTo pos (starEach (e :: es) X.env)) (backToKw pos (keywordEach [] X.env))) := by rfl) :
    PE X (.Call (.Attribute o m apos) (e :: es) [] pos) (tCall sp dvs E t) := by
  refine ⟨fun pins s σ H Q I h => ?_⟩
  refine PySem.W.methodCall_KW (pl := pl) (thn (he.run pins s σ H (fun v H1 => v = .ref C ∧ tCall sp dvs E t σ H1 Q) I ⟨rfl, h⟩) fun u s1 ⟨x, H1, I1, rx, ex, q⟩ => ?_) ht
  subst ex
  obtain rfl : u = Value.ref C := rx
  refine PySem.W.method_cls I1.kIn r.rd.ga (PySem.W.cls_value I1.kIn r.rd.rd r.at_ rfl ?_)
  refine PySem.W.callWith_K (first := []) (h₀ := X.base) I1.ok.mod.kin hk (thn (ha.run pos pins _ σ H1 _ (I1.tok _) q) fun us s2 ⟨vs, H2, I2, rv, q2⟩ => ⟨I2.kIn, ?_⟩) hst hpl
  exact run_fn F hr hb hd hx I2 rv q2

/-- the classes that an object may have, each with what its method m promises -/
inductive Alts (X : Cx) (CX : CXT) (k : Nat) (m : Str) : List (Addr × Sp) → Prop
  | nil : Alts X CX k m []
  | cons {C f : Addr} {fd : FuncData} {ps : List Str} {sp : Sp} {r : List (Addr × Sp)} {j : Nat} (hj : j ≤ k) (c : Cls X.K C) (hm : Meth X.K C m f) (F : FnOk X.prog X.w X.K X.mg X.base CX j f fd ps sp) (hb : Binds X.K fd ps []) (h : Alts X CX k m r) : Alts X CX k m ((C, sp) :: r)
theorem Alts.get {alts : List (Addr × Sp)} (h : Alts X CX k m alts) : ∀ {C : Addr} {sp : Sp}, (C, sp) ∈ alts → ∃ f fd ps, Cls X.K C ∧ Meth X.K C m f ∧ FnOk X.prog X.w X.K X.mg X.base CX k f fd ps sp ∧ Binds X.K fd ps [] := by
  induction h with
  | nil => intro C sp h; cases h
  | cons hj c hm F hb _ ih =>
    intro C sp h
    rcases List.mem_cons.mp h with e | e
    · cases e
      exact ⟨_, _, _, c, hm, F.mono hj, hb⟩
    · exact ih e
/-- o.m(..), o of one of these classes -/
def tMethD (alts : List (Addr × Sp)) (m : Str) (E : XK) (ta : TE) (t : TA) : TE := fun σ H Q => ta σ H fun x H1 => ∃ a C dx fs sp, x = .ref a ∧ H1 a = some (.ins C dx fs) ∧ (C, sp) ∈ alts ∧ fs.lookup m = none ∧
  t σ H1 fun vs H2 => sp (x :: vs) H2 Q E
theorem pe_methD {alts : List (Addr × Sp)} (he : PE X o ta) (al : Alts X CX k m alts) (hr : Room k X.A) (hx : Passes CX X E) (ha : PA X (e :: es) t)
    (hst : starEach (e :: es) X.env = (false, eval e X.env) :: starEach es X.env := by rfl) (hpl : (backTo pos (starEach es X.env)).any (·.1) = false := by rfl)
    (ht : eval (.Call (.Attribute o m apos) (e :: es) [] pos) X.env = (do
      let ov ← eval o X.env
      standAt apos.atName
      let (f, first) ← holding [ov] (getMethod ov m pl)
      callWith pos f first (backTo pos (starEach (e :: es) X.env)) (backToKw pos (keywordEach [] X.env))) := by rfl) :
    PE X (.Call (.Attribute o m apos) (e :: es) [] pos) (tMethD alts m E ta t) := by
  refine ⟨fun pins s σ H Q I h => ?_⟩
  refine PySem.W.methodCall_KW (pl := pl) (thn (he.run pins s σ H _ I h) fun u s1 ⟨x, H1, I1, rx, a, C, dx, fs, sp, ex, ea, hin, l, q⟩ => ?_) ht
  subst ex
  obtain rfl : u = Value.ref a := rx
  obtain ⟨f, fd, ps, c, hm, F, hb⟩ := al.get hin
  refine getmeth_ok I1 ea c hm l ?_
  refine PySem.W.callWith_K (first := [.ref a]) (h₀ := X.base) I.ok.mod.kin hm.kp (thn (ha.run pos pins s1 σ H1 _ I1 q) fun us s2 ⟨vs, H2, I2, r, q2⟩ => ⟨I2.kIn, ?_⟩) hst hpl
  exact run_fn (us := .ref a :: us) (vs := .ref a :: vs) (dvs := []) F hr hb .nil hx I2 (.cons rfl r) (by rw [List.append_nil]; exact q2)
theorem pe_methD0 {alts : List (Addr × Sp)} (he : PE X o ta) (al : Alts X CX k m alts) (hr : Room k X.A) (hx : Passes CX X E)
    (ht : eval (.Call (.Attribute o m apos) [] [] pos) X.env = (do
      let ov ← eval o X.env
      standAt apos.atName
      let (f, first) ← holding [ov] (getMethod ov m pl)
      callWith pos f first (backTo pos (starEach [] X.env)) (backToKw pos (keywordEach [] X.env))) := by rfl) :
    PE X (.Call (.Attribute o m apos) [] [] pos) (tMethD alts m E ta tNil) := by
  refine ⟨fun pins s σ H Q I h => ?_⟩
  refine PySem.W.methodCall_KW (pl := pl) (thn (he.run pins s σ H _ I h) fun u s1 ⟨x, H1, I1, rx, a, C, dx, fs, sp, ex, ea, hin, l, q⟩ => ?_) ht
  subst ex
  obtain rfl : u = Value.ref a := rx
  obtain ⟨f, fd, ps, c, hm, F, hb⟩ := al.get hin
  refine getmeth_ok I1 ea c hm l ?_
  exact PySem.W.callWith_K0 (first := [.ref a]) I1.kIn hm.kp (run_fn (us := [.ref a]) (vs := [.ref a]) (dvs := []) F hr hb .nil hx I1 (.cons rfl .nil) q)
end

/-! ### on deep data -/
section
variable {K : PySem.W.Frag} {ρ ρ' : Env} {te ta tb : TE} {d e : D} {ds es : List D} {tt : TT} {R : DEnds} {C : Addr} {ns : List Str}
theorem look_zip {H : Hp} : ∀ {ns : List Str} {vs : List V} {ds : List D} {f : Str} {d : D}, RepL K H vs ds → (ns.zip ds).lookup f = some d → ∃ v, (ns.zip vs).lookup f = some v ∧ Rep K H v d
  | [], _, _, _, _, _, h => by simp at h
  | n :: ns, _, _, f, d, .nil, h => by simp at h
  | n :: ns, _, _, f, d, .cons (v := v) (d := d0) hv r, h => by
    rw [List.zip_cons_cons, List.lookup_cons] at h ⊢
    cases e : (f == n) with
    | true =>
      rw [e] at h
      have h' := Option.some.inj h
      subst h'
      exact ⟨v, rfl, hv⟩
    | false =>
      rw [e] at h
      exact look_zip r h
theorem look_none : ∀ {ns : List Str} {vs : List V} {m : Str}, ns.contains m = false → (ns.zip vs).lookup m = none
  | [], _, _, _ => by simp
  | n :: ns, [], _, _ => by simp
  | n :: ns, v :: vs, m, h => by
    rw [List.contains_cons, Bool.or_eq_false_iff] at h
    rw [List.zip_cons_cons, List.lookup_cons, h.1]
    exact look_none h.2
theorem ev_fld {f : Str} (h : EvD K ta ρ (.obj C ns ds)) (hc : Cls K C) (hn : NoAttr K C f) (hl : (ns.zip ds).lookup f = some d) : EvD K (tFld K ta f) ρ d := fun B Hs H σ r Q q =>
  h B Hs H σ r _ fun Hs1 H1 v g x => by
    cases x with
    | @obj a _ dx _ vs _ ha xs =>
      obtain ⟨w, h1, h2⟩ := look_zip xs hl
      exact ⟨a, C, dx, _, w, rfl, g.lv _ _ ha, hc, hn, h1, q Hs1 H1 w g h2⟩
theorem ev_methD {alts : List (Addr × Sp)} {m : Str} {E : XK} {t : TA} {α : Type} {pre : α → Prop} {arg : α → List D} {res : α → D} (x : α) (h : EvD K ta ρ (.obj C ns ds)) (ht : EvA K t ρ es) (hin : (C, spG K pre arg res) ∈ alts) (hm : ns.contains m = false)
    (ha : arg x = .obj C ns ds :: es) (p : pre x) : EvD K (tMethD alts m E ta t) ρ (res x) := fun B Hs H σ r Q q =>
  h B Hs H σ r _ fun Hs1 H1 v g1 xo => by
    cases xo with
    | @obj a _ dx _ vs _ hp xs =>
      refine ⟨a, C, dx, _, _, rfl, g1.lv _ _ hp, hin, look_none hm, ht B Hs1 H1 σ (r.grow g1) _ fun Hs2 H2 ws g2 ys => ?_⟩
      refine ⟨Hs2, x, ⟨g2.lv, (r.grow (g1.trans g2)).tb⟩, by rw [ha]; exact .cons (.obj (g2.sh _ _ hp) (xs.mono g2.sh)) ys, p, fun Hs' H' w d g y e => ?_⟩
      exact q Hs' H' w ((g1.trans g2).trans g) (e ▸ y)
theorem ef_methD {alts : List (Addr × Sp)} {m : Str} {E : XK} {t : TA} {α : Type} {pre : α → Prop} {arg : α → List D} {res : α → List D} (x : α) (h : EvD K ta ρ (.obj C ns ds)) (ht : EvA K t ρ es) (hin : (C, spF K pre arg res) ∈ alts) (hm : ns.contains m = false)
    (ha : arg x = .obj C ns ds :: es) (p : pre x) : EvF K (tMethD alts m E ta t) ρ (res x) := fun B Hs H σ r Q q =>
  h B Hs H σ r _ fun Hs1 H1 v g1 xo => by
    cases xo with
    | @obj a _ dx _ vs _ hp xs =>
      refine ⟨a, C, dx, _, _, rfl, g1.lv _ _ hp, hin, look_none hm, ht B Hs1 H1 σ (r.grow g1) _ fun Hs2 H2 ws g2 ys => ?_⟩
      refine ⟨Hs2, x, ⟨g2.lv, (r.grow (g1.trans g2)).tb⟩, by rw [ha]; exact .cons (.obj (g2.sh _ _ hp) (xs.mono g2.sh)) ys, p, fun Hs' H' l zs g n n2 e y => ?_⟩
      have gg := (g1.trans g2).trans g
      refine q Hs' H' l zs gg ?_ n2 e y
      exact ((g1.trans g2).new0 n).1
/-- a new instance: __init__ leaves it with the fields fs of the arguments' values -/
def spMk (C : Addr) (n : Nat) (fs : List V → List (Str × V)) (ok : PySem.W.Frag → List V → Hp → Prop) (K : PySem.W.Frag) : Sp := fun vs H Q _ => ∃ (p dx : Addr) (ws : List V), vs = .ref p :: ws ∧ ws.length = n ∧ H p = some (.ins C dx []) ∧ ok K ws H ∧ Q .non (upd H p (.ins C dx (fs ws)))
theorem ev_make {n : Nat} {fs : List V → List (Str × V)} {ok : PySem.W.Frag → List V → Hp → Prop} {E : XK} {t : TA} (h : EvA K t ρ ds) (hn : ds.length = n) (hok : ∀ Hs H ws, RepL K Hs ws ds → Ex Hs H → ok K ws H)
    (hf : ∀ Hs ws, RepL K Hs ws ds → ∃ vs, fs ws = ns.zip vs ∧ RepL K Hs vs es) : EvD K (tMake C (spMk C n fs ok K) [] E t) ρ (.obj C ns es) := fun B Hs H σ r Q q =>
  h B Hs H σ r _ fun Hs1 H1 ws g1 xs => fun x dx hx hdx ne => by
    rw [List.append_nil]
    have nx : Hs1 x = none := (gr_none (Gr.refl g1.lv) hx).2
    have ndx : Hs1 dx = none := (gr_none (Gr.refl g1.lv) hdx).2
    have hx2 : upd H1 dx (.own x) x = none := by rw [upd_ne (Ne.symm ne)]; exact hx
    have ex : Ex Hs1 (upd (upd H1 dx (.own x)) x (.ins C dx [])) := fun a o e => by
      rw [upd_ne (fun z => by rw [z, nx] at e; cases e), upd_ne (fun z => by rw [z, ndx] at e; cases e)]
      exact g1.lv a o e
    refine ⟨x, dx, ws, rfl, by rw [xs.length]; exact hn, upd_same, hok Hs1 _ ws xs ex, rfl, ?_⟩
    obtain ⟨vs, e1, y⟩ := hf Hs1 ws xs
    rw [upd_upd, e1]
    have ga : Gr Hs1 H1 H1 Hs1 (upd H1 dx (.own x)) := Gr.newO g1.lv hdx
    have gb := Gr.new (o := .ins C dx (ns.zip vs)) ga.lv hx2
    exact q _ _ _ ((g1.trans ga).trans gb) (.obj upd_same (y.mono (Ex.new nx)))
end
end DL

/-! DRange: list(range(a, b)) however great the bounds are. -/
namespace PySem
open Sem (wp)
open AutoSeq1 (wpAny_loadPart')
namespace LR
abbrev nm : String := "longrange_iterator"
theorem ownL : Manifest.owners.lookup (String.ofList ['r', 'o', 't', 'a', 'r', 'e', 't', 'i', '_', 'e', 'g', 'n', 'a', 'r', 'g', 'n', 'o', 'l'].reverse) = some Manifest.sig_longrange_iterator := by kernel_rfl
theorem slotNext : Slot nm "__next__" "longrange_iterator.__next__" := .of (owner := nm) (n := "__next__") (by rw [typeLookup_type, builtinLookup_eq_fast]; kernel_rfl) (by decide +kernel) (by decide +kernel) (by decide +kernel) (by first | exact .inl (by decide +kernel) | exact .inr (by decide +kernel)) (by rw [isSubtype_type]; kernel_rfl)
theorem slotIter : Slot nm "__iter__" "longrange_iterator.__iter__" := .of (owner := nm) (n := "__iter__") (by rw [typeLookup_type, builtinLookup_eq_fast]; kernel_rfl) (by decide +kernel) (by decide +kernel) (by decide +kernel) (by first | exact .inl (by decide +kernel) | exact .inr (by decide +kernel)) (by rw [isSubtype_type]; kernel_rfl)
theorem entNext : entryFor table "longrange_iterator.__next__" = some Builtin.«longrange_iterator.__next__» := entryFor_of_tree (by kernel_rfl)
theorem entIter : entryFor table "longrange_iterator.__iter__" = some Builtin.«dict_keyiterator.__iter__» := entryFor_alias (id' := "dict_keyiterator.__iter__") (by kernel_rfl) (by first | rfl | decide +kernel | (unfold String.splitOn; simp +decide [String.splitOnAux])) (by decide +kernel) (by kernel_rfl)
theorem argNext (x : Value) : argsOk "longrange_iterator.__next__" ⟨[x], []⟩ := by
  unfold argsOk; rw [signature?_of (id := "longrange_iterator.__next__") (n := ['_', '_', 't', 'x', 'e', 'n', '_', '_']) (o := ['r', 'o', 't', 'a', 'r', 'e', 't', 'i', '_', 'e', 'g', 'n', 'a', 'r', 'g', 'n', 'o', 'l']) (by kernel_rfl) ownL]; kernel_rfl
theorem argIter (x : Value) : argsOk "longrange_iterator.__iter__" ⟨[x], []⟩ := by
  unfold argsOk; rw [signature?_of (id := "longrange_iterator.__iter__") (n := ['_', '_', 'r', 'e', 't', 'i', '_', '_']) (o := ['r', 'o', 't', 'a', 'r', 'e', 't', 'i', '_', 'e', 'g', 'n', 'a', 'r', 'g', 'n', 'o', 'l']) (by kernel_rfl) ownL]; kernel_rfl
theorem boundNext {i : Addr} : bound "longrange_iterator.__next__" ⟨[.ref i], []⟩ = pure #[some (.ref i)] := by
  kernel_rfl
/-- a long iterator: the next number, how many are left, the step -/
abbrev Is (h : Heap) (i : Addr) (x n c : Int) : Prop := h.get? i = some { cls := .type nm, dict := none, data := .fields #[rawInt x, rawInt n, rawInt c], slots := #[] }
theorem nextMeets (i : Addr) (x n c : Int) (h0 : ¬n ≤ 0) : Meets (Builtin.«longrange_iterator.__next__» ⟨[.ref i], []⟩) (fun _ R s => Is s.heap i x n c ∧ R (.ok (.ret (Value.int x s.toks))) { s with heap := (s.heap.update i (Obj.mapFields fun z => z.setIfInBounds 0 (rawInt (x + c)))).update i (Obj.mapFields fun z => z.setIfInBounds 1 (rawInt (n - 1))), toks := s.toks + 1 }) :=
  .of_wp fun prog w A R s h => by obtain ⟨hp, g, d, tk, os⟩ := s; obtain ⟨hl, h⟩ := h; wp_walk; exact ⟨_, rfl, h⟩
section
variable {prog : Program} {w : World} {A : Around} {E : Value → Shared → Prop} {s : Shared} {i : Addr} {x n c : Int}
theorem item {Q : Option Value → Shared → Prop} (z : Is s.heap i x n c) (pos : 0 < n) (q : ∀ h', Is h' i (x + c) (n - 1) c → Heap.SameBut i s.heap h' → Q (some (.int x s.toks)) { s with heap := h', toks := s.toks + 1 }) : wpAny (model prog w) A (pyNext (.ref i)) Q E s := by
  have ty : s.TypeIs (.ref i) nm := ⟨_, z, rfl⟩
  unfold pyNext
  refine wpAny_bind (wpAny_attempt (wpAny_callSpecial?_slot (name := Str.ofString "__next__") ty slotNext (call_meets slotNext ty entNext (argNext _) (nextMeets i x n c (by omega)) ⟨z, ?_⟩)))
  exact wpAny_pure (q _ (Heap.get?_update_self _ (Heap.get?_update_self _ z rfl) rfl) ((Heap.SameBut.update ..).trans (Heap.SameBut.update ..)))
theorem fin {Q : Option Value → Shared → Prop} (hh : A.handled = none) (z : Is s.heap i x n c) (neg : n ≤ 0) (q : ∀ h', Heap.ExtBut i s.heap h' → Q none { s with heap := h' }) : wpAny (model prog w) A (pyNext (.ref i)) Q E s := by
  have ty : s.TypeIs (.ref i) nm := ⟨_, z, rfl⟩
  unfold pyNext
  refine wpAny_bind (wpAny_attempt (wpAny_callSpecial?_slot (name := Str.ofString "__next__") ty slotNext (wpAny_call_entry slotNext ty entNext ?_ (argNext _))))
  refine wpAny_bind (m := bound "longrange_iterator.__next__" ⟨[.ref i], []⟩) (wpAny_of_eq (a := #[some (.ref i)]) boundNext ?_)
  refine wpAny_bind (m := Builtin.Iterators_pickling.intField _ (.ref i) 0) (wpAny_bind (wpAny_field z rfl (x := rawInt x) rfl (wpAny_pure ?_)))
  refine wpAny_bind (m := Builtin.Iterators_pickling.intField _ (.ref i) 1) (wpAny_bind (wpAny_field z rfl (x := rawInt n) rfl (wpAny_pure ?_)))
  refine wpAny_bind (m := Builtin.Iterators_pickling.intField _ (.ref i) 2) (wpAny_bind (wpAny_field z rfl (x := rawInt c) rfl (wpAny_pure ?_)))
  show wpAny _ _ (if n ≤ 0 then _ else _) _ _ s
  rw [if_pos neg]
  refine wpAny_bind (wpAny_rule (wpAny_bind ?_))
  show wpAny _ _ (newExc (.type "StopIteration") [] >>= _) _ _ s
  refine wpAny_bind ?_
  simp only [newExc, newTuple]
  refine wpAny_bind (wpAny_newObj_type ?_ (by size_fits))
  refine wpAny_bind (m := firstArgMember _ _) (wpAny_of_eq (a := Value.none) (by first | rfl | (simp only [firstArgMember]; rfl)) (wpAny_newObj_type ?_ (by size_fits)))
  simp only [raiseNew]
  refine wpAny_pure ?_
  refine wpAny_bind (wpAny_bind (wpAny_handled ?_))
  first | rw [show A.in1.handled = none from hh] | rw [hh]
  refine (wpAny_throw (wpAny_bind (wpAny_isInstance (T := "StopIteration") (b := true) ⟨_, Heap.get?_push_size _ rfl, rfl⟩ isSubtype_stop ?_)))
  exact wpAny_pure (q _ (((Heap.ExtBut.refl i s.heap).push _).push _))
theorem own {Q : Value → Shared → Prop} (z : Is s.heap i x n c) (q : Q (.ref i) s) : wpAny (model prog w) A (pyIter (.ref i)) Q E s := by
  have ty : s.TypeIs (.ref i) nm := ⟨_, z, rfl⟩
  refine wpAny_pyIter_slot ty slotIter (wpAny_call_entry slotIter ty entIter (show wpAny _ _ (ret (.ref i)) _ _ s from ?_) (argIter _))
  exact wpAny_pure ⟨_, rfl, nm, _, ty, slotNext.lookup, q⟩
theorem iter {r : Addr} {a b : Int} {t u v : Tok} {Q : Value → Shared → Prop} (z : IsRange s.heap r a b c t u v) (big : ¬ Builtin.Range.small a b c = true)
    (q : Q (.ref s.heap.objs.size) { s with heap := s.heap.push { cls := .type nm, data := .fields #[rawInt a, rawInt (Builtin.Range.rangeSize a b c), rawInt c] } }) : wpAny (model prog w) A (pyIter (.ref r)) Q E s := by
  have ty : s.TypeIs (.ref r) "range" := ⟨_, z, rfl⟩
  refine wpAny_pyIter_slot ty F.slot_range_iter (call_meets F.slot_range_iter ty F.entry_range_iter (F.args_range_iter_1 _) (AutoRange.range___iter___range_0 r a b c t u v (by unfold Builtin.Range.small at big; rw [Bool.not_eq_true] at big; rw [big]; rfl)) ⟨z, ?_⟩)
  unfold Builtin.Range.small at big
  simp only [big, Bool.false_eq_true, if_false]
  exact ⟨nm, _, ⟨_, Heap.get?_push_size _ rfl, rfl⟩, slotNext.lookup, q⟩
end
theorem walks {prog : Program} {w : World} {A : Around} (hh : A.handled = none) (i : Addr) (a c : Int) (n : Nat) :
    Walks prog w A i [i] [i] n (fun k v => ∃ t, v = .int (a + k * c) t) (fun k h => Is h i (a + (k : Nat) * c) ((n : Int) - (k : Nat)) c) where
  sub := fun _ z => z
  frame := fun _ _ _ st z => z i (by simp) _ st
  item := fun k s Q E lt st q => by
    refine item st (by omega) fun h' z' y' => q _ h' _ ⟨_, rfl⟩ ?_ fun b o nb e => y'.extBut b o (fun h => nb (by simp [h])) e
    have e1 : a + ((k + 1 : Nat) : Int) * c = a + (k : Int) * c + c := by push_cast; rw [Int.add_mul, Int.one_mul, Int.add_assoc]
    have e2 : (n : Int) - ((k + 1 : Nat) : Int) = (n : Int) - (k : Int) - 1 := by push_cast; omega
    rw [e1, e2]; exact z'
  done := fun s Q E st q => fin hh st (by omega) fun h' e' => q h' s.toks fun b o nb e => e' b o (fun h => nb (by simp [h])) e
  self := fun _ _ _ _ st q => own st q
section
variable {prog : Program} {w : World} {A : Around} {E : Value → Shared → Prop} {s : Shared} {r : Addr} {a b c : Int} {t u v : Tok} {n : Nat}
abbrev Got (a c : Int) (n : Nat) (acc : Array Value) : Prop := ItemsOf (fun i v => ∃ t, v = .int (a + i * c) t) acc n
theorem extend {R : Result → Shared → Prop} (hh : A.handled = none) (z : IsRange s.heap r a b c t u v) (big : ¬ Builtin.Range.small a b c = true) (en : Builtin.Range.rangeSize a b c = n) (few : n ≤ 2 ^ 24) (S : Addr) (res : Value) (c₀ : Nat) (yS : s.heap.get? S = some { cls := .type "list", data := .seq #[] c₀ })
    (q : ∀ h' tk acc' c', (∀ b o, b ≠ S → s.heap.get? b = some o → h'.get? b = some o) → h'.get? S = some { cls := .type "list", dict := none, data := .seq acc' c', slots := #[] } → Got a c n acc' → R (.ok (.ret res)) { s with heap := h', toks := tk }) :
    wpAny (model prog w) A.in1 (Builtin.List.listExtendWith (.ref S) (.ref r) res) (fun fin s' => match fin with | .done f => R (.ok f) s' | .again c' => c'.quiet = true ∧ codeAny (model prog w) A c' R s') (fun e s' => R (.error e) s') s := by
  have nSr : S ≠ r := fun e => by rw [e, z] at yS; simp at yS
  have lS : S < s.heap.objs.size := Heap.lt_size yS
  have nSI : S ≠ s.heap.objs.size := Nat.ne_of_lt lS
  have nSf : S ∉ [s.heap.objs.size] := fun m => nSI (List.mem_singleton.mp m)
  have W := (walks (prog := prog) (w := w) (A := A.in1) hh s.heap.objs.size a c n).toS
  have key : ∀ (h : Heap) (c₁ tk : Nat), Is h s.heap.objs.size (a + ((0 : Nat) : Int) * c) ((n : Int) - ((0 : Nat) : Int)) c → (∀ b o, b ≠ S → s.heap.get? b = some o → h.get? b = some o) →
      h.get? S = some { cls := .type "list", data := .seq #[] c₁ } → codeAny (model prog w) A (.builtin "list.extend.loop" ⟨[.ref S, .ref s.heap.objs.size, res], []⟩) R { s with heap := h, toks := tk } := by
    intro h c₁ tk y1 hk y2
    refine codeAny_extend_loopS W (by rw [sizeLine_eq]; omega) S nSf res n 0 _ #[] c₁ rfl (Nat.zero_le _) y1 y2 (ItemsOf.nil _) fun s' acc' c' m y3 g => ?_
    rw [Moved.eq_with m]
    refine q s'.heap s'.toks acc' c' (fun b o nb e => m.heap b o (fun mm => ?_) (hk b o nb e)) y3 g
    rcases List.mem_cons.mp mm with e' | mm
    · exact nb e'
    · exact absurd (Heap.lt_size e) (by rw [List.mem_singleton.mp mm]; exact Nat.lt_irrefl _)
  unfold Builtin.List.listExtendWith
  refine wpAny_bind (wpAny_typeOf (T := "range") ⟨_, z, rfl⟩ ?_)
  have n1 : Builtin.List.listSameRef (.ref S) (.ref r) = false := by simp [Builtin.List.listSameRef, nSr]
  have n2 : (Value.type "range" == Value.type "list") = false := by decide
  have n3 : (Value.type "range" == Value.type "tuple") = false := by decide
  simp only [n1, n2, n3, Bool.or_false, Bool.false_eq_true, if_false]
  refine wpAny_bind (iter z big ?_)
  refine wpAny_bind (wpAny_holding (wpAny_hint_range (n := n) (Heap.get?_push_of_some _ z) en few ?_))
  have y1 : Is (s.heap.push { cls := .type nm, data := .fields #[rawInt a, rawInt (Builtin.Range.rangeSize a b c), rawInt c] }) s.heap.objs.size (a + ((0 : Nat) : Int) * c) ((n : Int) - ((0 : Nat) : Int)) c := by
    show Is _ _ _ _ _; rw [en]; simpa using Heap.get?_push_size _ rfl
  have y2 := Heap.get?_push_of_some { cls := .type nm, data := .fields #[rawInt a, rawInt (Builtin.Range.rangeSize a b c), rawInt c] } yS
  refine wpAny_ite_split (fun _ => ?_) (fun _ => wpAny_pure ⟨plainId_quiet F.plain_extend_loop _, key _ c₀ _ y1 (fun b o _ e => Heap.get?_push_of_some _ e) y2⟩)
  refine wpAny_bind (wpAny_rule (wpAny_bind ?_))
  show wpAny _ _ (updateSeq S (·.push .none) >>= fun _ => updateSeq S (·.pop)) _ _ _
  refine wpAny_bind (wpAny_updateSeq y2 rfl ?_)
  have y3 := Heap.get?_update_self (Obj.mapSeq (·.push Value.none)) y2 rfl
  refine wpAny_updateSeq (hz := by seq_fits) y3 rfl ?_
  have y4 := Heap.get?_update_self (Obj.mapSeq (·.pop)) y3 rfl
  refine wpAny_pure ⟨plainId_quiet F.plain_extend_loop _, key _ _ _ ?_ (fun b o nb e => ?_) y4⟩
  · exact (Heap.get?_update_other _ _ nSI).trans ((Heap.get?_update_other _ _ nSI).trans y1)
  · exact (Heap.get?_update_other _ _ (Ne.symm nb)).trans ((Heap.get?_update_other _ _ (Ne.symm nb)).trans (Heap.get?_push_of_some _ e))
theorem init {R : Result → Shared → Prop} (hh : A.handled = none) (z : IsRange s.heap r a b c t u v) (big : ¬ Builtin.Range.small a b c = true) (en : Builtin.Range.rangeSize a b c = n) (few : n ≤ 2 ^ 24) (S : Addr) (yS : s.heap.get? S = some { cls := .type "list", data := .seq #[] })
    (q : ∀ h' tk acc' c', (∀ b o, b ≠ S → s.heap.get? b = some o → h'.get? b = some o) → h'.get? S = some { cls := .type "list", dict := none, data := .seq acc' c', slots := #[] } → Got a c n acc' → R (.ok (.ret .none)) { s with heap := h', toks := tk }) :
    wpAny (model prog w) A.in1 (Builtin.«list.__init__» ⟨[.ref S, .ref r], []⟩) (fun fin s' => match fin with | .done f => R (.ok f) s' | .again c' => c'.quiet = true ∧ codeAny (model prog w) A c' R s') (fun e s' => R (.error e) s') s := by
  have nSr : S ≠ r := fun e => by rw [e, z] at yS; simp at yS
  show wpAny _ _ (do let old ← Builtin.List.listItems (.ref S); Builtin.List.listUpdate (.ref S) (fun _ => #[]); letGo old.toList.reverse; Builtin.List.listExtendWith (.ref S) (.ref r) .none) _ _ s
  refine wpAny_bind ?_
  unfold Builtin.List.listItems
  refine wpAny_bind (wpAny_seqItems yS rfl (wpAny_pure ?_))
  show wpAny _ _ (updateSeq S (fun _ => #[]) >>= fun _ => letGo (#[] : Array Value).toList.reverse >>= fun _ => Builtin.List.listExtendWith (.ref S) (.ref r) .none) _ _ s
  refine wpAny_bind (wpAny_updateSeq yS rfl ?_)
  have y2 := Heap.get?_update_self (Obj.mapSeq (fun _ => (#[] : Array Value))) yS rfl
  have oth : ∀ b o, b ≠ S → s.heap.get? b = some o → (s.heap.update S (Obj.mapSeq (fun _ => (#[] : Array Value)))).get? b = some o := fun b o nb e => (Heap.get?_update_other _ _ (Ne.symm nb)).trans e
  refine wpAny_bind (wpAny_letGo (extend hh (oth r _ (Ne.symm nSr) z) big en few S .none _ y2 fun h' tk acc' c' hk y3 g => ?_))
  exact q h' tk acc' c' (fun b o nb e => hk b o nb (oth b o nb e)) y3 g
theorem call_big {Q : Value → Shared → Prop} (hh : A.handled = none) (z : IsRange s.heap r a b c t u v) (big : ¬ Builtin.Range.small a b c = true) (en : Builtin.Range.rangeSize a b c = n) (few : n ≤ 2 ^ 24)
    (q : ∀ h' tk acc' c', (∀ b o, s.heap.get? b = some o → h'.get? b = some o) → h'.get? s.heap.objs.size = some { cls := .type "list", dict := none, data := .seq acc' c', slots := #[] } → Got a c n acc' → Q (.ref s.heap.objs.size) { s with heap := h', toks := tk }) :
    wpAny (model prog w) A (call (.type "list") [.ref r]) Q E s := by
  refine callType_codes (Q₁ := fun obj s₁ => obj = .ref s.heap.objs.size ∧ s₁ = { s with heap := s.heap.push { cls := .type "list", data := .seq #[] } }) F.called_list (F.typeCall_list_1 _) F.entry_list_init (code_list_new _ ⟨rfl, rfl⟩) fun obj s₁ h₁ => ?_
  obtain ⟨rfl, rfl⟩ := h₁
  have yS : (s.heap.push { cls := .type "list", data := .seq #[] }).get? s.heap.objs.size = some { cls := .type "list", data := .seq #[] } := Heap.get?_push_size _ rfl
  refine ⟨⟨_, yS, rfl⟩, F.args_list_init_2 _ _, init (A := A.in1) hh (Heap.get?_push_of_some _ z) big en few _ yS fun h' tk acc' c' hk y2 g => ?_⟩
  exact ⟨rfl, q h' tk acc' c' (fun b o e => hk b o (Nat.ne_of_lt (Heap.lt_size e)) (Heap.get?_push_of_some _ e)) y2 g⟩
/-- list(range(..)) of few numbers -/
theorem call_any {Q : Value → Shared → Prop} (hh : A.handled = none) (z : IsRange s.heap r a b c t u v) (en : Builtin.Range.rangeSize a b c = n) (few : n ≤ 2 ^ 24)
    (q : ∀ h' tk acc' c', (∀ b o, s.heap.get? b = some o → h'.get? b = some o) → h'.get? s.heap.objs.size = some { cls := .type "list", dict := none, data := .seq acc' c', slots := #[] } → Got a c n acc' → Q (.ref s.heap.objs.size) { s with heap := h', toks := tk }) :
    wpAny (model prog w) A (call (.type "list") [.ref r]) Q E s := by
  by_cases hs : Builtin.Range.small a b c = true
  · exact call_list_range hh z hs en few q
  · exact call_big hh z hs en few q
end
end LR
end PySem
namespace DL
open PySem L2 PyProof.Rows
variable [TbC]
section
variable {X : Cx} {e : Expr} {te : L2.St → Hp → (Int → Int → Hp → Prop) → Prop}
def tLstR (te : L2.St → Hp → (Int → Int → Hp → Prop) → Prop) : TE := fun σ H Q => te σ H fun a b H1 => (b - a).toNat ≤ 100000 ∧ ∀ q, H1 q = none → Q (.ref q) (upd H1 q (.lst (rgV a b)))
theorem pe_listR {p pos : Pos} (hc : X.calm = true) (hg : Gl X "list") (hm : X.mg "list" = none) (he : PRg X e te) (na : starEach [e] X.env = (false, eval e X.env) :: starEach [] X.env := by rfl) : PE X (.Call (.Name "list" p) [e] [] pos) (tLstR te) := by
  refine ⟨fun pins s σ H Q I h => ?_⟩
  refine Call_ (ld_blt I hg hm boot_list (PyProof.Rows.callWith_type1 (args_cons (thn (he pins s σ H _ I h) fun x s1 ⟨r, a, b, t, u, v, H1, ex, hr, I1, few, q⟩ => args_nil ?_) na) na))
  subst ex
  refine LR.call_any (n := (b - a).toNat) (I1.ok.hd hc) hr (rangeSize_nat a b) (Nat.le_trans few (by decide)) fun h' tk acc c' hk e' hi => ?_
  refine ⟨.ref s1.heap.objs.size, upd H1 s1.heap.objs.size (.lst (rgV a b)), I1.laid hk (Nat.le_refl _) ?_, rfl, q _ (I1.hok.fresh (Nat.le_refl _))⟩
  refine show ObjOk X.prog X.w _ _ _ (.lst (rgV a b)) from ⟨?_, acc.toList, c', vals_rg hi, by rw [Array.toArray_toList]; exact e'⟩
  rw [rgV_length, sizeLine_eq]
  omega
variable {K : PySem.W.Frag} {ρ : Env} {ta tb : TE}
theorem rgV_rep {H : Hp} (a b : Int) : RepL K H (rgV a b) (rng a (b - a).toNat) := by
  unfold rng
  have key : ∀ l : List Nat, RepL K H (l.map fun i : Nat => V.int (a + (i : Int))) (l.map fun i : Nat => D.int (a + (i : Int))) := by
    intro l
    induction l with
    | nil => exact .nil
    | cons x l ih => exact .cons (.int _) ih
  exact key _
theorem ef_listR2 {a b : Int} (ha : EvD K ta ρ (.int a)) (hb : EvD K tb ρ (.int b)) (hn : (b - a).toNat ≤ 100000) : EvF K (tLstR (tRg2 ta tb)) ρ (rng a (b - a).toNat) := fun B Hs H σ r Q q =>
  ha B Hs H σ r _ fun Hs1 H1 x g1 x1 => hb B Hs1 H1 σ (r.grow g1) _ fun Hs2 H2 y g2 y2 => by
    cases x1
    cases y2
    refine ⟨a, b, rfl, rfl, hn, fun l hl => ?_⟩
    have g := g1.trans g2
    obtain ⟨n1, n2⟩ := gr_none g hl
    exact q Hs2 _ l _ (g.trans (Gr.newO g2.lv hl)) n1 n2 upd_same (rgV_rep a b)
theorem ef_listR1 {b : Int} (hb : EvD K tb ρ (.int b)) (hn : b.toNat ≤ 100000) : EvF K (tLstR (tRg1 tb)) ρ (rng 0 b.toNat) := fun B Hs H σ r Q q =>
  hb B Hs H σ r _ fun Hs2 H2 y g2 y2 => by
    cases y2
    refine ⟨b, rfl, by rw [Int.sub_zero]; exact hn, fun l hl => ?_⟩
    obtain ⟨n1, n2⟩ := gr_none g2 hl
    have z := rgV_rep (K := K) (H := Hs2) 0 b
    rw [Int.sub_zero] at z
    exact q Hs2 _ l _ (g2.trans (Gr.newO g2.lv hl)) n1 n2 upd_same z
end
end DL
namespace DL
open PySem L2
variable [TbC]
theorem small_pos {lo hi c : Int} (h0 : 0 ≤ lo) (h1 : lo ≤ 1000000000000) (h2 : 0 ≤ hi) (h3 : hi ≤ 1000000000000) (h4 : 0 < c) (h5 : c ≤ 1000000000) : Builtin.Range.small lo hi c = true := by
  unfold Builtin.Range.small Builtin.Range.rangeFitsLong Builtin.Range.rangeSize
  have d0 : 0 ≤ (hi - lo - 1) / c ∨ ¬ lo < hi := by
    by_cases h : lo < hi
    · exact Or.inl (Int.ediv_nonneg (by omega) (by omega))
    · exact Or.inr h
  have d1 : (hi - lo - 1) / c ≤ 1000000000000 := Int.ediv_le_of_le_mul h4 (by
    have : (1000000000000 : Int) * 1 ≤ 1000000000000 * c := Int.mul_le_mul_of_nonneg_left (by omega) (by omega)
    omega)
  rw [if_pos h4]
  by_cases h : lo < hi
  · have d0' : 0 ≤ (hi - lo - 1) / c := Int.ediv_nonneg (by omega) (by omega)
    rw [if_pos h, if_pos h4]
    simp only [Bool.and_eq_true, Bool.or_eq_true, decide_eq_true_eq]
    omega
  · rw [if_neg h]
    simp only [Bool.and_eq_true, Bool.or_eq_true, decide_eq_true_eq, beq_iff_eq]
    refine ⟨⟨⟨⟨by omega, by omega⟩, by omega⟩, by omega⟩, Or.inl trivial⟩
/-- range(lo, hi, c), upwards -/
theorem rgc_pos {lo hi c : Int} (h0 : 0 ≤ lo) (h1 : lo ≤ 1000000000000) (h2 : 0 ≤ hi) (h3 : hi ≤ 1000000000000) (h4 : 0 < c) (h5 : c ≤ 1000000000) : RgC lo hi c (if lo < hi then (hi - lo - 1) / c + 1 else 0).toNat := by
  refine ⟨by omega, by omega, small_pos h0 h1 h2 h3 h4 h5, ?_⟩
  unfold Builtin.Range.rangeSize
  rw [if_pos h4]
  by_cases h : lo < hi
  · have d0' : 0 ≤ (hi - lo - 1) / c := Int.ediv_nonneg (by omega) (by omega)
    rw [if_pos h]
    omega
  · rw [if_neg h]
    rfl
theorem rngC_get {lo c : Int} {n i : Nat} {d : D} (h : (rngC lo c n)[i]? = some d) : i < n ∧ d = .int (lo + (i : Int) * c) := by
  unfold rngC at h
  rw [List.getElem?_map] at h
  obtain ⟨j, e1, e2⟩ := Option.map_eq_some_iff.mp h
  obtain ⟨hl, e3⟩ := List.getElem?_eq_some_iff.mp e1
  rw [List.length_range] at hl
  rw [List.getElem_range] at e3
  subst e3
  exact ⟨hl, e2.symm⟩
theorem rngC_length (lo c : Int) (n : Nat) : (rngC lo c n).length = n := by unfold rngC; rw [List.length_map, List.length_range]
/-- a place in a short written list of numbers -/
theorem atI2 {a b i : Int} (h0 : 0 ≤ i) (h1 : i < 2) : atI [D.int a, D.int b] i = some (.int ([a, b].getD i.toNat 0)) := atI_int (xs := [a, b]) h0 h1
theorem atI3 {a b c i : Int} (h0 : 0 ≤ i) (h1 : i < 3) : atI [D.int a, D.int b, D.int c] i = some (.int ([a, b, c].getD i.toNat 0)) := atI_int (xs := [a, b, c]) h0 h1
theorem atI4 {a b c d i : Int} (h0 : 0 ≤ i) (h1 : i < 4) : atI [D.int a, D.int b, D.int c, D.int d] i = some (.int ([a, b, c, d].getD i.toNat 0)) := atI_int (xs := [a, b, c, d]) h0 h1
theorem int4 {i : Int} (h0 : 0 ≤ i) (h1 : i < 4) : i = 0 ∨ i = 1 ∨ i = 2 ∨ i = 3 := by omega
theorem int3 {i : Int} (h0 : 0 ≤ i) (h1 : i < 3) : i = 0 ∨ i = 1 ∨ i = 2 := by omega
end DL
namespace DL
open PySem L2
variable [TbC]
/-- a, a + 1, .., n of them -/
def span (a n : Int) : List Int := (List.range n.toNat).map fun i : Nat => a + (i : Int)
theorem span_length (a n : Int) : (span a n).length = n.toNat := by unfold span; rw [List.length_map, List.length_range]
theorem rng_span (a n : Int) : rng a n.toNat = (span a n).map D.int := by
  unfold rng span
  rw [List.map_map]
  rfl
theorem rng_to (a b n : Int) (h : b = a + n) : rng a (b - a).toNat = (span a n).map D.int := by
  rw [h, show a + n - a = n by omega]
  exact rng_span a n
theorem span_get {a n : Int} {k : Nat} {x : Int} (h : (span a n)[k]? = some x) : a ≤ x ∧ x < a + n ∧ x = a + (k : Int) := by
  unfold span at h
  rw [List.getElem?_map] at h
  obtain ⟨j, e1, e2⟩ := Option.map_eq_some_iff.mp h
  obtain ⟨hl, e3⟩ := List.getElem?_eq_some_iff.mp e1
  rw [List.length_range] at hl
  rw [List.getElem_range] at e3
  subst e3
  omega
theorem span_mem {a n x : Int} : x ∈ span a n ↔ a ≤ x ∧ x < a + n := by
  unfold span
  rw [List.mem_map]
  constructor
  · rintro ⟨i, h1, rfl⟩
    have := List.mem_range.mp h1
    omega
  · rintro ⟨h1, h2⟩
    exact ⟨(x - a).toNat, List.mem_range.mpr (by omega), by omega⟩
section
variable {K : PySem.W.Frag} {ρ : Env} {te : TE} {ds : List D}
/-- a comprehension over numbers a .. a + n - 1 -/
theorem ef_lcR {a n : Int} {w : Int → D} {wi : TI} {g : TG} {vs : List Nat} {m : Nat} (h : EvI K wi ρ (rng a m)) (hm : m = n.toNat) (hz : n ≤ 50000)
    (hs : ∀ x : Int, a ≤ x → x < a + n → ∃ ρ2, EvGc K g (.int x) (wD ρ vs) ρ2 vs ∧ EvD K te ρ2 (w x)) : EvF K (tLc wi g tYes te vs) ρ ((span a n).map w) := by
  subst hm
  exact ef_lc0 (span a n) D.int w rfl (h.is (rng_span a n)) (by rw [span_length]; omega) fun k x hk => hs x (span_get hk).1 (span_get hk).2.1
end
end DL
namespace DL
open PySem L2
variable [TbC]
section
variable {K : PySem.W.Frag} {ρ : Env} {ta : TE} {α : Type} {f : α → D} {xs : List α}
theorem ev_lenM (ha : EvB K ta ρ (xs.map f)) : EvD K (tCB (rLenA K) (tCons ta tNil)) ρ (.int (xs.length : Int)) := (ev_lenLA ha).is (by rw [List.length_map])
theorem ev_lenMT (ha : EvD K ta ρ (.tup (xs.map f))) : EvD K (tCB (rLenA K) (tCons ta tNil)) ρ (.int (xs.length : Int)) := (ev_lenTA ha).is (by rw [List.length_map])
end
end DL

/-! DMore: short circuits, texts, tuples, sorted pairs, own lists emptied. -/
namespace DL
open PySem L2
variable [TbC]
section
variable {K : PySem.W.Frag} {ρ ρ' : Env} {te ti ta tb : TE} {d e : D} {ds es : List D} {tt tu : TT} {R : DEnds} {b : Bool}
theorem et_orT (h : EvT K tt ρ true) : EvT K (tOr tt tu) ρ true := et_or (b := true) h fun z => nomatch z
theorem et_orF (h : EvT K tt ρ false) (h2 : EvT K tu ρ b) : EvT K (tOr tt tu) ρ b := et_or h fun _ => h2
theorem et_andF (h : EvT K tt ρ false) : EvT K (tAnd tt tu) ρ false := et_and (b := true) h fun z => nomatch z
theorem et_andT (h : EvT K tt ρ true) (h2 : EvT K tu ρ b) : EvT K (tAnd tt tu) ρ b := et_and h fun _ => h2
theorem ev_orT (h : EvD K ta ρ (.bl true)) : EvD K (tOrV ta tb) ρ (.bl true) := ev_or (b := true) h fun z => nomatch z
theorem ev_orF (h : EvD K ta ρ (.bl false)) (h2 : EvD K tb ρ (.bl b)) : EvD K (tOrV ta tb) ρ (.bl b) := ev_or h fun _ => h2
theorem ev_andF (h : EvD K ta ρ (.bl false)) : EvD K (tAndV ta tb) ρ (.bl false) := ev_and (b := true) h fun z => nomatch z
theorem ev_andT (h : EvD K ta ρ (.bl true)) (h2 : EvD K tb ρ (.bl b)) : EvD K (tAndV ta tb) ρ (.bl b) := ev_and h fun _ => h2
theorem ev_ifT (h : EvT K tt ρ true) (h1 : EvD K ta ρ d) : EvD K (tIf tt ta tb) ρ d := ev_if h (fun _ => h1) fun z => nomatch z
theorem ev_ifF (h : EvT K tt ρ false) (h1 : EvD K tb ρ d) : EvD K (tIf tt ta tb) ρ d := ev_if h (fun z => nomatch z) fun _ => h1
/-! ### texts -/
theorem str_eqv (x y : Str) : PyData.eqv (D.str x).pd (D.str y).pd = decide (x = y) := by
  show (x == y) = _
  rw [Bool.beq_eq_decide_eq]
theorem ev_eqS {x y : Str} (ha : EvD K ta ρ (.str x)) (hb : EvD K tb ρ (.str y)) (fx : (D.str x).fit = true) (fy : (D.str y).fit = true) : EvD K (tOp (rEqD K) ta tb) ρ (.bl (decide (x = y))) := (ev_eq ha.r hb.r fx fy).is (by rw [str_eqv])
theorem ev_neS {x y : Str} (ha : EvD K ta ρ (.str x)) (hb : EvD K tb ρ (.str y)) (fx : (D.str x).fit = true) (fy : (D.str y).fit = true) : EvD K (tOp (rNeD K) ta tb) ρ (.bl (!decide (x = y))) := (ev_ne ha.r hb.r fx fy).is (by rw [str_eqv])
/-! ### tuples -/
theorem cutD_all (lo hi : Option Int) (h : HT.sIx ds.length 0 lo = 0 ∧ HT.sIx ds.length ds.length hi = ds.length) : cutD ds lo hi = ds := by
  unfold cutD
  rw [h.1, h.2, List.drop_zero, Nat.sub_zero, List.take_length]
theorem ev_slT {tl th : TO} {lo hi : Option Int} (ha : EvD K ta ρ (.tup ds)) (hl : EvO K tl ρ lo) (hh : EvO K th ρ hi) : EvD K (tSl (rSlA' K) ta tl th) ρ (.tup (cutD ds lo hi)) := fun B Hs H σ r Q q =>
  ha B Hs H σ r _ fun Hs1 H1 x g1 x1 => hl B Hs1 H1 σ (r.grow g1) _ fun Hs2 H2 g2 => hh B Hs2 H2 σ ((r.grow g1).grow g2) _ fun Hs3 H3 g3 => by
    cases x1 with
    | @tup p vs _ hp xs =>
      have g := (g1.trans g2).trans g3
      have hp3 : Hs3 p = some (.tup vs) := g3.sh _ _ (g2.sh _ _ hp)
      refine .inr ⟨p, vs, rfl, .of (g3.lv _ _ hp3), fun hf => ?_, fun hf l hn => ?_⟩
      · have e := cutD_all (ds := ds) lo hi (by rw [← xs.length]; exact hf)
        exact q Hs3 H3 _ g (by rw [e]; exact .tup hp3 (xs.mono (g2.sh.trans g3.sh)))
      · obtain ⟨n1, n2⟩ := gr_none g hn
        exact q _ _ _ (g.trans (Gr.new g3.lv hn)) (.tup upd_same (((xs.mono (g2.sh.trans g3.sh)).cut lo hi).mono (Ex.new n2)))
theorem ev_addT (ha : EvD K ta ρ (.tup ds)) (hb : EvD K tb ρ (.tup es)) (hl : ds.length + es.length ≤ 100000) : EvD K (tOp (rAddA K) ta tb) ρ (.tup (ds ++ es)) := fun B Hs H σ r Q q =>
  ha B Hs H σ r _ fun Hs1 H1 x g1 x1 => hb B Hs1 H1 σ (r.grow g1) _ fun Hs2 H2 y g2 y1 => by
    cases x1 with
    | @tup p vs _ hp xs =>
      cases y1 with
      | @tup p2 ws _ hp2 ys =>
        have g := g1.trans g2
        have hp' : Hs2 p = some (.tup vs) := g2.sh _ _ hp
        refine .inr (.inr (.inl ⟨p, p2, vs, ws, rfl, rfl, .of (g2.lv _ _ hp'), .of (g2.lv _ _ hp2), by rw [xs.length, ys.length]; exact sz_of hl, fun hf => ?_, fun _ hf => ?_, fun _ _ l hn => ?_⟩))
        · subst hf
          cases xs
          exact q Hs2 H2 _ g (.tup hp2 ys)
        · subst hf
          cases ys
          exact q Hs2 H2 _ g (by rw [List.append_nil]; exact .tup hp' (xs.mono g2.sh))
        · obtain ⟨n1, n2⟩ := gr_none g hn
          exact q _ _ _ (g.trans (Gr.new g2.lv hn)) (.tup upd_same (((xs.mono g2.sh).append ys).mono (Ex.new n2)))
/-- == and != with () -/
theorem ev_eqNT {xs : List D} (ha : EvR K ta ρ (.tup xs)) (hb : EvR K tb ρ (.tup [])) (fx : (D.tup xs).fit = true) : EvD K (tOp (rEqD K) ta tb) ρ (.bl xs.isEmpty) := (ev_eq ha hb fx rfl).is (by
  cases xs <;> rfl)
theorem ev_neNT {xs : List D} (ha : EvR K ta ρ (.tup xs)) (hb : EvR K tb ρ (.tup [])) (fx : (D.tup xs).fit = true) : EvD K (tOp (rNeD K) ta tb) ρ (.bl (!xs.isEmpty)) := (ev_ne ha hb fx rfl).is (by
  cases xs <;> rfl)
/-! ### int(True), divmod -/
abbrev rInt1 : List V → Hp → VK → Prop := fun xs H Q => (∃ i, xs = [V.int i] ∧ Q (.int i) H) ∨ ∃ k, xs = [V.bl k] ∧ Q (.int (if k then 1 else 0)) H
theorem ev_intI {i : Int} (ha : EvD K ta ρ (.int i)) : EvD K (tCB rInt1 (tCons ta tNil)) ρ (.int i) := fun B Hs H σ r Q q =>
  ha B Hs H σ r _ fun Hs1 H1 v g x => by
    cases x
    exact .inl ⟨i, rfl, q Hs1 H1 _ g (.int _)⟩
theorem ev_intB {k : Bool} (ha : EvD K ta ρ (.bl k)) : EvD K (tCB rInt1 (tCons ta tNil)) ρ (.int (if k then 1 else 0)) := fun B Hs H σ r Q q =>
  ha B Hs H σ r _ fun Hs1 H1 v g x => by
    cases x
    exact .inr ⟨k, rfl, q Hs1 H1 _ g (.int _)⟩
abbrev rDivmod : List V → Hp → VK → Prop := fun xs H Q => ∃ i j : Int, xs = [V.int i, V.int j] ∧ CDiv i j ∧ ∀ p, H p = none → Q (.ref p) (upd H p (.tup [V.int (i / j), V.int (i % j)]))
theorem ev_divmod {i j : Int} (ha : EvD K ta ρ (.int i)) (hb : EvD K tb ρ (.int j)) (hc : CDiv i j) : EvD K (tCB rDivmod (tCons ta (tCons tb tNil))) ρ (.tup [.int (i / j), .int (i % j)]) := fun B Hs H σ r Q q =>
  ha B Hs H σ r _ fun Hs1 H1 v g1 x => hb B Hs1 H1 σ (r.grow g1) _ fun Hs2 H2 w g2 y => by
    cases x
    cases y
    refine ⟨i, j, rfl, hc, fun p hn => ?_⟩
    have g := g1.trans g2
    obtain ⟨n1, n2⟩ := gr_none g hn
    exact q _ _ _ (g.trans (Gr.new g2.lv hn)) (.tup upd_same (.cons (.int _) (.cons (.int _) .nil)))
/-! ### xs[::-1] -/
theorem ef_rev (ha : EvB K ta ρ ds) : EvF K (tRevL K ta) ρ ds.reverse := fun B Hs H σ r Q q =>
  ha B Hs H σ r _ fun Hs1 H1 p vs g hp xs => ⟨p, vs, rfl, hp, fun l hn => by
    obtain ⟨n1, n2⟩ := gr_none g hn
    exact q Hs1 _ l _ (g.trans (Gr.newO g.lv hn)) n1 n2 upd_same xs.rev⟩
/-! ### sorted of pairs of numbers: some arrangement -/
theorem perm_reps {H : Hp} : ∀ {vs ws : List V}, ws.Perm vs → ∀ {ds : List D}, RepL K H vs ds → ∃ es, es.Perm ds ∧ RepL K H ws es := by
  intro vs ws hp
  induction hp with
  | nil => intro ds h; cases h; exact ⟨[], .nil, .nil⟩
  | cons x _ ih =>
    intro ds h
    cases h with
    | cons a b =>
      obtain ⟨es, p, r⟩ := ih b
      exact ⟨_ :: es, p.cons _, .cons a r⟩
  | swap x y l =>
    intro ds h
    cases h with
    | cons a b =>
      cases b with
      | cons c d => exact ⟨_, List.Perm.swap _ _ _, .cons c (.cons a d)⟩
  | trans _ _ ih1 ih2 =>
    intro ds h
    obtain ⟨es, p, r⟩ := ih2 h
    obtain ⟨fs, p2, r2⟩ := ih1 r
    exact ⟨fs, p2.trans p, r2⟩
theorem xs_sortP {i : Nat} {ps : List (Int × Int)} (ha : EvB K ta ρ (ps.map fun x => D.tup [.int x.1, .int x.2])) (q : ∀ qs : List (Int × Int), qs.Perm ps → R.nx (ρ.set i (some (.ol (qs.map fun x => D.tup [.int x.1, .int x.2]))))) :
    ExS K (tAsg (tCB (rSortedP K) (tCons ta tNil)) (gName i)) ρ R := fun B Hs H σ Dn r l =>
  ha B Hs H σ r _ fun Hs1 H1 p vs g hp xs => by
    refine ⟨p, vs, rfl, hp, fun x m => ?_, fun ys p2 pm hn => ?_⟩
    · obtain ⟨j, hj⟩ := List.mem_iff_getElem?.mp m
      obtain ⟨d, hd, rd⟩ := xs.get hj
      rw [List.getElem?_map] at hd
      obtain ⟨z, _, rfl⟩ := Option.map_eq_some_iff.mp hd
      cases rd with
      | @tup t ws _ ht rs =>
        have e := RepL.ints (ns := [z.1, z.2]) rs
        subst e
        exact ⟨t, z.1, z.2, rfl, g.lv _ _ ht⟩
    · obtain ⟨es, pe, re⟩ := perm_reps pm xs
      obtain ⟨n1, n2⟩ := gr_none g hn
      have key : ∀ {es ds : List D}, es.Perm ds → ∀ ps : List (Int × Int), ds = ps.map (fun x => D.tup [.int x.1, .int x.2]) → ∃ qs : List (Int × Int), qs.Perm ps ∧ es = qs.map fun x => D.tup [.int x.1, .int x.2] := by
        intro es ds hp
        induction hp with
        | nil =>
          intro ps e
          cases ps with
          | nil => exact ⟨[], .nil, rfl⟩
          | cons _ _ => cases e
        | cons x _ ih =>
          intro ps e
          cases ps with
          | nil => cases e
          | cons a ps =>
            have e1 := (List.cons.inj e).1
            obtain ⟨qs, h1, h2⟩ := ih ps (List.cons.inj e).2
            exact ⟨a :: qs, h1.cons _, by rw [e1, h2]; rfl⟩
        | swap x y l =>
          intro ps e
          match ps, e with
          | a :: b :: ps, e =>
            have e1 := (List.cons.inj e).1
            have e2 := (List.cons.inj (List.cons.inj e).2).1
            have e3 := (List.cons.inj (List.cons.inj e).2).2
            exact ⟨b :: a :: ps, List.Perm.swap _ _ _, by rw [e1, e2, e3]; rfl⟩
        | trans _ _ ih1 ih2 =>
          intro ps e
          obtain ⟨qs, h1, h2⟩ := ih2 ps e
          obtain ⟨rs, h3, h4⟩ := ih1 qs h2
          exact ⟨rs, h3.trans h1, h4⟩
      obtain ⟨qs, h1, rfl⟩ := key pe ps rfl
      exact l.nx _ _ _ _ (r.setO (g.trans (Gr.newO g.lv hn)) i n1 upd_same n2 re) (q qs h1)
/-! ### own lists -/
/-- xs.clear() -/
theorem xs_clear {i : Nat} (hx : ρ[i]? = some (some (.ol ds))) (q : R.nx (ρ.set i (some (.ol [])))) : ExS K (tDrop (tBM0 K "list" rClear (tVar i))) ρ R := fun B Hs H σ Dn r l => by
  obtain ⟨p, vs, e, hp, x, m⟩ := r.mutL i hx
  refine ⟨.ref p, e, .inl ⟨rfl, _, .of hp⟩, p, vs, rfl, rfl, hp, ?_⟩
  exact l.nx Hs _ _ _ (m _ _ .nil) q
/-- an own list comes back as a new one -/
theorem xs_retV {i : Nat} (hi : ρ[i]? = some (some (.ol ds))) (q : R.rf ds) : ExS K (tRet (tVar i)) ρ R := fun B Hs H σ Dn r l => by
  obtain ⟨S, h1, h2, h3, h4⟩ := id r.reg
  obtain ⟨v, hv, p, vs, e1, e2, x⟩ := h1 i _ hi
  subst e1
  have hp : S i p = some (.lst vs) := by rw [e2]; exact if_pos rfl
  exact ⟨.ref p, hv, l.rf Hs H p vs ds r.gr (h4 i _ p hi rfl (by rw [hp]; exact fun z => nomatch z)) (h2 i p _ hp).2.1 (h2 i p _ hp).1 x q⟩
/-- what follows is shown once, whatever way came ahead -/
theorem xs_cut {ts us : TS} (I : Env → Prop) (h1 : ExS K ts ρ { R with nx := I }) (h2 : ∀ ρ', I ρ' → ExS K us ρ' R) : ExS K (tSeq ts us) ρ R := fun B Hs H σ Dn r l =>
  h1 B Hs H σ _ r ⟨fun Hs' H' σ' ρ' r' q => h2 ρ' q B Hs' H' σ' Dn r' l, l.rt, l.rf, l.bk, l.ct, l.ro, l.ex, l.rn⟩
/-- a value of which only something is known -/
theorem xs_asgR {α : Type} {pre : α → Prop} {arg : α → List D} {post : α → D → Prop} {E : XK} {ta : TA} {i : Nat} (x : α) (h : EvA K ta ρ (arg x)) (p : pre x) (q : ∀ d, post x d → R.nx (ρ.set i (some (.sh d)))) :
    ExS K (tAsg (tCall (spR K pre arg post) [] E ta) (gName i)) ρ R := fun B Hs H σ Dn r l =>
  h B Hs H σ r _ fun Hs1 H1 vs g1 xs => by
    rw [List.append_nil]
    exact ⟨Hs1, x, ⟨g1.lv, (r.grow g1).tb⟩, xs, p, fun Hs' H' v d g y e => l.nx Hs' H' _ _ ((r.grow (g1.trans g)).set i y) (q d e)⟩
theorem xs_retR {α : Type} {pre : α → Prop} {arg : α → List D} {post : α → D → Prop} {E : XK} {ta : TA} (x : α) (h : EvA K ta ρ (arg x)) (p : pre x) (q : ∀ d, post x d → R.rt d) :
    ExS K (tRet (tCall (spR K pre arg post) [] E ta)) ρ R := fun B Hs H σ Dn r l =>
  h B Hs H σ r _ fun Hs1 H1 vs g1 xs => by
    rw [List.append_nil]
    exact ⟨Hs1, x, ⟨g1.lv, (r.grow g1).tb⟩, xs, p, fun Hs' H' v d g y e => l.rt Hs' H' v d (r.gr.trans (g1.trans g)) y (q d e)⟩
theorem ev_lenS1 {α : Type} {f : α → D} {xs : List α} {d : D} (ha : EvB K ta ρ (xs.map f ++ [d])) : EvD K (tCB (rLenA K) (tCons ta tNil)) ρ (.int ((xs.length : Int) + 1)) := (ev_lenLA ha).is (by simp)
/-! ### in -/
theorem inV_ints (i : Int) : ∀ xs : List Int, inV (.int i) (xs.map V.int) = decide (i ∈ xs)
  | [] => rfl
  | x :: xs => by
    have ih := inV_ints i xs
    unfold inV at ih ⊢
    rw [List.map_cons, List.any_cons, ih]
    by_cases h : x = i
    · subst h
      simp [eqV]
    · have h2 : (x == i) = false := by simpa using h
      have h3 : ¬ i = x := fun z => h z.symm
      simp [eqV, h2, h3]
theorem ev_inI {i : Int} {xs : List Int} (ha : EvD K ta ρ (.int i)) (hb : EvB K tb ρ (xs.map D.int)) : EvD K (tOp (rInA K) ta tb) ρ (.bl (decide (i ∈ xs))) := fun B Hs H σ r Q q =>
  ha B Hs H σ r _ fun Hs1 H1 x g1 x1 => hb B Hs1 H1 σ (r.grow g1) _ fun Hs2 H2 p vs g2 hp ys => by
    cases x1
    have e := ys.ints
    subst e
    refine .inl ⟨p, xs.map V.int, rfl, .inl hp, rfl, by simp [flatV], ?_⟩
    rw [if_neg (by decide), inV_ints]
    exact q Hs2 H2 _ (g1.trans g2) (.bl _)
theorem ev_notInI {i : Int} {xs : List Int} (ha : EvD K ta ρ (.int i)) (hb : EvB K tb ρ (xs.map D.int)) : EvD K (tOp (rNotInA K) ta tb) ρ (.bl (!decide (i ∈ xs))) := fun B Hs H σ r Q q =>
  ha B Hs H σ r _ fun Hs1 H1 x g1 x1 => hb B Hs1 H1 σ (r.grow g1) _ fun Hs2 H2 p vs g2 hp ys => by
    cases x1
    have e := ys.ints
    subst e
    refine .inl ⟨p, xs.map V.int, rfl, .inl hp, rfl, by simp [flatV], ?_⟩
    rw [if_pos rfl, inV_ints]
    exact q Hs2 H2 _ (g1.trans g2) (.bl _)
/-- in a list of data of a kind -/
theorem any_cod {α : Type} [DecidableEq α] {n : Nat} {f : α → D} (c : Cod n f) (x : α) : ∀ xs : List α, (D.pds (xs.map f)).any (fun z => PyData.eqv z (f x).pd) = decide (x ∈ xs)
  | [] => rfl
  | y :: ys => by
    have ih := any_cod c x ys
    show (PyData.eqv (f y).pd (f x).pd || (D.pds (ys.map f)).any fun z => PyData.eqv z (f x).pd) = _
    rw [ih, c.eq]
    by_cases h : y = x
    · subst h
      simp
    · have h3 : ¬ x = y := fun z => h z.symm
      simp [h, h3]
theorem ev_inC {α : Type} [DecidableEq α] {n : Nat} {f : α → D} (c : Cod n f) (hn : n < 64) {x : α} {xs : List α} (ha : EvR K ta ρ (f x)) (hb : EvR K tb ρ (.lst (xs.map f))) : EvD K (tOp (rInA K) ta tb) ρ (.bl (decide (x ∈ xs))) := fun B Hs H σ r Q q =>
  ha B Hs H σ r _ fun Hs1 H1 x g1 x1 => hb B Hs1 H1 σ (r.grow g1) _ fun Hs2 H2 y g2 y1 => by
    have f1 := c.fit (by omega) ‹α›
    have f2 := c.lst.fit (by omega) xs
    unfold D.fit at f1 f2
    rw [Bool.and_eq_true] at f1 f2
    refine .inr (.inl ⟨_, _, (x1.monoN g2.fr).dp f1.1, y1.dp f2.1, f1.2, f2.2, ?_⟩)
    rw [any_cod c]
    exact q Hs2 H2 _ (g1.trans g2) (.bl _)
/-! ### the same data on both sides -/
mutual
theorem D.eqv_refl : ∀ d : D, PyData.eqv d.pd d.pd = true
  | .non => rfl
  | .bl b => by show (b == b) = true; exact beq_self_eq_true b
  | .int i => by show (i == i) = true; exact beq_self_eq_true i
  | .str s => by rw [str_eqv]; exact decide_eq_true rfl
  | .ty _ => rfl
  | .fn _ => rfl
  | .clo _ _ _ => rfl
  | .lst xs => D.eqv_refls xs
  | .scr xs => D.eqv_refls xs
  | .tup xs => D.eqv_refls xs
  | .obj _ _ _ => rfl
theorem D.eqv_refls : ∀ ds : List D, PyData.eqvAll (D.pds ds) (D.pds ds) = true
  | [] => rfl
  | d :: ds => by
    show (PyData.eqv d.pd d.pd && PyData.eqvAll (D.pds ds) (D.pds ds)) = true
    rw [D.eqv_refl d, D.eqv_refls ds]
    rfl
end
structure Ft (n : Nat) (d : D) : Prop where
  pl : d.pl = true
  lay : d.pd.canLay0 = true
  dp : d.pd.depth ≤ n
theorem Ft.fit {n : Nat} {d : D} (f : Ft n d) (hn : n ≤ 64) : d.fit = true := by
  unfold D.fit SeqAt.shaped
  have h2 : decide (d.pd.depth ≤ 64) = true := decide_eq_true (Nat.le_trans f.dp hn)
  rw [f.pl, f.lay, h2]
  rfl
theorem Ft.up {n m : Nat} {d : D} (f : Ft n d) (h : n ≤ m) : Ft m d := ⟨f.pl, f.lay, Nat.le_trans f.dp h⟩
theorem ft_int (i : Int) : Ft 0 (.int i) := ⟨rfl, rfl, Nat.le_refl _⟩
theorem ft_bl (i : Bool) : Ft 0 (.bl i) := ⟨rfl, rfl, Nat.le_refl _⟩
theorem ft_non : Ft 0 .non := ⟨rfl, rfl, Nat.le_refl _⟩
theorem ft_str {x : Str} (h : (D.str x).pd.canLay0 = true) : Ft 0 (.str x) := ⟨rfl, h, Nat.le_refl _⟩
theorem ft_alls {n : Nat} : ∀ ds : List D, (∀ d ∈ ds, Ft n d) → D.pls ds = true ∧ PyData.canLayAll0 (D.pds ds) = true ∧ PyData.depthAll (D.pds ds) ≤ n
  | [], _ => ⟨rfl, rfl, Nat.zero_le _⟩
  | d :: ds, h => by
    obtain ⟨h1, h2, h3⟩ := ft_alls ds fun x hx => h x (List.mem_cons_of_mem _ hx)
    have f := h d List.mem_cons_self
    refine ⟨?_, ?_, ?_⟩
    · show (D.pl d && D.pls ds) = true
      rw [f.pl, h1]
      rfl
    · show (PyData.canLay0 d.pd && PyData.canLayAll0 (D.pds ds)) = true
      rw [f.lay, h2]
      rfl
    · have := f.dp
      show PyData.depthAll (d.pd :: D.pds ds) ≤ n
      simp only [PyData.depthAll]
      omega
theorem ft_tup {n : Nat} {ds : List D} (h : ∀ d ∈ ds, Ft n d) : Ft (n + 1) (.tup ds) := by
  obtain ⟨h1, h2, h3⟩ := ft_alls ds h
  refine ⟨h1, h2, ?_⟩
  show PyData.depthAll (D.pds ds) + 1 ≤ n + 1
  omega
theorem ft_lst {n : Nat} {ds : List D} (h : ∀ d ∈ ds, Ft n d) : Ft (n + 1) (.lst ds) := by
  obtain ⟨h1, h2, h3⟩ := ft_alls ds h
  refine ⟨h1, h2, ?_⟩
  show PyData.depthAll (D.pds ds) + 1 ≤ n + 1
  omega
theorem ft_ints (xs : List Int) : Ft 1 (.lst (xs.map .int)) := ft_lst fun d h => by
  obtain ⟨i, _, rfl⟩ := List.mem_map.mp h
  exact ft_int i
theorem ft_tints (xs : List Int) : Ft 1 (.tup (xs.map .int)) := ft_tup fun d h => by
  obtain ⟨i, _, rfl⟩ := List.mem_map.mp h
  exact ft_int i
theorem ev_eqX {d : D} (ha : EvR K ta ρ d) (hb : EvR K tb ρ d) (f : d.fit = true) : EvD K (tOp (rEqD K) ta tb) ρ (.bl true) := (ev_eq ha hb f f).is (by rw [D.eqv_refl])
theorem ev_neX {d : D} (ha : EvR K ta ρ d) (hb : EvR K tb ρ d) (f : d.fit = true) : EvD K (tOp (rNeD K) ta tb) ρ (.bl false) := (ev_ne ha hb f f).is (by rw [D.eqv_refl]; rfl)
/-- stretches of a .. a + n - 1 -/
theorem span_take (a n : Int) (m : Nat) : (span a n).take m = span a (min (m : Int) n) := by
  unfold span
  rw [← List.map_take, List.take_range]
  congr 2
  omega
theorem span_drop (a n : Int) (m : Nat) : (span a n).drop m = span (a + m) (n - m) := by
  unfold span
  apply List.ext_getElem
  · simp only [List.length_drop, List.length_map, List.length_range]
    omega
  · intro i h1 h2
    simp only [List.getElem_drop, List.getElem_map, List.getElem_range]
    omega
theorem filter_perm {α : Type} (p : α → Bool) : ∀ xs : List α, (xs.filter p ++ xs.filter fun x => !p x).Perm xs
  | [] => .nil
  | x :: xs => by
    have ih := filter_perm p xs
    cases h : p x with
    | true =>
      rw [List.filter_cons_of_pos h, List.filter_cons_of_neg (by simp [h])]
      exact ih.cons x
    | false =>
      rw [List.filter_cons_of_neg (by simp [h]), List.filter_cons_of_pos (by simp [h])]
      exact List.perm_middle.trans (ih.cons x)
theorem get_span {α : Type} (xs : List α) (d : α) : (span 0 (xs.length : Int)).map (fun k => xs.getD k.toNat d) = xs := by
  unfold span
  rw [List.map_map]
  apply List.ext_getElem
  · simp
  · intro i h1 h2
    simp only [List.getElem_map, List.getElem_range, Function.comp_apply]
    rw [show ((0 : Int) + (i : Int)).toNat = i by omega, List.getD_eq_getElem?_getD, List.getElem?_eq_getElem h2]
    rfl
/-- f(g(..)), of g's answer only something is known -/
theorem ev_call_R {α β : Type} {pre : α → Prop} {arg : α → List D} {post : α → D → Prop} {pre2 : β → Prop} {arg2 : β → List D} {res2 : β → D} {E E2 : XK} {ta : TA} (x : α) (h : EvA K ta ρ (arg x)) (p : pre x) (k : ∀ e, post x e → ∃ y : β, arg2 y = [e] ∧ pre2 y ∧ res2 y = d) :
    EvD K (tCall (spG K pre2 arg2 res2) [] E2 (tCons (tCall (spR K pre arg post) [] E ta) tNil)) ρ d := fun B Hs H σ r Q q =>
  h B Hs H σ r _ fun Hs1 H1 vs g1 xs => by
    rw [List.append_nil]
    refine ⟨Hs1, x, ⟨g1.lv, (r.grow g1).tb⟩, xs, p, fun Hs' H' v e g y z => ?_⟩
    obtain ⟨b, e1, e2, e3⟩ := k e z
    show spG K pre2 arg2 res2 ([v] ++ []) H' Q E2
    exact ⟨Hs', b, ⟨g.lv, (r.grow (g1.trans g)).tb⟩, by rw [e1]; exact .cons y .nil, e2, fun Hs2 H2 u f g2 y2 z2 => q Hs2 H2 u ((g1.trans g).trans g2) (by rw [z2, e3] at y2; exact y2)⟩
/-- a statement that is never reached -/
theorem xs_never (h : False) {t : TS} : ExS K t ρ R := h.elim
end
section
variable {X : Cx} {K : PySem.W.Frag}
theorem revLK (h : X.K = K) {e : Expr} {te : TE} {k : Nat} {p1 p2 p3 pos : Pos} (he : PE X e te) : PE X (.Subscript e (.Slice none none (some (.UnaryOp .USub (.Constant (.int 1) k p1) p2)) p3) pos) (tRevL K te) := by subst h; exact pe_revL he
theorem sortPK (h : X.K = K) : CallR X (.builtin "sorted") (rSortedP K) := by subst h; exact cr_sortedP
end
end DL

/-! DTree: slots that hold trees: reading at a path, changing there, new trees, freezing. -/
namespace DL
open PySem L2
variable [TbC]
/-- whether made in this frame; which value it is, where that is told -/
structure Nw where
  b : Bool
  pv : Option V
instance : Coe Bool Nw := ⟨fun b => ⟨b, none⟩⟩
@[reducible] def SV.tr (K : PySem.W.Frag) (nw : Nw) (o : O) : SV := .ow nw.b (fun Hs v R => (∀ w, nw.pv = some w → v = w) ∧ Own K Hs v o R) fun _ _ _ h => h.2.pl
theorem nopv {v : V} {b : Bool} : ∀ w, (⟨b, none⟩ : Nw).pv = some w → v = w := fun _ z => nomatch z
section
variable {K : PySem.W.Frag} {B : Base} {Hs H Hs' H' : Hp} {σ : St} {ρ ρ' : Env} {nw : Nw} {o o1 : O} {i : Nat} {p : List Nat}
/-- what lies at a path of slot i's tree, and how it may be changed -/
theorem RS.part (r : RS K B Hs H σ ρ) {R : Nat → Hp} (rg : Reg K B Hs H σ ρ R) (hi : ρ[i]? = some (some (.tr K nw o))) (hp : o.at_ p = some o1) :
    ∃ v0 v1 S, σ[i]? = some (some v0) ∧ VAt H v0 p v1 ∧ Own K Hs v1 o1 S ∧ (∀ a u, S a = some u → H a = some u ∧ Hs a = none ∧ R i a ≠ none) ∧
      ∀ {H' S' : Hp} {o' : O}, Own K Hs v1 o' S' → (∀ a u, S' a = some u → H' a = some u ∧ (S a ≠ none ∨ Fresh B Hs R a)) → (∀ a u, S a = none → H a = some u → H' a = some u) → (∀ a, H a ≠ none → H' a ≠ none) → Ch H H' → RS K B Hs H' σ (ρ.set i (some (.tr K nw (o.put p o')))) := by
  obtain ⟨v0, hv, hh⟩ := rg.1 i _ hi
  have ow : Own K Hs v0 o (R i) := (hh Hs (Ex.refl Hs)).2
  obtain ⟨v1, S, T, va, h1, d1, e1, k1⟩ := ow.part hp
  have sub : ∀ a u, S a = some u → R i a = some u := fun a u e => by rw [e1, jn_l e]
  refine ⟨v0, v1, S, hv, va.mono fun a u e => (rg.2.1 i a u e).1, h1, fun a u e => ⟨(rg.2.1 i a u (sub a u e)).1, (rg.2.1 i a u (sub a u e)).2.1, by rw [sub a u e]; exact fun z => nomatch z⟩, fun {H' S' o'} h' c1 c2 c3 c4 => ?_⟩
  have dT : ∀ a, S' a ≠ none → T a = none := fun a ha => by
    cases z : S' a with
    | none => exact absurd z ha
    | some u =>
      rcases (c1 a u z).2 with y | y
      · exact d1 a y
      · have := y.1 i
        rw [e1] at this
        exact (jn_none.mp this).2
  refine r.mutR rg i hi (fun z => z) hv (T := jn S' T) (fun Hs1 x => ⟨(hh Hs (Ex.refl Hs)).1, (k1 (Ex.refl Hs) h' dT).mono x⟩) (fun a u e => ?_) (fun a u e e' => ?_) c3 c4
  · cases z : S' a with
    | some w =>
      rw [jn_l z] at e
      have e' := Option.some.inj e
      subst e'
      refine ⟨(c1 a w z).1, (c1 a w z).2.imp (fun y => ?_) id⟩
      rw [e1]
      intro q
      exact y (jn_none.mp q).1
    | none =>
      rw [jn_r z] at e
      have hS : S a = none := by
        cases y : S a with
        | none => rfl
        | some w =>
          rw [d1 a (by rw [y]; exact fun z => nomatch z)] at e
          cases e
      have hR : R i a = some u := by rw [e1, jn_r hS, e]
      exact ⟨c2 a u hS (rg.2.1 i a u hR).1, .inl (by rw [hR]; exact fun z => nomatch z)⟩
  · rw [e1] at e
    exact c2 a u (jn_none.mp e).1 e'
/-! ### freezing -/
mutual
def O.toD : O → D
  | .sh d => d
  | .ol xs => .lst (O.toDs xs)
  | .ob C ns xs => .obj C ns (O.toDs xs)
  | .tp xs => .tup (O.toDs xs)
  | .dg _ _ => .non
  | .cl _ F us xs => .clo F us (O.toDs xs)
def O.toDs : List O → List D
  | [] => []
  | x :: xs => x.toD :: O.toDs xs
end
mutual
/-- no dict in it -/
def O.frz : O → Bool
  | .sh _ => true
  | .ol xs => O.frzs xs
  | .ob _ _ xs => O.frzs xs
  | .tp xs => O.frzs xs
  | .dg _ _ => false
  | .cl _ _ _ xs => O.frzs xs
def O.frzs : List O → Bool
  | [] => true
  | x :: xs => x.frz && O.frzs xs
end
theorem jn_ex {R S Hs : Hp} (h : ∀ a u, R a = some u → S a = some u) : Ex (jn R Hs) (jn S Hs) → Ex (jn R Hs) (jn S Hs) := id
mutual
theorem Own.fz : ∀ {v : V} {o : O} {R : Hp}, Own K Hs v o R → o.frz = true → (∀ a u, R a = some u → Hs a = none) → ∀ G, (∀ a u, R a = some u → G a = some u) → Ex Hs G → Rep K G v o.toD
  | _, _, _, .sh h, _, _, G, _, e => by
    unfold O.toD
    exact h.mono e
  | _, _, _, .ol (p := p) (vs := vs) (R := R1) n h, f, d, G, g, e => by
    unfold O.toD
    refine .lst (g p _ upd_same) (OwnL.fz h (by unfold O.frz at f; exact f) (fun a u z => ?_) G (fun a u z => ?_) e)
    · have na : a ≠ p := fun y => by rw [y, n] at z; cases z
      exact d a u (by rw [upd_ne na]; exact z)
    · have na : a ≠ p := fun y => by rw [y, n] at z; cases z
      exact g a u (by rw [upd_ne na]; exact z)
  | _, _, _, .ob (p := p) (vs := vs) (R := R1) n l h, f, d, G, g, e => by
    unfold O.toD
    refine .obj (g p _ upd_same) (OwnL.fz h (by unfold O.frz at f; exact f) (fun a u z => ?_) G (fun a u z => ?_) e)
    · have na : a ≠ p := fun y => by rw [y, n] at z; cases z
      exact d a u (by rw [upd_ne na]; exact z)
    · have na : a ≠ p := fun y => by rw [y, n] at z; cases z
      exact g a u (by rw [upd_ne na]; exact z)
  | _, _, _, .tp (p := p) (vs := vs) (R := R1) n h, f, d, G, g, e => by
    unfold O.toD
    refine .tup (g p _ upd_same) (OwnL.fz h (by unfold O.frz at f; exact f) (fun a u z => ?_) G (fun a u z => ?_) e)
    · have na : a ≠ p := fun y => by rw [y, n] at z; cases z
      exact d a u (by rw [upd_ne na]; exact z)
    · have na : a ≠ p := fun y => by rw [y, n] at z; cases z
      exact g a u (by rw [upd_ne na]; exact z)
  | _, _, _, .dg _, f, _, _, _, _ => by cases f
  | _, _, _, .cl q h, f, d, G, g, e => by
    unfold O.toD
    exact .clo (e _ _ q.1) (e _ _ q.2.1) (OwnL.fz h (by unfold O.frz at f; exact f) d G g e)
theorem OwnL.fz : ∀ {vs : List V} {os : List O} {R : Hp}, OwnL K Hs vs os R → O.frzs os = true → (∀ a u, R a = some u → Hs a = none) → ∀ G, (∀ a u, R a = some u → G a = some u) → Ex Hs G → RepL K G vs (O.toDs os)
  | _, _, _, .nil, _, _, G, _, _ => by
    unfold O.toDs
    exact .nil
  | _, _, _, .cons (R := R1) (S := R2) h r c, f, d, G, g, e => by
    unfold O.toDs
    unfold O.frzs at f
    rw [Bool.and_eq_true] at f
    refine .cons (Own.fz h f.1 (fun a u z => d a u (jn_l z)) G (fun a u z => g a u (jn_l z)) e) (OwnL.fz r f.2 (fun a u z => ?_) G (fun a u z => ?_) e)
    · have : R1 a = none := by
        cases y : R1 a with
        | none => rfl
        | some w =>
          rw [c a (by rw [y]; exact fun q => nomatch q)] at z
          cases z
      exact d a u (by rw [jn_r this]; exact z)
    · have : R1 a = none := by
        cases y : R1 a with
        | none => rfl
        | some w =>
          rw [c a (by rw [y]; exact fun q => nomatch q)] at z
          cases z
      exact g a u (by rw [jn_r this]; exact z)
end
theorem Own.fzJ {v : V} {R : Hp} (h : Own K Hs v o R) (f : o.frz = true) (d : ∀ a u, R a = some u → Hs a = none) : Rep K (jn R Hs) v o.toD :=
  h.fz f d (jn R Hs) (fun a u z => jn_l z) fun a u z => by
    rw [jn_r]
    · exact z
    · cases y : R a with
      | none => rfl
      | some w =>
        rw [d a w y] at z
        cases z
theorem RS.fzT (r : RS K B Hs H σ ρ) (hi : ρ[i]? = some (some (.tr K nw o))) (hn : nw.b = true ∨ ∀ a, ¬ Pn B.h a) (f : o.frz = true) : ∃ Hs2, Ex Hs Hs2 ∧ Ex Hs2 H ∧ RS K B Hs2 H σ (ρ.set i (some (.sh o.toD))) :=
  r.fzR i hi hn fun v R hh d => Own.fzJ (hh Hs (Ex.refl Hs)).2 f d
end
section
variable {K : PySem.W.Frag} {ρ ρ' : Env} {nw : Nw} {o o1 o2 : O} {i : Nat} {p : List Nat} {te ta tb ti tw : TE} {d : D} {ds es : List D} {tt : TT} {R : DEnds} {xs : List O}
theorem xs_frz {ts : TS} (i : Nat) (hi : ρ[i]? = some (some (.tr K true o))) (f : o.frz = true) (h : ExS K ts (ρ.set i (some (.sh o.toD))) R) : ExS K ts ρ R := fun B Hs H σ Dn r l => by
  obtain ⟨Hs2, e1, e2, r2⟩ := r.fzT hi (.inl rfl) f
  exact h B Hs2 H σ Dn r2 l
theorem EvD.thawT (i : Nat) (hi : ρ[i]? = some (some (.tr K nw o))) (f : o.frz = true) (h : EvD K te (ρ.set i (some (.sh o.toD))) d) (hd : d.scal = true) : EvD K te ρ d := fun B Hs H σ r Q q => by
  obtain ⟨Hs2, e1, e2, r2⟩ := r.temp.fzT hi (.inr fun _ => npl_pn _) f
  exact h _ Hs2 H σ r2 Q fun Hs' H' v g x => q Hs H' v (gr_thaw e1 g) (x.scal hd)
theorem EvT.thawT (i : Nat) {b : Bool} (hi : ρ[i]? = some (some (.tr K nw o))) (f : o.frz = true) (h : EvT K tt (ρ.set i (some (.sh o.toD))) b) : EvT K tt ρ b := fun B Hs H σ r Q q => by
  obtain ⟨Hs2, e1, e2, r2⟩ := r.temp.fzT hi (.inr fun _ => npl_pn _) f
  exact h _ Hs2 H σ r2 Q fun Hs' H' g => q Hs H' (gr_thaw e1 g)
theorem EvF.thawT (i : Nat) (hi : ρ[i]? = some (some (.tr K nw o))) (f : o.frz = true) (h : EvF K te (ρ.set i (some (.sh o.toD))) es) (hd : es.all D.scal = true) : EvF K te ρ es := fun B Hs H σ r Q q => by
  obtain ⟨Hs2, e1, e2, r2⟩ := r.temp.fzT hi (.inr fun _ => npl_pn _) f
  refine h _ Hs2 H σ r2 Q fun Hs' H' p vs g n ns e x => q Hs H' p vs (gr_thaw e1 g) n ?_ e (x.scal hd)
  cases z : Hs p with
  | none => rfl
  | some o =>
    rw [r.ex p o z] at n
    cases n
/-! ### reading at a path -/
/-- te gives what lies at the path p of slot i -/
def EvW (K : PySem.W.Frag) (te : TE) (ρ : Env) (i : Nat) (p : List Nat) : Prop := ∀ B Hs H σ, RS K B Hs H σ ρ → ∀ Q : VK, (∀ Hs' H' v0 v, Gr Hs H H Hs' H' → σ[i]? = some (some v0) → VAt H' v0 p v → Q v H') → te σ H Q
theorem ew_var (hi : ρ[i]? = some (some (.tr K nw o))) : EvW K (tVar i) ρ i [] := fun B Hs H σ r Q q => by
  obtain ⟨R, rg⟩ := r.reg
  obtain ⟨v0, hv, _⟩ := rg.1 i _ hi
  exact ⟨v0, hv, q Hs H v0 v0 (Gr.refl r.ex) hv .nil⟩
theorem Own.ob_inv {Hs : Hp} {v : V} {C : Addr} {ns : List Str} {S : Hp} (h : Own K Hs v (.ob C ns xs) S) : ∃ q dx vs R1, v = .ref q ∧ R1 q = none ∧ ns.length = xs.length ∧ OwnL K Hs vs xs R1 ∧ S = upd R1 q (.ins C dx (ns.zip vs)) := by
  cases h with
  | ob n l h => exact ⟨_, _, _, _, rfl, n, l, h, rfl⟩
theorem Own.ol_inv {Hs : Hp} {v : V} {S : Hp} (h : Own K Hs v (.ol xs) S) : ∃ q vs R1, v = .ref q ∧ R1 q = none ∧ OwnL K Hs vs xs R1 ∧ S = upd R1 q (.lst vs) := by
  cases h with
  | ol n h => exact ⟨_, _, _, rfl, n, h, rfl⟩
theorem look_zipN {f : Str} : ∀ {ns : List Str} {vs : List V} {j : Nat}, ns.findIdx? (· == f) = some j → ns.length = vs.length → ∃ u, (ns.zip vs).lookup f = some u ∧ vs[j]? = some u
  | [], vs, j, h, _ => by simp at h
  | n :: ns, [], j, _, hl => by simp at hl
  | n :: ns, v :: vs, j, h, hl => by
    rw [List.findIdx?_cons] at h
    rw [List.zip_cons_cons, List.lookup_cons]
    by_cases e : (n == f) = true
    · rw [if_pos e] at h
      have h' := Option.some.inj h
      subst h'
      have e2 : (f == n) = true := by rw [beq_iff_eq] at e ⊢; exact e.symm
      rw [e2]
      exact ⟨v, rfl, rfl⟩
    · rw [if_neg e] at h
      obtain ⟨k, hk, rfl⟩ := Option.map_eq_some_iff.mp h
      have e2 : (f == n) = false := by
        cases z : (f == n) with
        | false => rfl
        | true => rw [beq_iff_eq] at z; exact absurd (by rw [z]; exact beq_self_eq_true n) e
      rw [e2]
      exact look_zipN (j := k) hk (by simpa using hl)
theorem ew_fld {f : Str} {C : Addr} {ns : List Str} {j : Nat} (h : EvW K te ρ i p) (hi : ρ[i]? = some (some (.tr K nw o))) (hp : o.at_ p = some (.ob C ns xs)) (hj : ns.findIdx? (· == f) = some j) (hc : Cls K C) (hn : NoAttr K C f) : EvW K (tFld K te f) ρ i (p ++ [j]) := fun B Hs H σ r Q q =>
  h B Hs H σ r _ fun Hs1 H1 v0 v g hv va => by
    have r1 := r.grow g
    obtain ⟨R, rg⟩ := r1.reg
    obtain ⟨v0', v1, S, hv', va', ow, sub, _⟩ := r1.part rg hi hp
    rw [hv] at hv'
    cases hv'
    have e := va.det va'
    subst e
    obtain ⟨a, dx, vs, R1, rfl, n, l, hl, rfl⟩ := ow.ob_inv
    obtain ⟨u, h1, h2⟩ := look_zipN hj (by rw [hl.length]; exact l)
    have ha := (sub a _ upd_same).1
    refine ⟨a, C, dx, _, u, rfl, ha, hc, hn, h1, q Hs1 H1 v0 u g hv (va.app ?_)⟩
    obtain ⟨f', hf⟩ := zip_get (ns := ns) (by rw [hl.length]; exact l) h2
    exact .ins ha hf .nil
theorem ew_ix {n : Int} {j : Nat} (h : EvW K te ρ i p) (hi : ρ[i]? = some (some (.tr K nw o))) (hp : o.at_ p = some (.ol xs)) (hk : EvD K ti ρ (.int n)) (hj : ixN xs.length n = some j) (hl : j < xs.length) : EvW K (tOp (rIx K) te ti) ρ i (p ++ [j]) := fun B Hs H σ r Q q =>
  h B Hs H σ r _ fun Hs1 H1 v0 v g hv va => hk B Hs1 H1 σ (r.grow g) _ fun Hs2 H2 y g2 y2 => by
    cases y2
    have r2 := (r.grow g).grow g2
    obtain ⟨R, rg⟩ := r2.reg
    obtain ⟨v0', v1, S, hv', va', ow, sub, _⟩ := r2.part rg hi hp
    rw [hv] at hv'
    cases hv'
    have va2 := va.monoN g2.fr
    have e := va2.det va'
    subst e
    obtain ⟨a, vs, R1, rfl, nn, hl', rfl⟩ := ow.ol_inv
    have ha := (sub a _ upd_same).1
    have hjv : j < vs.length := by rw [hl'.length]; exact hl
    refine .inl ⟨a, vs, n, vs[j], rfl, rfl, .of ha, ?_, q Hs2 H2 v0 _ (g.trans g2) hv (va2.app (.lst ha (List.getElem?_eq_getElem hjv) .nil))⟩
    unfold atI
    rw [hl'.length, hj]
    exact List.getElem?_eq_getElem hjv
theorem ev_W (h : EvW K te ρ i p) (hi : ρ[i]? = some (some (.tr K nw o))) (hp : o.at_ p = some (.sh d)) : EvD K te ρ d := fun B Hs H σ r Q q =>
  h B Hs H σ r _ fun Hs1 H1 v0 v g hv va => by
    have r1 := r.grow g
    obtain ⟨R, rg⟩ := r1.reg
    obtain ⟨v0', v1, S, hv', va', ow, sub, _⟩ := r1.part rg hi hp
    rw [hv] at hv'
    cases hv'
    have e := va.det va'
    subst e
    cases ow with
    | sh x => exact q Hs1 H1 v g x
theorem em_W (h : EvW K te ρ i p) (hi : ρ[i]? = some (some (.tr K nw o))) (hp : o.at_ p = some (.ol (ds.map .sh))) : EvM K te ρ ds := fun B Hs H σ r Q q =>
  h B Hs H σ r _ fun Hs1 H1 v0 v g hv va => by
    have r1 := r.grow g
    obtain ⟨R, rg⟩ := r1.reg
    obtain ⟨v0', v1, S, hv', va', ow, sub, _⟩ := r1.part rg hi hp
    rw [hv] at hv'
    cases hv'
    have e := va.det va'
    subst e
    obtain ⟨a, vs, R1, rfl, nn, hl', rfl⟩ := ow.ol_inv
    exact q Hs1 H1 a vs g (sub a _ upd_same).1 hl'.reps.1
/-- how many a list at a path has -/
theorem ev_lenW (h : EvW K te ρ i p) (hi : ρ[i]? = some (some (.tr K nw o))) (hp : o.at_ p = some (.ol xs)) : EvD K (tCB (rLenA K) (tCons te tNil)) ρ (.int (xs.length : Int)) := fun B Hs H σ r Q q =>
  h B Hs H σ r _ fun Hs1 H1 v0 v g hv va => by
    have r1 := r.grow g
    obtain ⟨R, rg⟩ := r1.reg
    obtain ⟨v0', v1, S, hv', va', ow, sub, _⟩ := r1.part rg hi hp
    rw [hv] at hv'
    cases hv'
    have e := va.det va'
    subst e
    obtain ⟨a, vs, R1, rfl, nn, hl', rfl⟩ := ow.ol_inv
    refine .inl ⟨a, vs, rfl, .inl (.of (sub a _ upd_same).1), ?_⟩
    rw [hl'.length]
    exact q Hs1 H1 _ g (.int _)
theorem ev_inW {P : Int → Bool} {n : Nat} {k : Int} (hk : EvD K ta ρ (.int k)) (h : EvW K te ρ i p) (hi : ρ[i]? = some (some (.tr K nw o))) (hp : o.at_ p = some (.dk P n)) : EvD K (tOp (rInA K) ta te) ρ (.bl (P k)) := fun B Hs H σ r Q q =>
  hk B Hs H σ r _ fun Hs0 H0 y g0 y0 => h B Hs0 H0 σ (r.grow g0) _ fun Hs1 H1 v0 v g hv va => by
    cases y0
    have r1 := (r.grow g0).grow g
    obtain ⟨R, rg⟩ := r1.reg
    obtain ⟨v0', v1, S, hv', va', ow, sub, _⟩ := r1.part rg hi hp
    rw [hv] at hv'
    cases hv'
    have e := va.det va'
    subst e
    cases ow with
    | @dg a _ _ kvs hk =>
      refine .inr (.inr (.inl ⟨a, _, rfl, DGet.k (k := (Sum.inl k : Key)) (sub a _ upd_same).1, ?_⟩))
      rw [hk.2 k]
      exact q Hs1 H1 _ (g0.trans g) (.bl _)
theorem ev_notInW {P : Int → Bool} {n : Nat} {k : Int} (hk : EvD K ta ρ (.int k)) (h : EvW K te ρ i p) (hi : ρ[i]? = some (some (.tr K nw o))) (hp : o.at_ p = some (.dk P n)) : EvD K (tOp (rNotInA K) ta te) ρ (.bl (!P k)) := fun B Hs H σ r Q q =>
  hk B Hs H σ r _ fun Hs0 H0 y g0 y0 => h B Hs0 H0 σ (r.grow g0) _ fun Hs1 H1 v0 v g hv va => by
    cases y0
    have r1 := (r.grow g0).grow g
    obtain ⟨R, rg⟩ := r1.reg
    obtain ⟨v0', v1, S, hv', va', ow, sub, _⟩ := r1.part rg hi hp
    rw [hv] at hv'
    cases hv'
    have e := va.det va'
    subst e
    cases ow with
    | @dg a _ _ kvs hk =>
      refine .inr (.inr (.inl ⟨a, _, rfl, DGet.k (k := (Sum.inl k : Key)) (sub a _ upd_same).1, ?_⟩))
      rw [hk.2 k]
      exact q Hs1 H1 _ (g0.trans g) (.bl _)
/-! ### new trees -/
def EvN (K : PySem.W.Frag) (te : TE) (ρ : Env) (o : O) : Prop := ∀ B Hs H σ, RS K B Hs H σ ρ → ∀ Q : VK, (∀ Hs' H' v S, Gr Hs H H Hs' H' → Own K Hs' v o S → (∀ a u, S a = some u → H' a = some u ∧ H a = none ∧ Hs' a = none) → Q v H') → te σ H Q
theorem EvF.n (h : EvF K te ρ ds) : EvN K te ρ (.ol (ds.map .sh)) := fun B Hs H σ r Q q => h B Hs H σ r _ fun Hs1 H1 p vs g n ns e x => by
  refine q Hs1 H1 _ _ g (.ol rfl (ownL_sh x)) fun a u z => ?_
  by_cases y : a = p
  · subst y
    rw [upd_same] at z
    cases z
    exact ⟨e, n, ns⟩
  · rw [upd_ne y] at z
    cases z
theorem EvN.is (h : EvN K te ρ o) (e : o = o1) : EvN K te ρ o1 := e ▸ h
theorem EvN.v (h : EvN K te ρ o) (f : o.frz = true) : EvD K te ρ o.toD := fun B Hs H σ r Q q => h B Hs H σ r _ fun Hs1 H1 v S g ow sub => by
  have d : ∀ a u, S a = some u → Hs1 a = none := fun a u e => (sub a u e).2.2
  have ex1 : Ex Hs1 (jn S Hs1) := fun a u e => by
    rw [jn_r]
    · exact e
    · cases y : S a with
      | none => rfl
      | some w =>
        rw [d a w y] at e
        cases e
  have ex2 : Ex (jn S Hs1) H1 := fun a u e => by
    cases y : S a with
    | some w =>
      rw [jn_l y] at e
      have e' := Option.some.inj e
      subst e'
      exact (sub a w y).1
    | none =>
      rw [jn_r y] at e
      exact g.lv a u e
  refine q (jn S Hs1) H1 v ⟨g.fr, g.sh.trans ex1, ex2, fun a x => ?_, g.dm, g.fd, g.dp, fun t a ps e => ?_, g.tb⟩ (ow.fzJ f d)
  · cases y : S a with
    | some w => exact absurd (sub a w y).2.1 x.ne
    | none =>
      rw [jn_r y]
      exact g.nw a x
  · cases y : S a with
    | some w =>
      rw [jn_l y] at e
      cases e
      have z := ow.pl a _ y
      cases z
    | none =>
      rw [jn_r y] at e
      exact g.nt t a ps e
theorem en_dict : EvN K tDNewK ρ (.dk (fun _ => false) 0) := fun B Hs H σ r Q q => fun p hp => by
  obtain ⟨n1, n2⟩ := gr_none (Gr.refl r.ex) hp
  refine q Hs _ _ _ (Gr.newO r.ex hp) (.dg (kvs := []) ⟨Nat.le_refl _, fun i => rfl⟩) fun a u z => ?_
  by_cases y : a = p
  · subst y
    rw [upd_same] at z ⊢
    exact ⟨z, hp, n2⟩
  · rw [upd_ne y] at z
    cases z
theorem xs_asgN (h : EvN K te ρ o) (q : R.nx (ρ.set i (some (.tr K true o)))) : ExS K (tAsg te (gName i)) ρ R := fun B Hs H σ Dn r l =>
  h B Hs H σ r _ fun Hs1 H1 v S g ow sub => l.nx Hs1 H1 _ _ (r.setR g i (sv := .tr K true o) (T := S) (fun a u e => ⟨(sub a u e).2.1, (sub a u e).1, (sub a u e).2.2⟩) (fun Hs2 x => ⟨nopv, ow.mono x⟩)) q
/-! ### changes at a path -/
theorem upd_keep {H : Hp} {q a : Addr} {x y : HO} (h : H q = some x) (e : H a ≠ none) : upd H q y a ≠ none := by
  by_cases z : a = q
  · rw [z, upd_same]
    exact fun w => nomatch w
  · rw [upd_ne z]
    exact e
/-- .append(e) at a path -/
theorem xs_appW (hw : EvW K te ρ i p) (hi : ρ[i]? = some (some (.tr K nw o))) (hp : o.at_ p = some (.ol xs)) (h : EvD K ta ρ d) (hz : xs.length < 100000) (q : R.nx (ρ.set i (some (.tr K nw (o.put p (.ol (xs ++ [.sh d]))))))) :
    ExS K (tDrop (tBM K "list" rAppend te (tCons ta tNil))) ρ R := fun B Hs H σ Dn r l =>
  hw B Hs H σ r _ fun Hs1 H1 v0 v g hv va => by
    have r1 := r.grow g
    obtain ⟨R1, rg1⟩ := r1.reg
    obtain ⟨v0', v1, S, hv', va', ow, sub, _⟩ := r1.part rg1 hi hp
    rw [hv] at hv'
    cases hv'
    have e := va.det va'
    subst e
    obtain ⟨a, vs, Ra, rfl, nn, hl', rfl⟩ := ow.ol_inv
    refine ⟨.inl ⟨rfl, _, .of (sub a _ upd_same).1⟩, h B Hs1 H1 σ r1 _ fun Hs2 H2 w g2 y => ?_⟩
    have r2 := r1.grow g2
    have rg2 : Reg K B Hs2 H2 σ ρ R1 := Reg.grow rg1 g2
    obtain ⟨v0', v1, S, hv', va', ow, sub, k⟩ := r2.part rg2 hi hp
    rw [hv] at hv'
    cases hv'
    have e := (va.monoN g2.fr).det va'
    subst e
    obtain ⟨a', vs, Ra, ea, nn, hl', rfl⟩ := ow.ol_inv
    cases ea
    have ha := (sub a _ upd_same).1
    refine ⟨a, vs, w, rfl, rfl, ha, by rw [hl'.length]; exact sz_lt hz, l.nx Hs2 _ _ _ (k (S' := upd Ra a (.lst (vs ++ [w]))) (o' := .ol (xs ++ [.sh d])) (.ol nn ?_) (fun b u z => ?_) (fun b u z e => ?_) (fun b e => upd_keep ha e) Ch.upd) q⟩
    · have c := OwnL.snoc (Own.sh y) hl' fun a ha => absurd rfl ha
      rw [jn_em] at c
      exact c
    · by_cases eb : b = a
      · subst eb
        rw [upd_same] at z ⊢
        exact ⟨z, .inl (by rw [upd_same]; exact fun q => nomatch q)⟩
      · rw [upd_ne eb] at z ⊢
        exact ⟨(sub b u (by rw [upd_ne eb]; exact z)).1, .inl (by rw [upd_ne eb, z]; exact fun q => nomatch q)⟩
    · rw [upd_ne (fun eb => by rw [eb, upd_same] at z; cases z)]
      exact e
/-- .append(a new tree) at a path -/
theorem xs_appWN (hw : EvW K te ρ i p) (hi : ρ[i]? = some (some (.tr K nw o))) (hp : o.at_ p = some (.ol xs)) (h : EvN K ta ρ o2) (hz : xs.length < 100000) (q : R.nx (ρ.set i (some (.tr K nw (o.put p (.ol (xs ++ [o2]))))))) :
    ExS K (tDrop (tBM K "list" rAppend te (tCons ta tNil))) ρ R := fun B Hs H σ Dn r l =>
  hw B Hs H σ r _ fun Hs1 H1 v0 v g hv va => by
    have r1 := r.grow g
    obtain ⟨R1, rg1⟩ := r1.reg
    obtain ⟨v0', v1, S, hv', va', ow, sub, _⟩ := r1.part rg1 hi hp
    rw [hv] at hv'
    cases hv'
    have e := va.det va'
    subst e
    obtain ⟨a, vs, Ra, rfl, nn, hl', rfl⟩ := ow.ol_inv
    refine ⟨.inl ⟨rfl, _, .of (sub a _ upd_same).1⟩, h B Hs1 H1 σ r1 _ fun Hs2 H2 w Sn g2 own subn => ?_⟩
    have r2 := r1.grow g2
    have rg2 : Reg K B Hs2 H2 σ ρ R1 := Reg.grow rg1 g2
    obtain ⟨v0', v1, S, hv', va', ow, sub, k⟩ := r2.part rg2 hi hp
    rw [hv] at hv'
    cases hv'
    have e := (va.monoN g2.fr).det va'
    subst e
    obtain ⟨a', vs, Ra, ea, nn, hl', rfl⟩ := ow.ol_inv
    cases ea
    have ha := (sub a _ upd_same).1
    have hRa : ∀ b u, Ra b = some u → b ≠ a := fun b u z eb => by rw [eb, nn] at z; cases z
    have disj : ∀ b, Sn b ≠ none → upd Ra a (.lst vs) b = none := fun b hb => by
      cases z : Sn b with
      | none => exact absurd z hb
      | some u =>
        cases y : upd Ra a (.lst vs) b with
        | none => rfl
        | some w =>
          have := (r1.fresh rg1 (subn b u z).2.1).1 i
          exact absurd this (sub b w y).2.2
    have nSa : Sn a = none := by
      cases z : Sn a with
      | none => rfl
      | some u =>
        have := disj a (by rw [z]; exact fun q => nomatch q)
        rw [upd_same] at this
        cases this
    refine ⟨a, vs, w, rfl, rfl, ha, by rw [hl'.length]; exact sz_lt hz, l.nx Hs2 _ _ _ (k (S' := upd (jn Sn Ra) a (.lst (vs ++ [w]))) (o' := .ol (xs ++ [o2])) (.ol (jn_none.mpr ⟨nSa, nn⟩) ?_) (fun b u z => ?_) (fun b u z e => ?_) (fun b e => upd_keep ha e) Ch.upd) q⟩
    · refine OwnL.snoc own hl' fun b hb => ?_
      have := disj b hb
      by_cases eb : b = a
      · subst eb
        exact nn
      · rw [upd_ne eb] at this
        exact this
    · by_cases eb : b = a
      · subst eb
        rw [upd_same] at z ⊢
        exact ⟨z, .inl (by rw [upd_same]; exact fun q => nomatch q)⟩
      · rw [upd_ne eb] at z ⊢
        cases y : Sn b with
        | some w' =>
          rw [jn_l y] at z
          have z' := Option.some.inj z
          subst z'
          exact ⟨(subn b w' y).1, .inr ((r1.fresh rg1 (subn b w' y).2.1).grow (subn b w' y).2.2)⟩
        | none =>
          rw [jn_r y] at z
          exact ⟨(sub b u (by rw [upd_ne eb]; exact z)).1, .inl (by rw [upd_ne eb, z]; exact fun q => nomatch q)⟩
    · rw [upd_ne (fun eb => by rw [eb, upd_same] at z; cases z)]
      exact e
/-- d[k] = v, a dict of numbers at a path -/
theorem xs_putW {P : Int → Bool} {n : Nat} {k : Int} (h : EvD K ta ρ d) (hw : EvW K te ρ i p) (hi : ρ[i]? = some (some (.tr K nw o))) (hp : o.at_ p = some (.dk P n)) (hk : EvD K ti ρ (.int k)) (hz : n < 100000) (q : R.nx (ρ.set i (some (.tr K nw (o.put p (.dk (fun x => P x || decide (x = k)) (n + 1))))))) :
    ExS K (tAsg ta (gSub te ti rSetA)) ρ R := fun B Hs H σ Dn r l =>
  h B Hs H σ r _ fun Hs0 H0 w g0 y0 => hw B Hs0 H0 σ (r.grow g0) _ fun Hs1 H1 v0 v g hv va => hk B Hs1 H1 σ ((r.grow g0).grow g) _ fun Hs2 H2 z g2 z2 => by
    cases z2
    have r2 := ((r.grow g0).grow g).grow g2
    obtain ⟨R2, rg2⟩ := r2.reg
    obtain ⟨v0', v1, S, hv', va', ow, sub, kk⟩ := r2.part rg2 hi hp
    rw [hv] at hv'
    cases hv'
    have e := (va.monoN g2.fr).det va'
    subst e
    cases ow with
    | @dg a _ _ kvs hkv =>
      have ha := (sub a _ upd_same).1
      refine .inr ⟨a, _, rfl, DPut.k (k := (Sum.inl k : Key)) ha (Nat.lt_of_le_of_lt hkv.1 (sz_lt hz)), l.nx Hs2 _ _ _ (kk (S' := upd em a (.dK (putK kvs (Sum.inl k : Key) w))) (.dg ⟨?_, fun x => ?_⟩) (fun b u z => ?_) (fun b u z e => ?_) (fun b e => upd_keep ha e) Ch.upd) q⟩
      · have := length_putK kvs (Sum.inl k : Key) w
        have := hkv.1
        omega
      · rw [valV_put]
        by_cases e : x = k
        · subst e
          rw [if_pos rfl]
          simp
        · rw [if_neg (fun z => e (Sum.inl.inj z)), hkv.2 x]
          simp [e]
      · by_cases eb : b = a
        · subst eb
          rw [upd_same] at z ⊢
          exact ⟨z, .inl (by rw [upd_same]; exact fun q => nomatch q)⟩
        · rw [upd_ne eb] at z
          cases z
      · rw [upd_ne (fun eb => by rw [eb, upd_same] at z; cases z)]
        exact e
end
end DL
namespace DL
open PySem L2
open PyProof.Rows (envOfC)
variable [TbC]
section
variable {K : PySem.W.Frag} {ρ ρ' : Env} {nw : Nw} {o o1 o2 : O} {i : Nat} {p : List Nat} {te ta tb ti tw : TE} {d : D} {ds es : List D} {tt : TT} {R : DEnds} {xs : List O}
/-! ### defs that give a new tree -/
def spN (K : PySem.W.Frag) {α : Type} (pre : α → Prop) (arg : α → List D) (res : α → O) : Sp := fun vs H Q _ => ∃ (Hs : Hp) (x : α), (Ex Hs H ∧ NT Hs ∧ TB H) ∧ RepL K Hs vs (arg x) ∧ pre x ∧
  ∀ Hs' H' v S, Gr Hs H H Hs' H' → Own K Hs' v (res x) S → (∀ a u, S a = some u → H' a = some u ∧ H a = none ∧ Hs' a = none) → Q v H'
theorem en_call {α : Type} {pre : α → Prop} {arg : α → List D} {res : α → O} {E : XK} {ta : TA} (x : α) (h : EvA K ta ρ (arg x)) (p : pre x) : EvN K (tCall (spN K pre arg res) [] E ta) ρ (res x) := fun B Hs H σ r Q q =>
  h B Hs H σ r _ fun Hs1 H1 vs g1 xs => by
    rw [List.append_nil]
    refine ⟨Hs1, x, ⟨g1.lv, (r.grow g1).tb⟩, xs, p, fun Hs' H' v S g ow c => q Hs' H' v S (g1.trans g) ow fun a u e => ⟨(c a u e).1, ?_, (c a u e).2.2⟩⟩
    have n := (c a u e).2.1
    exact (g1.new0 n).1
theorem xs_retN' (h : EvN K te ρ o) (q : R.rn o) : ExS K (tRet te) ρ R := fun B Hs H σ Dn r l =>
  h B Hs H σ r _ fun Hs1 H1 v S g ow c => l.rn Hs1 H1 v o S (r.gr.trans g) ow (fun a u e => ⟨(c a u e).1, by
    have n := (c a u e).2.1
    cases z : B.h a with
    | none => rfl
    | some w => exact absurd n (r.gr.dm a (by rw [z]; exact fun y => nomatch y)), (c a u e).2.2⟩) q
theorem xs_retT (hi : ρ[i]? = some (some (.tr K true o))) (q : R.rn o) : ExS K (tRet (tVar i)) ρ R := fun B Hs H σ Dn r l => by
  obtain ⟨S, rg⟩ := r.reg
  obtain ⟨v0, hv, hh⟩ := rg.1 i _ hi
  exact ⟨v0, hv, l.rn Hs H v0 o (S i) r.gr (hh Hs (Ex.refl Hs)).2 (fun a u e => ⟨(rg.2.1 i a u e).1, rg.2.2.2 i _ a hi rfl (by rw [e]; exact fun z => nomatch z), (rg.2.1 i a u e).2.1⟩) q⟩
variable {P : Program} {w : World} {mg : Str → Option Value} {base : Heap} {x qual : Str} {st : Stmt} {f : Addr} {fd : FuncData} {N ps : List Str} {k : Nat} {α : Type} {pre : α → Prop} {arg : α → List D}
theorem fn_n {res : α → O} (F : Fun K x qual st f fd) (S : FnScope N ps (defScope st)) (hl : ∀ x, (arg x).length = ps.length) {t : TS}
    (hb : ∀ (cdv : Value) (A : Around) (outer : List PySem.Env) (s : Shared) (H : Hp) (E : XK), Room k (A.deeper (envOfC qual (defScope st) s.heap.objs.size f cdv)) → PSs (cxOf CX0 P w K mg base N qual (defScope st) f cdv A outer s H E).nox (defBody st) t)
    (hd : ∀ x, pre x → ExS K t (entry N (arg x)) { nx := fun _ => False, rt := fun _ => False, rn := fun o => o = res x }) : FnOk P w K mg base CX0 (k + 1) f fd ps (spN K pre arg res) := by
  have hN : ps.length ≤ N.length := by have := congrArg List.length S.pre; rw [List.length_take] at this; omega
  refine F.ok S (fun vs H Q E h => ?_) (fun cdv A outer s H vs Q E hr h => ?_)
  · obtain ⟨Hs, x, _, r, _⟩ := h
    rw [r.length, hl]
  · obtain ⟨Hs, x, e, r, hp, q⟩ := h
    refine ⟨t, hb cdv A outer s H E hr, ?_⟩
    exact hd x hp ⟨Hs, H, H, e.2⟩ Hs H (L2.start N vs) _ (rs_entry e r (by rw [hl]; exact hN))
      ⟨fun Hs' H' σ ρ r' z => z.elim, fun Hs' H' v d g x z => z.elim, fun Hs' H' p ws ds g n ns e x z => z.elim, fun _ _ _ _ _ z => z.elim, fun _ _ _ _ _ z => z.elim, fun _ _ _ _ _ _ _ _ z => z.elim, fun _ _ _ _ _ _ _ _ _ z => z.elim,
        fun Hs' H' v o S g ow c z => q Hs' H' v S g (z ▸ ow) c⟩
/-- an own list is a tree -/
theorem RS.tree {B : Base} {Hs H : Hp} {σ : St} (r : RS K B Hs H σ ρ) (hi : ρ[i]? = some (some (.ol ds))) : RS K B Hs H σ (ρ.set i (some (.tr K true (.ol (ds.map .sh))))) := by
  obtain ⟨S, rg⟩ := r.reg
  obtain ⟨v0, hv, pp, vs, rfl, e2, q⟩ := rg.1 i _ hi
  refine r.mutR rg i hi (fun _ => rfl) hv (T := S i) (fun Hs1 x => ?_) (fun a u e => ⟨(rg.2.1 i a u e).1, .inl (by rw [e]; exact fun z => nomatch z)⟩) (fun a u _ e => e) fun a e => e
  have e : S i = upd em pp (.lst vs) := by
    rw [e2]
    funext a
    by_cases z : a = pp
    · rw [if_pos z, z, upd_same]
    · rw [if_neg z, upd_ne z]
      rfl
  refine ⟨nopv, ?_⟩
  rw [e]
  exact .ol rfl (ownL_sh (q.mono x))
theorem xs_tree {ts : TS} (i : Nat) (hi : ρ[i]? = some (some (.ol ds))) (h : ExS K ts (ρ.set i (some (.tr K true (.ol (ds.map .sh))))) R) : ExS K ts ρ R := fun B Hs H σ Dn r l => h B Hs H σ Dn (r.tree hi) l
/-- .insert(0, e) at a path -/
abbrev rInsert : V → List V → Hp → VK → Prop := fun x vs H Q => ∃ (l : Addr) (xs : List V) (i : Int) (y : V), x = .ref l ∧ vs = [.int i, y] ∧ H l = some (.lst xs) ∧ xs.length < sizeLine ∧ 0 ≤ i ∧ i < 2 ^ 63 ∧ Q .non (upd H l (.lst (xs.take i.toNat ++ [y] ++ xs.drop i.toNat)))
theorem OwnL.ins0 {Hs : Hp} {v : V} {vs : List V} {S : Hp} (h : OwnL K Hs vs xs S) (x : Rep K Hs v d) : OwnL K Hs (v :: vs) (.sh d :: xs) S := by
  have c := OwnL.cons (Own.sh x) h fun a ha => absurd rfl ha
  rw [jn_em] at c
  exact c
theorem xs_insW (hw : EvW K te ρ i p) (hi : ρ[i]? = some (some (.tr K nw o))) (hp : o.at_ p = some (.ol xs)) (hk : EvD K ti ρ (.int 0)) (h : EvD K ta ρ d) (hz : xs.length < 100000) (q : R.nx (ρ.set i (some (.tr K nw (o.put p (.ol (.sh d :: xs))))))) :
    ExS K (tDrop (tBM K "list" rInsert te (tCons ti (tCons ta tNil)))) ρ R := fun B Hs H σ Dn r l =>
  hw B Hs H σ r _ fun Hs1 H1 v0 v g hv va => by
    have r1 := r.grow g
    obtain ⟨R1, rg1⟩ := r1.reg
    obtain ⟨v0', v1, S, hv', va', ow, sub, _⟩ := r1.part rg1 hi hp
    rw [hv] at hv'
    cases hv'
    have e := va.det va'
    subst e
    obtain ⟨a, vs, Ra, rfl, nn, hl', rfl⟩ := ow.ol_inv
    refine ⟨.inl ⟨rfl, _, .of (sub a _ upd_same).1⟩, hk B Hs1 H1 σ r1 _ fun Hs0 H0 z0 g0 y0 => h B Hs0 H0 σ (r1.grow g0) _ fun Hs2 H2 w g2 y => ?_⟩
    cases y0
    have r2 := (r1.grow g0).grow g2
    have rg2 : Reg K B Hs2 H2 σ ρ R1 := Reg.grow (Reg.grow rg1 g0) g2
    obtain ⟨v0', v1, S, hv', va', ow, sub, k⟩ := r2.part rg2 hi hp
    rw [hv] at hv'
    cases hv'
    have e := (va.monoN (g0.fr.trans g2.fr)).det va'
    subst e
    obtain ⟨a', vs, Ra, ea, nn, hl', rfl⟩ := ow.ol_inv
    cases ea
    have ha := (sub a _ upd_same).1
    refine ⟨a, vs, 0, w, rfl, rfl, ha, by rw [hl'.length]; exact sz_lt hz, by decide, by decide, l.nx Hs2 _ _ _ (k (S' := upd Ra a (.lst (w :: vs))) (o' := .ol (.sh d :: xs)) (.ol nn (hl'.ins0 y)) (fun b u z => ?_) (fun b u z e => ?_) (fun b e => upd_keep ha e) Ch.upd) q⟩
    · by_cases eb : b = a
      · subst eb
        rw [upd_same] at z ⊢
        exact ⟨z, .inl (by rw [upd_same]; exact fun q => nomatch q)⟩
      · rw [upd_ne eb] at z ⊢
        exact ⟨(sub b u (by rw [upd_ne eb]; exact z)).1, .inl (by rw [upd_ne eb, z]; exact fun q => nomatch q)⟩
    · rw [upd_ne (fun eb => by rw [eb, upd_same] at z; cases z)]
      exact e
/-- trees that are lists of lists -/
def llO (dss : List (List D)) : O := .ol (dss.map fun ds : List D => O.ol (ds.map .sh))
theorem toDs_sh : ∀ ds : List D, O.toDs (ds.map .sh) = ds
  | [] => rfl
  | d :: ds => by
    show O.toD (.sh d) :: O.toDs (ds.map .sh) = d :: ds
    rw [toDs_sh ds]
    rfl
theorem frzs_sh : ∀ ds : List D, O.frzs (ds.map .sh) = true
  | [] => rfl
  | d :: ds => by
    show (O.frz (.sh d) && O.frzs (ds.map .sh)) = true
    rw [frzs_sh ds]
    rfl
theorem llO_toD : ∀ dss : List (List D), (llO dss).toD = .lst (dss.map D.lst) := by
  intro dss
  show D.lst (O.toDs _) = _
  congr 1
  induction dss with
  | nil => rfl
  | cons ds dss ih =>
    show D.lst (O.toDs (ds.map .sh)) :: O.toDs _ = _
    rw [toDs_sh, ih]
    rfl
theorem llO_frz : ∀ dss : List (List D), (llO dss).frz = true := by
  intro dss
  show O.frzs _ = true
  induction dss with
  | nil => rfl
  | cons ds dss ih =>
    show (O.frzs (ds.map .sh) && O.frzs _) = true
    rw [frzs_sh, ih]
    rfl
theorem llO_kid {dss : List (List D)} {j : Nat} {ds : List D} (h : dss[j]? = some ds) : (llO dss).at_ [j] = some (.ol (ds.map .sh)) := by
  show ((dss.map fun ds : List D => O.ol (ds.map .sh))[j]?).bind (fun x => x.at_ []) = _
  rw [List.getElem?_map, h]
  rfl
theorem llO_put {dss : List (List D)} {j : Nat} {ds es : List D} (h : dss[j]? = some ds) : (llO dss).put [j] (.ol (es.map .sh)) = llO (dss.set j es) := by
  show (match (dss.map fun ds : List D => O.ol (ds.map .sh))[j]? with
    | none => llO dss
    | some x => (llO dss).wk ((dss.map fun ds : List D => O.ol (ds.map .sh)).set j (x.put [] (.ol (es.map .sh))))) = _
  rw [List.getElem?_map, h]
  show O.ol _ = O.ol _
  congr 1
  rw [List.map_set]
  rfl
end
end DL
namespace DL
open PySem L2
variable [TbC]
/-- an own list at a known address -/
@[reducible] def SV.trA (K : PySem.W.Frag) (a : Addr) (ds : List D) : SV := .ow true (fun Hs v R => v = .ref a ∧ ∃ vs, RepL K Hs vs ds ∧ R = upd em a (.lst vs)) fun _ _ _ h => by
  obtain ⟨_, vs, _, e⟩ := h
  rw [e]
  exact PlR.em.upd
/-- a tree without what lies at p; that is at a -/
@[reducible] def SV.hole (K : PySem.W.Frag) (o : O) (p : List Nat) (a : Addr) (u : V) : SV := .ow true (fun Hs v R => (v = u ∧ ∀ (o' : O) (S' : Hp), Own K Hs (.ref a) o' S' → (∀ b, S' b ≠ none → R b = none) → Own K Hs v (o.put p o') (jn S' R)) ∧ PlR R) fun _ _ _ h => h.2
section
variable {K : PySem.W.Frag} {B : Base} {Hs H Hs' H' : Hp} {σ : St} {ρ ρ' : Env} {o : O} {i j : Nat} {p : List Nat} {ds es : List D} {R : DEnds} {te ta : TE} {d : D}
/-- the regions of two slots dealt out anew -/
theorem RS.deal (r : RS K B Hs H σ ρ) {R : Nat → Hp} (rg : Reg K B Hs H σ ρ R) (hij : i ≠ j) {vi : V} {svi : SV} {oj : Option SV} {xj : Option V} (hl : i < ρ.length) {T S : Hp} (ht : ∀ a u, T a = some u → R i a = some u ∨ R j a = some u) (hs : ∀ a u, S a = some u → R i a = some u ∨ R j a = some u)
    (hd : ∀ a, T a ≠ none → S a = none) (h1 : Holds K Hs T vi svi) (h2 : ∀ sv, oj = some sv → ∃ v, xj = some v ∧ Holds K Hs S v sv) (hb : ∀ a, T a ≠ none ∨ S a ≠ none → B.h a = none) :
    RS K B Hs H ((σ.set j xj).set i (some vi)) ((ρ.set j oj).set i (some svi)) := by
  obtain ⟨g1, g2, g3, g4⟩ := rg
  have sub : ∀ (m : Nat) (a : Addr), (if m = i then T else if m = j then S else R m) a ≠ none → ∃ m', (m = i ∨ m = j → m' = i ∨ m' = j) ∧ (m ≠ i → m ≠ j → m' = m) ∧ R m' a = (if m = i then T else if m = j then S else R m) a := fun m a ha => by
    by_cases q : m = i
    · rw [if_pos q] at ha ⊢
      cases z : T a with
      | none => exact absurd z ha
      | some u =>
        rcases ht a u z with y | y
        · exact ⟨i, fun _ => .inl rfl, fun n => absurd q n, y⟩
        · exact ⟨j, fun _ => .inr rfl, fun n => absurd q n, y⟩
    · rw [if_neg q] at ha ⊢
      by_cases q' : m = j
      · rw [if_pos q'] at ha ⊢
        cases z : S a with
        | none => exact absurd z ha
        | some u =>
          rcases hs a u z with y | y
          · exact ⟨i, fun _ => .inl rfl, fun _ n => absurd q' n, y⟩
          · exact ⟨j, fun _ => .inr rfl, fun _ n => absurd q' n, y⟩
      · rw [if_neg q']
        exact ⟨m, fun z => by
          rcases z with z | z
          · exact absurd z q
          · exact absurd z q', fun _ _ => rfl, rfl⟩
  refine ⟨r.gr, by rw [List.length_set, List.length_set, List.length_set, List.length_set, r.len], fun m => if m = i then T else if m = j then S else R m, fun m sv e => ?_, fun m a u e => ?_, fun m l a e1 e2 => ?_, fun m sv a e1 e0 e2 => ?_⟩
  · by_cases q : m = i
    · subst q
      rw [List.getElem?_set_self (by rw [List.length_set]; exact hl)] at e
      cases e
      refine ⟨vi, List.getElem?_set_self (by rw [List.length_set, r.len]; exact hl), ?_⟩
      dsimp only
      rw [if_pos rfl]
      exact h1
    · rw [List.getElem?_set_ne (Ne.symm q)] at e ⊢
      dsimp only
      rw [if_neg q]
      by_cases q' : m = j
      · subst q'
        have hl' : m < ρ.length := by
          have := (List.getElem?_eq_some_iff.mp e).1
          rwa [List.length_set] at this
        rw [List.getElem?_set_self hl'] at e
        obtain ⟨v, e1, e2⟩ := h2 sv (Option.some.inj e)
        refine ⟨v, by rw [List.getElem?_set_self (by rw [r.len]; exact hl'), e1], ?_⟩
        rw [if_pos rfl]
        exact e2
      · rw [List.getElem?_set_ne (Ne.symm q')] at e ⊢
        rw [if_neg q']
        exact g1 m sv e
  · dsimp only at e
    obtain ⟨m', _, _, e3⟩ := sub m a (by rw [e]; exact fun z => nomatch z)
    rw [e] at e3
    exact g2 m' a u e3
  · obtain ⟨m1, a1, a2, a3⟩ := sub m a e1
    obtain ⟨m2, b1, b2, b3⟩ := sub l a e2
    have same : m1 = m2 := g3 m1 m2 a (by rw [a3]; exact e1) (by rw [b3]; exact e2)
    dsimp only at e1 e2
    by_cases q : m = i
    · by_cases q' : l = i
      · rw [q, q']
      · by_cases q'' : l = j
        · rw [if_pos q] at e1
          rw [if_neg q', if_pos q''] at e2
          exact absurd (hd a e1) e2
        · have e := b2 q' q''
          rcases a1 (.inl q) with z | z
          · exact absurd (by rw [← e, ← same, z]) q'
          · exact absurd (by rw [← e, ← same, z]) q''
    · by_cases q1 : m = j
      · by_cases q' : l = i
        · rw [if_pos q'] at e2
          rw [if_neg q, if_pos q1] at e1
          exact absurd (hd a e2) e1
        · by_cases q'' : l = j
          · rw [q1, q'']
          · have e := b2 q' q''
            rcases a1 (.inr q1) with z | z
            · exact absurd (by rw [← e, ← same, z]) q'
            · exact absurd (by rw [← e, ← same, z]) q''
      · have e := a2 q q1
        by_cases q' : l = i
        · rcases b1 (.inl q') with z | z
          · exact absurd (by rw [← e, same, z]) q
          · exact absurd (by rw [← e, same, z]) q1
        · by_cases q'' : l = j
          · rcases b1 (.inr q'') with z | z
            · exact absurd (by rw [← e, same, z]) q
            · exact absurd (by rw [← e, same, z]) q1
          · rw [← e, ← b2 q' q'', same]
  · dsimp only at e2
    by_cases q : m = i
    · rw [if_pos q] at e2
      exact hb a (.inl e2)
    · rw [if_neg q] at e2
      rw [List.getElem?_set_ne (Ne.symm q)] at e1
      by_cases q' : m = j
      · rw [if_pos q'] at e2
        exact hb a (.inr e2)
      · rw [if_neg q'] at e2
        rw [List.getElem?_set_ne (Ne.symm q')] at e1
        exact g4 m sv a e1 e0 e2
theorem set_id {α : Type} {l : List α} {i : Nat} {x : α} (h : l[i]? = some x) : l.set i x = l := by
  apply List.ext_getElem?
  intro m
  by_cases q : m = i
  · subst q
    rw [List.getElem?_set_self (List.getElem?_eq_some_iff.mp h).1, h]
  · rw [List.getElem?_set_ne (Ne.symm q)]
/-- a list in a tree comes into a slot of its own -/
theorem RS.split (r : RS K B Hs H σ ρ) (hi : ρ[i]? = some (some (.tr K true o))) (hp : o.at_ p = some (.ol (ds.map .sh))) (hij : i ≠ j) :
    ∃ v0 a, σ[i]? = some (some v0) ∧ VAt H v0 p (.ref a) ∧ RS K B Hs H (σ.set j (some (.ref a))) ((ρ.set j (some (.trA K a ds))).set i (some (.hole K o p a v0))) := by
  obtain ⟨R, rg⟩ := r.reg
  obtain ⟨v0, hv, hh⟩ := rg.1 i _ hi
  have ow : Own K Hs v0 o (R i) := (hh Hs (Ex.refl Hs)).2
  obtain ⟨v1, S, T, va, h1, d1, e1, k1⟩ := ow.part hp
  obtain ⟨a, vs, Ra, rfl, nn, hl, rfl⟩ := h1.ol_inv
  obtain ⟨rs, rfl⟩ := hl.reps
  have sub : ∀ b u, upd em a (.lst vs) b = some u → R i b = some u := fun b u e => by rw [e1, jn_l e]
  have dT : ∀ b, T b ≠ none → upd em a (.lst vs) b = none := fun b hb => by
    cases z : upd em a (.lst vs) b with
    | none => rfl
    | some u => exact absurd (d1 b (by rw [z]; exact fun y => nomatch y)) hb
  have subT : ∀ b u, T b = some u → R i b = some u := fun b u e => by
    rw [e1, jn_r (dT b (by rw [e]; exact fun y => nomatch y)), e]
  have q := r.deal rg hij (vi := v0) (svi := .hole K o p a v0) (oj := some (.trA K a ds)) (xj := some (.ref a)) (List.getElem?_eq_some_iff.mp hi).1 (T := T) (S := upd em a (.lst vs)) (fun b u e => .inl (subT b u e)) (fun b u e => .inl (sub b u e)) dT
    (fun G eg => ⟨⟨rfl, fun o' S' h' d' => k1 eg h' d'⟩, fun b u e => (rg.2.1 i b u (subT b u e)).2.2.2⟩) (fun sv e => by
      cases e
      exact ⟨.ref a, rfl, fun G eg => ⟨rfl, vs, rs.mono eg, rfl⟩⟩) (fun b hb => by
      refine rg.2.2.2 i _ b hi rfl ?_
      rcases hb with hb | hb
      · cases z : T b with
        | none => exact absurd z hb
        | some u => rw [subT b u z]; exact fun y => nomatch y
      · cases z : upd em a (.lst vs) b with
        | none => exact absurd z hb
        | some u => rw [sub b u z]; exact fun y => nomatch y)
  refine ⟨v0, a, hv, va.mono fun b u e => (rg.2.1 i b u e).1, ?_⟩
  rw [set_id (l := σ.set j (some (.ref a))) (i := i) (by rw [List.getElem?_set_ne (Ne.symm hij), hv])] at q
  exact q
/-- .. and goes back -/
theorem RS.join {a : Addr} {u : V} (r : RS K B Hs H σ ρ) (hi : ρ[i]? = some (some (.hole K o p a u))) (hj : ρ[j]? = some (some (.trA K a es))) (hij : i ≠ j) : σ[i]? = some (some u) ∧ RS K B Hs H σ ((ρ.set j none).set i (some (.tr K true (o.put p (.ol (es.map .sh)))))) := by
  obtain ⟨R, rg⟩ := r.reg
  obtain ⟨v0, hv, hh⟩ := rg.1 i _ hi
  obtain ⟨w, hw, hk⟩ := rg.1 j _ hj
  obtain ⟨rfl, vs, rs, eR⟩ := hk Hs (Ex.refl Hs)
  obtain ⟨⟨rfl, _⟩, _⟩ := hh Hs (Ex.refl Hs)
  refine ⟨hv, ?_⟩
  have dj : ∀ b, R j b ≠ none → R i b = none := fun b hb => by
    cases z : R i b with
    | none => rfl
    | some u => exact absurd (rg.2.2.1 i j b (by rw [z]; exact fun y => nomatch y) hb) hij
  have own : ∀ G, Ex Hs G → Own K G v0 (o.put p (.ol (es.map .sh))) (jn (R j) (R i)) := fun G eg => by
    have c : Own K G (.ref a) (.ol (es.map .sh)) (R j) := by
      rw [eR]
      exact .ol rfl (ownL_sh (rs.mono eg))
    exact (hh G eg).1.2 _ _ c dj
  have q := r.deal rg hij (vi := v0) (svi := .tr K true (o.put p (.ol (es.map .sh)))) (oj := none) (xj := some (.ref a)) (List.getElem?_eq_some_iff.mp hi).1 (T := jn (R j) (R i)) (S := em) (fun b u e => by
      cases z : R j b with
      | some y =>
        rw [jn_l z] at e
        exact .inr (by rw [← e])
      | none =>
        rw [jn_r z] at e
        exact .inl e) (fun b u e => nomatch e) (fun b _ => rfl) (fun G eg => ⟨nopv, own G eg⟩) (fun sv e => nomatch e) (fun b hb => by
      rcases hb with hb | hb
      · cases z : R j b with
        | some y => exact rg.2.2.2 j _ b hj rfl (by rw [z]; exact fun y => nomatch y)
        | none =>
          rw [jn_r z] at hb
          exact rg.2.2.2 i _ b hi rfl hb
      · exact absurd rfl hb)
  rw [set_id (l := σ) (i := j) (x := some (V.ref a)) hw, set_id (l := σ) (i := i) (x := some v0) hv] at q
  exact q
/-- .append(e), the own list at a known address -/
theorem xs_appA {a : Addr} (hi : ρ[i]? = some (some (.trA K a ds))) (h : EvD K ta ρ d) (hz : ds.length < 100000) (q : R.nx (ρ.set i (some (.trA K a (ds ++ [d]))))) : ExS K (tDrop (tBM K "list" rAppend (tVar i) (tCons ta tNil))) ρ R := fun B Hs H σ Dn r l => by
  obtain ⟨R0, rg0⟩ := r.reg
  obtain ⟨w, hw, hk⟩ := rg0.1 i _ hi
  obtain ⟨rfl, vs0, rs0, eR0⟩ := hk Hs (Ex.refl Hs)
  have ha0 : H a = some (.lst vs0) := (rg0.2.1 i a _ (by rw [eR0]; exact upd_same)).1
  refine ⟨.ref a, hw, .inl ⟨rfl, _, .of ha0⟩, h B Hs H σ r _ fun Hs1 H1 x g y => ?_⟩
  have r1 := r.grow g
  have rg : Reg K B Hs1 H1 σ ρ R0 := Reg.grow rg0 g
  obtain ⟨w', hw', hk⟩ := rg.1 i _ hi
  obtain ⟨rfl, vs, rs, eR⟩ := hk Hs1 (Ex.refl Hs1)
  have ha : H1 a = some (.lst vs) := (rg.2.1 i a _ (by rw [eR]; exact upd_same)).1
  refine ⟨a, vs, x, rfl, rfl, ha, by rw [rs.length]; exact sz_lt hz, l.nx Hs1 _ _ _ (r1.mutR rg i hi (sv' := .trA K a (ds ++ [d])) (fun _ => rfl) hw (T := upd em a (.lst (vs ++ [x]))) (fun G eg => ⟨rfl, _, (rs.mono eg).append (.cons (y.mono eg) .nil), rfl⟩) (fun b u z => ?_) (fun b u z e => ?_) (fun b e => upd_keep ha e) Ch.upd) q⟩
  · by_cases eb : b = a
    · subst eb
      rw [upd_same] at z ⊢
      exact ⟨z, .inl (by rw [eR, upd_same]; exact fun q => nomatch q)⟩
    · rw [upd_ne eb] at z
      cases z
  · rw [upd_ne (fun eb => by rw [eb, eR, upd_same] at z; cases z)]
    exact e
theorem er_A {a : Addr} (hi : ρ[i]? = some (some (.trA K a ds))) : EvR K (tVar i) ρ (.lst ds) := fun B Hs H σ r Q q => by
  obtain ⟨R0, rg0⟩ := r.reg
  obtain ⟨w, hw, hk⟩ := rg0.1 i _ hi
  obtain ⟨rfl, vs0, rs0, eR0⟩ := hk Hs (Ex.refl Hs)
  exact ⟨.ref a, hw, q Hs H _ (Gr.refl r.ex) (.lst (rg0.2.1 i a _ (by rw [eR0]; exact upd_same)).1 (rs0.mono r.ex))⟩
theorem Reg.drop {Q : Nat → Hp} (rg : Reg K B Hs H σ ρ Q) (j : Nat) : Reg K B Hs H σ (ρ.set j none) (fun m => if m = j then em else Q m) := by
  obtain ⟨g1, g2, g3, g4⟩ := rg
  refine ⟨fun m sv e => ?_, fun m a u e => ?_, fun m l a e1 e2 => ?_, fun m sv a e1 e0 e2 => ?_⟩
  · by_cases q : m = j
    · subst q
      by_cases hl : m < ρ.length
      · rw [List.getElem?_set_self hl] at e
        cases e
      · rw [List.getElem?_eq_none (by rw [List.length_set]; omega)] at e
        cases e
    · rw [List.getElem?_set_ne (Ne.symm q)] at e
      dsimp only
      rw [if_neg q]
      exact g1 m sv e
  · dsimp only at e
    by_cases q : m = j
    · rw [if_pos q] at e
      cases e
    · rw [if_neg q] at e
      exact g2 m a u e
  · dsimp only at e1 e2
    by_cases q : m = j
    · rw [if_pos q] at e1
      exact absurd rfl e1
    · rw [if_neg q] at e1
      by_cases q' : l = j
      · rw [if_pos q'] at e2
        exact absurd rfl e2
      · rw [if_neg q'] at e2
        exact g3 m l a e1 e2
  · dsimp only at e2
    by_cases q : m = j
    · rw [if_pos q] at e2
      exact absurd rfl e2
    · rw [if_neg q] at e2
      rw [List.getElem?_set_ne (Ne.symm q)] at e1
      exact g4 m sv a e1 e0 e2
/-- xs.append(y), y the frame's own: it belongs to xs from now on -/
theorem xs_appMv {xs : List O} {o2 : O} (hij : i ≠ j) (hi : ρ[i]? = some (some (.tr K true (.ol xs)))) (hj : ρ[j]? = some (some (.tr K true o2))) (hz : xs.length < 100000) (q : R.nx ((ρ.set j none).set i (some (.tr K true (.ol (xs ++ [o2])))))) :
    ExS K (tDrop (tBM K "list" rAppend (tVar i) (tCons (tVar j) tNil))) ρ R := fun B Hs H σ Dn r l => by
  obtain ⟨Q, rg⟩ := r.reg
  obtain ⟨v0, hv, hh⟩ := rg.1 i _ hi
  obtain ⟨w, hw, hk⟩ := rg.1 j _ hj
  have own := hk Hs (Ex.refl Hs)
  obtain ⟨a, vs, Ra, rfl, nn, hl, eR⟩ := (hh Hs (Ex.refl Hs)).2.ol_inv
  have ha : H a = some (.lst vs) := (rg.2.1 i a _ (by rw [eR]; exact upd_same)).1
  refine ⟨.ref a, hv, .inl ⟨rfl, _, .of ha⟩, w, hw, a, vs, w, rfl, rfl, ha, by rw [hl.length]; exact sz_lt hz, ?_⟩
  have dis : ∀ b, Q j b ≠ none → Q i b = none := fun b hb => by
    cases z : Q i b with
    | none => rfl
    | some u => exact absurd (rg.2.2.1 i j b (by rw [z]; exact fun y => nomatch y) hb) hij
  have nja : Q j a = none := by
    cases z : Q j a with
    | none => rfl
    | some u =>
      have := dis a (by rw [z]; exact fun y => nomatch y)
      rw [eR, upd_same] at this
      cases this
  have r2 := r.forget j (some w)
  rw [set_id hw] at r2
  have e1 : (if i = j then em else Q i) = Q i := if_neg hij
  refine l.nx Hs _ _ _ (r2.mutR (Reg.drop (ρ := ρ) rg j) i (by rw [List.getElem?_set_ne (Ne.symm hij)]; exact hi) (sv' := .tr K true (.ol (xs ++ [o2]))) (fun _ => rfl) hv (T := upd (jn (Q j) Ra) a (.lst (vs ++ [w]))) (fun G eg => ?_) (fun b u z => ?_) (fun b u z e => ?_) fun b e => upd_keep ha e) q
  · refine ⟨nopv, .ol (jn_none.mpr ⟨nja, nn⟩) (OwnL.snoc (own.2.mono eg) (hl.mono eg) fun b hb => ?_)⟩
    have := dis b hb
    rw [eR] at this
    by_cases eb : b = a
    · rw [eb]
      exact nn
    · rw [upd_ne eb] at this
      exact this
  · rw [e1]
    by_cases eb : b = a
    · subst eb
      rw [upd_same] at z ⊢
      exact ⟨z, .inl (by rw [eR, upd_same]; exact fun q => nomatch q)⟩
    · rw [upd_ne eb] at z ⊢
      cases y : Q j b with
      | some u' =>
        rw [jn_l y] at z
        have z' := Option.some.inj z
        subst z'
        have g := rg.2.1 j b u' y
        refine ⟨g.1, .inr ⟨fun m => ?_, g.2.1, g.2.2.1, rg.2.2.2 j _ b hj rfl (by rw [y]; exact fun q => nomatch q)⟩⟩
        dsimp only
        by_cases qm : m = j
        · rw [if_pos qm]
          rfl
        · rw [if_neg qm]
          cases z2 : Q m b with
          | none => rfl
          | some u2 => exact absurd (rg.2.2.1 m j b (by rw [z2]; exact fun q => nomatch q) (by rw [y]; exact fun q => nomatch q)) qm
      | none =>
        rw [jn_r y] at z
        have hq : Q i b = some u := by rw [eR, upd_ne eb]; exact z
        exact ⟨(rg.2.1 i b u hq).1, .inl (by rw [hq]; exact fun q => nomatch q)⟩
  · rw [e1] at z
    rw [upd_ne (fun eb => by rw [eb, eR, upd_same] at z; cases z)]
    exact e
/-- for x in xs, xs an own list of own lists: x is changed in the body -/
theorem xs_forLL {tb : TS} (hij : i ≠ j) {dss : List (List D)} (I : Nat → List (List D) → Env → Prop) (hi : ρ[i]? = some (some (.tr K true (llO dss)))) (h0 : I 0 dss ρ)
    (hI : ∀ k dss' ρ1, I k dss' ρ1 → ρ1[i]? = some (some (.tr K true (llO dss'))) ∧ dss'.length = dss.length)
    (hs : ∀ k dss' ρ1 ds a u, I k dss' ρ1 → dss'[k]? = some ds → ExS K tb ((ρ1.set j (some (.trA K a ds))).set i (some (.hole K (llO dss') [k] a u))) { R with
      nx := fun ρ2 => ∃ ds', ρ2[i]? = some (some (.hole K (llO dss') [k] a u)) ∧ ρ2[j]? = some (some (.trA K a ds')) ∧ I (k + 1) (dss'.set k ds') ((ρ2.set j none).set i (some (.tr K true (llO (dss'.set k ds'))))), ct := fun _ => False, bk := fun _ => False })
    (hd : ∀ dss' ρ1, I dss.length dss' ρ1 → R.nx ρ1) : ExS K (tFor (iSeq K (tVar i)) (gName j) tb) ρ R := fun B Hs H σ Dn r l => by
  obtain ⟨R0, rg0⟩ := r.reg
  obtain ⟨v0, hv, hh⟩ := rg0.1 i _ hi
  obtain ⟨a0, vs, Ra, rfl, nn, hl, eR⟩ := (hh Hs (Ex.refl Hs)).2.ol_inv
  have ha0 : H a0 = some (.lst vs) := (rg0.2.1 i a0 _ (by rw [eR]; exact upd_same)).1
  refine ⟨.ref a0, hv, a0, rfl, .inl ⟨⟨vs, .of ha0⟩, ?_⟩⟩
  refine ⟨fun k m σ' H' => m = dss.length - k ∧ k ≤ dss.length ∧ σ'[i]? = some (some (.ref a0)) ∧ ∃ Hs2 dss' ρ1, RS K B Hs2 H' σ' ρ1 ∧ I k dss' ρ1, ⟨dss.length, rfl, Nat.zero_le _, hv, Hs, dss, ρ, r, h0⟩, ?_⟩
  rintro k m σ2 H2 ⟨rfl, hk, hv2, Hs2, dss', ρ1, r2, hI2⟩
  obtain ⟨hi2, hlen⟩ := hI k dss' ρ1 hI2
  obtain ⟨R2, rg2⟩ := r2.reg
  obtain ⟨w0, hw, hh2⟩ := rg2.1 i _ hi2
  rw [hv2] at hw
  cases hw
  obtain ⟨a0', vs2, Ra2, ea, nn2, hl2, eR2⟩ := (hh2 Hs2 (Ex.refl Hs2)).2.ol_inv
  cases ea
  have ha2 : H2 a0 = some (.lst vs2) := (rg2.2.1 i a0 _ (by rw [eR2]; exact upd_same)).1
  have hvl : vs2.length = dss.length := by rw [hl2.length, List.length_map, hlen]
  by_cases hlt : k < dss.length
  · have hdk : dss'[k]? = some (dss'[k]'(by omega)) := List.getElem?_eq_getElem (by omega)
    obtain ⟨v0', a, hv', va, r3⟩ := r2.split hi2 (llO_kid hdk) hij
    rw [hv2] at hv'
    cases hv'
    have hva : vs2[k]? = some (.ref a) := by
      cases va with
      | lst h g n =>
        rw [ha2] at h
        cases h
        cases n
        exact g
      | ins h g n =>
        rw [ha2] at h
        cases h
      | tup h g n =>
        rw [ha2] at h
        cases h
    refine .inr ⟨⟨vs2, .ref a, .of ha2, hva⟩, fun σ' H' => σ'[i]? = some (some (.ref a0)) ∧ ∃ Hs3 dss3 ρ3, RS K B Hs3 H' σ' ρ3 ∧ I (k + 1) dss3 ρ3, fun σ' H' ⟨e, Hs3, dss3, ρ3, r3, i3⟩ => ⟨dss.length - (k + 1), by omega, rfl, hlt, e, Hs3, dss3, ρ3, r3, i3⟩, fun x H3 y => ?_⟩
    obtain ⟨rfl, y⟩ := y
    have z := y vs2 (.of ha2)
    rw [hva] at z
    cases z
    show tb _ (σ2.set j (some (.ref a))) H3
    exact hs k dss' ρ1 _ a (.ref a0) hI2 hdk B Hs2 H3 _ _ r3 ⟨fun Hs5 H5 σ5 ρ5 r5 ⟨ds', e1, e2, e3⟩ => by
      obtain ⟨e4, q⟩ := r5.join e1 e2 hij
      rw [llO_put hdk] at q
      exact ⟨e4, Hs5, _, _, q, e3⟩, l.rt, l.rf, fun _ _ _ _ _ z => z.elim, fun _ _ _ _ _ z => z.elim, l.ro, l.ex, l.rn⟩
  · have e : k = dss.length := by omega
    subst e
    exact .inl ⟨⟨vs2, .of ha2, by rw [hvl]; exact Nat.le_refl _⟩, l.nx Hs2 H2 σ2 ρ1 r2 (hd dss' ρ1 hI2)⟩
end
end DL
namespace DL
open PySem L2
variable [TbC]
section
variable {K : PySem.W.Frag} {ρ ρ' : Env} {te ta tb : TE} {d e : D} {ds es : List D} {R : DEnds} {C : Addr} {ns : List Str} {o : O}
theorem en_methD {alts : List (Addr × Sp)} {m : Str} {E : XK} {t : TA} {α : Type} {pre : α → Prop} {arg : α → List D} {res : α → O} (x : α) (h : EvD K ta ρ (.obj C ns ds)) (ht : EvA K t ρ es) (hin : (C, spN K pre arg res) ∈ alts) (hm : ns.contains m = false)
    (ha : arg x = .obj C ns ds :: es) (p : pre x) : EvN K (tMethD alts m E ta t) ρ (res x) := fun B Hs H σ r Q q =>
  h B Hs H σ r _ fun Hs1 H1 v g1 xo => by
    cases xo with
    | @obj a _ dx _ vs _ hp xs =>
      refine ⟨a, C, dx, _, _, rfl, g1.lv _ _ hp, hin, look_none hm, ht B Hs1 H1 σ (r.grow g1) _ fun Hs2 H2 ws g2 ys => ?_⟩
      refine ⟨Hs2, x, ⟨g2.lv, (r.grow (g1.trans g2)).tb⟩, by rw [ha]; exact .cons (.obj (g2.sh _ _ hp) (xs.mono g2.sh)) ys, p, fun Hs' H' w S g ow c => ?_⟩
      have gg := (g1.trans g2).trans g
      refine q Hs' H' w S gg ow fun b u e => ⟨(c b u e).1, ?_, (c b u e).2.2⟩
      have n := (c b u e).2.1
      exact ((g1.trans g2).new0 n).1
/-- [a new tree] -/
theorem en_one (h : EvN K te ρ o) : EvN K (tLst (tCons te tNil)) ρ (.ol [o]) := fun B Hs H σ r Q q =>
  h B Hs H σ r _ fun Hs1 H1 v S g ow c => by
    refine ⟨Nat.le_of_ble_eq_true rfl, fun p hp => ?_⟩
    obtain ⟨n1, n2⟩ := gr_none g hp
    have nS : S p = none := by
      cases z : S p with
      | none => rfl
      | some u =>
        rw [(c p u z).1] at hp
        cases hp
    have l1 : OwnL K Hs1 [v] [o] (jn S em) := .cons ow .nil fun _ _ => rfl
    rw [jn_em'] at l1
    refine q Hs1 _ _ _ (g.trans (Gr.newO g.lv hp)) (.ol nS l1) fun a u e => ?_
    by_cases y : a = p
    · subst y
      rw [upd_same] at e ⊢
      exact ⟨e, n1, n2⟩
    · rw [upd_ne y] at e ⊢
      exact c a u e
theorem ixN_last {n : Nat} (h : 0 < n) : ixN n (-1) = some (n - 1) := by
  unfold ixN
  rw [if_neg (by decide), if_pos (by omega)]
  congr 1
  omega
end
end DL

/-! DExc: defs that exceptions leave; try. -/
namespace DL
open PySem L2
open PyProof.Rows (envOfC)
variable [TbC]
theorem passX0 {X : Cx} : Passes (L2.CX X.prog X.w) X E0 := fun _ _ _ _ _ _ _ ⟨_, _, _, _, _, _, _, _, _, _, _, _, z⟩ => z.elim
/-- called with arg x, where pre x: gives something of post x, or an exception of exc x leaves -/
def spX (K : PySem.W.Frag) {α : Type} (pre : α → Prop) (arg : α → List D) (post : α → D → Prop) (exc : α → Value → Option (List (Str × D)) → Prop) : Sp := fun vs H Q E => ∃ (Hs : Hp) (x : α), (Ex Hs H ∧ NT Hs ∧ TB H) ∧ RepL K Hs vs (arg x) ∧ pre x ∧
  (∀ Hs' H' v d, Gr Hs H H Hs' H' → Rep K Hs' v d → post x d → Q v H') ∧ ∀ Hs' H' cls dd fs, Gr Hs H H Hs' H' → XRep K Hs' H' dd fs → exc x cls fs → E cls dd H'
section
variable {K : PySem.W.Frag} {ρ ρ' : Env} {te ta tb : TE} {d e : D} {ds es : List D} {tt : TT} {R : DEnds}
variable {P : Program} {w : World} {mg : Str → Option Value} {base : Heap} {x qual : Str} {st : Stmt} {f : Addr} {fd : FuncData} {N ps : List Str} {k : Nat} {α : Type} {pre : α → Prop} {arg : α → List D}
theorem fn_x {post : α → D → Prop} {exc : α → Value → Option (List (Str × D)) → Prop} (F : Fun K x qual st f fd) (S : FnScope N ps (defScope st)) (hl : ∀ x, (arg x).length = ps.length) {t : XK → TS}
    (hb : ∀ (cdv : Value) (A : Around) (outer : List PySem.Env) (s : Shared) (H : Hp) (E : XK), Room k (A.deeper (envOfC qual (defScope st) s.heap.objs.size f cdv)) → PSs (cxOf (L2.CX P w) P w K mg base N qual (defScope st) f cdv A outer s H E) (defBody st) (t E))
    (hd : ∀ x, pre x → ∀ E : XK, ExS K (t E) (entry N (arg x)) { nx := fun _ => post x .non, rt := post x, ex := fun _ cls fs => exc x cls fs, W := fun cls dd _ H => E cls dd H }) : FnOk P w K mg base (L2.CX P w) (k + 1) f fd ps (spX K pre arg post exc) := by
  have hN : ps.length ≤ N.length := by have := congrArg List.length S.pre; rw [List.length_take] at this; omega
  refine F.okX S (fun vs H Q E h => ?_) (fun cdv A outer s H vs Q E hr h => ?_)
  · obtain ⟨Hs, x, _, r, _⟩ := h
    rw [r.length, hl]
  · obtain ⟨Hs, x, e, r, hp, q, qx⟩ := h
    refine ⟨t E, hb cdv A outer s H E hr, ?_⟩
    exact hd x hp E ⟨Hs, H, H, e.2⟩ Hs H (L2.start N vs) _ (rs_entry e r (by rw [hl]; exact hN))
      ⟨fun Hs' H' σ ρ r' z => q Hs' H' .non .non r'.gr .non z, fun Hs' H' v d g x z => q Hs' H' v d g x z, fun _ _ _ _ _ _ _ _ _ _ z => z.elim, fun _ _ _ _ _ z => z.elim, fun _ _ _ _ _ z => z.elim, fun _ _ _ _ _ _ _ _ z => z.elim,
        fun Hs' H' σ ρ cls dd fs r' y z => qx Hs' H' cls dd fs r'.gr y z, fun _ _ _ _ _ _ _ _ z => z.elim⟩
/-- the defs that no exception leaves, where others are left by some -/
theorem fn_rX {post : α → D → Prop} (F : Fun K x qual st f fd) (S : FnScope N ps (defScope st)) (hl : ∀ x, (arg x).length = ps.length) {t : TS}
    (hb : ∀ (cdv : Value) (A : Around) (outer : List PySem.Env) (s : Shared) (H : Hp) (E : XK), Room k (A.deeper (envOfC qual (defScope st) s.heap.objs.size f cdv)) → PSs (cxOf (L2.CX P w) P w K mg base N qual (defScope st) f cdv A outer s H E) (defBody st) t)
    (hd : ∀ x, pre x → ExS K t (entry N (arg x)) { nx := fun _ => post x .non, rt := post x }) : FnOk P w K mg base (L2.CX P w) (k + 1) f fd ps (spR K pre arg post) := by
  have hN : ps.length ≤ N.length := by have := congrArg List.length S.pre; rw [List.length_take] at this; omega
  refine F.okX S (fun vs H Q E h => ?_) (fun cdv A outer s H vs Q E hr h => ?_)
  · obtain ⟨Hs, x, _, r, _⟩ := h
    rw [r.length, hl]
  · obtain ⟨Hs, x, e, r, hp, q⟩ := h
    refine ⟨t, hb cdv A outer s H E hr, ?_⟩
    exact hd x hp ⟨Hs, H, H, e.2⟩ Hs H (L2.start N vs) _ (rs_entry e r (by rw [hl]; exact hN))
      ⟨fun Hs' H' σ ρ r' z => q Hs' H' .non .non r'.gr .non z, fun Hs' H' v d g x z => q Hs' H' v d g x z, fun _ _ _ _ _ _ _ _ _ _ z => z.elim, fun _ _ _ _ _ z => z.elim, fun _ _ _ _ _ z => z.elim, fun _ _ _ _ _ _ _ _ z => z.elim,
        fun _ _ _ _ _ _ _ _ _ z => z.elim, fun _ _ _ _ _ _ _ _ z => z.elim⟩
theorem fn_fX {res : α → List D} (F : Fun K x qual st f fd) (S : FnScope N ps (defScope st)) (hl : ∀ x, (arg x).length = ps.length) {t : TS}
    (hb : ∀ (cdv : Value) (A : Around) (outer : List PySem.Env) (s : Shared) (H : Hp) (E : XK), Room k (A.deeper (envOfC qual (defScope st) s.heap.objs.size f cdv)) → PSs (cxOf (L2.CX P w) P w K mg base N qual (defScope st) f cdv A outer s H E) (defBody st) t)
    (hd : ∀ x, pre x → ExS K t (entry N (arg x)) { nx := fun _ => False, rt := fun _ => False, rf := fun ds => ds = res x }) : FnOk P w K mg base (L2.CX P w) (k + 1) f fd ps (spF K pre arg res) := by
  have hN : ps.length ≤ N.length := by have := congrArg List.length S.pre; rw [List.length_take] at this; omega
  refine F.okX S (fun vs H Q E h => ?_) (fun cdv A outer s H vs Q E hr h => ?_)
  · obtain ⟨Hs, x, _, r, _⟩ := h
    rw [r.length, hl]
  · obtain ⟨Hs, x, e, r, hp, q⟩ := h
    refine ⟨t, hb cdv A outer s H E hr, ?_⟩
    exact hd x hp ⟨Hs, H, H, e.2⟩ Hs H (L2.start N vs) _ (rs_entry e r (by rw [hl]; exact hN))
      ⟨fun Hs' H' σ ρ r' z => z.elim, fun Hs' H' v d g x z => z.elim, fun Hs' H' p ws ds g n ns e x z => q Hs' H' p ws g n ns e (z ▸ x), fun _ _ _ _ _ z => z.elim, fun _ _ _ _ _ z => z.elim, fun _ _ _ _ _ _ _ _ z => z.elim,
        fun _ _ _ _ _ _ _ _ _ z => z.elim, fun _ _ _ _ _ _ _ _ z => z.elim⟩
/-! ### calls that may raise -/
theorem xs_asgX {post : α → D → Prop} {exc : α → Value → Option (List (Str × D)) → Prop} {W : WX} {ta : TA} {i : Nat} (x : α) (h : EvA K ta ρ (arg x)) (p : pre x) (hW : R.W = W) (q : ∀ d, post x d → R.nx (ρ.set i (some (.sh d)))) (qx : ∀ cls fs, exc x cls fs → R.ex ρ cls fs) :
    ExS K (tAsg (tCallS (spX K pre arg post exc) (WE W) ta) (gName i)) ρ R := fun B Hs H σ Dn r l =>
  h B Hs H σ r _ fun Hs1 H1 vs g1 xs => ⟨Hs1, x, ⟨g1.lv, (r.grow g1).tb⟩, xs, p, fun Hs' H' v d g y e => l.nx Hs' H' _ _ ((r.grow (g1.trans g)).set i y) (q d e), fun Hs' H' cls dd fs g y e => by
    subst hW
    exact l.ex Hs' H' σ ρ cls dd fs (r.grow (g1.trans g)) y (qx cls fs e)⟩
theorem xs_dropX {post : α → D → Prop} {exc : α → Value → Option (List (Str × D)) → Prop} {W : WX} {ta : TA} (x : α) (h : EvA K ta ρ (arg x)) (p : pre x) (hW : R.W = W) (q : ∀ d, post x d → R.nx ρ) (qx : ∀ cls fs, exc x cls fs → R.ex ρ cls fs) :
    ExS K (tDrop (tCallS (spX K pre arg post exc) (WE W) ta)) ρ R := fun B Hs H σ Dn r l =>
  h B Hs H σ r _ fun Hs1 H1 vs g1 xs => ⟨Hs1, x, ⟨g1.lv, (r.grow g1).tb⟩, xs, p, fun Hs' H' v d g y e => l.nx Hs' H' _ _ (r.grow (g1.trans g)) (q d e), fun Hs' H' cls dd fs g y e => by
    subst hW
    exact l.ex Hs' H' σ ρ cls dd fs (r.grow (g1.trans g)) y (qx cls fs e)⟩
theorem xs_retX {post : α → D → Prop} {exc : α → Value → Option (List (Str × D)) → Prop} {W : WX} {ta : TA} (x : α) (h : EvA K ta ρ (arg x)) (p : pre x) (hW : R.W = W) (q : ∀ d, post x d → R.rt d) (qx : ∀ cls fs, exc x cls fs → R.ex ρ cls fs) :
    ExS K (tRet (tCallS (spX K pre arg post exc) (WE W) ta)) ρ R := fun B Hs H σ Dn r l =>
  h B Hs H σ r _ fun Hs1 H1 vs g1 xs => ⟨Hs1, x, ⟨g1.lv, (r.grow g1).tb⟩, xs, p, fun Hs' H' v d g y e => l.rt Hs' H' v d (r.gr.trans (g1.trans g)) y (q d e), fun Hs' H' cls dd fs g y e => by
    subst hW
    exact l.ex Hs' H' σ ρ cls dd fs (r.grow (g1.trans g)) y (qx cls fs e)⟩
/-- no exception comes of these arguments -/
theorem ev_callX {post : α → D → Prop} {exc : α → Value → Option (List (Str × D)) → Prop} {E : St → XK} {ta : TA} (x : α) (h : EvA K ta ρ (arg x)) (p : pre x) (hp : ∀ e, post x e → e = d) (hx : ∀ cls fs, ¬ exc x cls fs) :
    EvD K (tCallS (spX K pre arg post exc) E ta) ρ d := fun B Hs H σ r Q q =>
  h B Hs H σ r _ fun Hs1 H1 vs g1 xs => ⟨Hs1, x, ⟨g1.lv, (r.grow g1).tb⟩, xs, p, fun Hs' H' v d g y e => q Hs' H' v (g1.trans g) (hp d e ▸ y), fun Hs' H' cls dd fs g y e => absurd e (hx cls fs)⟩
theorem ev_callX0 {post : α → D → Prop} {exc : α → Value → Option (List (Str × D)) → Prop} {E : XK} {ta : TA} (x : α) (h : EvA K ta ρ (arg x)) (p : pre x) (hp : ∀ e, post x e → e = d) (hx : ∀ cls fs, ¬ exc x cls fs) :
    EvD K (tCall (spX K pre arg post exc) [] E ta) ρ d := fun B Hs H σ r Q q =>
  h B Hs H σ r _ fun Hs1 H1 vs g1 xs => by
    rw [List.append_nil]
    exact ⟨Hs1, x, ⟨g1.lv, (r.grow g1).tb⟩, xs, p, fun Hs' H' v d g y e => q Hs' H' v (g1.trans g) (hp d e ▸ y), fun Hs' H' cls dd fs g y e => absurd e (hx cls fs)⟩
/-- raise C('..'), C an own class without fields -/
def tRaise (C : Addr) (W : WX) : TS := fun _ σ H => W (.ref C) none σ H
theorem xs_raise {C : Addr} {W : WX} (hW : R.W = W) (q : R.ex ρ (.ref C) none) : ExS K (tRaise C W) ρ R := fun B Hs H σ Dn r l => by
  subst hW
  exact l.ex Hs H σ ρ (.ref C) none none r trivial q
theorem ps_raiseO {X : Cx} {C : Addr} {W : WX} {m x : Str} {j : Nat} {p p2 pos pos' : Pos} {newId initId : String} {B : String} {bmB : List Value} (hc : X.calm = true) (tk : Takes X W) (F : ExcBaseFacts B newId initId bmB) (q : PySem.W.excIn X.K C bmB newId = true) (gC : X.mg x = some (.ref C)) (kC : PySem.W.keepIn X.K (.ref C) = true)
    (r : Raises X (.ref C)) (hg : Gl X x) (hdb : (x == ("__debug__" : Str)) = false := by decide) : PS X (.Raise (some (.Call (.Name x p) [.Constant (.str m) j p2] [] pos)) none pos') (tRaise C W) := ps_raise hc tk (pmk_own F q gC kC r hg hdb)
/-! ### try -/
/-- a slot holds the exception at a -/
@[reducible] def SV.exv (a : Addr) : SV := .ow false (fun _ v R => v = .ref a ∧ R = em) fun _ _ _ h => by
  rw [h.2]
  exact PlR.em
theorem RS.setE {B : Base} {Hs H : Hp} {σ : St} (r : RS K B Hs H σ ρ) (i : Nat) (a : Addr) : RS K B Hs H (σ.set i (some (.ref a))) (ρ.set i (some (.exv a))) :=
  r.setR (Gr.refl r.ex) i (T := em) (fun _ _ z => nomatch z) (sv := .exv a) fun _ _ => ⟨rfl, rfl⟩
def tTryO (K : PySem.W.Frag) (c : Value) (tb : WX → TS) (ts : Addr → Value → Option Addr → TS) (Wout : WX) : TS := fun D σ H => tb (wOnly K c ts Wout D) D σ H
def tTryA (K : PySem.W.Frag) (c : Value) (i : Nat) (tb : WX → TS) (ts : Addr → Value → Option Addr → TS) (Wout : WX) : TS := fun D σ H => tb (wAs K c i ts Wout D) D σ H
/-- try: .. except c: .. -/
theorem xs_tryO {c : Value} {tb : WX → TS} {ts : Addr → Value → Option Addr → TS} {Wout : WX} (EX : Env → Value → Option (List (Str × D)) → Prop) (hb : ∀ W, ExS K (tb W) ρ { R with ex := EX, W := W })
    (hx : ∀ ρ' cls fs, EX ρ' cls fs → ∃ b, PySem.W.exmOne K cls c = some b ∧ (b = true → ∀ a dd, (fs = none → dd = none) → ExS K (ts a cls dd) ρ' R) ∧ (b = false → R.W = Wout ∧ R.ex ρ' cls fs)) : ExS K (tTryO K c tb ts Wout) ρ R := fun B Hs H σ Dn r l =>
  hb _ B Hs H σ Dn r ⟨l.nx, l.rt, l.rf, l.bk, l.ct, l.ro, fun Hs' H' σ' ρ' cls dd fs r' y q => by
    obtain ⟨b, h1, h2, h3⟩ := hx ρ' cls fs q
    refine ⟨b, h1, fun hb a ha => h2 hb a dd (fun e => by
      subst e
      cases dd with
      | none => rfl
      | some a => exact y.elim) B Hs' H' σ' Dn r' l, fun hb => ?_⟩
    obtain ⟨e1, e2⟩ := h3 hb
    subst e1
    exact l.ex Hs' H' σ' ρ' cls dd fs r' y e2, l.rn⟩
/-- try: .. except c as e: .., e at slot i -/
theorem xs_tryA {c : Value} {i : Nat} {tb : WX → TS} {ts : Addr → Value → Option Addr → TS} {Wout : WX} (EX : Env → Value → Option (List (Str × D)) → Prop) (hb : ∀ W, ExS K (tb W) ρ { R with ex := EX, W := W })
    (hx : ∀ ρ' cls fs, EX ρ' cls fs → ∃ b, PySem.W.exmOne K cls c = some b ∧ (b = true → ∀ a dd, (fs = none → dd = none) → ExS K (ts a cls dd) (ρ'.set i (some (.exv a))) { R with nx := fun ρ2 => R.nx (ρ2.set i none), bk := fun ρ2 => R.bk (ρ2.set i none), ct := fun ρ2 => R.ct (ρ2.set i none) }) ∧ (b = false → R.W = Wout ∧ R.ex ρ' cls fs)) :
    ExS K (tTryA K c i tb ts Wout) ρ R := fun B Hs H σ Dn r l =>
  hb _ B Hs H σ Dn r ⟨l.nx, l.rt, l.rf, l.bk, l.ct, l.ro, fun Hs' H' σ' ρ' cls dd fs r' y q => by
    obtain ⟨b, h1, h2, h3⟩ := hx ρ' cls fs q
    refine ⟨b, h1, fun hb a ha => h2 hb a dd (fun e => ?_) B Hs' H' _ _ (r'.setE i a) ⟨fun Hs2 H2 σ2 ρ2 r2 q2 => l.nx Hs2 H2 _ _ (r2.forget i none) q2, l.rt, l.rf, fun Hs2 H2 σ2 ρ2 r2 q2 => l.bk Hs2 H2 _ _ (r2.forget i none) q2, fun Hs2 H2 σ2 ρ2 r2 q2 => l.ct Hs2 H2 _ _ (r2.forget i none) q2, l.ro, l.ex, l.rn⟩, fun hb => ?_⟩
    · subst e
      cases dd with
      | none => rfl
      | some a => exact y.elim
    · obtain ⟨e1, e2⟩ := h3 hb
      subst e1
      exact l.ex Hs' H' σ' ρ' cls dd fs r' y e2, l.rn⟩
/-- what is known of an exception's class, told to its suite -/
def tKnown (p : Prop) (t : TS) : TS := fun D σ H => p ∧ t D σ H
theorem pss_known {X : Cx} {p : Prop} {sts : List Stmt} {t : TS} (h : p → PSs X sts t) : PSs X sts (tKnown p t) := ⟨fun pins s σ H D I q => (h q.1).run pins s σ H D I q.2⟩
theorem xs_known {p : Prop} {t : TS} (h : p) (q : ExS K t ρ R) : ExS K (tKnown p t) ρ R := fun B Hs H σ Dn r l => ⟨h, q B Hs H σ Dn r l⟩
/-- isinstance(e, c) in the suite -/
theorem ev_isE {C a : Addr} {i : Nat} {c : V} {cv : Value} {b : Bool} (hi : ρ[i]? = some (some (.exv a))) (hc : ∀ u, RelV c u → u = cv) (hk : PySem.W.kitOne K (.ref C) cv = some b) : EvD K (tCB (rIsE K C a) (tCons (tVar i) (tCons (tC c) tNil))) ρ (.bl b) := fun B Hs H σ r Q q => by
  obtain ⟨S, rg⟩ := r.reg
  obtain ⟨v0, hv, hh⟩ := rg.1 i _ hi
  obtain ⟨rfl, _⟩ := hh Hs (Ex.refl Hs)
  exact ⟨.ref a, hv, c, cv, b, rfl, hc, hk, q Hs H _ (Gr.refl r.ex) (.bl b)⟩
/-- what is asked of an own class, so that isinstance asks its instances rightly -/
structure InsC (K : PySem.W.Frag) (C : Addr) : Prop where
  cl : Cls K C
  ha : PySem.W.findIn K (.ref C) "__class__" = some (some (.builtin "object.__class__"))
  hn : PySem.W.specialIn K (.builtin "object.__class__") "__get__" = some (some (.builtin "getset_descriptor.__get__"))
  ht : PySem.W.takesIn K (.builtin "object.__class__") = some true
  hm : PySem.W.mroIn K C (.type "object") = some true
theorem ev_isiO {C Dc : Addr} {ns : List Str} {b : Bool} (ha : EvD K ta ρ (.obj C ns ds)) (I : InsC K C) (hk : PySem.W.kitOne K (.ref C) (.ref Dc) = some b) : EvD K (tCB (rIsi K) (tCons ta (tCons (tC (.ref Dc)) tNil))) ρ (.bl b) := fun B Hs H σ r Q q =>
  ha B Hs H σ r _ fun Hs1 H1 v g x => by
    cases x with
    | obj hp xs => exact ⟨_, .ref Dc, .ref C, .ref Dc, b, rfl, .own Dc, .base (.ins (g.lv _ _ hp) I.cl I.ha I.hn I.ht I.hm), hk, q Hs1 H1 _ g (.bl b)⟩
/-- isinstance of a built-in class, the data of any kind -/
theorem ev_isiD {n : String} {b : Bool} (ha : EvR K ta ρ d) (hk : kitB d.tyn n = some b) (hd : d.tyn ≠ "") : EvD K (tCB (rIsi K) (tCons ta (tCons (tC (.ty n)) tNil))) ρ (.bl b) := ev_isi ha rfl hk hd
end
section
variable {X : Cx} {K : PySem.W.Frag}
theorem isEK {a C : Addr} {oe : Obj} {pn : List (Addr × Obj)} (h : X.K = K) (Cc : ExcC K C) (hz : Zc (.ref C) none oe) (hf : ∃ vs, oe.data = .fields vs) : CallR (X.suite a ((a, oe) :: pn)) (.builtin "isinstance") (rIsE K C a) := by subst h; exact call_isE Cc hz hf
theorem tryAK {x n : Str} {c : Value} {i : Nat} {body suite : List Stmt} {b₀ : Stmt} {np pos pos' : Pos} {tb : WX → TS} {ts : Addr → Value → Option Addr → TS} {Wout : WX} (h : X.K = K) (hs : X.stack = X.env :: X.outer) (hf : X.env.frame = some X.env.locals) (hN : X.N.Nodup) (hi : X.N[i]? = some n) (hln : X.env.kindOf n = some .local) (hc : Names X x c) (tk : Takes X Wout)
    (hb : ∀ (W : WX) (pn : List (Addr × Obj)) (xe : Value → Shared → Prop), Takes (X.tr pn xe) W → PassesOwn (model X.prog X.w) X.A X.env xe → PSs (X.tr pn xe) body (tb W))
    (hsu : ∀ (a : Addr) (oe : Obj) (cls : Value) (d : Option Addr) (pn : List (Addr × Obj)), Zc cls d oe → (∃ vs, oe.data = .fields vs) → PSs (X.suite a ((a, oe) :: pn)) (b₀ :: suite) (ts a cls d)) :
    PS X (.Try body [.ExceptHandler (some (.Name x np)) (some n) (b₀ :: suite) pos'] [] [] pos) (tTryA K c i tb ts Wout) := by subst h; exact ps_try_as hs hf hN hi hln hc tk hb hsu
theorem tryOK {x : Str} {c : Value} {body suite : List Stmt} {b₀ : Stmt} {np pos pos' : Pos} {tb : WX → TS} {ts : Addr → Value → Option Addr → TS} {Wout : WX} (h : X.K = K) (hs : X.stack = X.env :: X.outer) (hf : X.env.frame = some X.env.locals) (hc : Names X x c) (tk : Takes X Wout)
    (hb : ∀ (W : WX) (pn : List (Addr × Obj)) (xe : Value → Shared → Prop), Takes (X.tr pn xe) W → PassesOwn (model X.prog X.w) X.A X.env xe → PSs (X.tr pn xe) body (tb W))
    (hsu : ∀ (a : Addr) (oe : Obj) (cls : Value) (d : Option Addr) (pn : List (Addr × Obj)), Zc cls d oe → (∃ vs, oe.data = .fields vs) → PSs (X.suite a ((a, oe) :: pn)) (b₀ :: suite) (ts a cls d)) :
    PS X (.Try body [.ExceptHandler (some (.Name x np)) none (b₀ :: suite) pos'] [] [] pos) (tTryO K c tb ts Wout) := by subst h; exact ps_try_only hs hf hc tk hb hsu
end
end DL

/-! DDict: enumerate of lists and tuples; dicts from numbers to numbers; min, max of three; insert. -/
namespace DL
open PySem L2 PySem.Spec PyProof.Rows
variable [TbC]
/-! ### enumerate(tuple) -/
def Itet (K : PySem.W.Frag) (a : Addr) : It :=
  ⟨fun i H => ∃ (xs : List V) (x : V), SqT K H a xs ∧ xs[i]? = some x, fun i H v H' => ∃ T x, v = .ref T ∧ H T = none ∧ H' = upd H T (.tup [.int (i : Nat), x]) ∧ ∀ xs, SqT K H a xs → xs[i]? = some x, fun i H => ∃ xs : List V, SqT K H a xs ∧ xs.length = i⟩
theorem meets_enumerate_1B {v : Value} {o : Obj} {H : Heap → Prop} (B : Begins v o H) :
    Meets (Builtin.«enumerate.__new__» ⟨[.type "enumerate", v], []⟩) (fun _ R s => H s.heap ∧
      R (.ok (.ret (.ref (s.heap.push o).objs.size))) { s with heap := (s.heap.push o).push { cls := .type "enumerate", data := .fields #[.none, .bool false, .ref s.heap.objs.size, rawInt 0, .none, .none] } }) :=
  .of_wp fun prog w A R s h => by
    obtain ⟨hp, g, d, tk, os⟩ := s; obtain ⟨h1, h⟩ := h
    have hsub := sub_enumerate
    have q1 : ∀ {A' : Around} {E : Value → Shared → Prop} {Q : Value → Shared → Prop}, Q (.ref hp.objs.size) ⟨hp.push o, g, d, tk, os⟩ → wpAny (model prog w) A' (pyIter v) Q E ⟨hp, g, d, tk, os⟩ :=
      fun q => B.iter prog w _ _ ⟨hp, g, d, tk, os⟩ _ h1 q
    wp_walk using q1
    refine wpAny_stack_any fun st => wpAny_pure ?_
    split
    · rename_i c _ _ _ _ _
      cases (c == Value.type "enumerate")
      · wp_walk using q1
        exact ⟨_, rfl, h⟩
      · wp_walk using q1
        exact ⟨_, rfl, h⟩
    · wp_walk using q1
      exact ⟨_, rfl, h⟩
section
variable {prog : Program} {w : World} {A : Around} {E : Value → Shared → Prop} {s : Shared}
theorem enum_begins1 {v : Value} {o : Obj} {H : Heap → Prop} {Q : Value → Shared → Prop} (B : Begins v o H) (h1 : H s.heap)
    (h : ∀ h', IsEnum h' (s.heap.objs.size + 1) s.heap.objs.size 0 .none → h'.get? s.heap.objs.size = some o → h'.objs.size = s.heap.objs.size + 2 →
      (∀ b o, s.heap.get? b = some o → h'.get? b = some o) → Q (.ref (s.heap.objs.size + 1)) { s with heap := h' }) :
    wpAny (model prog w) A (call (.type "enumerate") [v]) Q E s := by
  refine callType_new F.called_enumerate (by decide) (F.typeCall_enumerate_1 _) (F.newCall_enumerate_1 _) (fun obj => F.args_object_init_2 obj _) F.entry_enumerate_new
    (meets_enumerate_1B B) ⟨h1, ?_⟩
  have hz : (s.heap.push o).objs.size = s.heap.objs.size + 1 := Heap.size_push ..
  show _ ∧ _
  rw [hz]
  have he : IsEnum ((s.heap.push o).push { cls := .type "enumerate", data := .fields #[.none, .bool false, .ref s.heap.objs.size, rawInt 0, .none, .none] }) (s.heap.objs.size + 1) s.heap.objs.size 0 .none := by
    have := Heap.get?_push_size (s.heap.push o) (o := { cls := .type "enumerate", data := .fields #[.none, .bool false, .ref s.heap.objs.size, rawInt 0, .none, .none] }) rfl
    rw [hz] at this; exact this
  refine ⟨⟨_, he, rfl⟩, h _ he (Heap.get?_push_of_some _ (Heap.get?_push_size _ B.free)) (by rw [Heap.size_push, hz]) fun b o x => Heap.get?_push_of_some _ (Heap.get?_push_of_some _ x)⟩
end
theorem turn_enumT {P : Program} {w : World} {K : PySem.W.Frag} {elts : List Expr} {kk : Nat} {tpos : Pos} (a e it : Addr) :
    Turn P w K (.Tuple elts kk tpos) (Itet K a) [e, it] e (fun i h => (∃ old, IsEnum h e it ((i : Nat) : Int) old) ∧ h.IsTupleIter it a i ∧ e ≠ it) where
  mem := by simp
  obj := fun i h st b hb => by
    obtain ⟨⟨old, he⟩, ⟨o, ho, hc, hd⟩, _⟩ := st
    have e' : b = e ∨ b = it := by simpa using hb
    rcases e' with z | z
    · rw [z]; exact ⟨_, he, fun v q => nomatch q⟩
    · rw [z]; exact ⟨o, ho, fun v q => by rw [hd] at q; cases q⟩
  keep := fun i h h' st k => let ⟨⟨old, he⟩, hi, hne⟩ := st; ⟨⟨old, k e (by simp) _ he⟩, hi.at fun o q => k it (by simp) o q, hne⟩
  item := by
    intro X hP hw hK hc i pins s σ H E I hf st hg
    subst hP hw hK
    obtain ⟨⟨old, he⟩, hit, hne⟩ := st
    obtain ⟨xs, x, hq, hx⟩ := hg
    obtain ⟨its, rv, p, hz⟩ := I.tuple hq
    obtain ⟨u, hu, ru⟩ := rv.get hx
    have hel : e < s.heap.objs.size := Heap.lt_size he
    have hil : it < s.heap.objs.size := by obtain ⟨_, q, _⟩ := hit; exact Heap.lt_size q
    have pT : s.heap.IsTuple a its.toArray := p
    have ha1 : a ≠ it := fun z => by
      obtain ⟨o, q1, q2, _⟩ := hit
      obtain ⟨o', q1', q2', _⟩ := pT
      rw [z, q1] at q1'
      cases q1'
      rw [q2] at q2'
      exact absurd (Value.type.inj q2') (by decide)
    have ha2 : e ≠ a := fun z => by
      obtain ⟨o', q1', q2', _⟩ := pT
      rw [← z, he] at q1'
      cases q1'
      exact absurd (Value.type.inj q2') (by decide)
    have hilt : i < its.toArray.size := by
      have := (List.getElem?_eq_some_iff.mp hu).1
      simpa using this
    refine wpAny_pyNext_enum_itemD (Draws.tuple (A := X.A.in1) (I.ok.hd hc) it a ha1 its.toArray) he ⟨hit, pT⟩ hilt hne (by simp [hne, ha2]) fun x0 h' tk hP ho hit' hT hsz hk => ?_
    have hx0 : x0 = u := by
      have e1 : its.toArray[i]? = some x0 := hP
      have e2 : its.toArray[i]? = some u := by simpa using hu
      rw [e1] at e2
      exact Option.some.inj e2
    subst hx0
    refine ⟨_, rfl, wpAny_letOwnedTupleGo_enum (s := { s with heap := h', toks := tk + 1 }) ho fun h'' he' sb => ?_⟩
    have hT2 : h''.get? s.heap.objs.size = some { cls := .type "tuple", data := .seq #[.int i tk, x0] } := (sb.2 _ (Nat.ne_of_gt hel)).trans hT
    have new : ObjOk X.prog X.w (upd H s.heap.objs.size (.tup [.int (i : Nat), x])) h'' s.heap.objs.size (.tup [.int (i : Nat), x]) :=
      ⟨by show 2 ≤ sizeLine; decide, [.int i tk, x0], .cons ⟨_, rfl⟩ (.cons ru .nil), ⟨_, hT2, rfl, _, rfl⟩⟩
    have I1 : Inv X pins σ (upd H s.heap.objs.size (.tup [.int (i : Nat), x])) { s with heap := h'', toks := tk + 1 } :=
      I.turnedNew (ch := [e, it]) (fun b ob hb q => (sb.2 b (fun z => hb (by simp [z]))).trans (hk b ob (fun z => hb (by simp [z])) (fun z => hb (by simp [z])) q)) hf (Nat.le_refl _) new
    refine ⟨.ref s.heap.objs.size, _, I1, rfl, ⟨_, x, rfl, I.hok.fresh (Nat.le_refl _), rfl, fun ys hy => by rw [I.tuple_inj hy hq]; exact hx⟩, ⟨⟨x0, ?_⟩, hit'.1.at fun o q => (sb.2 it (Ne.symm hne)).trans q, hne⟩, fun b hb => ?_⟩
    · have e1 : ((i + 1 : Nat) : Int) = (i : Int) + 1 := by omega
      rw [e1]; exact he'
    · have hb' : b < s.heap.objs.size := by
        have e' : b = e ∨ b = it := by simpa using hb
        rcases e' with z | z
        · rw [z]; exact hel
        · rw [z]; exact hil
      rw [upd_ne (Nat.ne_of_lt hb')]
      exact (hf b hb).1
  done := by
    intro X hP hw hK hc i pins s σ H E I hf st hg
    subst hP hw hK
    obtain ⟨⟨old, he⟩, hit, hne⟩ := st
    obtain ⟨xs, hq, hx⟩ := hg
    obtain ⟨its, rv, p, hz⟩ := I.tuple hq
    obtain ⟨f0, f1, f2, f3, f4, f5⟩ := hf it (by simp)
    have hl := rv.length
    have pT : s.heap.IsTuple a its.toArray := p
    have ha1 : a ≠ it := fun z => by
      obtain ⟨o, q1, q2, _⟩ := hit
      obtain ⟨o', q1', q2', _⟩ := pT
      rw [z, q1] at q1'
      cases q1'
      rw [q2] at q2'
      exact absurd (Value.type.inj q2') (by decide)
    have hi : i = its.toArray.size := by simp; omega
    exact wpAny_pyNext_enum_endD (Draws.tuple (A := X.A.in1) (I.ok.hd hc) it a ha1 its.toArray) he ⟨hi ▸ hit, pT⟩ fun h' eb => ⟨rfl, I.turned (t' := s.toks) (fun b o hb e => eb b o hb e) f0 f1 f3 f4 f5⟩
  self := fun A i s Q E st h => let ⟨⟨_, he⟩, _⟩ := st; wpAny_pyIter_enum he h
def iEnumA (K : PySem.W.Frag) (ta : TA) : TI := fun σ H R => ta σ H fun vs H1 => ∃ a, vs = [.ref a] ∧ (((∃ xs, SqL K H1 a xs) ∧ R (Ite K a) H1) ∨ ((∃ xs, SqT K H1 a xs) ∧ R (Itet K a) H1))
theorem pi_enumA {X : Cx} {e : Expr} {ta : TA} {p pos tpos : Pos} {elts : List Expr} {kk : Nat} (hg : Gl X "enumerate") (hm : X.mg "enumerate" = none) (ha : PA X [e] ta) (hs : starEach [e] X.env = [(false, eval e X.env)] := by rfl) :
    PI X (.Tuple elts kk tpos) (.Call (.Name "enumerate" p) [e] [] pos) (iEnumA X.K ta) := by
  refine ⟨fun pins s σ H R I h => ?_⟩
  refine Call_ (ld_blt I hg hm boot_enumerate (PyProof.Rows.callWith_type1 (thn (ha.run pos pins s σ H _ I h) fun us s1 ⟨vs, H1, I1, r1, q1⟩ => ?_) hs rfl))
  obtain ⟨a, ex, q⟩ := q1
  subst ex
  cases r1 with
  | cons r rr =>
    cases rr
    cases r
    have fp : ∀ b ∈ [s1.heap.objs.size + 1, s1.heap.objs.size], FpOk X pins H1 b := fun b hb => by
      have e' : b = s1.heap.objs.size + 1 ∨ b = s1.heap.objs.size := by simpa using hb
      have hle : s1.heap.objs.size ≤ b := by
        rcases e' with z | z
        · rw [z]; exact Nat.le_add_right _ _
        · rw [z]; exact Nat.le_refl _
      exact I1.fpOk hle (I1.hok.fresh hle)
    rcases q with ⟨⟨xs, hq⟩, q⟩ | ⟨⟨xs, hq⟩, q⟩
    · obtain ⟨its, rv, p', hz⟩ := I1.list hq
      refine call_enumerate_list p'.isList fun h' he hit hsz hk => wpAny_pyIter_enum he ?_
      have I2 : Inv X pins σ H1 { s1 with heap := h' } := I1.kept (t' := s1.toks) hk
      exact ⟨s1.heap.objs.size + 1, [s1.heap.objs.size + 1, s1.heap.objs.size], _, _, H1, rfl, I2, turn_enum a (s1.heap.objs.size + 1) s1.heap.objs.size, ⟨⟨.none, he⟩, hit, Nat.succ_ne_self _⟩, fp, q⟩
    · obtain ⟨its, rv, p', hz⟩ := I1.tuple hq
      refine enum_begins1 (begins_tuple a its.toArray) p' fun h' he hit hsz hk => wpAny_pyIter_enum he ?_
      have I2 : Inv X pins σ H1 { s1 with heap := h' } := I1.kept (t' := s1.toks) hk
      exact ⟨s1.heap.objs.size + 1, [s1.heap.objs.size + 1, s1.heap.objs.size], _, _, H1, rfl, I2, turn_enumT a (s1.heap.objs.size + 1) s1.heap.objs.size, ⟨⟨.none, he⟩, ⟨_, hit, rfl, rfl⟩, Nat.succ_ne_self _⟩, fp, q⟩
theorem dgetK {X : Cx} {o i : Expr} {pos : Pos} {td ty : TE} (hu : X.A.units + 65 < cLine) (ho : PE X o td) (hi : PE X i ty) (hs : NoSl i) : PE X (.Subscript o i pos) (tDGet td ty) := pe_dget (by omega) ho hi hs
theorem enumAK {X : Cx} {K : PySem.W.Frag} (h : X.K = K) {e : Expr} {ta : TA} {p pos tpos : Pos} {elts : List Expr} {kk : Nat} (hg : Gl X "enumerate") (hm : X.mg "enumerate" = none) (ha : PA X [e] ta) (hs : starEach [e] X.env = [(false, eval e X.env)] := by rfl) :
    PI X (.Tuple elts kk tpos) (.Call (.Name "enumerate" p) [e] [] pos) (iEnumA K ta) := by subst h; exact pi_enumA hg hm ha hs
section
variable {K : PySem.W.Frag} {ρ ρ' : Env} {nw : Nw} {te ta tb tc tw ti : TE} {d e : D} {ds es : List D} {tt : TT} {R : DEnds} {o : O} {i : Nat} {p : List Nat}
theorem ei_enumL (h : EvD K ta ρ (.lst ds)) : EvI K (iEnumA K (tCons ta tNil)) ρ (numD 0 ds) := fun B Hs H σ r R q => h B Hs H σ r _ fun Hs1 H1 v g x => by
  cases x with
  | @lst p vs _ hp' xs =>
    have hp : SqL K Hs1 p vs := .of hp'
    refine ⟨p, rfl, .inl ⟨⟨vs, g.lv.sl hp⟩, q _ Hs1 H1 g fun i Hs2 H2 e1 e2 => ⟨fun d hd => ?_, fun hi => ?_⟩⟩⟩
    · rw [numD_get, Nat.zero_add] at hd
      obtain ⟨d0, e3, e4⟩ := Option.map_eq_some_iff.mp hd
      subst e4
      have hq := (e1.trans e2).sl hp
      obtain ⟨v, hv, xv⟩ := xs.at e3
      refine ⟨⟨vs, v, hq, hv⟩, fun x H3 y => ?_⟩
      obtain ⟨T, w, rfl, hT, rfl, y⟩ := y
      have z := y vs hq
      rw [hv] at z
      cases z
      have n2 : Hs2 T = none := by
        cases q : Hs2 T with
        | none => rfl
        | some u =>
          rw [e2 T u q] at hT
          cases hT
      exact ⟨_, Gr.new e2 hT, .tup upd_same (.cons (.int _) (.cons (xv.mono (e1.trans (Ex.new n2))) .nil))⟩
    · rw [numD_length] at hi
      exact ⟨vs, (e1.trans e2).sl hp, by rw [xs.length]; omega⟩
theorem ei_enumT (h : EvD K ta ρ (.tup ds)) : EvI K (iEnumA K (tCons ta tNil)) ρ (numD 0 ds) := fun B Hs H σ r R q => h B Hs H σ r _ fun Hs1 H1 v g x => by
  cases x with
  | @tup p vs _ hp' xs =>
    have hp : SqT K Hs1 p vs := .of hp'
    refine ⟨p, rfl, .inr ⟨⟨vs, g.lv.st hp⟩, q _ Hs1 H1 g fun i Hs2 H2 e1 e2 => ⟨fun d hd => ?_, fun hi => ?_⟩⟩⟩
    · rw [numD_get, Nat.zero_add] at hd
      obtain ⟨d0, e3, e4⟩ := Option.map_eq_some_iff.mp hd
      subst e4
      have hq := (e1.trans e2).st hp
      obtain ⟨v, hv, xv⟩ := xs.at e3
      refine ⟨⟨vs, v, hq, hv⟩, fun x H3 y => ?_⟩
      obtain ⟨T, w, rfl, hT, rfl, y⟩ := y
      have z := y vs hq
      rw [hv] at z
      cases z
      have n2 : Hs2 T = none := by
        cases q : Hs2 T with
        | none => rfl
        | some u =>
          rw [e2 T u q] at hT
          cases hT
      exact ⟨_, Gr.new e2 hT, .tup upd_same (.cons (.int _) (.cons (xv.mono (e1.trans (Ex.new n2))) .nil))⟩
    · rw [numD_length] at hi
      exact ⟨vs, (e1.trans e2).st hp, by rw [xs.length]; omega⟩
/-! ### dicts from numbers to numbers -/
theorem en_dictV : EvN K tDNewK ρ (.dv (fun _ => none) 0) := fun B Hs H σ r Q q => fun p hp => by
  obtain ⟨n1, n2⟩ := gr_none (Gr.refl r.ex) hp
  refine q Hs _ _ _ (Gr.newO r.ex hp) (.dg (kvs := []) ⟨Nat.le_refl _, fun i => rfl⟩) fun a u z => ?_
  by_cases y : a = p
  · subst y
    rw [upd_same] at z ⊢
    exact ⟨z, hp, n2⟩
  · rw [upd_ne y] at z
    cases z
theorem ev_inV {f : Int → Option Int} {n : Nat} {k : Int} (hk : EvD K ta ρ (.int k)) (h : EvW K te ρ i p) (hi : ρ[i]? = some (some (.tr K nw o))) (hp : o.at_ p = some (.dv f n)) : EvD K (tOp (rInA K) ta te) ρ (.bl (f k).isSome) := fun B Hs H σ r Q q =>
  hk B Hs H σ r _ fun Hs0 H0 y g0 y0 => h B Hs0 H0 σ (r.grow g0) _ fun Hs1 H1 v0 v g hv va => by
    cases y0
    have r1 := (r.grow g0).grow g
    obtain ⟨R, rg⟩ := r1.reg
    obtain ⟨v0', v1, S, hv', va', ow, sub, _⟩ := r1.part rg hi hp
    rw [hv] at hv'
    cases hv'
    have e := va.det va'
    subst e
    cases ow with
    | @dg a _ _ kvs hk =>
      refine .inr (.inr (.inl ⟨a, _, rfl, DGet.k (k := (Sum.inl k : Key)) (sub a _ upd_same).1, ?_⟩))
      rw [hk.2 k, Option.isSome_map]
      exact q Hs1 H1 _ (g0.trans g) (.bl _)
theorem ev_notInV {f : Int → Option Int} {n : Nat} {k : Int} (hk : EvD K ta ρ (.int k)) (h : EvW K te ρ i p) (hi : ρ[i]? = some (some (.tr K nw o))) (hp : o.at_ p = some (.dv f n)) : EvD K (tOp (rNotInA K) ta te) ρ (.bl (!(f k).isSome)) := fun B Hs H σ r Q q =>
  hk B Hs H σ r _ fun Hs0 H0 y g0 y0 => h B Hs0 H0 σ (r.grow g0) _ fun Hs1 H1 v0 v g hv va => by
    cases y0
    have r1 := (r.grow g0).grow g
    obtain ⟨R, rg⟩ := r1.reg
    obtain ⟨v0', v1, S, hv', va', ow, sub, _⟩ := r1.part rg hi hp
    rw [hv] at hv'
    cases hv'
    have e := va.det va'
    subst e
    cases ow with
    | @dg a _ _ kvs hk =>
      refine .inr (.inr (.inl ⟨a, _, rfl, DGet.k (k := (Sum.inl k : Key)) (sub a _ upd_same).1, ?_⟩))
      rw [hk.2 k, Option.isSome_map]
      exact q Hs1 H1 _ (g0.trans g) (.bl _)
/-- d[k] -/
theorem ev_getV {f : Int → Option Int} {n : Nat} {k v : Int} (h : EvW K te ρ i p) (hk : EvD K ta ρ (.int k)) (hi : ρ[i]? = some (some (.tr K nw o))) (hp : o.at_ p = some (.dv f n)) (hf : f k = some v) : EvD K (tDGet te ta) ρ (.int v) := fun B Hs H σ r Q q =>
  h B Hs H σ r _ fun Hs0 H0 v0 v g0 hv va => hk B Hs0 H0 σ (r.grow g0) _ fun Hs1 H1 y g y0 => by
    cases y0
    have r1 := (r.grow g0).grow g
    obtain ⟨R, rg⟩ := r1.reg
    obtain ⟨v0', v1, S, hv', va', ow, sub, _⟩ := r1.part rg hi hp
    rw [hv] at hv'
    cases hv'
    have e := (va.monoN g.fr).det va'
    subst e
    cases ow with
    | @dg a _ _ kvs hk =>
      refine ⟨a, _, rfl, ?_, q Hs1 H1 _ (g0.trans g) (.int _)⟩
      have := DGet.k (k := (Sum.inl k : Key)) (sub a _ upd_same).1
      rw [hk.2 k, hf] at this
      exact this
/-- d[k] = v -/
theorem xs_putV {f : Int → Option Int} {n : Nat} {k x : Int} (h : EvD K te ρ (.int x)) (hw : EvW K tw ρ i p) (hi : ρ[i]? = some (some (.tr K nw o))) (hp : o.at_ p = some (.dv f n)) (hk : EvD K ti ρ (.int k)) (hz : n < 100000) (q : R.nx (ρ.set i (some (.tr K nw (o.put p (.dv (fun y => if y = k then some x else f y) (n + 1))))))) :
    ExS K (tAsg te (gSub tw ti rSetA)) ρ R := fun B Hs H σ Dn r l =>
  h B Hs H σ r _ fun Hs0 H0 w g0 y0 => hw B Hs0 H0 σ (r.grow g0) _ fun Hs1 H1 v0 v g hv va => hk B Hs1 H1 σ ((r.grow g0).grow g) _ fun Hs2 H2 z g2 z2 => by
    cases z2
    cases y0
    have r2 := ((r.grow g0).grow g).grow g2
    obtain ⟨R2, rg2⟩ := r2.reg
    obtain ⟨v0', v1, S, hv', va', ow, sub, kk⟩ := r2.part rg2 hi hp
    rw [hv] at hv'
    cases hv'
    have e := (va.monoN g2.fr).det va'
    subst e
    cases ow with
    | @dg a _ _ kvs hkv =>
      have ha := (sub a _ upd_same).1
      refine .inr ⟨a, _, rfl, DPut.k (k := (Sum.inl k : Key)) ha (Nat.lt_of_le_of_lt hkv.1 (sz_lt hz)), l.nx Hs2 _ _ _ (kk (S' := upd em a (.dK (putK kvs (Sum.inl k : Key) (.int x)))) (.dg ⟨?_, fun y => ?_⟩) (fun b u z => ?_) (fun b u z e => ?_) (fun b e => upd_keep ha e) Ch.upd) q⟩
      · have := length_putK kvs (Sum.inl k : Key) (.int x)
        have := hkv.1
        omega
      · rw [valV_put]
        by_cases e : y = k
        · subst e
          rw [if_pos rfl]
          show some (V.int x) = Option.map V.int (if y = y then some x else f y)
          rw [if_pos rfl]
          rfl
        · rw [if_neg (fun z => e (Sum.inl.inj z)), hkv.2 y]
          show Option.map V.int (f y) = Option.map V.int (if y = k then some x else f y)
          rw [if_neg e]
      · by_cases eb : b = a
        · subst eb
          rw [upd_same] at z ⊢
          exact ⟨z, .inl (by rw [upd_same]; exact fun q => nomatch q)⟩
        · rw [upd_ne eb] at z
          cases z
      · rw [upd_ne (fun eb => by rw [eb, upd_same] at z; cases z)]
        exact e
/-! ### min, max of three -/
theorem nuMin2_int (x y : Int) : nuMin2 (.int x) (.int y) = some (.int (min x y)) := by
  show some (if decide (y < x) = true then V.int y else V.int x) = _
  by_cases h : y < x
  · rw [if_pos (decide_eq_true h), Int.min_eq_right (by omega)]
  · rw [if_neg (by simpa using h), Int.min_eq_left (by omega)]
theorem nuMin3_int (x y z : Int) : nuMin3 (.int x) (.int y) (.int z) = some (.int (min (min x y) z)) := by
  show (nuMin2 (.int x) (.int y)).bind (fun m => nuMin2 m (.int z)) = _
  rw [nuMin2_int]
  exact nuMin2_int _ _
theorem ev_min3 {x y z : Int} (ha : EvD K ta ρ (.int x)) (hb : EvD K tb ρ (.int y)) (hc : EvD K tc ρ (.int z)) : EvD K (tCB (rNuC3 nuMin3) (tCons ta (tCons tb (tCons tc tNil)))) ρ (.int (min (min x y) z)) := fun B Hs H σ r Q q =>
  ha B Hs H σ r _ fun Hs1 H1 v1 g1 x1 => hb B Hs1 H1 σ (r.grow g1) _ fun Hs2 H2 v2 g2 x2 => hc B Hs2 H2 σ ((r.grow g1).grow g2) _ fun Hs3 H3 v3 g3 x3 => by
    cases x1
    cases x2
    cases x3
    refine ⟨_, _, _, .int (min (min x y) z), rfl, ?_, q Hs3 H3 _ ((g1.trans g2).trans g3) (.int _)⟩
    exact nuMin3_int x y z
/-- xs.insert(k, x), an own list -/
theorem xs_insO {k : Int} (hx : ρ[i]? = some (some (.ol ds))) (hk : EvD K ti ρ (.int k)) (h : EvD K te ρ d) (hz : ds.length < 100000) (h0 : 0 ≤ k) (h1 : k < 1000000000) (q : R.nx (ρ.set i (some (.ol (ds.take k.toNat ++ [d] ++ ds.drop k.toNat))))) :
    ExS K (tDrop (tBM K "list" rInsert (tVar i) (tCons ti (tCons te tNil)))) ρ R := fun B Hs H σ Dn r l => by
  obtain ⟨p, vs, e, hp, x, _⟩ := r.mutL i hx
  refine ⟨.ref p, e, .inl ⟨rfl, _, .of hp⟩, hk B Hs H σ r _ fun Hs1 H1 w1 g1 y1 => h B Hs1 H1 σ (r.grow g1) _ fun Hs2 H2 w g2 y => ?_⟩
  cases y1
  obtain ⟨p', vs', e', hp', x', m⟩ := ((r.grow g1).grow g2).mutL i hx
  rw [e] at e'
  cases e'
  refine ⟨p, vs', k, w, rfl, rfl, hp', by rw [x'.length]; exact sz_lt hz, h0, by omega, ?_⟩
  exact l.nx Hs2 _ _ _ (m _ _ (((x'.take _).append (.cons y .nil)).append (x'.drop _))) q
end
end DL

/-! DRev: list(reversed(l)); l.index(i); a.append(b.pop(i)); len(set(l)). -/
namespace PySem
open Sem (wp)
open AutoSeq1 (wpAny_loadPart')
namespace RV
theorem nolen : typeLookup (.type "list_reverseiterator") "__len__" = pure none := by rw [typeLookup_type, builtinLookup_eq_fast]; kernel_rfl
theorem hint : typeLookup (.type "list_reverseiterator") "__length_hint__" = pure (some (.builtin "list_reverseiterator.__length_hint__")) := by rw [typeLookup_type, builtinLookup_eq_fast]; kernel_rfl
section
variable {prog : Program} {w : World} {A : Around} {E : Value → Shared → Prop} {s : Shared} {I l : Addr} {items : Array Value}
abbrev Got (items : Array Value) (acc : Array Value) : Prop := ItemsOf (fun i v => items[items.size - 1 - i]? = some v) acc items.size
theorem extend {R : Result → Shared → Prop} (hh : A.handled = none) (zi : s.heap.IsRevIter I l ((items.size : Int) - 1)) (zl : s.heap.IsList l items) (few : items.size ≤ sizeLine) (S : Addr) (res : Value) (c₀ : Nat) (yS : s.heap.get? S = some { cls := .type "list", data := .seq #[] c₀ }) (hSl : S ≠ l)
    (q : ∀ h' tk acc' c', (∀ b o, b ≠ S → b ≠ I → s.heap.get? b = some o → h'.get? b = some o) → h'.get? S = some { cls := .type "list", dict := none, data := .seq acc' c', slots := #[] } → Got items acc' → R (.ok (.ret res)) { s with heap := h', toks := tk }) :
    wpAny (model prog w) A.in1 (Builtin.List.listExtendWith (.ref S) (.ref I) res) (fun fin s' => match fin with | .done f => R (.ok f) s' | .again c' => c'.quiet = true ∧ codeAny (model prog w) A c' R s') (fun e s' => R (.error e) s') s := by
  obtain ⟨oi, hi1, hi2, hi3⟩ := id zi
  obtain ⟨ol, hl1, hl2, hl3⟩ := id zl
  have nSI : S ≠ I := fun e => by
    rw [e, hi1] at yS
    have := Option.some.inj yS
    rw [this] at hi2
    exact absurd (Value.type.inj hi2) (by decide)
  have nlI : l ≠ I := fun e => by
    rw [e, hi1] at hl1
    have := Option.some.inj hl1
    rw [this, hl2] at hi2
    exact absurd (Value.type.inj hi2) (by decide)
  have nSf : S ∉ [I, l] := by simp [nSI, hSl]
  have W := (Walks.listRev (prog := prog) (w := w) (A := A.in1) hh I l nlI items).toS
  have st0 : 0 ≤ items.size ∧ s.heap.IsRevIter I l ((items.size : Int) - 1 - ((0 : Nat) : Int)) ∧ s.heap.IsList l items := ⟨Nat.zero_le _, by simpa using zi, zl⟩
  have hT : s.TypeIs (.ref I) "list_reverseiterator" := zi.typeIs
  have h1 : Builtin.List.listSameRef (.ref S) (.ref I) = false := by simp [Builtin.List.listSameRef, nSI]
  unfold Builtin.List.listExtendWith
  refine wpAny_bind (wpAny_typeOf hT ?_)
  rw [if_neg (by rw [h1]; decide)]
  refine wpAny_bind (wpAny_pyIter_revIter zi ?_)
  refine wpAny_bind (wpAny_holding ?_)
  unfold Builtin.List.listLengthHint
  refine wpAny_bind (wpAny_specialOf hT nolen ?_)
  show wpAny _ A.in1 (specialOf (Value.ref I) (Str.ofString "__length_hint__") >>= _) _ _ _
  refine wpAny_bind (wpAny_specialOf hT hint ?_)
  generalize hid : ("list_reverseiterator.__length_hint__" : String) = id0
  wp_delta
  rw [show splitId id0 = some ("list_reverseiterator", "__length_hint__") from by subst hid; decide +kernel]
  subst hid
  refine wpAny_bind (wpAny_isInstance (b := true) hT (by rw [isSubtype_type]; kernel_rfl) ?_)
  refine wpAny_pure ?_
  rw [if_neg (by decide)]
  refine wpAny_pure ⟨plainId_quiet F.plain_extend_loop _, codeAny_extend_loopS W few S nSf res items.size 0 _ #[] c₀ rfl (Nat.zero_le _) st0 yS (ItemsOf.nil _) fun s' acc' c' m y3 g => ?_⟩
  rw [Moved.eq_with m]
  refine q s'.heap s'.toks acc' c' (fun b o nb nI e => m.heap b o (fun mm => ?_) e) y3 g
  rcases List.mem_cons.mp mm with e' | mm
  · exact nb e'
  · exact nI (List.mem_singleton.mp mm)
theorem init {R : Result → Shared → Prop} (hh : A.handled = none) (zi : s.heap.IsRevIter I l ((items.size : Int) - 1)) (zl : s.heap.IsList l items) (few : items.size ≤ sizeLine) (S : Addr) (yS : s.heap.get? S = some { cls := .type "list", data := .seq #[] }) (hSl : S ≠ l)
    (q : ∀ h' tk acc' c', (∀ b o, b ≠ S → b ≠ I → s.heap.get? b = some o → h'.get? b = some o) → h'.get? S = some { cls := .type "list", dict := none, data := .seq acc' c', slots := #[] } → Got items acc' → R (.ok (.ret .none)) { s with heap := h', toks := tk }) :
    wpAny (model prog w) A.in1 (Builtin.«list.__init__» ⟨[.ref S, .ref I], []⟩) (fun fin s' => match fin with | .done f => R (.ok f) s' | .again c' => c'.quiet = true ∧ codeAny (model prog w) A c' R s') (fun e s' => R (.error e) s') s := by
  obtain ⟨oi, hi1, hi2, hi3⟩ := id zi
  have nSI : S ≠ I := fun e => by
    rw [e, hi1] at yS
    have := Option.some.inj yS
    rw [this] at hi2
    exact absurd (Value.type.inj hi2) (by decide)
  show wpAny _ _ (do let old ← Builtin.List.listItems (.ref S); Builtin.List.listUpdate (.ref S) (fun _ => #[]); letGo old.toList.reverse; Builtin.List.listExtendWith (.ref S) (.ref I) .none) _ _ s
  refine wpAny_bind ?_
  unfold Builtin.List.listItems
  refine wpAny_bind (wpAny_seqItems yS rfl (wpAny_pure ?_))
  show wpAny _ _ (updateSeq S (fun _ => #[]) >>= fun _ => letGo (#[] : Array Value).toList.reverse >>= fun _ => Builtin.List.listExtendWith (.ref S) (.ref I) .none) _ _ s
  refine wpAny_bind (wpAny_updateSeq yS rfl ?_)
  have y2 := Heap.get?_update_self (Obj.mapSeq (fun _ => (#[] : Array Value))) yS rfl
  have oth : ∀ b o, b ≠ S → s.heap.get? b = some o → (s.heap.update S (Obj.mapSeq (fun _ => (#[] : Array Value)))).get? b = some o := fun b o nb e => (Heap.get?_update_other _ _ (Ne.symm nb)).trans e
  refine wpAny_bind (wpAny_letGo (extend hh (zi.at fun o e => oth I o (Ne.symm nSI) e) (zl.at fun o e => oth l o (Ne.symm hSl) e) few S .none _ y2 hSl fun h' tk acc' c' hk y3 g => ?_))
  exact q h' tk acc' c' (fun b o nb nI e => hk b o nb nI (oth b o nb e)) y3 g
theorem call_rev {Q : Value → Shared → Prop} (hh : A.handled = none) (zi : s.heap.IsRevIter I l ((items.size : Int) - 1)) (zl : s.heap.IsList l items) (few : items.size ≤ sizeLine)
    (q : ∀ h' tk acc' c', (∀ b o, b ≠ I → s.heap.get? b = some o → h'.get? b = some o) → h'.get? s.heap.objs.size = some { cls := .type "list", dict := none, data := .seq acc' c', slots := #[] } → Got items acc' → Q (.ref s.heap.objs.size) { s with heap := h', toks := tk }) :
    wpAny (model prog w) A (call (.type "list") [.ref I]) Q E s := by
  refine callType_codes (Q₁ := fun obj s₁ => obj = .ref s.heap.objs.size ∧ s₁ = { s with heap := s.heap.push { cls := .type "list", data := .seq #[] } }) F.called_list (F.typeCall_list_1 _) F.entry_list_init (code_list_new _ ⟨rfl, rfl⟩) fun obj s₁ h₁ => ?_
  obtain ⟨rfl, rfl⟩ := h₁
  have yS : (s.heap.push { cls := .type "list", data := .seq #[] }).get? s.heap.objs.size = some { cls := .type "list", data := .seq #[] } := Heap.get?_push_size _ rfl
  have hll : l < s.heap.objs.size := by obtain ⟨o, h, _⟩ := id zl; exact Heap.lt_size h
  refine ⟨⟨_, yS, rfl⟩, F.args_list_init_2 _ _, init (A := A.in1) hh (zi.at fun o e => Heap.get?_push_of_some _ e) (zl.at fun o e => Heap.get?_push_of_some _ e) few _ yS (Ne.symm (Nat.ne_of_lt hll)) fun h' tk acc' c' hk y2 g => ?_⟩
  exact ⟨rfl, q h' tk acc' c' (fun b o nI e => hk b o (Nat.ne_of_lt (Heap.lt_size e)) nI (Heap.get?_push_of_some _ e)) y2 g⟩
end
end RV
end PySem
namespace DL
open PySem L2 PySem.Spec PyProof.Rows
variable [TbC]
def tListRev (K : PySem.W.Frag) (te : TE) : TE := fun σ H Q => te σ H fun v H1 => ∃ (a : Addr) (xs : List V), v = .ref a ∧ SqL K H1 a xs ∧ ∀ q, H1 q = none → Q (.ref q) (upd H1 q (.lst xs.reverse))
section
variable {X : Cx}
theorem pe_listRev {e : Expr} {te : TE} {p p2 pos pos2 : Pos} (hc : X.calm = true) (hg : Gl X "list") (hm : X.mg "list" = none) (hg2 : Gl X "reversed") (hm2 : X.mg "reversed" = none) (he : PE X e te)
    (hs : starEach [e] X.env = (false, eval e X.env) :: starEach [] X.env := by rfl)
    (hs2 : starEach [.Call (.Name "reversed" p2) [e] [] pos2] X.env = (false, eval (.Call (.Name "reversed" p2) [e] [] pos2) X.env) :: starEach [] X.env := by rfl) :
    PE X (.Call (.Name "list" p) [.Call (.Name "reversed" p2) [e] [] pos2] [] pos) (tListRev X.K te) := by
  refine ⟨fun pins s σ H Q I h => ?_⟩
  refine Call_ (ld_blt I hg hm boot_list (PyProof.Rows.callWith_type1 (args_cons (Call_ (ld_blt I hg2 hm2 PyProof.Rows.boot_reversed (PyProof.Rows.callWith_type1 (args_cons (thn (he.run pins s σ H _ I h) fun u s1 ⟨v, H1, I1, r1, q1⟩ => args_nil ?_) hs) hs rfl))) hs2) hs2 rfl))
  obtain ⟨a, xs, ev, hq, q⟩ := q1
  subst ev
  obtain rfl : u = Value.ref a := r1
  obtain ⟨its, rv, p', hz⟩ := I1.list hq
  refine call_reversed_list p'.isList (args_nil ?_)
  have k0 : ∀ b o, s1.heap.get? b = some o → (s1.heap.push (revObj a ((its.toArray.size : Int) - 1))).get? b = some o := fun b o e => Heap.get?_push_of_some _ e
  have I2 : Inv X pins σ H1 { s1 with heap := s1.heap.push (revObj a ((its.toArray.size : Int) - 1)) } := I1.kept (t' := s1.toks) k0
  obtain ⟨f0, f1, f2, f3, f4, f5⟩ := I1.fpOk (H' := H1) (b := s1.heap.objs.size) (Nat.le_refl _) (I1.hok.fresh (Nat.le_refl _))
  have hl := p'.isList
  obtain ⟨ol, hol, _⟩ := id hl
  have hne : a ≠ s1.heap.objs.size := Nat.ne_of_lt (Heap.lt_size hol)
  have hn : its.toArray.size ≤ sizeLine := by rw [List.size_toArray, ← rv.length]; exact hz
  refine RV.call_rev (s := { s1 with heap := s1.heap.push (revObj a ((its.toArray.size : Int) - 1)) }) (I := s1.heap.objs.size) (l := a) (items := its.toArray) (I1.ok.hd hc) ⟨_, Heap.get?_push_size _ rfl, rfl, rfl⟩ (hl.push _) hn fun h' tk acc c' hk hS hi => ?_
  have hfp : ∀ b ∈ [s1.heap.objs.size], FpOk X pins H1 b := fun b hb => by
    obtain rfl := List.mem_singleton.mp hb
    exact ⟨f0, f1, f2, f3, f4, f5⟩
  have I3 : Inv X pins σ (upd H1 (s1.heap.push (revObj a ((its.toArray.size : Int) - 1))).objs.size (.lst xs.reverse)) { s1 with heap := h', toks := tk } :=
    I2.turnedNew (t' := tk) (ch := [s1.heap.objs.size]) (fun b o hb e => hk b o (fun z => hb (by simp [z])) e) hfp (Nat.le_refl _)
      (show ObjOk X.prog X.w _ h' _ (.lst xs.reverse) from ⟨by rw [List.length_reverse]; exact hz, acc.toList, c', RT.vals_rev rv hi, by rw [Array.toArray_toList]; exact hS⟩)
  exact ⟨.ref (s1.heap.push (revObj a ((its.toArray.size : Int) - 1))).objs.size, _, I3, rfl, q _ (I2.hok.fresh (Nat.le_refl _))⟩
end
theorem listRevK {X : Cx} {K : PySem.W.Frag} {e : Expr} {te : TE} {p p2 pos pos2 : Pos} (h : X.K = K) (hg : Gl X "list") (hm : X.mg "list" = none) (hg2 : Gl X "reversed") (hm2 : X.mg "reversed" = none) (he : PE X e te) (hc : X.calm = true := by rfl)
    (hs : starEach [e] X.env = (false, eval e X.env) :: starEach [] X.env := by rfl)
    (hs2 : starEach [.Call (.Name "reversed" p2) [e] [] pos2] X.env = (false, eval (.Call (.Name "reversed" p2) [e] [] pos2) X.env) :: starEach [] X.env := by rfl) :
    PE X (.Call (.Name "list" p) [.Call (.Name "reversed" p2) [e] [] pos2] [] pos) (tListRev K te) := by subst h; exact pe_listRev hc hg hm hg2 hm2 he hs hs2
theorem lenSetK {X : Cx} {K : PySem.W.Frag} {a : Expr} {ta : TE} {p p2 q pos : Pos} (h : X.K = K) (hg : Gl X "len") (hm : X.mg "len" = none) (hg2 : Gl X "set") (hm2 : X.mg "set" = none) (ha : PE X a ta) (hc : X.calm = true := by rfl)
    (na : starEach [a] X.env = (false, eval a X.env) :: starEach [] X.env := by rfl) : PE X (.Call (.Name "len" p) [.Call (.Name "set" p2) [a] [] q] [] pos) (RZ.tLenSetI K ta) := by subst h; exact RZ.pe_lenSetI hg hm hg2 hm2 ha hc na
theorem indexK {X : Cx} {K : PySem.W.Frag} (h : X.K = K) : MtR X "list.index" (rIndex K) := by subst h; exact mt_index
section
variable {K : PySem.W.Frag} {ρ ρ' : Env} {te ta tb ti : TE} {d e : D} {ds es : List D} {tt : TT} {R : DEnds}
theorem ef_listRev (ha : EvB K ta ρ ds) : EvF K (tListRev K ta) ρ ds.reverse := fun B Hs H σ r Q q =>
  ha B Hs H σ r _ fun Hs1 H1 p vs g1 hp xs => ⟨p, vs, rfl, hp, fun l hn => by
    obtain ⟨n1, n2⟩ := gr_none g1 hn
    exact q Hs1 _ l _ (g1.trans (Gr.newO g1.lv hn)) n1 n2 upd_same xs.rev⟩
theorem ev_lenSet {xs : List Int} (ha : EvB K ta ρ (xs.map .int)) (hn : xs.Nodup) (hl : xs.length ≤ 4000) : EvD K (RZ.tLenSetI K ta) ρ (.int (xs.length : Nat)) := fun B Hs H σ r Q q =>
  ha B Hs H σ r _ fun Hs1 H1 p vs g1 hp x => by
    have x9 := RepL.ints x; subst x9
    exact ⟨p, xs, rfl, hp, hn, hl, q _ _ _ g1 (.int _)⟩
theorem idxOf_lt_ne {y : Int} : ∀ {xs : List Int} {m : Nat} {z : Int}, m < xs.idxOf y → xs[m]? = some z → (z == y) = false
  | [], m, z, h, e => by cases e
  | x :: xs, m, z, h, e => by
    rw [List.idxOf_cons] at h
    cases hb : (x == y) with
    | true => rw [hb] at h; exact absurd h (Nat.not_lt_zero _)
    | false =>
      rw [hb] at h
      cases m with
      | zero => cases e; exact hb
      | succ m => exact idxOf_lt_ne (Nat.lt_of_succ_lt_succ h) e
theorem ev_index {xs : List Int} {y : Int} (hb : EvB K tb ρ (xs.map .int)) (hy : EvD K te ρ (.int y)) (hm : y ∈ xs) : EvD K (tBM K "list" (rIndex K) tb (tCons te tNil)) ρ (.int (xs.idxOf y : Nat)) := fun B Hs H σ r Q q =>
  hb B Hs H σ r _ fun Hs1 H1 p vs g1 hp x => by
    refine ⟨.inl ⟨rfl, _, hp⟩, hy B Hs1 H1 σ (r.grow g1) _ fun Hs2 H2 w g2 yw => ?_⟩
    cases yw
    have x9 := RepL.ints x; subst x9
    have hp2 := g2.fr.sl hp
    have hi : xs.idxOf y < xs.length := List.idxOf_lt_length_of_mem hm
    refine ⟨p, xs.map V.int, .int y, xs.idxOf y, .int y, rfl, rfl, hp2, rfl, by simp [flatV], ?_, by simp [eqV], ?_, q _ _ _ (g1.trans g2) (.int _)⟩
    · rw [List.getElem?_map, List.getElem?_eq_getElem hi, List.getElem_idxOf hi]
      rfl
    · intro m z' hlt hz
      rw [List.getElem?_map] at hz
      obtain ⟨z, hz2, rfl⟩ := Option.map_eq_some_iff.mp hz
      exact idxOf_lt_ne hlt hz2
/-- a.append(b.pop(k)) -/
theorem xs_appPop {i j : Nat} {k : Int} {n : Nat} (hij : i ≠ j) (hx : ρ[i]? = some (some (.ol ds))) (hy : ρ[j]? = some (some (.ol es))) (hk : EvD K ti ρ (.int k)) (hb : -(2 ^ 63) ≤ k ∧ k < 2 ^ 63) (hn : seqIndex? k es.length = some n) (he : es[n]? = some d) (hz : ds.length < 100000)
    (q : R.nx ((ρ.set j (some (.ol (es.eraseIdx n)))).set i (some (.ol (ds ++ [d]))))) :
    ExS K (tDrop (tBM K "list" rAppend (tVar i) (tCons (tBM K "list" rPopAt (tVar j) (tCons ti tNil)) tNil))) ρ R := fun B Hs H σ Dn r l => by
  obtain ⟨p, vs, e, hp, x, _⟩ := r.mutL i hx
  obtain ⟨p2, vs2, e2, hp2, x2, _⟩ := r.mutL j hy
  refine ⟨.ref p, e, .inl ⟨rfl, _, .of hp⟩, .ref p2, e2, .inl ⟨rfl, _, .of hp2⟩, hk B Hs H σ r _ fun Hs1 H1 w g y => ?_⟩
  cases y
  obtain ⟨p3, vs3, e3, hp3, x3, m3⟩ := (r.grow g).mutL j hy
  rw [e2] at e3
  cases e3
  obtain ⟨u, hu, xu⟩ := x3.at he
  refine ⟨p2, vs3, k, n, u, rfl, rfl, hp3, hb.1, hb.2, by rw [x3.length]; exact hn, hu, ?_⟩
  have r2 := m3 _ (es.eraseIdx n) (x3.erase n)
  obtain ⟨p4, vs4, e4, hp4, x4, m4⟩ := r2.mutL i (by rw [List.getElem?_set_ne (Ne.symm hij)]; exact hx)
  rw [e] at e4
  cases e4
  refine ⟨p, vs4, u, rfl, rfl, hp4, by rw [x4.length]; exact sz_lt hz, ?_⟩
  exact l.nx _ _ _ _ (m4 _ _ (x4.append (.cons xu .nil))) q
end
end DL

/-! DClo: closures: made, handed to other defs, called there. -/
namespace DL
open PySem L2
open PyProof.Rows (envOfC)
variable [TbC]
/-! ### the base grown by the running frame's cells -/
theorem funFrames_none {h base base' : Heap} : ∀ {l : List PySem.Env}, h.FunFrames base l → (∀ b ∈ frs l, base'.get? b = none) → h.FunFrames base' l
  | [], _, _ => trivial
  | env :: rest, hl, k => by
    obtain ⟨h1, ⟨L, o, h2, h3, h4, h5⟩, h6⟩ := hl
    have hm : frs (env :: rest) = L :: frs rest := by
      unfold frs
      rw [List.filterMap_cons, h2]
    refine ⟨h1, ⟨L, o, h2, k L (by rw [hm]; exact List.mem_cons_self ..), h4, h5⟩, funFrames_none h6 fun b hb => k b (by rw [hm]; exact List.mem_cons_of_mem _ hb)⟩
theorem restrictS (h : Heap) (p : Addr → Bool) : ∃ G : Heap, (∀ b, p b = true → G.get? b = h.get? b) ∧ (∀ b, p b = false → G.get? b = none) ∧ G.objs.size = h.objs.size := by
  have hm : ∀ b, b ∈ (List.range h.objs.size).filter (fun b => !p b) ↔ b < h.objs.size ∧ p b = false := fun b => by
    rw [List.mem_filter, List.mem_range, Bool.not_eq_true']
  generalize (List.range h.objs.size).filter (fun b => !p b) = away at hm
  refine ⟨PySem.W.hideAll h away, fun b hb => ?_, fun b hb => ?_, PySem.W.hideAll_size away h⟩
  · cases e : h.get? b with
    | some o =>
      refine PySem.W.hideAll_get away e fun z => ?_
      have := ((hm b).mp z).2
      rw [this] at hb
      cases hb
    | none =>
      refine Option.eq_none_iff_forall_ne_some.mpr fun o q => ?_
      have := PySem.W.of_hideAll away q
      rw [e] at this
      cases this
  · refine Option.eq_none_iff_forall_ne_some.mpr fun o q => ?_
    have hl := Heap.lt_size (PySem.W.of_hideAll away q)
    rw [PySem.W.hideAll_none away ((hm b).mpr ⟨hl, hb⟩)] at q
    cases q
section
variable {X : Cx} {pins : List (Addr × Obj)} {σ : L2.St} {H : Hp} {s : Shared} {cl : List (Str × Addr)} {fr : List Str} {js : List Nat}
/-- base' has what base has, and the cells of the running frame -/
structure Up (X : Cx) (s : Shared) (base' : Heap) : Prop where
  sub : ∀ b o, X.base.get? b = some o → base'.get? b = some o
  at_ : ∀ b o, base'.get? b = some o → s.heap.get? b = some o
theorem ns_cell {h : Heap} {a : Addr} {m : Str → Option Value} {v : Option Value} (n : h.Ns a m) (c : h.IsCell a v) : False := by
  obtain ⟨o, es, ep, e, d, _⟩ := n
  obtain ⟨o', e', d'⟩ := c
  rw [e] at e'
  cases e'
  rw [d] at d'
  cases d'
theorem Inv.up (I : Inv X pins σ H s) (hfn : ∀ y, X.fn y = true) (hst : X.stack = X.env :: X.outer) (hfr : X.env.frame = some X.env.locals) (cp : NdefX.Caps X cl fr js) :
    ∃ base', Up X s base' ∧ NdefX.CellsAt cl fr (js.map (NdefX.slotAt σ)) base' em ∧ Env0 X.prog X.w X.K X.mg base' X.A X.stack s H := by
  classical
  obtain ⟨G, g1, g2, g3⟩ := restrictS s.heap fun b => decide ((∃ o, X.base.get? b = some o) ∨ ∃ y, X.env.cells.lookup y = some b)
  have gk : ∀ b, ((∃ o, X.base.get? b = some o) ∨ ∃ y, X.env.cells.lookup y = some b) → G.get? b = s.heap.get? b := fun b hb => g1 b (decide_eq_true hb)
  have gs : ∀ b o, G.get? b = some o → s.heap.get? b = some o ∧ H b = none := fun b o e => by
    by_cases hb : (∃ o, X.base.get? b = some o) ∨ ∃ y, X.env.cells.lookup y = some b
    · rw [gk b hb] at e
      refine ⟨e, ?_⟩
      rcases hb with ⟨u, hu⟩ | ⟨y, hy⟩
      · exact (I.bs b u hu).2
      · exact I.freeC y b hy
    · rw [g2 b (decide_eq_false hb)] at e
      cases e
  have sub : ∀ b o, X.base.get? b = some o → G.get? b = some o := fun b o e => by
    rw [gk b (.inl ⟨o, e⟩)]
    exact (I.bs b o e).1
  have nsK : ∀ {b : Addr} {m : Str → Option Value}, X.base.Ns b m → G.Ns b m := fun {b m} ⟨o, es, ep, e, d, r⟩ => ⟨o, es, ep, sub _ _ e, d, r⟩
  have hM : L2.Mod X.K X.mg G := ⟨fun b o e => sub b o (I.ok.mod.kin b o e), nsK I.ok.mod.glob, let ⟨mb, h1, h2⟩ := I.ok.mod.blt; ⟨mb, nsK h1, h2⟩, let ⟨mc, h1, h2⟩ := I.ok.mod.nolimit; ⟨mc, nsK h1, h2⟩⟩
  have noF : ∀ b ∈ frs X.stack, G.get? b = none := fun b hb => by
    refine g2 b (decide_eq_false fun z => ?_)
    rcases z with ⟨o, e⟩ | ⟨y, hy⟩
    · have := (I.stack.mem hb).1
      rw [e] at this
      cases this
    · rw [hst] at hb
      have hm : frs (X.env :: X.outer) = X.env.locals :: frs X.outer := by
        unfold frs
        rw [List.filterMap_cons, hfr]
      rw [hm] at hb
      obtain ⟨v, hc⟩ := I.cell y b hy
      rcases List.mem_cons.mp hb with e | e
      · subst e
        obtain ⟨m, hn, _⟩ := I.loc
        exact ns_cell hn hc
      · obtain ⟨_, o, ho, _⟩ := I.ok.funs.mem e
        exact absurd (Heap.lt_size ho) (Nat.not_lt_of_le (I.ok.cab y b (hfn y) hy))
  have C := NdefX.cells_of I cp
  refine ⟨G, ⟨sub, fun b o e => (gs b o e).1⟩, ⟨C.len, fun y c e => ⟨rfl, ?_⟩, C.inj, fun i y e => ?_⟩, ⟨I.ok.frames, hM, gs, ?_, funFrames_none I.stack noF, I.stkFree, I.hok, I.bare⟩⟩
  · obtain ⟨_, v, o, ho, hd⟩ := C.all y c e
    exact ⟨v, o, by rw [gk c (.inr ⟨y, cp.sub y c e⟩)]; exact ho, hd⟩
  · obtain ⟨c, hc, hv⟩ := C.has i y e
    refine ⟨c, hc, fun v ev => ?_⟩
    obtain ⟨u, r, o, ho, hd⟩ := hv v ev
    exact ⟨u, r, o, by rw [gk c (.inr ⟨y, cp.sub y c hc⟩)]; exact ho, hd⟩
  · rw [g3]
    exact Nat.le_refl _
end
/-! ### calls of defs that get closures of the running frame -/
section
variable {X : Cx} {CX : CXT} {k : Nat} {f C : Addr} {fd : FuncData} {ps : List Str} {sp : Sp} {E : XK} {m x : Str} {pos apos p : Pos} {e o : Expr} {es : List Expr} {ta : TE} {t : TA} {pl : Sem Bool} {cl : List (Str × Addr)} {fr : List Str} {js : List Nat}
theorem run_fnU {pins : List (Addr × Obj)} {σ : St} {H : Hp} {s : Shared} {Q : VK} {us : List Value} {vs : List V} {base' : Heap} (e0 : Env0 X.prog X.w X.K X.mg base' X.A X.stack s H) (F : FnOk X.prog X.w X.K X.mg base' CX k f fd ps sp) (hr : Room k X.A) (hb : Binds X.K fd ps []) (hx : Passes CX X E)
    (I : Inv X pins σ H s) (r : Vals vs us) (h : sp vs H Q E) : wpAny (model X.prog X.w) X.A (call (.ref f) us) (EP X pins σ Q) X.xe s := by
  have hl : us.length = ps.length := by rw [← r.length]; exact F.len _ _ _ _ h
  have b := hb s us I.kIn (by rw [List.append_nil]; exact hl)
  rw [List.append_nil] at b
  refine wpAny_call (codeAny_mono (F.run X.A X.stack s H ⟨us, []⟩ us vs Q E hr e0 b r h) fun r s' hq => ?_)
  cases r with
  | error e => exact hx pins σ H s e s' I hq
  | ok fl =>
    cases fl with
    | ret u => exact I.after hq
    | next => exact False.elim hq
    | brk => exact False.elim hq
    | cont => exact False.elim hq
/-- methods by class, over any base -/
inductive AltsG (X : Cx) (base : Heap) (CX : CXT) (k : Nat) (m : Str) : List (Addr × Sp) → Prop
  | nil : AltsG X base CX k m []
  | cons {C f : Addr} {fd : FuncData} {ps : List Str} {sp : Sp} {r : List (Addr × Sp)} {j : Nat} (hj : j ≤ k) (c : Cls X.K C) (hm : Meth X.K C m f) (F : FnOk X.prog X.w X.K X.mg base CX j f fd ps sp) (hb : Binds X.K fd ps []) (h : AltsG X base CX k m r) : AltsG X base CX k m ((C, sp) :: r)
theorem AltsG.get {base : Heap} {alts : List (Addr × Sp)} (h : AltsG X base CX k m alts) : ∀ {C : Addr} {sp : Sp}, (C, sp) ∈ alts → ∃ f fd ps, Cls X.K C ∧ Meth X.K C m f ∧ FnOk X.prog X.w X.K X.mg base CX k f fd ps sp ∧ Binds X.K fd ps [] := by
  induction h with
  | nil => intro C sp h; cases h
  | cons hj c hm F hb _ ih =>
    intro C sp h
    rcases List.mem_cons.mp h with e | e
    · cases e
      exact ⟨_, _, _, c, hm, F.mono hj, hb⟩
    · exact ih e
/-- o.m(..): closures of the running frame among the arguments; js: where what they capture stands -/
def tMethU (js : List Nat) (alts : List V → List (Addr × Sp)) (m : Str) (E : XK) (ta : TE) (t : TA) : TE := fun σ H Q => ta σ H fun x H1 => ∃ a C dx fs us sp, x = .ref a ∧ H1 a = some (.ins C dx fs) ∧ js.map (NdefX.slotAt σ) = us.map some ∧ (C, sp) ∈ alts us ∧ fs.lookup m = none ∧
  t σ H1 fun vs H2 => sp (x :: vs) H2 Q E
theorem pe_methU {alts : List V → List (Addr × Sp)} (he : PE X o ta) (hfn : ∀ y, X.fn y = true) (hst : X.stack = X.env :: X.outer) (hfr : X.env.frame = some X.env.locals) (cp : X.Ok → NdefX.Caps X cl fr js)
    (al : ∀ base' (us : List V), (∀ b o, X.base.get? b = some o → base'.get? b = some o) → NdefX.CellsAt cl fr (us.map some) base' em → AltsG X base' CX k m (alts us)) (hr : Room k X.A) (hx : Passes CX X E) (ha : PA X (e :: es) t)
    (hs : starEach (e :: es) X.env = (false, eval e X.env) :: starEach es X.env := by rfl) (hpl : (backTo pos (starEach es X.env)).any (·.1) = false := by rfl)
    (ht : eval (.Call (.Attribute o m apos) (e :: es) [] pos) X.env = (do
      let ov ← eval o X.env
      standAt apos.atName
      let (f, first) ← holding [ov] (getMethod ov m pl)
      callWith pos f first (backTo pos (starEach (e :: es) X.env)) (backToKw pos (keywordEach [] X.env))) := by rfl) :
    PE X (.Call (.Attribute o m apos) (e :: es) [] pos) (tMethU js alts m E ta t) := by
  refine ⟨fun pins s σ H Q I h => ?_⟩
  refine PySem.W.methodCall_KW (pl := pl) (thn (he.run pins s σ H _ I h) fun u s1 ⟨x, H1, I1, rx, a, C, dx, fs, vs0, sp, ex, ea, hus, hin, l, q⟩ => ?_) ht
  subst ex
  obtain rfl : u = Value.ref a := rx
  obtain ⟨base1, up1, C1, _⟩ := Inv.up I1 hfn hst hfr (cp I1.ok)
  rw [hus] at C1
  obtain ⟨f, fd, ps, c, hm, _, hb⟩ := (al base1 vs0 up1.sub C1).get hin
  refine getmeth_ok I1 ea c hm l ?_
  refine PySem.W.callWith_K (first := [.ref a]) (h₀ := X.base) I.ok.mod.kin hm.kp (thn (ha.run pos pins s1 σ H1 _ I1 q) fun us s2 ⟨vs, H2, I2, r, q2⟩ => ⟨I2.kIn, ?_⟩) hs hpl
  obtain ⟨base2, up2, C2, e2⟩ := Inv.up I2 hfn hst hfr (cp I2.ok)
  rw [hus] at C2
  obtain ⟨f2, fd2, ps2, _, hm2, F2, hb2⟩ := (al base2 vs0 up2.sub C2).get hin
  obtain rfl : f = f2 := by
    have e1 := hm.1.symm.trans hm2.1
    cases e1
    rfl
  exact run_fnU (us := .ref a :: us) (vs := .ref a :: vs) e2 F2 hr hb2 hx I2 (.cons rfl r) q2
/-- f(..), closures of the running frame among the arguments -/
def tCallU (js : List Nat) (sp : List V → Sp) (E : XK) (t : TA) : TE := fun σ H Q => t σ H fun vs H1 => ∃ us, js.map (NdefX.slotAt σ) = us.map some ∧ sp us vs H1 Q E
theorem pe_callU {sp : List V → Sp} (F : ∀ base' (us : List V), (∀ b o, X.base.get? b = some o → base'.get? b = some o) → NdefX.CellsAt cl fr (us.map some) base' em → FnOk X.prog X.w X.K X.mg base' CX k f fd ps (sp us)) (hfn : ∀ y, X.fn y = true) (hst : X.stack = X.env :: X.outer) (hfr : X.env.frame = some X.env.locals) (cp : X.Ok → NdefX.Caps X cl fr js)
    (hr : Room k X.A) (hg : Gl X x) (hm : X.mg x = some (.ref f)) (hk : PySem.W.keepIn X.K (.ref f) = true) (hb : Binds X.K fd ps []) (hx : Passes CX X E) (ha : PA X (e :: es) t)
    (hdb : (x == ("__debug__" : Str)) = false := by decide) (hs : starEach (e :: es) X.env = (false, eval e X.env) :: starEach es X.env := by rfl) (hpl : (backTo pos (starEach es X.env)).any (·.1) = false := by rfl) :
    PE X (.Call (.Name x p) (e :: es) [] pos) (tCallU js sp E t) := by
  refine ⟨fun pins s σ H Q I h => ?_⟩
  refine wpAny_Call_Name_kw (ld_glob I hg hm ?_ hdb)
  refine PySem.W.callWith_K (h₀ := X.base) I.ok.mod.kin hk (thn (ha.run pos pins s σ H _ I h) fun us s1 ⟨vs, H1, I1, r, vs0, hus, q⟩ => ⟨I1.kIn, ?_⟩) hs hpl
  obtain ⟨base2, up2, C2, e2⟩ := Inv.up I1 hfn hst hfr (cp I1.ok)
  rw [hus] at C2
  exact run_fnU e2 (F base2 vs0 up2.sub C2) hr hb hx I1 r q
/-! ### a closure that came as an argument is called; the base has its cells -/
theorem CellsAt.live {pins : List (Addr × Obj)} {σ : St} {H : Hp} {s : Shared} {ws : List (Option V)} (C : NdefX.CellsAt cl fr ws X.base em) (I : Inv X pins σ H s) : NdefX.CellsAt cl fr ws s.heap H := by
  refine ⟨C.len, fun y c e => ?_, C.inj, fun i y e => ?_⟩
  · obtain ⟨_, v, o, ho, hd⟩ := C.all y c e
    exact ⟨(I.bs c o ho).2, v, o, (I.bs c o ho).1, hd⟩
  · obtain ⟨c, hc, hv⟩ := C.has i y e
    refine ⟨c, hc, fun v ev => ?_⟩
    obtain ⟨u, r, o, ho, hd⟩ := hv v ev
    exact ⟨u, r, o, (I.bs c o ho).1, hd⟩
def tCallP (mk : Addr → CF) (i : Nat) (sp : Sp) (E : XK) (t : TA) : TE := fun σ H Q => ∃ f c', σ[i]? = some (some (.ref f)) ∧ H f = some ((mk c').ob f) ∧
  t σ H fun vs H1 => H1 f = some ((mk c').ob f) ∧ H1 (mk c').c = some (LamX.CodeO (mk c').c (mk c').qual) ∧ sp vs H1 Q E
theorem pe_callP {mk : Addr → CF} {i j : Nat} {us : List V} {spn : List (Option V) → Sp} (Fn : ∀ f c', COk X.prog X.w X.K X.mg X.base CX j f (mk c') ps fr spn) (C : NdefX.CellsAt cl fr (us.map some) X.base em) (hcl : ∀ c', (mk c').cl = cl) (hr : Room k X.A) (hk : j ≤ k) (hx : Passes CX X E)
    (hN : X.N[i]? = some x) (hv : Vis X.env.scope x) (ha : PA X (e :: es) t)
    (hd : (x == ("__debug__" : Str)) = false := by decide) (hcd : (x == ("__classdict__" : Str)) = false := by decide)
    (hs : starEach (e :: es) X.env = (false, eval e X.env) :: starEach es X.env := by rfl) (hpl : (backTo pos (starEach es X.env)).any (·.1) = false := by rfl) :
    PE X (.Call (.Name x p) (e :: es) [] pos) (tCallP mk i (spn (us.map some)) E t) := by
  refine ⟨fun pins s σ H Q I h => ?_⟩
  obtain ⟨f, c', hs', hf, ht⟩ := h
  refine wpAny_Call_Name_kw (thn ((pe_var (pos := p) hN hv hd hcd).run pins s σ H (fun v H1 => v = .ref f ∧ H1 = H) I ⟨.ref f, hs', rfl, rfl⟩) fun u s1 ⟨v, H1, I1, r1, ev, eH⟩ => ?_)
  subst ev
  subst eH
  obtain rfl : u = Value.ref f := r1
  refine PySem.W.callWith_F (first := []) (cfAt_of I1 hf) (thn (ha.run pos pins s1 σ _ _ I1 ht) fun ws s2 ⟨vs, H2, I2, r, h1, h2, q⟩ => ⟨cfAt_of I2 h1, ?_⟩) hs hpl
  show wpAny _ _ (call (.ref f) ws) _ _ _
  have C2 := CellsAt.live C I2
  rw [← hcl c'] at C2
  refine wpAny_call (codeAny_mono ((Fn f c').run X.A X.stack s2 H2 ws vs (us.map some) Q E (hr.mono hk) I2.env0 h1 h2 C2 r q) fun r s' hq => ?_)
  cases r with
  | error e => exact hx pins σ H2 s2 e s' I2 hq
  | ok fl =>
    cases fl with
    | ret u => exact I2.after hq
    | next => exact False.elim hq
    | brk => exact False.elim hq
    | cont => exact False.elim hq
end
theorem _root_.LamX.TabB.up {base base' : Heap} {mg : Str → Option Value} {c P : Addr} (t : LamX.TabB base mg c P) (k : ∀ b o, base.get? b = some o → base'.get? b = some o) : LamX.TabB base' mg c P :=
  ⟨t.code.keeps k, let ⟨bm, o, h1, h2, h3, h4, h5, h6⟩ := t.bm; ⟨bm, o, h1, h2, h3, h4, k _ _ h5, h6⟩, t.gP⟩
section
variable {X : Cx} {cl0 : List (Str × Addr)} {fr : List Str} {js : List Nat} {st : Stmt}
theorem capsC (hB : NdefX.ndefB X.env.scope (C8.fnScope st) fr = true) (hjs : js.map (fun j => X.N[j]?) = fr.map some) (hcl : X.env.cells = cl0) : X.Ok → NdefX.Caps X (cloFrom cl0 (C8.fnScope st).names []) fr js := fun ok => by
  subst hcl
  exact NdefX.Caps.made ok (NdefX.ndef_free hB) (NdefX.ndef_fr hB) hjs
theorem ps_ndefC {T : List NdefX.NTab} {nm : Nat → Nat → Str} {c P : Addr} {name q : Str} {pos : Pos} {i : Nat} (hst : st = .FunctionDef name (C8.fnArgs st) (C8.fnBody st) [] none [] (C8.fnScope st) none name pos) (TB : LamX.TabB X.base X.mg c P) (hcode : X.env.code = .ref c) (hm : (P, nm) ∈ T) (hn : nm pos.line pos.col = q) (hq : X.env.qual ++ name = q)
    (hu : ∀ p ∈ T, p.1 = P → p.2 = nm) (hB : NdefX.ndefB X.env.scope (C8.fnScope st) fr = true) (hd0 : (C8.fnArgs st).defaults = []) (hk0 : (C8.fnArgs st).kw_defaults = []) (ha : annTrees (C8.fnArgs st) none X.env = [])
    (hN : X.N.Nodup) (hi : X.N[i]? = some name) (hx : Loc X.env.scope name) (hf : X.fn name = true) (hcl : X.env.cells = cl0) : PS X st (NdefX.tNdefM T i (NdefX.NF.of st name q (cloFrom cl0 (C8.fnScope st).names []))) := by
  subst hcl hq
  exact NdefX.ps_ndefMS hst TB hcode hm hn hu (NdefX.ndef_free hB) hd0 hk0 ha hN hi hx (.inl hf)
end
/-! ### on deep data -/
section
variable {K : PySem.W.Frag} {ρ ρ' : Env} {te ta tb : TE} {d e : D} {ds es cs : List D} {tt : TT} {R : DEnds} {C : Addr} {ns : List Str}
/-- def name(..): .. in a body -/
theorem xs_ndef {i : Nat} {mk : Addr → NdefX.NF} (hc : ∀ c, (mk c).c = c) (q : ∀ c, R.nx (ρ.set i (some (.sh (.clo (CF.n (mk c)) [] []))))) : ExS K (NdefX.tNdefM TbC.T i mk) ρ R := fun B Hs H σ Dn r l => by
  refine ⟨r.tb.2, fun f c' H1 eN dm T1 f0 f1 c1 => ?_⟩
  have nt := r.tb.1
  have nHs : Hs f = none := by
    cases z : Hs f with
    | none => rfl
    | some u =>
      rw [r.ex f u z] at f0
      cases f0
  have old : ∀ a o, Hs a = some o → H1 a = some o := fun a o z => eN a o (r.ex a o z) fun ps z2 => nt a ps (by rw [z, z2])
  have g : Gr Hs H H (fun a => if a = f ∨ a = c' then H1 a else Hs a) H1 := by
    refine ⟨eN, fun a o z => ?_, fun a o z => ?_, fun a z => ?_, fun a z y => z (dm a y), fun a z y => z (dm a y), fun a z => ?_, fun _ a ps z => ?_, fun _ => T1⟩
    · show (if a = f ∨ a = c' then H1 a else Hs a) = some o
      split
      · exact old a o z
      · exact z
    · have z : (if a = f ∨ a = c' then H1 a else Hs a) = some o := z
      split at z
      · exact z
      · exact old a o z
    · show (if a = f ∨ a = c' then H1 a else Hs a) = Hs a
      obtain ⟨o, e1, e2⟩ := z
      refine if_neg fun y => ?_
      have e3 := eN a o e1 (pln_tbl e2)
      rcases y with y | y
      · rw [y, f0] at e1
        cases e1
      · rw [y, c1] at e3
        cases e3
        cases e2
    · obtain ⟨o, e1, e2⟩ := z
      exact ⟨o, eN a o e1 (pln_tbl e2), e2⟩
    · have z : (if a = f ∨ a = c' then H1 a else Hs a) = some (.tbl ps) := z
      split at z
      · rename_i y
        rcases y with y | y
        · rw [y, f1] at z
          cases z
        · rw [y, c1] at z
          cases z
      · exact nt a ps z
  refine l.nx _ H1 _ _ ((r.grow g).set i (.clo ?_ ?_ .nil)) (q c')
  · show (if f = f ∨ f = c' then H1 f else Hs f) = _
    rw [if_pos (.inl rfl)]
    exact f1
  · show (if (mk c').c = f ∨ (mk c').c = c' then H1 (mk c').c else Hs (mk c').c) = _
    rw [if_pos (.inr (hc c')), hc c']
    refine c1.trans ?_
    show some (LamX.CodeO c' (mk c').qual) = some (LamX.CodeO (mk c').c (mk c').qual)
    rw [hc c']
/-- a closure's captured values are told -/
def dress (us : List V) (cs : List D) : D → D
  | .clo F _ _ => .clo F us cs
  | d => d
theorem Rep.dress {H : Hp} {us : List V} (h : RepL K H us cs) {v : V} {d : D} (x : Rep K H v d) : Rep K H v (dress us cs d) := by
  cases x with
  | clo a b c => exact .clo a b h
  | non => exact .non
  | bl b => exact .bl b
  | int i => exact .int i
  | str x => exact .str x
  | ty n => exact .ty n
  | fn a => exact .fn a
  | lst a b => exact .lst a b
  | scr a b => exact .scr a b
  | tup a b => exact .tup a b
  | obj a b => exact .obj a b
theorem RepL.dress {H : Hp} {us : List V} (h : RepL K H us cs) : ∀ {vs : List V} {ds : List D}, RepL K H vs ds → RepL K H vs (ds.map (dress us cs))
  | _, _, .nil => .nil
  | _, _, .cons a b => .cons (a.dress h) (RepL.dress h b)
/-- the slots js hold shared data -/
theorem RS.gets {B : Base} {Hs H : Hp} {σ : St} (r : RS K B Hs H σ ρ) : ∀ {js : List Nat} {cs : List D}, js.map (fun j => ρ[j]?) = cs.map (fun d => some (some (.sh d))) → ∃ us, js.map (NdefX.slotAt σ) = us.map some ∧ RepL K Hs us cs
  | [], [], _ => ⟨[], rfl, .nil⟩
  | [], _ :: _, h => by simp at h
  | _ :: _, [], h => by simp at h
  | j :: js, c :: cs, h => by
    rw [List.map_cons, List.map_cons] at h
    obtain ⟨h1, h2⟩ := List.cons.inj h
    obtain ⟨us, e1, e2⟩ := RS.gets r h2
    obtain ⟨v, e3, e4⟩ := r.get h1
    exact ⟨v :: us, by rw [List.map_cons, List.map_cons, e1, NdefX.slotAt_of e3], .cons e4 e2⟩
theorem ev_methU {js : List Nat} {alts : List V → List (Addr × Sp)} {m : Str} {E : XK} {t : TA} {α : Type} {pre : α → Prop} {arg : List V → α → List D} {res : α → D} (x : α) (h : EvD K ta ρ (.obj C ns ds)) (ht : EvA K t ρ es) (hj : js.map (fun j => ρ[j]?) = cs.map (fun d => some (some (.sh d)))) (hin : ∀ us, (C, spG K pre (arg us) res) ∈ alts us) (hm : ns.contains m = false)
    (ha : ∀ us, arg us x = .obj C ns ds :: es.map (dress us cs)) (p : pre x) : EvD K (tMethU js alts m E ta t) ρ (res x) := fun B Hs H σ r Q q =>
  h B Hs H σ r _ fun Hs1 H1 v g1 xo => by
    cases xo with
    | @obj a _ dx _ vs _ hp xs =>
      obtain ⟨us, e1, e2⟩ := r.gets hj
      refine ⟨a, C, dx, _, us, _, rfl, g1.lv _ _ hp, e1, hin us, look_none hm, ht B Hs1 H1 σ (r.grow g1) _ fun Hs2 H2 ws g2 ys => ?_⟩
      refine ⟨Hs2, x, ⟨g2.lv, (r.grow (g1.trans g2)).tb⟩, by rw [ha us]; exact .cons (.obj (g2.sh _ _ hp) (xs.mono g2.sh)) (RepL.dress (e2.mono (g1.trans g2).sh) ys), p, fun Hs' H' w d g y e => ?_⟩
      exact q Hs' H' w ((g1.trans g2).trans g) (e ▸ y)
/-- what a closure promises: us what its cells hold -/
def spCl (K : PySem.W.Frag) {α : Type} (pre : α → Prop) (arg cap : α → List D) (res : α → D) (us : List V) : Sp := fun vs H Q _ => ∃ (Hs : Hp) (x : α), (Ex Hs H ∧ NT Hs ∧ TB H) ∧ RepL K Hs vs (arg x) ∧ RepL K Hs us (cap x) ∧ pre x ∧
  ∀ Hs' H' v, Gr Hs H H Hs' H' → Rep K Hs' v (res x) → Q v H'
def spN_ (sp : List V → Sp) (ws : List (Option V)) : Sp := fun vs H Q E => ∃ us, ws = us.map some ∧ sp us vs H Q E
theorem ev_callP {mk : Addr → CF} {i : Nat} {us : List V} {E : XK} {t : TA} {α : Type} {pre : α → Prop} {arg cap : α → List D} {res : α → D} (x : α) {c : Addr} (hi : ρ[i]? = some (some (.sh (.clo (mk c) us (cap x))))) (ht : EvA K t ρ (arg x)) (p : pre x) :
    EvD K (tCallP mk i (spN_ (spCl K pre arg cap res) (us.map some)) E t) ρ (res x) := fun B Hs H σ r Q q => by
  obtain ⟨v, e, xv⟩ := r.get hi
  cases xv with
  | @clo f _ _ _ h1 h2 h3 =>
    refine ⟨f, c, e, r.ex _ _ h1, ht B Hs H σ r _ fun Hs1 H1 vs g ys => ?_⟩
    exact ⟨g.lv _ _ (g.sh _ _ h1), g.lv _ _ (g.sh _ _ h2), us, rfl, Hs1, x, ⟨g.lv, (r.grow g).tb⟩, ys, h3.mono g.sh, p, fun Hs' H' w g2 y => q Hs' H' w (g.trans g2) y⟩
/-- a closure by its body -/
theorem nok_r {P : Program} {w : World} {mg : Str → Option Value} {base : Heap} {N ps fr : List Str} {F : NdefX.NF} {f : Addr} {k : Nat} {α : Type} {pre : α → Prop} {arg cap : α → List D} {res : α → D} (S : NdefX.NScope N ps fr F.scope)
    (hb : ∀ (doc pm ctv : Value) (us : List Value), us.length = ps.length → bindArgs (F.fd doc pm ctv) ⟨us, []⟩ = pure (ps.zip us)) (hl : ∀ x, (arg x).length = ps.length) (hc : ∀ x, (cap x).length = fr.length) {t : TS}
    (hp : ∀ (A : Around) (outer : List PySem.Env) (s : Shared) (H : Hp) (E : XK), Room k (A.deeper (NdefX.envF F f s.heap.objs.size)) → PSs (NdefX.ncx CX0 P w K mg base N F f A outer s H E).nox F.body t)
    (hd : ∀ x, pre x → ExS K t (entry N (arg x ++ cap x)) { nx := fun _ => False, rt := fun d => d = res x }) : COk P w K mg base CX0 (k + 1) f (CF.n F) ps fr (spN_ (spCl K pre arg cap res)) := by
  refine COk.of <| NdefX.nok_of S hb (fun ws vs H Q E h => ?_) (fun A outer s H vs ws Q E hr h1 h2 h3 h => ?_)
  · obtain ⟨us, _, Hs, x, _, r, _⟩ := h
    rw [r.length, hl]
  · obtain ⟨us, e1, Hs, x, e, r, r2, hpx, q⟩ := h
    refine ⟨t, (hp A outer s H E hr).nox, ?_⟩
    have hN : (arg x ++ cap x).length ≤ N.length := by
      have := congrArg List.length S.pre
      rw [List.length_take, List.length_append] at this
      rw [List.length_append, hl, hc]
      omega
    have es : NdefX.startF N vs ws = L2.start N (vs ++ us) := by
      unfold NdefX.startF L2.start
      rw [e1, List.map_append, List.length_map, List.length_append, List.append_assoc, Nat.sub_sub]
    rw [es]
    exact hd x hpx ⟨Hs, H, H, e.2⟩ Hs H (L2.start N (vs ++ us)) _ (rs_entry e (r.append r2) hN)
      ⟨fun Hs' H' σ ρ r' z => z.elim, fun Hs' H' v d g x z => q Hs' H' v g (z ▸ x), fun _ _ _ _ _ _ _ _ _ _ z => z.elim, fun _ _ _ _ _ z => z.elim, fun _ _ _ _ _ z => z.elim, fun _ _ _ _ _ _ _ _ z => z.elim, fun _ _ _ _ _ _ _ _ _ z => z.elim, fun _ _ _ _ _ _ _ _ z => z.elim⟩
end
/-! ### defs that make closures -/
/-- a def whose code object is at c -/
structure FunC (K : PySem.W.Frag) (x qual : Str) (st : Stmt) (f : Addr) (fd : FuncData) (c : Addr) : Prop where
  ex : ∃ (oc : Value) (od : Option Addr) (kV doc pm : Value) (an : Option Addr) (ct : Value) (osl : Array (Option Value)),
    fd = PySem.W.fnOf x qual (defArgs st) (defBody st) (defScope st) .none kV doc pm an (.ref c) ct ∧ K.lookup f = some ⟨oc, od, .func fd, osl⟩ ∧ PySem.W.codeIn K (.ref c) qual = true
  kp : PySem.W.keepIn K (.ref f) = true
section
variable {P : Program} {w : World} {K : PySem.W.Frag} {mg : Str → Option Value} {base : Heap} {x qual : Str} {st : Stmt} {f c : Addr} {fd : FuncData} {N ps : List Str} {k : Nat} {sp : Sp} {α : Type} {pre : α → Prop} {arg : α → List D}
theorem FunC.fun (F : FunC K x qual st f fd c) : Fun K x qual st f fd := by
  obtain ⟨oc, od, kV, doc, pm, an, ct, osl, h1, h2, h3⟩ := F.ex
  exact ⟨⟨oc, od, kV, doc, pm, an, _, ct, osl, h1, h2, h3⟩, F.kp⟩
theorem FunC.ok (F : FunC K x qual st f fd c) (S : FnScope N ps (defScope st)) (len : ∀ vs H Q E, sp vs H Q E → vs.length = ps.length)
    (hbody : ∀ (A : Around) (outer : List PySem.Env) (s : Shared) (H : Hp) (vs : List V) (Q : VK) (E : XK), Room k (A.deeper (envOfC qual (defScope st) s.heap.objs.size f (.ref c))) → sp vs H Q E →
      ∃ t, PSs (cxOf CX0 P w K mg base N qual (defScope st) f (.ref c) A outer s H E).nox (defBody st) t ∧ t { nx := fun _ H' => Q .non H', rt := Q } (L2.start N vs) H) : FnOk P w K mg base CX0 (k + 1) f fd ps sp := by
  obtain ⟨oc, od, kV, doc, pm, an, ct, osl, rfl, lk, hcd⟩ := F.ex
  refine fn_of lk hcd S len fun A outer s H vs Q E hr hsp => ?_
  obtain ⟨t, h, q⟩ := hbody A outer s H vs Q E hr hsp
  exact ⟨t, h.nox, q⟩
/-- the cells of its frame -/
abbrev cellsOf (st : Stmt) (s : Shared) : List (Str × Addr) := cellsFrom (s.heap.objs.size + 1) (defScope st).names []
theorem fn_rC {post : α → D → Prop} (F : FunC K x qual st f fd c) (S : FnScope N ps (defScope st)) (hl : ∀ x, (arg x).length = ps.length) {t : List (Str × Addr) → TS}
    (hb : ∀ (A : Around) (outer : List PySem.Env) (s : Shared) (H : Hp) (E : XK) (cl : List (Str × Addr)), cellsOf st s = cl → Room k (A.deeper (envOfC qual (defScope st) s.heap.objs.size f (.ref c))) → PSs (cxOf CX0 P w K mg base N qual (defScope st) f (.ref c) A outer s H E).nox (defBody st) (t cl))
    (hd : ∀ cl x, pre x → ExS K (t cl) (entry N (arg x)) { nx := fun _ => post x .non, rt := post x }) : FnOk P w K mg base CX0 (k + 1) f fd ps (spR K pre arg post) := by
  have hN : ps.length ≤ N.length := by have := congrArg List.length S.pre; rw [List.length_take] at this; omega
  refine F.ok S (fun vs H Q E h => ?_) (fun A outer s H vs Q E hr h => ?_)
  · obtain ⟨Hs, x, _, r, _⟩ := h
    rw [r.length, hl]
  · obtain ⟨Hs, x, e, r, hp, q⟩ := h
    refine ⟨_, hb A outer s H E _ rfl hr, ?_⟩
    exact hd _ x hp ⟨Hs, H, H, e.2⟩ Hs H (L2.start N vs) _ (rs_entry e r (by rw [hl]; exact hN))
      ⟨fun Hs' H' σ ρ r' z => q Hs' H' .non .non r'.gr .non z, fun Hs' H' v d g x z => q Hs' H' v d g x z, fun _ _ _ _ _ _ _ _ _ _ z => z.elim, fun _ _ _ _ _ z => z.elim, fun _ _ _ _ _ z => z.elim, fun _ _ _ _ _ _ _ _ z => z.elim, fun _ _ _ _ _ _ _ _ _ z => z.elim, fun _ _ _ _ _ _ _ _ z => z.elim⟩
theorem fn_fC {res : α → List D} (F : FunC K x qual st f fd c) (S : FnScope N ps (defScope st)) (hl : ∀ x, (arg x).length = ps.length) {t : List (Str × Addr) → TS}
    (hb : ∀ (A : Around) (outer : List PySem.Env) (s : Shared) (H : Hp) (E : XK) (cl : List (Str × Addr)), cellsOf st s = cl → Room k (A.deeper (envOfC qual (defScope st) s.heap.objs.size f (.ref c))) → PSs (cxOf CX0 P w K mg base N qual (defScope st) f (.ref c) A outer s H E).nox (defBody st) (t cl))
    (hd : ∀ cl x, pre x → ExS K (t cl) (entry N (arg x)) { nx := fun _ => False, rt := fun _ => False, rf := fun ds => ds = res x }) : FnOk P w K mg base CX0 (k + 1) f fd ps (spF K pre arg res) := by
  have hN : ps.length ≤ N.length := by have := congrArg List.length S.pre; rw [List.length_take] at this; omega
  refine F.ok S (fun vs H Q E h => ?_) (fun A outer s H vs Q E hr h => ?_)
  · obtain ⟨Hs, x, _, r, _⟩ := h
    rw [r.length, hl]
  · obtain ⟨Hs, x, e, r, hp, q⟩ := h
    refine ⟨_, hb A outer s H E _ rfl hr, ?_⟩
    exact hd _ x hp ⟨Hs, H, H, e.2⟩ Hs H (L2.start N vs) _ (rs_entry e r (by rw [hl]; exact hN))
      ⟨fun Hs' H' σ ρ r' z => z.elim, fun Hs' H' v d g x z => z.elim, fun Hs' H' p ws ds g n ns e x z => q Hs' H' p ws g n ns e (z ▸ x), fun _ _ _ _ _ z => z.elim, fun _ _ _ _ _ z => z.elim, fun _ _ _ _ _ _ _ _ z => z.elim, fun _ _ _ _ _ _ _ _ _ z => z.elim, fun _ _ _ _ _ _ _ _ z => z.elim⟩
theorem funC_mk {oc : Value} {od an : Option Addr} {osl : Array (Option Value)} {kV doc pm ct : Value} (l : K.lookup f = some ⟨oc, od, .func (PySem.W.fnOf x qual (defArgs st) (defBody st) (defScope st) .none kV doc pm an (.ref c) ct), osl⟩)
    (h : PySem.W.codeIn K (.ref c) qual = true) (k : PySem.W.keepIn K (.ref f) = true) : FunC K x qual st f (PySem.W.fnOf x qual (defArgs st) (defBody st) (defScope st) .none kV doc pm an (.ref c) ct) c := ⟨⟨oc, od, kV, doc, pm, an, ct, osl, rfl, l, h⟩, k⟩
end
end DL

/-! DIo: own things handed to other defs, that may change them. -/
namespace DL
open PySem L2
open PyProof.Rows (envOfC)
variable [TbC]
/-- an argument: shared data; an own tree; a closure over own trees -/
inductive AV where
  | d (x : D)
  | o (t : O)
  | c (F : CF) (us : List V) (os : List O)
def Is (K : PySem.W.Frag) (Hs : Hp) (v : V) (R : Hp) : AV → Prop
  | .d x => Rep K Hs v x ∧ R = em
  | .o t => Own K Hs v t R
  | .c F us os => ∃ f, v = .ref f ∧ Hs f = some (F.ob f) ∧ Hs F.c = some (LamX.CodeO F.c F.qual) ∧ OwnL K Hs us os R
/-- a slot that holds a closure over own trees -/
@[reducible] def SV.cb (K : PySem.W.Frag) (v0 : V) (F : CF) (us : List V) (os : List O) : SV := .ow false (fun Hs v R => v = v0 ∧ ∃ f, v = .ref f ∧ Hs f = some (F.ob f) ∧ Hs F.c = some (LamX.CodeO F.c F.qual) ∧ OwnL K Hs us os R) fun _ _ _ h => by
  obtain ⟨_, _, _, _, _, h⟩ := h
  exact h.pl
def AV.sv (K : PySem.W.Frag) (v : V) : AV → SV
  | .d x => .sh x
  | .o t => .tr K ⟨false, some v⟩ t
  | .c F us os => .cb K v F us os
theorem Is.mono {K : PySem.W.Frag} {Hs Hs' : Hp} (e : Ex Hs Hs') {v : V} {R : Hp} : ∀ {a : AV}, Is K Hs v R a → Is K Hs' v R a
  | .d _, h => ⟨h.1.mono e, h.2⟩
  | .o _, h => Own.mono e h
  | .c _ _ _, ⟨f, h1, h2, h3, h4⟩ => ⟨f, h1, e _ _ h2, e _ _ h3, h4.mono e⟩
theorem Is.holds {K : PySem.W.Frag} {Hs : Hp} {v : V} {R : Hp} : ∀ {a : AV}, Is K Hs v R a → Holds K Hs R v (a.sv K v)
  | .d _, h => ⟨h.1, fun a => by rw [h.2]; rfl⟩
  | .o _, h => fun Hs1 e => ⟨fun w z => Option.some.inj z, Own.mono e h⟩
  | .c _ _ _, ⟨f, h1, h2, h3, h4⟩ => fun Hs1 e => ⟨rfl, f, h1, e _ _ h2, e _ _ h3, h4.mono e⟩
structure IsL (K : PySem.W.Frag) (Hs H : Hp) (vs : List V) (as : List AV) (Rs : Nat → Hp) : Prop where
  len : vs.length = as.length
  is : ∀ (i : Nat) v a, vs[i]? = some v → as[i]? = some a → Is K Hs v (Rs i) a
  reg : ∀ i a o, Rs i a = some o → i < vs.length ∧ H a = some o ∧ Hs a = none ∧ o.pln = true
  dis : ∀ i j a, Rs i a ≠ none → Rs j a ≠ none → i = j
def AV.own : AV → Bool
  | .d _ => false
  | _ => true
/-- behind the call -/
structure IsB (K : PySem.W.Frag) (H Hs' H' : Hp) (vs : List V) (as : List AV) (Rs Rs' : Nat → Hp) : Prop where
  len : vs.length = as.length
  is : ∀ (i : Nat) v a, vs[i]? = some v → as[i]? = some a → a.own = true → Is K Hs' v (Rs' i) a
  reg : ∀ i a o, Rs' i a = some o → i < vs.length ∧ H' a = some o ∧ Hs' a = none ∧ o.pln = true ∧ ((∃ k, Rs k a ≠ none) ∨ H a = none)
  dis : ∀ i j a, Rs' i a ≠ none → Rs' j a ≠ none → i = j
open Classical in
noncomputable def cut (H : Hp) (Rs : Nat → Hp) : Hp := fun a => if ∃ i, Rs i a ≠ none then none else H a
theorem cut_le {H : Hp} {Rs : Nat → Hp} {a : Addr} {o : HO} (h : cut H Rs a = some o) : H a = some o ∧ ∀ i, Rs i a = none := by
  unfold cut at h
  split at h
  · cases h
  · rename_i z
    exact ⟨h, fun i => Classical.byContradiction fun y => z ⟨i, y⟩⟩
theorem cut_of {H : Hp} {Rs : Nat → Hp} {a : Addr} (h : ∀ i, Rs i a = none) : cut H Rs a = H a := by
  unfold cut
  exact if_neg fun ⟨i, z⟩ => z (h i)
/-- called with arg x, where pre x: gives d, the own things then being as, where post x d as; or an exception leaves -/
def spB (K : PySem.W.Frag) {α : Type} (pre : α → Prop) (arg : α → List AV) (post : α → D → List AV → Prop) (exc : α → Value → Option (List (Str × D)) → List AV → Prop) : Sp := fun vs H Q E => ∃ (Hs : Hp) (x : α) (Rs : Nat → Hp), (Ex Hs H ∧ NT Hs ∧ TB H) ∧ IsL K Hs H vs (arg x) Rs ∧ pre x ∧
  (∀ Hs' H' v d as Rs', Gr Hs (cut H Rs) H Hs' H' → IsB K H Hs' H' vs as Rs Rs' → Rep K Hs' v d → post x d as → Q v H') ∧
  ∀ Hs' H' cls dd fs as Rs', Gr Hs (cut H Rs) H Hs' H' → IsB K H Hs' H' vs as Rs Rs' → XRep K Hs' H' dd fs → exc x cls fs as → E cls dd H'
/-- a frame at its entry -/
def entB (K : PySem.W.Frag) (N : List Str) (vs : List V) (as : List AV) : Env := (List.zipWith (fun v a => some (AV.sv K v a)) vs as) ++ List.replicate (N.length - as.length) none
/-- the own things in the frame's first slots -/
def outs (K : PySem.W.Frag) : List V → Env → List AV → Prop
  | [], _, [] => True
  | _ :: vs, _ :: ρ, .d _ :: as => outs K vs ρ as
  | v :: vs, s :: ρ, .o t :: as => s = some (.tr K ⟨false, some v⟩ t) ∧ outs K vs ρ as
  | v :: vs, s :: ρ, .c F us os :: as => s = some (.cb K v F us os) ∧ outs K vs ρ as
  | _, _, _ => False
theorem outs_len {K : PySem.W.Frag} : ∀ {vs : List V} {ρ : Env} {as : List AV}, outs K vs ρ as → vs.length = as.length
  | [], _, [], _ => rfl
  | [], _, _ :: _, h => by cases h
  | _ :: _, [], _, h => by
    unfold outs at h
    exact h.elim
  | _ :: _, _ :: _, [], h => by cases h
  | _ :: vs, _ :: ρ, .d _ :: as, h => congrArg (· + 1) (outs_len (vs := vs) (ρ := ρ) (as := as) h)
  | _ :: vs, _ :: ρ, .o _ :: as, h => congrArg (· + 1) (outs_len (vs := vs) (ρ := ρ) (as := as) h.2)
  | _ :: vs, _ :: ρ, .c _ _ _ :: as, h => congrArg (· + 1) (outs_len (vs := vs) (ρ := ρ) (as := as) h.2)
theorem outs_get {K : PySem.W.Frag} : ∀ {vs : List V} {ρ : Env} {as : List AV} {i : Nat} {v : V} {a : AV}, outs K vs ρ as → vs[i]? = some v → as[i]? = some a → a.own = true → ρ[i]? = some (some (a.sv K v))
  | [], _, _, i, _, _, _, h1, _, _ => by simp at h1
  | _ :: _, _, [], i, _, _, _, _, h2, _ => by simp at h2
  | _ :: _, [], _ :: _, _, _, _, h, _, _, _ => by
    unfold outs at h
    exact h.elim
  | v :: vs, s :: ρ, a :: as, 0, w, b, h, h1, h2, h3 => by
    cases h1
    cases h2
    cases a with
    | d x => cases h3
    | o t => exact congrArg some h.1
    | c F us os => exact congrArg some h.1
  | v :: vs, s :: ρ, a :: as, i + 1, w, b, h, h1, h2, h3 => by
    rw [List.getElem?_cons_succ] at h1 h2 ⊢
    cases a with
    | d x => exact outs_get (vs := vs) (ρ := ρ) (as := as) h h1 h2 h3
    | o t => exact outs_get (vs := vs) (ρ := ρ) (as := as) h.2 h1 h2 h3
    | c F us os => exact outs_get (vs := vs) (ρ := ρ) (as := as) h.2 h1 h2 h3
section
variable {K : PySem.W.Frag} {ρ ρ' : Env} {te ta tb : TE} {d e : D} {ds es : List D} {tt tu : TT} {R : DEnds} {B : Base} {Hs H Hs' H' : Hp} {σ : St}
theorem rs_entB {N : List Str} {vs : List V} {as : List AV} {Rs : Nat → Hp} (e : Ex Hs H ∧ NT Hs ∧ TB H) (x : IsL K Hs H vs as Rs) (hN : as.length ≤ N.length) : RS K ⟨Hs, cut H Rs, H, e.2⟩ Hs H (L2.start N vs) (entB K N vs as) := by
  have hl := x.len
  have hz : (List.zipWith (fun v a => some (AV.sv K v a)) vs as).length = as.length := by rw [List.length_zipWith, hl, Nat.min_self]
  refine ⟨⟨fun a o z _ => (cut_le z).1, Ex.refl Hs, e.1, fun _ _ => rfl, fun _ z => z, fun a z => ?_, fun _ z => z, id, id⟩, ?_, Rs, fun i sv h => ?_, fun i a o h => ?_, x.dis, fun i sv a h h0 h1 => ?_⟩
  · cases q : cut H Rs a with
    | none => exact absurd q z
    | some o =>
      rw [(cut_le q).1]
      exact fun y => nomatch y
  · unfold L2.start entB
    rw [List.length_append, List.length_append, List.length_map, hz, List.length_replicate, List.length_replicate, hl]
  · unfold entB at h
    by_cases hi : i < as.length
    · rw [List.getElem?_append_left (by rw [hz]; exact hi), List.getElem?_zipWith] at h
      have hv : vs[i]? = some vs[i] := List.getElem?_eq_getElem (by omega)
      have ha : as[i]? = some as[i] := List.getElem?_eq_getElem hi
      rw [hv, ha] at h
      cases h
      refine ⟨vs[i], ?_, (x.is i _ _ hv ha).holds⟩
      unfold L2.start
      rw [List.getElem?_append_left (by rw [List.length_map, hl]; exact hi), List.getElem?_map, hv]
      rfl
    · rw [List.getElem?_append_right (by omega), List.getElem?_replicate] at h
      split at h <;> cases h
  · obtain ⟨h1, h2, h3, h4⟩ := x.reg i a o h
    refine ⟨h2, h3, ?_, h4⟩
    unfold cut
    exact if_pos ⟨i, by rw [h]; exact fun y => nomatch y⟩
  · unfold entB at h
    by_cases hi : i < as.length
    · rw [List.getElem?_append_left (by rw [hz]; exact hi), List.getElem?_zipWith] at h
      have hv : vs[i]? = some vs[i] := List.getElem?_eq_getElem (by omega)
      have ha : as[i]? = some as[i] := List.getElem?_eq_getElem hi
      rw [hv, ha] at h
      cases h
      have y := x.is i _ _ hv ha
      generalize as[i] = q at y h0
      cases q with
      | d z => exact absurd (by rw [y.2]; rfl) h1
      | o z => cases h0
      | c F us os => cases h0
    · rw [List.getElem?_append_right (by omega), List.getElem?_replicate] at h
      split at h <;> cases h
def regO (R : Nat → Hp) (as : List AV) (i : Nat) : Hp := match as[i]? with
  | some a => if a.own = true then R i else em
  | none => em
theorem regO_own {R : Nat → Hp} {as : List AV} {i : Nat} {a : AV} (h : as[i]? = some a) (w : a.own = true) : regO R as i = R i := by
  unfold regO
  rw [h]
  exact if_pos w
theorem regO_some {R : Nat → Hp} {as : List AV} {i : Nat} {a : Addr} {o : HO} (h : regO R as i a = some o) : i < as.length ∧ R i a = some o := by
  cases z : as[i]? with
  | none =>
    have e : regO R as i = em := by
      unfold regO
      rw [z]
    rw [e] at h
    cases h
  | some b =>
    cases w : b.own with
    | true =>
      rw [regO_own z w] at h
      exact ⟨(List.getElem?_eq_some_iff.mp z).1, h⟩
    | false =>
      have e : regO R as i = em := by
        unfold regO
        rw [z]
        exact if_neg (by rw [w]; decide)
      rw [e] at h
      cases h
theorem ne_some {R : Hp} {a : Addr} (h : R a ≠ none) : ∃ o, R a = some o := by
  cases z : R a with
  | none => exact absurd z h
  | some o => exact ⟨o, rfl⟩
theorem some_ne {R : Hp} {a : Addr} {o : HO} (h : R a = some o) : R a ≠ none := by
  rw [h]
  exact fun z => nomatch z
/-- the own things of a frame, as they are told behind it -/
theorem RS.told {vs : List V} {Rs : Nat → Hp} {as : List AV} {Hs0 H0 : Hp} {t : NT Hs0 ∧ TB H0} (r : RS K ⟨Hs0, cut H0 Rs, H0, t⟩ Hs' H' σ ρ) (o : outs K vs ρ as) : ∃ Rs', IsB K H0 Hs' H' vs as Rs Rs' := by
  obtain ⟨R, h1, h2, h3, h4⟩ := r.reg
  have hl := outs_len o
  refine ⟨regO R as, hl, fun i v a hv ha hw => ?_, fun i a u h => ?_, fun i j a e1 e2 => ?_⟩
  · rw [regO_own ha hw]
    have e := outs_get o hv ha hw
    obtain ⟨w, e1, e2⟩ := h1 i _ e
    cases a with
    | d x => cases hw
    | o t =>
      obtain ⟨e3, e4⟩ := e2 Hs' (Ex.refl _)
      rw [e3 v rfl] at e4
      exact e4
    | c F us os =>
      obtain ⟨e3, e4⟩ := e2 Hs' (Ex.refl _)
      subst e3
      exact e4
  · obtain ⟨hi, h⟩ := regO_some h
    obtain ⟨e1, e2, e3, e4⟩ := h2 i a u h
    refine ⟨by rw [hl]; exact hi, e1, e2, e4, ?_⟩
    by_cases z : ∃ k, Rs k a ≠ none
    · exact .inl z
    · refine .inr ?_
      have e3 : cut H0 Rs a = none := e3
      rw [cut_of fun k => Classical.byContradiction fun y => z ⟨k, y⟩] at e3
      exact e3
  · obtain ⟨_, e1⟩ := ne_some e1
    obtain ⟨_, e2⟩ := ne_some e2
    exact h3 i j a (some_ne (regO_some e1).2) (some_ne (regO_some e2).2)
variable {P : Program} {w : World} {mg : Str → Option Value} {base : Heap} {x qual : Str} {st : Stmt} {f c : Addr} {fd : FuncData} {N ps : List Str} {k : Nat} {α : Type} {pre : α → Prop} {arg : α → List AV} {post : α → D → List AV → Prop} {exc : α → Value → Option (List (Str × D)) → List AV → Prop}
/-- what is wanted of the body -/
abbrev endB (K : PySem.W.Frag) {α : Type} (post : α → D → List AV → Prop) (x : α) (vs : List V) : DEnds := { nx := fun ρ => ∃ as, post x .non as ∧ outs K vs ρ as, rt := fun _ => False, ro := fun ρ d => ∃ as, post x d as ∧ outs K vs ρ as }
theorem lk_b {x : α} {vs : List V} {H : Hp} {Q : VK} {E : XK} {Rs : Nat → Hp} {t : NT Hs ∧ TB H} (q : ∀ Hs' H' v d as Rs', Gr Hs (cut H Rs) H Hs' H' → IsB K H Hs' H' vs as Rs Rs' → Rep K Hs' v d → post x d as → Q v H') :
    Lk K ⟨Hs, cut H Rs, H, t⟩ (endB K post x vs) { nx := fun _ H' => Q .non H', rt := Q } :=
  ⟨fun Hs' H' σ ρ r' ⟨as, z1, z2⟩ => by
      obtain ⟨Rs', b⟩ := r'.told z2
      exact q Hs' H' .non .non as Rs' r'.gr b .non z1, fun _ _ _ _ _ _ z => z.elim, fun _ _ _ _ _ _ _ _ _ _ z => z.elim, fun _ _ _ _ _ z => z.elim, fun _ _ _ _ _ z => z.elim,
    fun Hs' H' σ ρ v d r' y ⟨as, z1, z2⟩ => by
      obtain ⟨Rs', b⟩ := r'.told z2
      exact q Hs' H' v d as Rs' r'.gr b y z1, fun _ _ _ _ _ _ _ _ _ z => z.elim, fun _ _ _ _ _ _ _ _ z => z.elim⟩
theorem fn_b (F : Fun K x qual st f fd) (S : FnScope N ps (defScope st)) (hl : ∀ x, (arg x).length = ps.length) {t : TS}
    (hb : ∀ (cdv : Value) (A : Around) (outer : List PySem.Env) (s : Shared) (H : Hp) (E : XK), Room k (A.deeper (envOfC qual (defScope st) s.heap.objs.size f cdv)) → PSs (cxOf CX0 P w K mg base N qual (defScope st) f cdv A outer s H E).nox (defBody st) t)
    (hd : ∀ x vs, vs.length = ps.length → pre x → ExS K t (entB K N vs (arg x)) (endB K post x vs)) : FnOk P w K mg base CX0 (k + 1) f fd ps (spB K pre arg post exc) := by
  have hN : ps.length ≤ N.length := by have := congrArg List.length S.pre; rw [List.length_take] at this; omega
  refine F.ok S (fun vs H Q E h => ?_) (fun cdv A outer s H vs Q E hr h => ?_)
  · obtain ⟨Hs, x, Rs, _, r, _⟩ := h
    rw [r.len, hl]
  · obtain ⟨Hs, x, Rs, e, r, hp, q, _⟩ := h
    exact ⟨t, hb cdv A outer s H E hr, hd x vs (by rw [r.len, hl]) hp _ Hs H (L2.start N vs) _ (rs_entB e r (by rw [hl]; exact hN)) (lk_b (E := E) q)⟩
theorem fn_bC (F : FunC K x qual st f fd c) (S : FnScope N ps (defScope st)) (hl : ∀ x, (arg x).length = ps.length) {t : List (Str × Addr) → TS}
    (hb : ∀ (A : Around) (outer : List PySem.Env) (s : Shared) (H : Hp) (E : XK) (cl : List (Str × Addr)), cellsOf st s = cl → Room k (A.deeper (envOfC qual (defScope st) s.heap.objs.size f (.ref c))) → PSs (cxOf CX0 P w K mg base N qual (defScope st) f (.ref c) A outer s H E).nox (defBody st) (t cl))
    (hd : ∀ cl x vs, vs.length = ps.length → pre x → ExS K (t cl) (entB K N vs (arg x)) (endB K post x vs)) : FnOk P w K mg base CX0 (k + 1) f fd ps (spB K pre arg post exc) := by
  have hN : ps.length ≤ N.length := by have := congrArg List.length S.pre; rw [List.length_take] at this; omega
  refine F.ok S (fun vs H Q E h => ?_) (fun A outer s H vs Q E hr h => ?_)
  · obtain ⟨Hs, x, Rs, _, r, _⟩ := h
    rw [r.len, hl]
  · obtain ⟨Hs, x, Rs, e, r, hp, q, _⟩ := h
    exact ⟨_, hb A outer s H E _ rfl hr, hd _ x vs (by rw [r.len, hl]) hp _ Hs H (L2.start N vs) _ (rs_entB e r (by rw [hl]; exact hN)) (lk_b (E := E) q)⟩
/-! ### the caller -/
theorem RS.io {R : Nat → Hp} (r : RS K B Hs H σ ρ) (rg : Reg K B Hs H σ ρ R) (S : Nat → Prop) {C : Hp} (g : Gr Hs C H Hs' H') (hC : ∀ a, (∀ i, S i → R i a = none) → C a = H a) (hlen : ρ'.length = ρ.length) (R' : Nat → Hp)
    (h1 : ∀ i sv, ρ'[i]? = some (some sv) → (¬ S i ∧ ρ[i]? = some (some sv)) ∨ (S i ∧ ∃ v, σ[i]? = some (some v) ∧ Holds K Hs' (R' i) v sv ∧ (sv.nw = true → ∀ k, S k → ∃ sv0, ρ[k]? = some (some sv0) ∧ sv0.nw = true)))
    (h2 : ∀ i a o, S i → R' i a = some o → H' a = some o ∧ Hs' a = none ∧ o.pln = true ∧ ((∃ k, S k ∧ R k a ≠ none) ∨ H a = none))
    (h3 : ∀ i j a, S i → S j → R' i a ≠ none → R' j a ≠ none → i = j) : RS K B Hs' H' σ ρ' := by
  classical
  have keep : ∀ j a o, ¬ S j → R j a = some o → H' a = some o := fun j a o nj e => by
    obtain ⟨e1, e2, e3, e4⟩ := rg.2.1 j a o e
    refine g.fr.pl ?_ e4
    rw [hC a fun i si => ?_]
    · exact e1
    · cases z : R i a with
      | none => rfl
      | some u =>
        have := rg.2.2.1 i j a (by rw [z]; exact fun y => nomatch y) (by rw [e]; exact fun y => nomatch y)
        subst this
        exact absurd si nj
  have bf : ∀ a o, B.f a = some o → ∀ i, R i a = none := fun a o e i => by
    cases z : R i a with
    | none => rfl
    | some u =>
      rw [(rg.2.1 i a u z).2.2.1] at e
      cases e
  refine ⟨⟨fun a o e n => ?_, r.gr.sh.trans g.sh, g.lv, fun a z => (g.nw a (r.gr.dp a z)).trans (r.gr.nw a z), fun a z => g.dm a (r.gr.dm a z), fun a z => g.dm a (r.gr.fd a z), fun a z => g.dp a (r.gr.dp a z), fun t => g.nt (r.gr.nt t), fun t => g.tb (r.gr.tb t)⟩,
    r.len.trans hlen.symm, fun i => if S i then R' i else R i, fun i sv e => ?_, fun i a o e => ?_, fun i j a e1 e2 => ?_, fun i sv a e e0 e1 => ?_⟩
  · refine g.fr a o ?_ n
    rw [hC a fun i _ => bf a o e i]
    exact r.gr.fr a o e n
  · rcases h1 i sv e with ⟨ns, e1⟩ | ⟨s, v, e1, e2, _⟩
    · obtain ⟨v, e2, e3⟩ := rg.1 i sv e1
      refine ⟨v, e2, ?_⟩
      dsimp only
      rw [if_neg ns]
      exact e3.mono g.sh
    · refine ⟨v, e1, ?_⟩
      dsimp only
      rw [if_pos s]
      exact e2
  · dsimp only at e
    by_cases s : S i
    · rw [if_pos s] at e
      obtain ⟨e1, e2, e3, e4⟩ := h2 i a o s e
      refine ⟨e1, e2, ?_, e3⟩
      rcases e4 with ⟨k, _, z⟩ | z
      · cases y : R k a with
        | none => exact absurd y z
        | some u => exact (rg.2.1 k a u y).2.2.1
      · exact (r.gr.new0 z).2
    · rw [if_neg s] at e
      obtain ⟨e1, e2, e3, e4⟩ := rg.2.1 i a o e
      refine ⟨keep i a o s e, ?_, e3, e4⟩
      rw [g.nw a (.of e1 e4)]
      exact e2
  · dsimp only at e1 e2
    have mix : ∀ i j, S i → ¬ S j → R' i a ≠ none → R j a ≠ none → False := fun i j si sj y1 y2 => by
      cases z : R' i a with
      | none => exact y1 z
      | some o =>
        rcases (h2 i a o si z).2.2.2 with ⟨k, sk, z2⟩ | z2
        · have := rg.2.2.1 k j a z2 y2
          subst this
          exact sj sk
        · cases y : R j a with
          | none => exact y2 y
          | some u =>
            rw [(rg.2.1 j a u y).1] at z2
            cases z2
    by_cases si : S i
    · rw [if_pos si] at e1
      by_cases sj : S j
      · rw [if_pos sj] at e2
        exact h3 i j a si sj e1 e2
      · rw [if_neg sj] at e2
        exact (mix i j si sj e1 e2).elim
    · rw [if_neg si] at e1
      by_cases sj : S j
      · rw [if_pos sj] at e2
        exact (mix j i sj si e2 e1).elim
      · rw [if_neg sj] at e2
        exact rg.2.2.1 i j a e1 e2
  · dsimp only at e1
    rcases h1 i sv e with ⟨ns, e2⟩ | ⟨s, v, _, _, e3⟩
    · rw [if_neg ns] at e1
      exact rg.2.2.2 i sv a e2 e0 e1
    · rw [if_pos s] at e1
      cases z : R' i a with
      | none => exact absurd z e1
      | some o =>
        rcases (h2 i a o s z).2.2.2 with ⟨k, sk, z2⟩ | z2
        · obtain ⟨sv0, y1, y2⟩ := e3 e0 k sk
          exact rg.2.2.2 k sv0 a y1 y2 z2
        · exact (r.gr.new0 z2).1
/-- an argument in a call: shared data, or a slot that holds a tree -/
abbrev AR := D ⊕ (Nat × Nw)
def VsOk (K : PySem.W.Frag) (Hs : Hp) (σ : St) : List V → List AR → Prop
  | [], [] => True
  | v :: vs, .inl d :: ar => Rep K Hs v d ∧ VsOk K Hs σ vs ar
  | v :: vs, .inr j :: ar => σ[j.1]? = some (some v) ∧ VsOk K Hs σ vs ar
  | _, _ => False
def ArgOk (K : PySem.W.Frag) (ρ : Env) : List AR → List AV → Prop
  | [], [] => True
  | .inl d :: ar, .d d' :: as => d = d' ∧ ArgOk K ρ ar as
  | .inr j :: ar, .o t :: as => ρ[j.1]? = some (some (.tr K j.2 t)) ∧ ArgOk K ρ ar as
  | _, _ => False
def Shp : List AR → List AV → Prop
  | [], [] => True
  | .inl _ :: ar, .d _ :: as => Shp ar as
  | .inr _ :: ar, .o _ :: as => Shp ar as
  | _, _ => False
def allOf : List AR → Bool
  | [] => true
  | .inl _ :: ar => allOf ar
  | .inr j :: ar => j.2.b && allOf ar
def sepB : List AR → Bool
  | [] => true
  | .inl _ :: ar => sepB ar
  | .inr j :: ar => !(ar.any fun x => match x with
    | .inl _ => false
    | .inr j' => j'.1 == j.1) && sepB ar
/-- the slots behind the call -/
def back (K : PySem.W.Frag) (all : Bool) : List AR → List AV → Env → Env
  | .inr j :: ar, .o t :: as, ρ => back K all ar as (ρ.set j.1 (some (.tr K ⟨j.2.b && all, j.2.pv⟩ t)))
  | _ :: ar, _ :: as, ρ => back K all ar as ρ
  | _, _, ρ => ρ
theorem VsOk.length : ∀ {vs : List V} {ar : List AR}, VsOk K Hs σ vs ar → vs.length = ar.length
  | [], [], _ => rfl
  | [], _ :: _, h => by cases h
  | _ :: _, [], h => by cases h
  | _ :: vs, .inl _ :: ar, h => congrArg (· + 1) (VsOk.length (vs := vs) (ar := ar) h.2)
  | _ :: vs, .inr _ :: ar, h => congrArg (· + 1) (VsOk.length (vs := vs) (ar := ar) h.2)
theorem VsOk.getL : ∀ {vs : List V} {ar : List AR} {i : Nat} {v : V} {d : D}, VsOk K Hs σ vs ar → vs[i]? = some v → ar[i]? = some (.inl d) → Rep K Hs v d
  | [], _, _, _, _, _, h, _ => by simp at h
  | _ :: _, [], _, _, _, _, _, h => by simp at h
  | _ :: vs, .inl _ :: ar, 0, _, _, h, h1, h2 => by cases h1; cases h2; exact h.1
  | _ :: vs, .inr _ :: ar, 0, _, _, h, h1, h2 => by cases h2
  | _ :: vs, .inl _ :: ar, i + 1, _, _, h, h1, h2 => VsOk.getL (vs := vs) (ar := ar) (i := i) h.2 h1 h2
  | _ :: vs, .inr _ :: ar, i + 1, _, _, h, h1, h2 => VsOk.getL (vs := vs) (ar := ar) (i := i) h.2 h1 h2
theorem VsOk.getR : ∀ {vs : List V} {ar : List AR} {i : Nat} {v : V} {j : Nat × Nw}, VsOk K Hs σ vs ar → vs[i]? = some v → ar[i]? = some (.inr j) → σ[j.1]? = some (some v)
  | [], _, _, _, _, _, h, _ => by simp at h
  | _ :: _, [], _, _, _, _, _, h => by simp at h
  | _ :: vs, .inl _ :: ar, 0, _, _, h, h1, h2 => by cases h2
  | _ :: vs, .inr _ :: ar, 0, _, _, h, h1, h2 => by cases h1; cases h2; exact h.1
  | _ :: vs, .inl _ :: ar, i + 1, _, _, h, h1, h2 => VsOk.getR (vs := vs) (ar := ar) (i := i) h.2 h1 h2
  | _ :: vs, .inr _ :: ar, i + 1, _, _, h, h1, h2 => VsOk.getR (vs := vs) (ar := ar) (i := i) h.2 h1 h2
theorem ArgOk.length : ∀ {ar : List AR} {as : List AV}, ArgOk K ρ ar as → ar.length = as.length
  | [], [], _ => rfl
  | [], _ :: _, h => by cases h
  | .inl _ :: _, [], h => by cases h
  | .inr _ :: _, [], h => by cases h
  | .inl _ :: ar, .d _ :: as, h => congrArg (· + 1) (ArgOk.length (ar := ar) (as := as) h.2)
  | .inr _ :: ar, .o _ :: as, h => congrArg (· + 1) (ArgOk.length (ar := ar) (as := as) h.2)
  | .inl _ :: _, .o _ :: _, h => by cases h
  | .inl _ :: _, .c _ _ _ :: _, h => by cases h
  | .inr _ :: _, .d _ :: _, h => by cases h
  | .inr _ :: _, .c _ _ _ :: _, h => by cases h
theorem ArgOk.get : ∀ {ar : List AR} {as : List AV} {i : Nat} {a : AV}, ArgOk K ρ ar as → as[i]? = some a → (∃ d, a = .d d ∧ ar[i]? = some (.inl d)) ∨ ∃ j t, a = .o t ∧ ar[i]? = some (.inr j) ∧ ρ[j.1]? = some (some (.tr K j.2 t))
  | [], [], _, _, _, h => by simp at h
  | [], _ :: _, _, _, h, _ => by cases h
  | .inl _ :: _, [], _, _, h, _ => by cases h
  | .inr _ :: _, [], _, _, h, _ => by cases h
  | .inl d :: ar, .d d' :: as, 0, _, h, e => by
    cases e
    exact .inl ⟨d', rfl, by rw [h.1]; rfl⟩
  | .inr j :: ar, .o t :: as, 0, _, h, e => by
    cases e
    exact .inr ⟨j, t, rfl, rfl, h.1⟩
  | .inl d :: ar, .d d' :: as, i + 1, _, h, e => ArgOk.get (ar := ar) (as := as) (i := i) h.2 e
  | .inr j :: ar, .o t :: as, i + 1, _, h, e => ArgOk.get (ar := ar) (as := as) (i := i) h.2 e
  | .inl _ :: _, .o _ :: _, _, _, h, _ => by cases h
  | .inl _ :: _, .c _ _ _ :: _, _, _, h, _ => by cases h
  | .inr _ :: _, .d _ :: _, _, _, h, _ => by cases h
  | .inr _ :: _, .c _ _ _ :: _, _, _, h, _ => by cases h
theorem sep_get : ∀ {ar : List AR} {i i' : Nat} {j j' : Nat × Nw}, sepB ar = true → ar[i]? = some (.inr j) → ar[i']? = some (.inr j') → j.1 = j'.1 → i = i'
  | [], _, _, _, _, _, h, _, _ => by simp at h
  | .inl _ :: ar, 0, _, _, _, _, h, _, _ => by cases h
  | .inl _ :: ar, _ + 1, 0, _, _, _, _, h, _ => by cases h
  | .inl _ :: ar, i + 1, i' + 1, _, _, h, h1, h2, h3 => congrArg (· + 1) (sep_get (ar := ar) (i := i) (i' := i') h h1 h2 h3)
  | .inr _ :: ar, 0, 0, _, _, _, _, _, _ => rfl
  | .inr j0 :: ar, 0, i' + 1, j, j', h, h1, h2, h3 => by
    cases h1
    unfold sepB at h
    rw [Bool.and_eq_true, Bool.not_eq_true', List.any_eq_false] at h
    exact absurd (by show (j'.1 == j0.1) = true; rw [h3]; exact beq_self_eq_true _) (h.1 _ (List.mem_of_getElem? h2))
  | .inr j0 :: ar, i + 1, 0, j, j', h, h1, h2, h3 => by
    cases h2
    unfold sepB at h
    rw [Bool.and_eq_true, Bool.not_eq_true', List.any_eq_false] at h
    exact absurd (by show (j.1 == j0.1) = true; rw [h3]; exact beq_self_eq_true _) (h.1 _ (List.mem_of_getElem? h1))
  | .inr j0 :: ar, i + 1, i' + 1, _, _, h, h1, h2, h3 => by
    unfold sepB at h
    rw [Bool.and_eq_true] at h
    exact congrArg (· + 1) (sep_get (ar := ar) (i := i) (i' := i') h.2 h1 h2 h3)
theorem all_get : ∀ {ar : List AR} {i : Nat} {j : Nat × Nw}, allOf ar = true → ar[i]? = some (.inr j) → j.2.b = true
  | [], _, _, _, h => by simp at h
  | .inl _ :: ar, 0, _, _, h => by cases h
  | .inl _ :: ar, i + 1, _, h, h1 => all_get (ar := ar) (i := i) h h1
  | .inr _ :: ar, 0, _, h, h1 => by
    cases h1
    unfold allOf at h
    rw [Bool.and_eq_true] at h
    exact h.1
  | .inr _ :: ar, i + 1, _, h, h1 => by
    unfold allOf at h
    rw [Bool.and_eq_true] at h
    exact all_get (ar := ar) (i := i) h.2 h1
theorem back_len {all : Bool} : ∀ {ar : List AR} {as : List AV} {ρ : Env}, (back K all ar as ρ).length = ρ.length
  | [], _, _ => rfl
  | _ :: _, [], _ => by unfold back; split <;> first | rfl | contradiction
  | .inl d :: ar, .d _ :: as, ρ => back_len (ar := ar) (as := as) (ρ := ρ)
  | .inl d :: ar, .o _ :: as, ρ => back_len (ar := ar) (as := as) (ρ := ρ)
  | .inl d :: ar, .c _ _ _ :: as, ρ => back_len (ar := ar) (as := as) (ρ := ρ)
  | .inr j :: ar, .d _ :: as, ρ => back_len (ar := ar) (as := as) (ρ := ρ)
  | .inr j :: ar, .c _ _ _ :: as, ρ => back_len (ar := ar) (as := as) (ρ := ρ)
  | .inr j :: ar, .o t :: as, ρ => by
    show (back K all ar as (ρ.set j.1 _)).length = _
    rw [back_len, List.length_set]
theorem back_get {all : Bool} : ∀ {ar : List AR} {as : List AV} {ρ : Env} {i : Nat} {sv : SV}, Shp ar as → (back K all ar as ρ)[i]? = some (some sv) → ((∀ (m : Nat) (j : Nat × Nw), ar[m]? = some (Sum.inr j) → j.1 ≠ i) ∧ ρ[i]? = some (some sv)) ∨ ∃ (m : Nat) (j : Nat × Nw) (t : O), ar[m]? = some (Sum.inr j) ∧ j.1 = i ∧ as[m]? = some (AV.o t) ∧ sv = .tr K ⟨j.2.b && all, j.2.pv⟩ t
  | [], [], _, _, _, _, h => .inl ⟨fun m j z => by simp at z, h⟩
  | [], _ :: _, _, _, _, h, _ => by cases h
  | .inl _ :: _, [], _, _, _, h, _ => by cases h
  | .inr _ :: _, [], _, _, _, h, _ => by cases h
  | .inl _ :: _, .o _ :: _, _, _, _, h, _ => by cases h
  | .inl _ :: _, .c _ _ _ :: _, _, _, _, h, _ => by cases h
  | .inr _ :: _, .d _ :: _, _, _, _, h, _ => by cases h
  | .inr _ :: _, .c _ _ _ :: _, _, _, _, h, _ => by cases h
  | .inl d :: ar, .d d' :: as, ρ, i, sv, h, e => by
    rcases back_get (ar := ar) (as := as) (ρ := ρ) (i := i) h e with ⟨z1, z2⟩ | ⟨m, j, t, z⟩
    · refine .inl ⟨fun m j y => ?_, z2⟩
      cases m with
      | zero => cases y
      | succ m => exact z1 m j y
    · exact .inr ⟨m + 1, j, t, z⟩
  | .inr j0 :: ar, .o t0 :: as, ρ, i, sv, h, e => by
    rcases back_get (ar := ar) (as := as) (ρ := ρ.set j0.1 (some (.tr K ⟨j0.2.b && all, j0.2.pv⟩ t0))) (i := i) h e with ⟨z1, z2⟩ | ⟨m, j, t, z⟩
    · by_cases q : j0.1 = i
      · refine .inr ⟨0, j0, t0, rfl, q, rfl, ?_⟩
        subst q
        have hl : j0.1 < ρ.length := by
          have := (List.getElem?_eq_some_iff.mp z2).1
          rwa [List.length_set] at this
        rw [List.getElem?_set_self hl] at z2
        exact (Option.some.inj (Option.some.inj z2)).symm
      · rw [List.getElem?_set_ne q] at z2
        refine .inl ⟨fun m j y => ?_, z2⟩
        cases m with
        | zero => cases y; exact q
        | succ m => exact z1 m j y
    · exact .inr ⟨m + 1, j, t, z⟩
/-- arguments, some of which are slots that hold trees -/
def EvAS (K : PySem.W.Frag) (ta : TA) (ρ : Env) (ar : List AR) : Prop := ∀ B Hs H σ, RS K B Hs H σ ρ → ∀ Q : List V → Hp → Prop, (∀ Hs' H' vs, Gr Hs H H Hs' H' → VsOk K Hs' σ vs ar → Q vs H') → ta σ H Q
theorem eas_nil : EvAS K tNil ρ [] := fun B Hs H σ r Q q => q Hs H [] (Gr.refl r.ex) trivial
theorem VsOk.mono (e : Ex Hs Hs') : ∀ {vs : List V} {ar : List AR}, VsOk K Hs σ vs ar → VsOk K Hs' σ vs ar
  | [], [], _ => trivial
  | [], _ :: _, h => by cases h
  | _ :: _, [], h => by cases h
  | _ :: vs, .inl _ :: ar, h => ⟨h.1.mono e, VsOk.mono e (vs := vs) (ar := ar) h.2⟩
  | _ :: vs, .inr _ :: ar, h => ⟨h.1, VsOk.mono e (vs := vs) (ar := ar) h.2⟩
theorem eas_d {ta : TE} {t : TA} {ar : List AR} (h : EvD K ta ρ d) (hs : EvAS K t ρ ar) : EvAS K (tCons ta t) ρ (.inl d :: ar) := fun B Hs H σ r Q q =>
  h B Hs H σ r _ fun Hs1 H1 v g x => hs B Hs1 H1 σ (r.grow g) _ fun Hs2 H2 vs g2 xs => q Hs2 H2 (v :: vs) (g.trans g2) ⟨x.mono g2.sh, xs⟩
theorem eas_s {j : Nat} {nw : Nw} {t : TA} {o : O} {ar : List AR} (h : ρ[j]? = some (some (.tr K nw o))) (hs : EvAS K t ρ ar) : EvAS K (tCons (tVar j) t) ρ (.inr (j, nw) :: ar) := fun B Hs H σ r Q q => by
  obtain ⟨R, rg⟩ := r.reg
  obtain ⟨v, e, _⟩ := rg.1 j _ h
  exact ⟨v, e, hs B Hs H σ r _ fun Hs2 H2 vs g2 xs => q Hs2 H2 (v :: vs) g2 ⟨e, xs⟩⟩
/-- te gives d, and leaves the slots as ρ' -/
def EvE (K : PySem.W.Frag) (te : TE) (ρ : Env) (Z : D → Env → Prop) : Prop := ∀ B Hs H σ, RS K B Hs H σ ρ → ∀ Q : VK, (∀ Hs' H' v d ρ', Ex Hs Hs' → RS K B Hs' H' σ ρ' → Rep K Hs' v d → Z d ρ' → Q v H') → te σ H Q
def regA (R : Nat → Hp) (ar : List AR) (i : Nat) : Hp := match ar[i]? with
  | some (.inr j) => R j.1
  | _ => em
theorem regA_r {R : Nat → Hp} {ar : List AR} {i : Nat} {j : Nat × Nw} (h : ar[i]? = some (.inr j)) : regA R ar i = R j.1 := by
  unfold regA
  rw [h]
theorem regA_l {R : Nat → Hp} {ar : List AR} {i : Nat} {d : D} (h : ar[i]? = some (.inl d)) : regA R ar i = em := by
  unfold regA
  rw [h]
theorem regA_some {R : Nat → Hp} {ar : List AR} {i : Nat} {a : Addr} {o : HO} (h : regA R ar i a = some o) : ∃ j, ar[i]? = some (.inr j) ∧ R j.1 a = some o := by
  cases z : ar[i]? with
  | none =>
    have e : regA R ar i = em := by
      unfold regA
      rw [z]
    rw [e] at h
    cases h
  | some b =>
    cases b with
    | inl d =>
      rw [regA_l z] at h
      cases h
    | inr j =>
      rw [regA_r z] at h
      exact ⟨j, rfl, h⟩
/-- the call's arguments as they lie in the heap -/
theorem RS.lay {R : Nat → Hp} {vs : List V} {ar : List AR} {as : List AV} (r : RS K B Hs H σ ρ) (rg : Reg K B Hs H σ ρ R) (hv : VsOk K Hs σ vs ar) (ha : ArgOk K ρ ar as) (sep : sepB ar = true) : IsL K Hs H vs as (regA R ar) := by
  have hl := hv.length
  refine ⟨hl.trans ha.length, fun i v a e1 e2 => ?_, fun i a o e => ?_, fun i i' a e1 e2 => ?_⟩
  · rcases ha.get e2 with ⟨d, rfl, z⟩ | ⟨j, t, rfl, z, y⟩
    · rw [regA_l z]
      exact ⟨hv.getL e1 z, rfl⟩
    · rw [regA_r z]
      obtain ⟨w, y1, y2⟩ := rg.1 j.1 _ y
      rw [hv.getR e1 z] at y1
      cases y1
      exact (y2 Hs (Ex.refl _)).2
  · obtain ⟨j, z, e⟩ := regA_some e
    obtain ⟨e1, e2, _, e4⟩ := rg.2.1 j.1 a o e
    exact ⟨by rw [hl]; exact (List.getElem?_eq_some_iff.mp z).1, e1, e2, e4⟩
  · obtain ⟨_, e1⟩ := ne_some e1
    obtain ⟨_, e2⟩ := ne_some e2
    obtain ⟨j, z, e1⟩ := regA_some e1
    obtain ⟨j', z', e2⟩ := regA_some e2
    exact sep_get sep z z' (rg.2.2.1 _ _ a (some_ne e1) (some_ne e2))
/-- .. and behind it -/
theorem RS.behind {R : Nat → Hp} {vs : List V} {ar : List AR} {as' : List AV} {Rs' : Nat → Hp} (r : RS K B Hs H σ ρ) (rg : Reg K B Hs H σ ρ R) (hv : VsOk K Hs σ vs ar) {as : List AV} (ha : ArgOk K ρ ar as) (sep : sepB ar = true) (sh : Shp ar as')
    (g : Gr Hs (cut H (regA R ar)) H Hs' H') (b : IsB K H Hs' H' vs as' (regA R ar) Rs') : RS K B Hs' H' σ (DL.back K (allOf ar) ar as' ρ) := by
  classical
  have hl := hv.length
  have at_ : ∀ (i m : Nat) (j : Nat × Nw), ar[m]? = some (Sum.inr j) → j.1 = i → ∀ n : Nat, (∃ j' : Nat × Nw, ar[n]? = some (Sum.inr j') ∧ j'.1 = i) → n = m := fun i m j e1 e2 n ⟨j', e3, e4⟩ => sep_get sep e3 e1 (by rw [e4, e2])
  have hR : ∀ i (h : ∃ (m : Nat) (j : Nat × Nw), ar[m]? = some (Sum.inr j) ∧ j.1 = i), (fun i => if h : ∃ (m : Nat) (j : Nat × Nw), ar[m]? = some (Sum.inr j) ∧ j.1 = i then Rs' h.choose else em) i = Rs' h.choose := fun i h => dif_pos h
  refine r.io rg (fun i => ∃ (m : Nat) (j : Nat × Nw), ar[m]? = some (Sum.inr j) ∧ j.1 = i) g (fun a z => cut_of fun m => ?_) back_len (fun i => if h : ∃ (m : Nat) (j : Nat × Nw), ar[m]? = some (Sum.inr j) ∧ j.1 = i then Rs' h.choose else em) (fun i sv e => ?_) (fun i a o s e => ?_) (fun i j a si sj e1 e2 => ?_)
  · cases y : regA R ar m a with
    | none => rfl
    | some o =>
      obtain ⟨j, y1, y2⟩ := regA_some y
      rw [z j.1 ⟨m, j, y1, rfl⟩] at y2
      cases y2
  · rcases back_get sh e with ⟨z1, z2⟩ | ⟨m, j, t, z1, z2, z3, z4⟩
    · exact .inl ⟨fun ⟨m, j, y1, y2⟩ => z1 m j y1 y2, z2⟩
    · refine .inr ⟨⟨m, j, z1, z2⟩, ?_⟩
      have hex : ∃ (m : Nat) (j : Nat × Nw), ar[m]? = some (Sum.inr j) ∧ j.1 = i := ⟨m, j, z1, z2⟩
      have hm : hex.choose = m := at_ i m j z1 z2 _ hex.choose_spec
      have hlt : m < vs.length := by rw [hl]; exact (List.getElem?_eq_some_iff.mp z1).1
      have hvm : vs[m]? = some vs[m] := List.getElem?_eq_getElem hlt
      have y := b.is m vs[m] (.o t) hvm z3 rfl
      have y2 := hv.getR hvm z1
      rw [z2] at y2
      refine ⟨vs[m], y2, ?_, fun nw k ⟨m', j', w1, w2⟩ => ?_⟩
      · rw [dif_pos hex, hm, z4]
        intro Hs1 e1
        refine ⟨fun w ew => ?_, Own.mono e1 y⟩
        have ew : j.2.pv = some w := ew
        have lm : m < as.length := by rw [← ha.length, ← hl]; exact hlt
        rcases ha.get (List.getElem?_eq_getElem lm) with ⟨d, _, z⟩ | ⟨j2, t2, _, z, y3⟩
        · rw [z1] at z
          cases z
        · rw [z1] at z
          cases z
          obtain ⟨w2, y4, y5⟩ := rg.1 j.1 _ y3
          rw [hv.getR hvm z1] at y4
          cases y4
          exact (y5 Hs (Ex.refl _)).1 w ew
      · rw [z4] at nw
        have nw : (j.2.b && allOf ar) = true := nw
        rw [Bool.and_eq_true] at nw
        have y6 := all_get nw.2 w1
        have lm : m' < as.length := by rw [← ha.length]; exact (List.getElem?_eq_some_iff.mp w1).1
        rcases ha.get (List.getElem?_eq_getElem lm) with ⟨d, _, z⟩ | ⟨j2, t2, _, z, y3⟩
        · rw [w1] at z
          cases z
        · rw [w1] at z
          cases z
          rw [w2] at y3
          exact ⟨_, y3, y6⟩
  · rw [dif_pos s] at e
    obtain ⟨e1, e2, e3, e4, e5⟩ := b.reg _ a o e
    refine ⟨e2, e3, e4, ?_⟩
    rcases e5 with ⟨k, z⟩ | z
    · obtain ⟨_, z⟩ := ne_some z
      obtain ⟨j, y, z⟩ := regA_some z
      exact .inl ⟨j.1, ⟨k, j, y, rfl⟩, some_ne z⟩
    · exact .inr z
  · rw [dif_pos si] at e1
    rw [dif_pos sj] at e2
    have e3 := b.dis _ _ a e1 e2
    obtain ⟨j1, w1, w2⟩ := si.choose_spec
    obtain ⟨j2, w3, w4⟩ := sj.choose_spec
    rw [e3, w3] at w1
    cases w1
    rw [← w2, ← w4]
theorem ev_callB {ar : List AR} {ta : TA} {E : XK} (x : α) (ht : EvAS K ta ρ ar) (ha : ArgOk K ρ ar (arg x)) (p : pre x) (sep : sepB ar = true := by rfl) (sh : ∀ d as, post x d as → Shp ar as) (hx : ∀ cls fs as, ¬ exc x cls fs as) :
    EvE K (tCall (spB K pre arg post exc) [] E ta) ρ (fun d ρ' => ∃ as, post x d as ∧ ρ' = back K (allOf ar) ar as ρ) := fun B Hs H σ r Q q =>
  ht B Hs H σ r _ fun Hs1 H1 vs g xs => by
    rw [List.append_nil]
    have r1 := r.grow g
    obtain ⟨R, rg⟩ := r1.reg
    refine ⟨Hs1, x, _, ⟨g.lv, r1.tb⟩, r1.lay rg xs ha sep, p, fun Hs' H' v d as Rs' g2 b y z => ?_, fun _ _ cls _ fs as _ _ _ _ z => (hx cls fs as z).elim⟩
    exact q Hs' H' v d _ (g.sh.trans g2.sh) (r1.behind rg xs ha sep (sh d as z) g2 b) y ⟨as, z, rfl⟩
/-! ### statements with such calls -/
theorem EvD.eff (h : EvD K te ρ d) : EvE K te ρ (fun d' ρ' => d' = d ∧ ρ' = ρ) := fun B Hs H σ r Q q => h B Hs H σ r Q fun Hs' H' v g x => q Hs' H' v d ρ g.sh (r.grow g) x ⟨rfl, rfl⟩
theorem xs_asgE {i : Nat} {Z : D → Env → Prop} (h : EvE K te ρ Z) (q : ∀ d ρ', Z d ρ' → R.nx (ρ'.set i (some (.sh d)))) : ExS K (tAsg te (gName i)) ρ R := fun B Hs H σ Dn r l =>
  h B Hs H σ r _ fun Hs' H' v d ρ' _ r' x z => l.nx Hs' H' _ _ (r'.set i x) (q d ρ' z)
theorem xs_dropE {Z : D → Env → Prop} (h : EvE K te ρ Z) (q : ∀ d ρ', Z d ρ' → R.nx ρ') : ExS K (tDrop te) ρ R := fun B Hs H σ Dn r l =>
  h B Hs H σ r _ fun Hs' H' v d ρ' _ r' x z => l.nx Hs' H' _ _ r' (q d ρ' z)
theorem xs_retE {Z : D → Env → Prop} (h : EvE K te ρ Z) (q : ∀ d ρ', Z d ρ' → R.rt d) : ExS K (tRet te) ρ R := fun B Hs H σ Dn r l =>
  h B Hs H σ r _ fun Hs' H' v d ρ' _ r' x z => l.rt Hs' H' v d r'.gr x (q d ρ' z)
theorem xs_retEO {Z : D → Env → Prop} (h : EvE K te ρ Z) (q : ∀ d ρ', Z d ρ' → R.ro ρ' d) : ExS K (tRet te) ρ R := fun B Hs H σ Dn r l =>
  h B Hs H σ r _ fun Hs' H' v d ρ' _ r' x z => l.ro Hs' H' σ ρ' v d r' x (q d ρ' z)
/-- a test that leaves the slots as ρ' -/
def EvTE (K : PySem.W.Frag) (tt : TT) (ρ : Env) (Z : Bool → Env → Prop) : Prop := ∀ B Hs H σ, RS K B Hs H σ ρ → ∀ Q : Bool → Hp → Prop, (∀ Hs' H' b ρ', Ex Hs Hs' → RS K B Hs' H' σ ρ' → Z b ρ' → Q b H') → tt σ H Q
theorem EvT.eff {b : Bool} (h : EvT K tt ρ b) : EvTE K tt ρ (fun b' ρ' => b' = b ∧ ρ' = ρ) := fun B Hs H σ r Q q => h B Hs H σ r Q fun Hs' H' g => q Hs' H' b ρ g.sh (r.grow g) ⟨rfl, rfl⟩
theorem ete_t {Z : D → Env → Prop} {Y : Bool → Env → Prop} (h : EvE K te ρ Z) (k : ∀ d ρ', Z d ρ' → ∃ b, d = .bl b ∧ Y b ρ') : EvTE K (tTest te) ρ Y := fun B Hs H σ r Q q => h B Hs H σ r _ fun Hs' H' v d ρ' e r' x z => by
  obtain ⟨b, rfl, y⟩ := k d ρ' z
  cases x
  exact ⟨b, rfl, q Hs' H' b ρ' e r' y⟩
theorem ete_not {Y : Bool → Env → Prop} (h : EvTE K tt ρ Y) : EvTE K (tNot tt) ρ (fun b ρ' => Y (!b) ρ') := fun B Hs H σ r Q q => h B Hs H σ r _ fun Hs' H' b ρ' e r' z => q Hs' H' (!b) ρ' e r' (by show Y (!!b) ρ'; rw [Bool.not_not]; exact z)
theorem xs_ifE {t u : TS} {Y : Bool → Env → Prop} (h : EvTE K tt ρ Y) (h1 : ∀ ρ', Y true ρ' → ExS K t ρ' R) (h2 : ∀ ρ', Y false ρ' → ExS K u ρ' R) : ExS K (tIfS tt t u) ρ R := fun B Hs H σ Dn r l =>
  h B Hs H σ r _ fun Hs' H' b ρ' e r' z => by
    cases b with
    | true =>
      show t Dn σ H'
      exact h1 ρ' z B Hs' H' σ Dn r' l
    | false =>
      show u Dn σ H'
      exact h2 ρ' z B Hs' H' σ Dn r' l
/-- t[k] = d, t a list of shared data in a tree -/
theorem xs_setW {i : Nat} {nw : Nw} {o : O} {p : List Nat} {tw ti : TE} {k : Int} {j : Nat} (h : EvD K te ρ d) (hw : EvW K tw ρ i p) (hi : ρ[i]? = some (some (.tr K nw o))) (hp : o.at_ p = some (.ol (ds.map .sh))) (hk : EvD K ti ρ (.int k)) (hj : ixN ds.length k = some j) (q : R.nx (ρ.set i (some (.tr K nw (o.put p (.ol ((ds.set j d).map .sh))))))) :
    ExS K (tAsg te (gSub tw ti rSetA)) ρ R := fun B Hs0 H0 σ Dn r0 l =>
  h B Hs0 H0 σ r0 _ fun Hs H w g0 y => by
    refine hw B Hs H σ (r0.grow g0) _ fun Hs1 H1 v0 v g hv va => ?_
    have r1 := (r0.grow g0).grow g
    refine hk B Hs1 H1 σ r1 _ fun Hs2 H2 z g2 z2 => ?_
    cases z2
    have r2 := r1.grow g2
    obtain ⟨R1, rg2⟩ := r2.reg
    obtain ⟨v0', v1, S, hv', va', ow, sub, kk⟩ := r2.part rg2 hi hp
    rw [hv] at hv'
    cases hv'
    have e := (va.monoN g2.fr).det va'
    subst e
    obtain ⟨a, vs, Ra, rfl, nn, hl', rfl⟩ := ow.ol_inv
    obtain ⟨rs, rfl⟩ := hl'.reps
    have ha := (sub a _ upd_same).1
    refine .inl ⟨a, vs, k, j, rfl, rfl, ha, by rw [rs.length]; exact hj, l.nx Hs2 _ _ _ (kk (S' := upd em a (.lst (vs.set j w))) (o' := .ol ((ds.set j d).map .sh)) (.ol rfl (ownL_sh (rs.set (y.mono (g.sh.trans g2.sh)) j))) (fun b u z => ?_) (fun b u z e => ?_) (fun b e => upd_keep ha e) Ch.upd) q⟩
    · by_cases eb : b = a
      · subst eb
        rw [upd_same] at z ⊢
        exact ⟨z, .inl (by rw [upd_same]; exact fun q => nomatch q)⟩
      · rw [upd_ne eb] at z
        cases z
    · by_cases eb : b = a
      · subst eb
        rw [upd_same] at z
        cases z
      · rw [upd_ne eb]
        exact e
/-! ### closures over own trees -/
theorem OwnL.regs : ∀ {us : List V} {os : List O} {R : Hp}, OwnL K Hs us os R → ∃ Rs : Nat → Hp, (∀ (k : Nat) v o, us[k]? = some v → os[k]? = some o → Own K Hs v o (Rs k)) ∧ (∀ k a u, Rs k a = some u → k < us.length ∧ R a = some u) ∧ (∀ k l a, Rs k a ≠ none → Rs l a ≠ none → k = l) ∧ ∀ a u, R a = some u → ∃ k, Rs k a = some u
  | _, _, _, .nil => ⟨fun _ => em, fun k v o h => by simp at h, fun k a u h => (nomatch h), fun k l a h => absurd rfl h, fun a u h => (nomatch h)⟩
  | _, _, _, .cons (v := v) (o := o) (vs := vs) (os := os) (R := R1) (S := R2) h hs d => by
    obtain ⟨Rs, h1, h2, h3, h4⟩ := OwnL.regs hs
    refine ⟨fun k => match k with
      | 0 => R1
      | k + 1 => Rs k, fun k w p e1 e2 => ?_, fun k a u e => ?_, fun k l a e1 e2 => ?_, fun a u e => ?_⟩
    · cases k with
      | zero =>
        cases e1
        cases e2
        exact h
      | succ k => exact h1 k w p e1 e2
    · cases k with
      | zero => exact ⟨Nat.zero_lt_succ _, jn_l e⟩
      | succ k =>
        obtain ⟨z1, z2⟩ := h2 k a u e
        refine ⟨Nat.succ_lt_succ z1, ?_⟩
        rw [jn_r]
        · exact z2
        · cases q : R1 a with
          | none => rfl
          | some w =>
            have := d a (by rw [q]; exact fun y => nomatch y)
            rw [z2] at this
            cases this
    · have no : ∀ l, R1 a ≠ none → Rs l a ≠ none → False := fun l y1 y2 => by
        obtain ⟨u, hu⟩ := ne_some y2
        have := d a y1
        rw [(h2 l a u hu).2] at this
        cases this
      cases k with
      | zero =>
        cases l with
        | zero => rfl
        | succ l => exact (no l e1 e2).elim
      | succ k =>
        cases l with
        | zero => exact (no k e2 e1).elim
        | succ l => exact congrArg (· + 1) (h3 k l a e1 e2)
    · cases q : R1 a with
      | some w =>
        rw [jn_l q] at e
        cases e
        exact ⟨0, q⟩
      | none =>
        rw [jn_r q] at e
        obtain ⟨k, hk⟩ := h4 a u e
        exact ⟨k + 1, hk⟩
theorem OwnL.ofRegs : ∀ {us : List V} {os : List O} {Rs : Nat → Hp}, us.length = os.length → (∀ (k : Nat) v o, us[k]? = some v → os[k]? = some o → Own K Hs v o (Rs k)) → (∀ k l a, Rs k a ≠ none → Rs l a ≠ none → k = l) → ∃ R, OwnL K Hs us os R ∧ (∀ a u, R a = some u → ∃ k, k < us.length ∧ Rs k a = some u) ∧ ∀ k a u, k < us.length → Rs k a = some u → R a = some u
  | [], [], _, _, _, _ => ⟨em, .nil, fun a u h => (nomatch h), fun k a u h => absurd h (Nat.not_lt_zero _)⟩
  | [], _ :: _, _, h, _, _ => by cases h
  | _ :: _, [], _, h, _, _ => by cases h
  | v :: us, o :: os, Rs, hl, h, hd => by
    obtain ⟨R, h1, h2, h3⟩ := OwnL.ofRegs (us := us) (os := os) (Rs := fun k => Rs (k + 1)) (Nat.succ.inj hl) (fun k w p e1 e2 => h (k + 1) w p e1 e2) (fun k l a e1 e2 => Nat.succ.inj (hd (k + 1) (l + 1) a e1 e2))
    have dis : ∀ a, Rs 0 a ≠ none → R a = none := fun a ha => by
      cases q : R a with
      | none => rfl
      | some u =>
        obtain ⟨k, _, hk⟩ := h2 a u q
        exact absurd (hd 0 (k + 1) a ha (some_ne hk)) (by omega)
    refine ⟨jn (Rs 0) R, .cons (h 0 v o rfl rfl) h1 dis, fun a u e => ?_, fun k a u hk e => ?_⟩
    · cases q : Rs 0 a with
      | some w =>
        rw [jn_l q] at e
        cases e
        exact ⟨0, Nat.zero_lt_succ _, q⟩
      | none =>
        rw [jn_r q] at e
        obtain ⟨k, h4, h5⟩ := h2 a u e
        exact ⟨k + 1, Nat.succ_lt_succ h4, h5⟩
    · cases k with
      | zero => exact jn_l e
      | succ k =>
        rw [jn_r]
        · exact h3 k a u (Nat.lt_of_succ_lt_succ hk) e
        · cases q : Rs 0 a with
          | none => rfl
          | some w => exact absurd (hd 0 (k + 1) a (some_ne q) (some_ne e)) (by omega)
/-- the promise of a closure whose cells hold us: its arguments, then these -/
def spCB (sp : Sp) (ws : List (Option V)) : Sp := fun vs H Q E => ∃ us, ws = us.map some ∧ sp (vs ++ us) H Q E
theorem nok_b {N ps fr : List Str} {F : NdefX.NF} {f : Addr} {nc : Nat} (S : NdefX.NScope N ps fr F.scope) (hb : ∀ (doc pm ctv : Value) (us : List Value), us.length = ps.length → bindArgs (F.fd doc pm ctv) ⟨us, []⟩ = pure (ps.zip us)) (hl : ∀ x, (arg x).length = ps.length + fr.length) {t : TS}
    (hp : ∀ (A : Around) (outer : List PySem.Env) (s : Shared) (H : Hp) (E : XK), Room k (A.deeper (NdefX.envF F f s.heap.objs.size)) → PSs (NdefX.ncx CX0 P w K mg base N F f A outer s H E).nox F.body t)
    (hd : ∀ x vs, vs.length = ps.length + fr.length → pre x → ExS K t (entB K N vs (arg x)) (endB K post x vs)) : COk P w K mg base CX0 (k + 1) f (CF.n F) ps fr (fun ws vs H Q E => vs.length = ps.length ∧ ws.length = fr.length ∧ spCB (spB K pre arg post exc) ws vs H Q E) := by
  refine COk.of <| NdefX.nok_of S hb (fun ws vs H Q E h => h.1) (fun A outer s H vs ws Q E hr h1 h2 h3 h => ?_)
  obtain ⟨g1, g2, us, e1, Hs, x, Rs, e, r, hpx, q, _⟩ := h
  refine ⟨t, (hp A outer s H E hr).nox, ?_⟩
  have hN : ps.length + fr.length ≤ N.length := by
    have := congrArg List.length S.pre
    rw [List.length_take, List.length_append] at this
    omega
  have es : NdefX.startF N vs ws = L2.start N (vs ++ us) := by
    unfold NdefX.startF L2.start
    rw [e1, List.map_append, List.length_map, List.length_append, List.append_assoc, Nat.sub_sub]
  rw [es]
  exact hd x (vs ++ us) (by rw [r.len, hl]) hpx _ Hs H (L2.start N (vs ++ us)) _ (rs_entB e r (by rw [hl]; exact hN)) (lk_b (E := E) q)
/-- a closure over own trees, that came as an argument, is called -/
theorem ev_callPB {mk : Addr → CF} {i : Nat} {v0 : V} {us : List V} {os : List O} {E : XK} {t : TA} {np nf : Nat} (x : α) {cc : Addr} (hi : ρ[i]? = some (some (.cb K v0 (mk cc) us os))) (ht : EvA K t ρ es) (p : pre x) (ha : arg x = es.map AV.d ++ os.map AV.o) (hnp : es.length = np) (hno : os.length = nf) (Z : D → List O → Prop)
    (sh : ∀ d as, post x d as → ∃ os', (∀ k : Nat, k < os.length → as[es.length + k]? = (os'.map AV.o)[k]?) ∧ os'.length = os.length ∧ Z d os') (hx : ∀ cls fs as, ¬ exc x cls fs as) :
    EvE K (tCallP mk i (fun vs H Q E => vs.length = np ∧ (us.map some).length = nf ∧ spCB (spB K pre arg post exc) (us.map some) vs H Q E) E t) ρ (fun d ρ' => ∃ os', Z d os' ∧ ρ' = ρ.set i (some (.cb K v0 (mk cc) us os'))) := fun B Hs H σ r Q q => by
  classical
  obtain ⟨R0, rg0⟩ := r.reg
  obtain ⟨v, hv, hh⟩ := rg0.1 i _ hi
  obtain ⟨ev, f, ef, f1, f2, _⟩ := hh Hs (Ex.refl _)
  subst ev
  subst ef
  refine ⟨f, cc, hv, r.ex _ _ f1, ht B Hs H σ r _ fun Hs1 H1 vs g ys => ?_⟩
  have r1 := r.grow g
  have rg : Reg K B Hs1 H1 σ ρ R0 := Reg.grow rg0 g
  have hvl := ys.length
  obtain ⟨_, f', ef', g1, g2, ol⟩ := hh Hs1 g.sh
  have hlo := ol.length
  obtain ⟨Rs, s1, s2, s3, s4⟩ := OwnL.regs ol
  refine ⟨g.lv _ _ (g.sh _ _ f1), g.lv _ _ (g.sh _ _ f2), by rw [hvl, hnp], by rw [List.length_map, hlo, hno], us, rfl, Hs1, x, fun m => if m < vs.length then em else Rs (m - vs.length), ⟨g.lv, r1.tb⟩, ?_, p, fun Hs' H' w d as Rs' gg b y z => ?_, fun _ _ cls _ fs as _ _ _ _ z => (hx cls fs as z).elim⟩
  · rw [ha]
    refine ⟨by rw [List.length_append, List.length_append, List.length_map, List.length_map, hvl, hlo], fun m u a e1 e2 => ?_, fun m a o e => ?_, fun m l a e1 e2 => ?_⟩
    · by_cases hm : m < vs.length
      · rw [List.getElem?_append_left hm] at e1
        rw [List.getElem?_append_left (by rw [List.length_map, ← hvl]; exact hm), List.getElem?_map] at e2
        obtain ⟨d0, e3, rfl⟩ := Option.map_eq_some_iff.mp e2
        obtain ⟨d1, e4, e5⟩ := ys.get e1
        rw [e3] at e4
        cases e4
        exact ⟨e5, if_pos hm⟩
      · rw [List.getElem?_append_right (Nat.le_of_not_lt hm)] at e1
        rw [List.getElem?_append_right (by rw [List.length_map, ← hvl]; exact Nat.le_of_not_lt hm), List.getElem?_map, List.length_map, ← hvl] at e2
        obtain ⟨t0, e3, rfl⟩ := Option.map_eq_some_iff.mp e2
        show Own K Hs1 u t0 (if m < vs.length then em else Rs (m - vs.length))
        rw [if_neg hm]
        exact s1 _ _ _ e1 e3
    · by_cases hm : m < vs.length
      · rw [if_pos hm] at e
        cases e
      · rw [if_neg hm] at e
        obtain ⟨z1, z2⟩ := s2 _ a o e
        obtain ⟨e1, e2, _, e4⟩ := rg.2.1 i a o z2
        exact ⟨by rw [List.length_append]; omega, e1, e2, e4⟩
    · by_cases hm : m < vs.length
      · rw [if_pos hm] at e1
        exact absurd rfl e1
      · by_cases hm' : l < vs.length
        · rw [if_pos hm'] at e2
          exact absurd rfl e2
        · rw [if_neg hm] at e1
          rw [if_neg hm'] at e2
          have := s3 _ _ a e1 e2
          omega
  · obtain ⟨os', w1, w2, w3⟩ := sh d as z
    have bl := b.len
    rw [List.length_append] at bl
    obtain ⟨R', o1, o2, o3⟩ := OwnL.ofRegs (K := K) (Hs := Hs') (us := us) (os := os') (Rs := fun k => Rs' (vs.length + k)) (by rw [hlo, w2]) (fun k u o e1 e2 => by
      have hk : k < os.length := by rw [← w2]; exact (List.getElem?_eq_some_iff.mp e2).1
      exact b.is (vs.length + k) u (.o o) (by rw [List.getElem?_append_right (Nat.le_add_right _ _), Nat.add_sub_cancel_left]; exact e1) (by rw [hvl, w1 k hk, List.getElem?_map, e2]; rfl) rfl) (fun k l a e1 e2 => by
      have := b.dis _ _ a e1 e2
      omega)
    have off : ∀ a, (∀ m, (fun m => if m < vs.length then em else Rs (m - vs.length)) m a = none) ↔ R0 i a = none := fun a => by
      constructor
      · intro h
        cases q0 : R0 i a with
        | none => rfl
        | some u =>
          obtain ⟨k, hk⟩ := s4 a u q0
          have := h (vs.length + k)
          dsimp only at this
          rw [if_neg (by omega), Nat.add_sub_cancel_left, hk] at this
          cases this
      · intro h m
        dsimp only
        by_cases hm : m < vs.length
        · rw [if_pos hm]
          rfl
        · rw [if_neg hm]
          cases q0 : Rs (m - vs.length) a with
          | none => rfl
          | some u =>
            rw [(s2 _ a u q0).2] at h
            cases h
    refine q Hs' H' w d _ (g.sh.trans gg.sh) (r1.io rg (fun j => j = i) gg (fun a z => cut_of ((off a).mpr (z i rfl))) (by rw [List.length_set]) (fun _ => R') (fun j sv e => ?_) (fun j a o ej e => ?_) (fun j l a ej el _ _ => by rw [ej, el])) y ⟨os', w3, rfl⟩
    · by_cases ej : j = i
      · subst ej
        have hl : j < ρ.length := by
          have := (List.getElem?_eq_some_iff.mp e).1
          rwa [List.length_set] at this
        rw [List.getElem?_set_self hl] at e
        cases e
        exact .inr ⟨rfl, _, hv, fun Hs2 e2 => ⟨rfl, f, rfl, e2 _ _ (gg.sh _ _ (g.sh _ _ f1)), e2 _ _ (gg.sh _ _ (g.sh _ _ f2)), o1.mono e2⟩, fun nn => nomatch nn⟩
      · rw [List.getElem?_set_ne (Ne.symm ej)] at e
        exact .inl ⟨ej, e⟩
    · obtain ⟨k, _, z2⟩ := o2 a o e
      obtain ⟨_, e1, e2, e3, e4⟩ := b.reg _ a o z2
      refine ⟨e1, e2, e3, ?_⟩
      rcases e4 with ⟨m, z3⟩ | z3
      · refine .inl ⟨i, rfl, fun q0 => z3 ((off a).mpr q0 m)⟩
      · exact .inr z3
/-- o.m(..), the last argument a closure over own trees of the running frame -/
theorem ev_methUB {js : List Nat} {alts : List V → List (Addr × Sp)} {m : Str} {E : XK} {t : TA} {C : Addr} {ns : List Str} {ds0 es0 : List D} {F : CF} {os : List O} {arg : List V → α → List AV} {post : List V → α → D → List AV → Prop} (x : α) (h : EvD K ta ρ (.obj C ns ds0)) (ht : EvA K t ρ (es0 ++ [.clo F [] []])) (jl : List (Nat × Nw)) (hjs : js = jl.map (·.1))
    (hj : ArgOk K ρ (jl.map Sum.inr) (os.map AV.o)) (sep : sepB (jl.map Sum.inr) = true) (hin : ∀ us, (C, spB K pre (arg us) (post us) exc) ∈ alts us) (hm : ns.contains m = false)
    (ha : ∀ us, arg us x = .d (.obj C ns ds0) :: (es0.map AV.d ++ [.c F us os])) (p : pre x) (Z : D → List O → Prop) (sh : ∀ us d as, post us x d as → ∃ os', as[es0.length + 1]? = some (.c F us os') ∧ os'.length = os.length ∧ Z d os') (hx : ∀ cls fs as, ¬ exc x cls fs as) :
    EvE K (tMethU js alts m E ta t) ρ (fun d ρ' => ∃ os', Z d os' ∧ ρ' = back K (allOf (jl.map Sum.inr)) (jl.map Sum.inr) (os'.map AV.o) ρ) := fun B Hs H σ r Q q =>
  h B Hs H σ r _ fun Hs1 H1 v g1 xo => by
    cases xo with
    | @obj a _ dx _ vs _ hp xs =>
      have r1 := r.grow g1
      obtain ⟨R0, rg0⟩ := r1.reg
      -- what the captured slots hold
      have hus : ∀ (jl : List (Nat × Nw)) (os : List O), ArgOk K ρ (jl.map Sum.inr) (os.map AV.o) → ∃ us : List V, (jl.map (·.1)).map (NdefX.slotAt σ) = us.map some ∧ ∀ Hs, VsOk K Hs σ us (jl.map Sum.inr) := by
        intro jl
        induction jl with
        | nil =>
          intro os hj
          exact ⟨[], rfl, fun _ => trivial⟩
        | cons j jl ih =>
          intro os hj
          cases os with
          | nil => cases hj
          | cons o os =>
            obtain ⟨us, e1, e2⟩ := ih os hj.2
            obtain ⟨w, e3, _⟩ := rg0.1 j.1 _ hj.1
            exact ⟨w :: us, by rw [List.map_cons, List.map_cons, List.map_cons, e1, NdefX.slotAt_of e3], fun Hs => ⟨e3, e2 Hs⟩⟩
      obtain ⟨us, e1, e2⟩ := hus jl os hj
      refine ⟨a, C, dx, _, us, _, rfl, g1.lv _ _ hp, by rw [hjs]; exact e1, hin us, look_none hm, ht B Hs1 H1 σ r1 _ fun Hs2 H2 ws g2 ys => ?_⟩
      have r2 := r1.grow g2
      have rg : Reg K B Hs2 H2 σ ρ R0 := Reg.grow rg0 g2
      have lay := r2.lay rg (e2 Hs2) hj sep
      have hul : us.length = os.length := by rw [lay.len, List.length_map]
      obtain ⟨RU, u1, u2, u3⟩ := OwnL.ofRegs (K := K) (Hs := Hs2) (us := us) (os := os) (Rs := regA R0 (jl.map Sum.inr)) hul (fun k u o e3 e4 => lay.is k u (.o o) e3 (by rw [List.getElem?_map, e4]; rfl)) lay.dis
      have hwl := ys.length
      rw [List.length_append, List.length_singleton] at hwl
      have isReg : ∀ m a u, (if m = es0.length + 1 then RU else em) a = some u → m = es0.length + 1 ∧ RU a = some u := fun m a u e => by
        by_cases q0 : m = es0.length + 1
        · rw [if_pos q0] at e
          exact ⟨q0, e⟩
        · rw [if_neg q0] at e
          cases e
      refine ⟨Hs2, x, fun m => if m = es0.length + 1 then RU else em, ⟨g2.lv, r2.tb⟩, ?_, p, fun Hs' H' w d as Rs' gg b y z => ?_, fun _ _ cls _ fs as _ _ _ _ z => (hx cls fs as z).elim⟩
      · rw [ha us]
        refine ⟨by simp only [List.length_cons, List.length_append, List.length_map, List.length_nil]; omega, fun m u b e3 e4 => ?_, fun m c o e => ?_, fun m l c e3 e4 => ?_⟩
        · cases m with
          | zero =>
            cases e3
            cases e4
            exact ⟨.obj (g2.sh _ _ hp) (xs.mono g2.sh), if_neg (by omega)⟩
          | succ m =>
            rw [List.getElem?_cons_succ] at e3 e4
            by_cases hmm : m < es0.length
            · rw [List.getElem?_append_left (by rw [List.length_map]; exact hmm), List.getElem?_map] at e4
              obtain ⟨d0, e5, rfl⟩ := Option.map_eq_some_iff.mp e4
              obtain ⟨d1, e6, e7⟩ := ys.get e3
              rw [List.getElem?_append_left hmm, e5] at e6
              cases e6
              exact ⟨e7, if_neg (by omega)⟩
            · rw [List.getElem?_append_right (by rw [List.length_map]; omega), List.length_map] at e4
              have hz : m - es0.length = 0 := by
                have := (List.getElem?_eq_some_iff.mp e4).1
                rw [List.length_singleton] at this
                omega
              rw [hz] at e4
              cases e4
              obtain ⟨d1, e6, e7⟩ := ys.get e3
              rw [List.getElem?_append_right (by omega), hz] at e6
              cases e6
              cases e7 with
              | @clo f _ _ _ c1 c2 c3 =>
                refine ⟨f, rfl, c1, c2, ?_⟩
                rw [if_pos (by omega)]
                exact u1
        · obtain ⟨z1, z2⟩ := isReg m c o e
          obtain ⟨k, _, z3⟩ := u2 c o z2
          obtain ⟨_, z4, z5, z6⟩ := lay.reg k c o z3
          exact ⟨by rw [List.length_cons]; omega, z4, z5, z6⟩
        · obtain ⟨_, e3⟩ := ne_some e3
          obtain ⟨_, e4⟩ := ne_some e4
          rw [(isReg m c _ e3).1, (isReg l c _ e4).1]
      · obtain ⟨os', w1, w2, w3⟩ := sh us d as z
        have hlt : es0.length + 1 < (V.ref a :: ws).length := by rw [b.len]; exact (List.getElem?_eq_some_iff.mp w1).1
        have yc := b.is _ _ _ (List.getElem?_eq_getElem hlt) w1 rfl
        obtain ⟨f, _, _, _, ol⟩ := yc
        obtain ⟨Rt, t1, t2, t3, t4⟩ := OwnL.regs ol
        have same : cut H2 (fun m => if m = es0.length + 1 then RU else em) = cut H2 (regA R0 (jl.map Sum.inr)) := by
          funext c
          unfold cut
          congr 1
          apply propext
          constructor
          · rintro ⟨m, hm⟩
            obtain ⟨u, hu⟩ := ne_some hm
            obtain ⟨k, _, hk⟩ := u2 c u (isReg m c u hu).2
            exact ⟨k, some_ne hk⟩
          · rintro ⟨k, hk⟩
            obtain ⟨u, hu⟩ := ne_some hk
            refine ⟨es0.length + 1, ?_⟩
            show (if es0.length + 1 = es0.length + 1 then RU else em) c ≠ none
            rw [if_pos rfl]
            exact some_ne (u3 k c u (lay.reg k c u hu).1 hu)
        rw [same] at gg
        refine q Hs' H' w d _ ((g1.sh.trans g2.sh).trans gg.sh) (r2.behind rg (e2 Hs2) hj sep ?_ gg ⟨by rw [List.length_map, w2, hul], fun k u b' e3 e4 e5 => ?_, fun k c o e => ?_, t3⟩) y ⟨os', w3, rfl⟩
        · have key : ∀ (jl : List (Nat × Nw)) (xs : List O), jl.length = xs.length → Shp (jl.map Sum.inr) (xs.map AV.o) := by
            intro jl
            induction jl with
            | nil =>
              intro xs hh
              cases xs with
              | nil => trivial
              | cons _ _ => cases hh
            | cons j jl ih =>
              intro xs hh
              cases xs with
              | nil => cases hh
              | cons o xs => exact ih xs (Nat.succ.inj hh)
          refine key jl os' ?_
          have := hj.length
          rw [List.length_map, List.length_map] at this
          omega
        · rw [List.getElem?_map] at e4
          obtain ⟨o, e6, rfl⟩ := Option.map_eq_some_iff.mp e4
          exact t1 k u o e3 e6
        · obtain ⟨z1, z2⟩ := t2 k c o e
          obtain ⟨_, z4, z5, z6, z7⟩ := b.reg _ c o z2
          refine ⟨z1, z4, z5, z6, ?_⟩
          rcases z7 with ⟨m, hm⟩ | z7
          · obtain ⟨u, hu⟩ := ne_some hm
            obtain ⟨k', _, hk'⟩ := u2 c u (isReg m c u hu).2
            exact .inl ⟨k', some_ne hk'⟩
          · exact .inr z7
end
end DL

/-! DSort: sorted(range(n), key=f), f a nested def that gives lists of whole numbers. -/
namespace SK
open PySem PySem.W PyProof.Rows
section
variable {prog : Program} {w : World} {A : Around} {E : Value → Shared → Prop} {s : Shared} {a kS : Addr} {b : Bool} {vs : List Value} {e1 : Nat} {P : PySem.Fin → Shared → Prop} {J : List Value → Shared → Prop}
/-- the turns: J tells of the keys so far -/
theorem rest {f : Value} (hZ : vs.length ≤ sizeLine)
    (at_ : ∀ ks s', J ks s' → ∃ e, s'.heap.get? kS = some (seqObj "list" ks.toArray e))
    (turn : ∀ (i : Nat) (v : Value) (ks : List Value) (s' : Shared), vs[i]? = some v → ks.length = i → J ks s' →
      wpAny (model prog w) A (call f [v]) (fun k s2 => ∃ e, s2.heap.get? kS = some (seqObj "list" ks.toArray e) ∧ ∀ h' c, Heap.SameBut kS s2.heap h' → h'.get? kS = some (seqObj "list" (ks ++ [k]).toArray c) → J (ks ++ [k]) { s2 with heap := h' }) (fun _ _ => False) s')
    (j0 : J [] s)
    (done : ∀ ks s', ks.length = vs.length → J ks s' → wpAny (model prog w) A (ksk_end a b vs.toArray e1 (.ref kS) ks.toArray) P E s') :
    wpAny (model prog w) A (ksk_rest a f b vs.toArray e1 (.ref kS)) P E s := by
  unfold ksk_rest
  refine wpAny_bind (wpAny_rule ?_)
  first
    | rw [List.forIn_toArray]
    | (rw [← Array.forIn_toList]; simp only [List.toList_toArray])
    | rw [← Array.forIn_toList]
  refine wpAny_bind (ksk_fold (fun i s' => ∃ ks, ks.length = i ∧ J ks s') vs 0 s ⟨[], rfl, j0⟩ ?step ?fin)
  case step =>
    rintro j x s' hx ⟨ks, hl, hj⟩
    have hj' : j < vs.length := (List.getElem?_eq_some_iff.mp hx).1
    simp only [Nat.zero_add] at hl ⊢
    refine wpAny_bind (wpAny_attempt (wpAny_mono (turn j x ks s' hx hl hj) (fun k s2 he => ?_) fun _ _ hF => hF.elim))
    obtain ⟨e, hk, hn⟩ := he
    try dsimp only
    have s1 := Heap.SameBut.update s2.heap kS (Obj.mapSeq (·.push k))
    obtain ⟨c2, hc2⟩ : ∃ c2, (s2.heap.update kS (Obj.mapSeq (·.push k))).get? kS = some (seqObj "list" (ks.toArray.push k) c2) := ⟨_, get?_update_seq hk (·.push k)⟩
    have hz : ks.toArray.size ≤ vs.length := by
      rw [List.size_toArray]
      omega
    refine wpAny_bind (listUpdate_at hk rfl ?_ (Nat.le_trans hz hZ) (Nat.le_trans (Nat.le_of_eq (Array.size_push ..)) (Nat.succ_le_succ (Nat.le_trans hz hZ))))
    refine wpAny_pure ⟨rfl, ks ++ [k], by rw [List.length_append, hl]; rfl, hn _ c2 s1 ?_⟩
    rw [hc2]
    congr 2
    simp
  case fin =>
    rintro s' ⟨ks, hl, hj⟩
    obtain ⟨e, hk⟩ := at_ ks s' hj
    try dsimp only
    refine wpAny_bind (listItems_at hk rfl ?_)
    exact done ks s' (by rw [hl, Nat.zero_add]) hj
end
end SK
namespace DL
open PySem L2 PySem.W
open PyProof.Rows
variable [TbC]
section
variable {X : Cx} {pins : List (Addr × Obj)} {σ : L2.St} {H : Hp} {s : Shared}
/-- a slot's value is read; nothing changes -/
theorem ld_slot {i : Nat} {x : Str} {v : V} {pos : Pos} (I : Inv X pins σ H s) (hN : X.N[i]? = some x) (hs : σ[i]? = some (some v)) (hv : Vis X.env.scope x) (hd : (x == ("__debug__" : Str)) = false := by decide) (hcd : (x == ("__classdict__" : Str)) = false := by decide) :
    wpAny (model X.prog X.w) X.A (eval (.Name x pos) X.env) (fun u s' => s' = s ∧ RelV v u) X.xe s := by
  obtain ⟨m, hn, hl⟩ := I.loc
  obtain ⟨u, r, l⟩ := hl i x v hN hs hv
  rcases l with ⟨hk, hm⟩ | ⟨hk, c, hc, hcell⟩
  · exact wpAny_Name (wpAny_loadName_local I.ok.kind hk hn hm ⟨rfl, r⟩) hd
  · rcases hk with hk | hk
    · exact wpAny_Name (wpAny_loadName_cell I.ok.kind hk hc hcell ⟨rfl, r⟩) hd
    · exact wpAny_Name (wpAny_loadName_free I.ok.kind hk hc hcell ⟨rfl, r⟩ hcd) hd
/-- a record that is ours alone -/
structure Ours (X : Cx) (pins : List (Addr × Obj)) (a : Addr) : Prop where
  ne : a ≠ X.env.locals
  fs : a ∉ X.fs
  sz : X.s_0.heap.objs.size ≤ a
  pn : ∀ p ∈ X.pn ++ pins, p.1 ≠ a
  ce : ∀ x c, X.env.cells.lookup x = some c → c ≠ a
theorem Inv.ours (I : Inv X pins σ H s) {a : Addr} (h : s.heap.objs.size ≤ a) : Ours X pins a :=
  let z := I.fpOk (H' := H) h (I.hok.fresh h)
  ⟨z.2.1, z.2.2.1, Nat.le_trans I.sz h, z.2.2.2.2.2, z.2.2.2.2.1⟩
/-- the list of keys grows -/
theorem Inv.pinSet {kS a : Addr} {o o' oa : Obj} {h' : Heap} (I : Inv X ((kS, o) :: (a, oa) :: pins) σ H s) (O : Ours X pins kS) (hne : kS ≠ a) (hd : ∀ v, o'.data ≠ .cell v) (k : Heap.SameBut kS s.heap h') (e : h'.get? kS = some o') :
    Inv X ((kS, o') :: (a, oa) :: pins) σ H { s with heap := h' } := by
  have p0 := I.pin (kS, o) (List.mem_append_right _ (.head _))
  have pa := I.pin (a, oa) (List.mem_append_right _ (.tail _ (.head _)))
  have I0 : Inv X pins σ H s := I.pins_of fun p hp => I.pin p (List.mem_append_right _ (.tail _ (.tail _ hp)))
  have I1 := Inv.turned (it := kS) (t' := s.toks) I0 (fun b o hb q => (k.2 b hb).trans q) p0.2.1 O.ne (.inr O.sz) O.ce O.pn
  refine Inv.pins_of I1 fun p hp => ?_
  rcases List.mem_cons.mp hp with rfl | hp
  · exact ⟨e, p0.2.1, p0.2.2.1, p0.2.2.2.1, hd⟩
  rcases List.mem_cons.mp hp with rfl | hp
  · exact ⟨(k.2 a (Ne.symm hne)).trans pa.1, pa.2⟩
  · exact I1.pin p (List.mem_append_right _ hp)
/-- at the end the working list is the result -/
theorem Inv.sorted {kS a : Addr} {oa ok : Obj} {h' : Heap} {tk : Nat} {o : HO} (I : Inv X ((kS, ok) :: (a, oa) :: pins) σ H s) (O : Ours X pins kS) (Oa : Ours X pins a) (hne : kS ≠ a)
    (k : ∀ b u, b ≠ a → b ≠ kS → s.heap.get? b = some u → h'.get? b = some u) (new : ObjOk X.prog X.w (upd H a o) h' a o) : Inv X pins σ (upd H a o) { s with heap := h', toks := tk } := by
  have p0 := I.pin (kS, ok) (List.mem_append_right _ (.head _))
  have pa := I.pin (a, oa) (List.mem_append_right _ (.tail _ (.head _)))
  have I0 : Inv X pins σ H s := I.pins_of fun p hp => I.pin p (List.mem_append_right _ (.tail _ (.tail _ hp)))
  have na : H a = none := pa.2.1
  have nk : H kS = none := p0.2.1
  have no : ∀ {b u}, H b = some u → b ≠ a ∧ b ≠ kS := fun {b u} e => ⟨ne_of_none e na, ne_of_none e nk⟩
  have up : ∀ {b u}, H b = some u → upd H a o b = some u := fun {b u} e => by rw [upd_ne (no e).1]; exact e
  have nch : ∀ {b : Addr}, b ∉ [kS, a] → b ≠ a ∧ b ≠ kS := fun {b} h => ⟨fun z => h (by simp [z]), fun z => h (by simp [z])⟩
  refine I0.step (g' := s.gens) (d' := s.drawn) (ch := [kS, a]) (fun b hb => ?_) (fun b u _ _ hc e _ => k b u (nch hc).1 (nch hc).2 e) (fun b u _ _ hc e _ => ⟨u.slots, k b u (nch hc).1 (nch hc).2 e⟩) (fun b u hc _ n => by rw [upd_ne (nch hc).1]; exact n)
    (fun b u hc e => ⟨u, k b u (nch hc).1 (nch hc).2 e⟩) (fun b xs e => up e) (fun b u v e => up e) (fun b ps e => ⟨#[], by rw [up e]; simp⟩) (fun m hm => ?_) (fun b u e => ?_) I0.bare
  · rcases List.mem_cons.mp hb with e | hb
    · subst e
      exact ⟨.inr O.sz, O.ne, O.ce, O.pn⟩
    · obtain rfl := List.mem_singleton.mp hb
      exact ⟨.inr Oa.sz, Oa.ne, Oa.ce, Oa.pn⟩
  · obtain ⟨u, es, ep, e, r⟩ := hm
    exact ⟨u, es, ep, k _ u (Ne.symm Oa.ne) (Ne.symm O.ne) e, r⟩
  · by_cases hb : b = a
    · subst hb
      rw [upd_same] at e
      cases e
      exact new
    · rw [upd_ne hb] at e
      refine (I.hok b u e).stay (fun c v hc q => ?_) (fun c q => up q) fun c xs q => up q
      have hcn : c ≠ a ∧ c ≠ kS := by
        rcases hc with z | z
        · rw [z]; exact no e
        · exact no z
      exact k c v hcn.1 hcn.2 q
end
/-- the places by the lists that stand there -/
def srtBy (n : Nat) (key : Nat → List Int) : List Nat := (List.range n).mergeSort fun i j => decide (key i ≤ key j)
def tSortK (mk : Addr → CF) (i : Nat) (js : List Nat) (sp : List (Option V) → Sp) (te : L2.St → Hp → (Int → Int → Hp → Prop) → Prop) : TE := fun σ H Q => te σ H fun a b H1 => ∃ (f c' : Addr) (n : Nat) (key : Nat → List Int) (J : List V → Hp → Prop),
  σ[i]? = some (some (.ref f)) ∧ a = 0 ∧ b = (n : Int) ∧ n ≤ 100000 ∧ J [] H1 ∧
  (∀ (ks : List V) (H2 : Hp), ks.length < n → J ks H2 → H2 f = some ((mk c').ob f) ∧ H2 (mk c').c = some (LamX.CodeO (mk c').c (mk c').qual) ∧ sp (js.map (NdefX.slotAt σ)) [.int (ks.length : Int)] H2 (fun v H3 => J (ks ++ [v]) H3) (fun _ _ _ => False)) ∧
  (∀ (ks : List V) (H2 : Hp), ks.length = n → J ks H2 → (∀ k v, ks[k]? = some v → ∃ p, v = .ref p ∧ H2 p = some (.lst ((key k).map .int))) ∧ ∀ q, H2 q = none → Q (.ref q) (upd H2 q (.lst ((srtBy n key).map fun (k : Nat) => V.int (k : Int)))))
section
variable {X : Cx} {k : Nat} {mk : Addr → CF} {cl : List (Str × Addr)} {ps fr : List Str} {js : List Nat} {sp : List (Option V) → Sp}
theorem reads_ints {h : Heap} : ∀ {us : List Value} {ns : List Int}, Vals (ns.map V.int) us → ReadsAll h us (ns.map PyData.int) []
  | [], [], _ => .nil
  | [], _ :: _, r => by cases r
  | _ :: _, [], r => by cases r
  | u :: us, n :: ns, r => by
    cases r with
    | cons a b =>
      obtain ⟨t, rfl⟩ := a
      exact .cons (.int n t) (reads_ints b)
theorem vals_get : ∀ {vs : List V} {us : List Value} {i : Nat} {u : Value}, Vals vs us → us[i]? = some u → ∃ v, vs[i]? = some v ∧ RelV v u
  | _, _, _, _, .nil, e => by simp at e
  | _, _, 0, _, .cons h _, e => by
    have e' := Option.some.inj e
    subst e'
    exact ⟨_, rfl, h⟩
  | _, _, i + 1, u, .cons _ r, e => vals_get (i := i) (u := u) r e
theorem each_of_get {α β : Type} {R : α → β → Prop} : ∀ {as : List α} {bs : List β}, as.length = bs.length → (∀ (i : Nat) (a : α) (b : β), as[i]? = some a → bs[i]? = some b → R a b) → EachIs R as bs
  | [], [], _, _ => .nil
  | [], _ :: _, e, _ => by simp at e
  | _ :: _, [], e, _ => by simp at e
  | a :: as, b :: bs, e, h => .cons (h 0 a b rfl rfl) (each_of_get (by simpa using e) fun i x y p q => h (i + 1) x y (by simpa using p) (by simpa using q))
theorem each_rgv {vs : Array Value} {n : Nat} (h : ItemsOf (fun i v => ∃ t, v = .int ((0 : Int) + i * 1) t) vs n) : EachIs (fun v (i : Nat) => ∃ t, v = Value.int (i : Int) t) vs.toList (List.range n) := by
  refine each_of_get (by rw [Array.length_toList, h.1, List.length_range]) fun i a b p q => ?_
  have hi : i < n := by
    rw [← List.length_range (n := n)]
    exact (List.getElem?_eq_some_iff.mp q).1
  rw [List.getElem?_range hi] at q
  cases q
  rw [Array.getElem?_toList] at p
  obtain ⟨t, e⟩ := h.2 i a p
  exact ⟨t, by rw [e]; congr 1; omega⟩
theorem vals_each : ∀ {us : List Value} {is : List Nat}, EachIs (fun v (i : Nat) => ∃ t, v = Value.int (i : Int) t) us is → Vals (is.map fun (k : Nat) => V.int (k : Int)) us
  | _, _, .nil => .nil
  | _, _, .cons ⟨t, e⟩ r => .cons ⟨t, e⟩ (vals_each r)
theorem tree_run {pins : List (Addr × Obj)} {σ : L2.St} {H : Hp} {s : Shared} {Q : VK} {E : Value → Shared → Prop} {f c' a : Addr} {n : Nat} {vs : List Value} {key : Nat → List Int} {J : List V → Hp → Prop}
    (Fn : COk X.prog X.w X.K X.mg X.base CX0 k f (mk c') ps fr sp) (hcl : (mk c').cl = cl) (cp : X.Ok → NdefX.Caps X cl fr js) (hr : Room (k + 2) X.A) (I : Inv X pins σ H s)
    (ho : s.heap.get? a = some (seqObj "list" vs.toArray 0)) (na : H a = none) (Oa : Ours X pins a) (he : EachIs (fun v (i : Nat) => ∃ t, v = Value.int (i : Int) t) vs (List.range n)) (hn : n ≤ 100000) (j0 : J [] H)
    (turn : ∀ (ks : List V) (H2 : Hp), ks.length < n → J ks H2 → H2 f = some ((mk c').ob f) ∧ H2 (mk c').c = some (LamX.CodeO (mk c').c (mk c').qual) ∧ sp (js.map (NdefX.slotAt σ)) [.int (ks.length : Int)] H2 (fun v H3 => J (ks ++ [v]) H3) (fun _ _ _ => False))
    (fin : ∀ (ks : List V) (H2 : Hp), ks.length = n → J ks H2 → (∀ k v, ks[k]? = some v → ∃ p, v = .ref p ∧ H2 p = some (.lst ((key k).map .int))) ∧ ∀ q, H2 q = none → Q (.ref q) (upd H2 q (.lst ((srtBy n key).map fun (k : Nat) => V.int (k : Int))))) :
    wpAny (model X.prog X.w) X.A.in1.in1 (ksk_tree a (.ref f) false) (fun f s' => f = .done (.ret .none) ∧ EP X pins σ Q (.ref a) s') E s := by
  have hl : vs.length = n := by rw [he.length, List.length_range]
  have nz : vs.length ≤ sizeLine := by rw [sizeLine_eq, hl]; omega
  have ha : a < s.heap.objs.size := Heap.lt_size ho
  obtain ⟨e1, ho1⟩ : ∃ e1, (s.heap.update a (Obj.mapSeq fun _ => (#[] : Array Value))).get? a = some (seqObj "list" #[] e1) := ⟨_, get?_update_seq ho fun _ => #[]⟩
  have hkS : ((s.heap.update a (Obj.mapSeq fun _ => (#[] : Array Value))).push (seqObj "tuple" vs.toArray 0)).objs.size = s.heap.objs.size + 1 := by rw [size_push', Heap.size_update]
  unfold ksk_tree
  refine wpAny_bind (listItems_at ho rfl ?_)
  refine wpAny_bind (listUpdate_at ho rfl ?_ (by rw [List.size_toArray]; exact nz) (Nat.zero_le _))
  refine wpAny_bind (seqEpoch_at ho1 rfl ?_)
  refine wpAny_bind (wpAny_newTuple ?_ (by show vs.length ≤ _; exact nz))
  refine wpAny_bind (wpAny_newList ?_ (Nat.zero_le _))
  refine wpAny_holding ?_
  have keep : ∀ b o, b ≠ a → s.heap.get? b = some o → (((s.heap.update a (Obj.mapSeq fun _ => (#[] : Array Value))).push (seqObj "tuple" vs.toArray 0)).push (seqObj "list" #[] 0)).get? b = some o := fun b o hb q => sortingHeap_old hb q
  have ka : (((s.heap.update a (Obj.mapSeq fun _ => (#[] : Array Value))).push (seqObj "tuple" vs.toArray 0)).push (seqObj "list" #[] 0)).get? a = some (seqObj "list" #[] e1) := Heap.get?_push_of_some _ (Heap.get?_push_of_some _ ho1)
  have kk : (((s.heap.update a (Obj.mapSeq fun _ => (#[] : Array Value))).push (seqObj "tuple" vs.toArray 0)).push (seqObj "list" #[] 0)).get? ((s.heap.update a (Obj.mapSeq fun _ => (#[] : Array Value))).push (seqObj "tuple" vs.toArray 0)).objs.size = some (seqObj "list" #[] 0) := Heap.get?_push_size _ rfl
  rw [show (seqObj "list" ([] : List Value).toArray 0) = seqObj "list" #[] 0 from rfl] at *
  show wpAny _ _ (ksk_rest a (.ref f) false vs.toArray e1 (.ref ((s.heap.update a (Obj.mapSeq fun _ => (#[] : Array Value))).push (seqObj "tuple" vs.toArray 0)).objs.size)) _ _ { s with heap := ((s.heap.update a (Obj.mapSeq fun _ => (#[] : Array Value))).push (seqObj "tuple" vs.toArray 0)).push (seqObj "list" #[] 0) }
  generalize (((s.heap.update a (Obj.mapSeq fun _ => (#[] : Array Value))).push (seqObj "tuple" vs.toArray 0)).push (seqObj "list" #[] 0)) = g at keep ka kk ⊢
  generalize ((s.heap.update a (Obj.mapSeq fun _ => (#[] : Array Value))).push (seqObj "tuple" vs.toArray 0)).objs.size = kS at hkS kk ⊢
  have Ok : Ours X pins kS := Inv.ours I (by omega)
  have nk : H kS = none := I.hok.fresh (by omega)
  have hka : kS ≠ a := Nat.ne_of_gt (by rw [hkS]; exact Nat.lt_succ_of_lt ha)
  have I1 : Inv X pins σ H { s with heap := g } := Inv.turned (it := a) (t' := s.toks) I keep na Oa.ne (.inr Oa.sz) Oa.ce Oa.pn
  have I2 : Inv X ((kS, seqObj "list" (([] : List Value)).toArray 0) :: (a, seqObj "list" #[] e1) :: pins) σ H { s with heap := g } := Inv.pins_of I1 fun p hp => by
    rcases List.mem_cons.mp hp with rfl | hp
    · exact ⟨kk, nk, Ok.ne, Ok.fs, fun v z => by cases z⟩
    rcases List.mem_cons.mp hp with rfl | hp
    · exact ⟨ka, na, Oa.ne, Oa.fs, fun v z => by cases z⟩
    · exact I1.pin p (List.mem_append_right _ hp)
  refine SK.rest (J := fun ks s' => ∃ H' kvs e, Inv X ((kS, seqObj "list" ks.toArray e) :: (a, seqObj "list" #[] e1) :: pins) σ H' s' ∧ Vals kvs ks ∧ J kvs H') nz ?at_ ?turn ⟨H, [], 0, I2, .nil, j0⟩ ?done
  case at_ =>
    rintro ks s' ⟨H', kvs, e, I', _, _⟩
    exact ⟨e, (I'.pin _ (List.mem_append_right _ (.head _))).1⟩
  case turn =>
    rintro i v ks s' hv hi ⟨H', kvs, e, I', rv, hj⟩
    have hkl : kvs.length = i := by rw [rv.length, hi]
    have hin : i < n := by rw [← hl]; exact (List.getElem?_eq_some_iff.mp hv).1
    obtain ⟨t1, t2, t3⟩ := turn kvs H' (by omega) hj
    have hr' : Room k X.A.in1.in1 := (hr.in1).in1
    have e0 : Env0 X.prog X.w X.K X.mg X.base X.A.in1.in1 X.stack s' H' := ⟨I'.env0.frames, I'.env0.mod, I'.env0.bs, I'.env0.bsz, I'.env0.funs, I'.env0.frf, I'.env0.hok, I'.env0.bare⟩
    have C := NdefX.cells_of I' (cp I'.ok)
    rw [← hcl] at C
    obtain ⟨tv, ev⟩ : ∃ t, v = Value.int (i : Int) t := by
      obtain ⟨j, hj1, hj2⟩ : ∃ j, (List.range n)[i]? = some j ∧ ∃ t, v = Value.int (j : Int) t := by
        have hz : (v, i) ∈ vs.zip (List.range n) := List.mem_of_getElem? (i := i) (by rw [List.getElem?_zip_eq_some]; exact ⟨hv, List.getElem?_range hin⟩)
        exact ⟨i, List.getElem?_range hin, he.zip _ hz⟩
      rw [List.getElem?_range hin] at hj1
      cases hj1
      exact hj2
    refine wpAny_call (codeAny_mono (Fn.run X.A.in1.in1 X.stack s' H' [v] [.int (kvs.length : Int)] _ _ _ hr' e0 t1 t2 C (.cons ⟨tv, by rw [ev, hkl]⟩ .nil) t3) fun r s2 hq => ?_)
    cases r with
    | error e => exact False.elim hq
    | ok fl =>
      cases fl with
      | next => exact False.elim hq
      | brk => exact False.elim hq
      | cont => exact False.elim hq
      | ret u =>
        obtain ⟨v2, H2, I3, r2, q2⟩ := I'.after hq
        refine ⟨e, (I3.pin _ (List.mem_append_right _ (.head _))).1, fun h' c hs hc => ?_⟩
        exact ⟨H2, kvs ++ [v2], c, Inv.pinSet I3 Ok hka (fun v z => by cases z) hs hc, rv.append (.cons r2 .nil), q2⟩
  case done =>
    rintro ks s' hkl ⟨H', kvs, e, I', rv, hj⟩
    obtain ⟨f1, f2⟩ := fin kvs H' (by rw [rv.length, hkl, hl]) hj
    have pk := I'.pin (kS, seqObj "list" ks.toArray e) (List.mem_append_right _ (.head _))
    have pa := I'.pin (a, seqObj "list" #[] e1) (List.mem_append_right _ (.tail _ (.head _)))
    obtain ⟨G, g1, g2, _⟩ := restrictS s'.heap fun b => decide (b ≠ kS)
    have kp : KeepsBut a G s'.heap := fun b o _ q => by
      by_cases hb : b = kS
      · rw [g2 b (decide_eq_false fun z => z hb)] at q
        cases q
      · rw [g1 b (decide_eq_true hb)] at q
        exact q
    have rd : EachIs (fun v k => ∃ as, Reads s'.heap v k as) ks ((List.range n).map fun i => PyData.list ((key i).map .int)) := by
      refine each_of_get (by rw [hkl, hl, List.length_map, List.length_range]) fun i u d hu hd => ?_
      have hin : i < n := by rw [← hl, ← hkl]; exact (List.getElem?_eq_some_iff.mp hu).1
      rw [List.getElem?_map, List.getElem?_range hin] at hd
      cases hd
      obtain ⟨v, hv, ru⟩ := vals_get rv hu
      obtain ⟨p, rfl, hp⟩ := f1 i v hv
      obtain rfl : u = Value.ref p := ru
      obtain ⟨_, its, c, r3, hob⟩ := I'.hok p _ hp
      exact ⟨_, .list hob rfl rfl (reads_ints (by rw [List.toList_toArray]; exact r3))⟩
    have hal : AllAlike ((List.range n).map fun i => PyData.list ((key i).map .int)) := AllAlike.of fun b b' => by
      show alike (.list _) (.list _) = true
      rw [alike]
      exact alike_ints _ _
    have hsk : Sortable ((List.range n).map fun i => PyData.list ((key i).map .int)) := Sortable.others fun b => ⟨(by intro z; cases z), (by intro xs z; cases z)⟩
    have hu : ∀ d, d ∈ ((List.range n).map fun i => PyData.list ((key i).map .int)) → X.A.in1.in1.units + d.depth < cLine := fun d hd => by
      obtain ⟨i, _, rfl⟩ := List.mem_map.mp hd
      rw [PyData.depth, depth_ints]
      have := (hr.in1.in1).un
      omega
    refine keyH_end (κ := dataKind s'.heap ((List.range n).map fun i => PyData.list ((key i).map .int))) (h₁ := G) kp (g2 kS (decide_eq_false fun z => z rfl)) pk.1 pa.1 hka (SortsAt.data (s := s') (by rw [List.toList_toArray]; exact rd) hal hsk hu) (by rw [List.size_toArray]; exact hkl) nz fun h3 tk3 c k3 n3 => ⟨rfl, ?_⟩
    rw [List.toList_toArray] at n3
    have hout := keyedOut_each (rev := false) (fun i => PyData.list ((key i).map .int)) ⟨s'.heap, ks, hal, rfl, rd⟩ he
    rw [dataLe_rows] at hout
    refine ⟨.ref a, upd H' a (.lst ((srtBy n key).map fun (k : Nat) => V.int (k : Int))), Inv.sorted I' Ok Oa hka (fun b u h1 h2 q => k3 b u h1 (by rw [g1 b (decide_eq_true h2)]; exact q)) ⟨?_, _, c, vals_each hout, n3⟩, rfl, f2 a pa.2.1⟩
    unfold srtBy
    rw [List.length_map, List.length_mergeSort, List.length_range, ← hl]
    exact nz
theorem sort_run {pins : List (Addr × Obj)} {σ : L2.St} {H : Hp} {s : Shared} {Q : VK} {f c' r : Addr} {n : Nat} {key : Nat → List Int} {J : List V → Hp → Prop} {t u v : Tok}
    (Fn : COk X.prog X.w X.K X.mg X.base CX0 k f (mk c') ps fr sp) (hcl : (mk c').cl = cl) (cp : X.Ok → NdefX.Caps X cl fr js) (hr : Room (k + 2) X.A) (I : Inv X pins σ H s) (hh : X.A.handled = none)
    (hrg : IsRange s.heap r 0 (n : Int) 1 t u v) (hn : n ≤ 100000) (j0 : J [] H)
    (turn : ∀ (ks : List V) (H2 : Hp), ks.length < n → J ks H2 → H2 f = some ((mk c').ob f) ∧ H2 (mk c').c = some (LamX.CodeO (mk c').c (mk c').qual) ∧ sp (js.map (NdefX.slotAt σ)) [.int (ks.length : Int)] H2 (fun v H3 => J (ks ++ [v]) H3) (fun _ _ _ => False))
    (fin : ∀ (ks : List V) (H2 : Hp), ks.length = n → J ks H2 → (∀ k v, ks[k]? = some v → ∃ p, v = .ref p ∧ H2 p = some (.lst ((key k).map .int))) ∧ ∀ q, H2 q = none → Q (.ref q) (upd H2 q (.lst ((srtBy n key).map fun (k : Nat) => V.int (k : Int))))) :
    wpAny (model X.prog X.w) X.A (call (.builtin "sorted") [.ref r] [(Str.ofString "key", .ref f)]) (EP X pins σ Q) X.xe s := by
  have nz : n ≤ sizeLine := by rw [sizeLine_eq]; omega
  have en : ((n : Int) - 0).toNat = n := by omega
  refine call_function_entry_kw kind_sorted plain_sorted entry_sorted (ksk_s1 _ _) ?_
  unfold Builtin.«sorted»
  refine wpAny_bind (m := checkCount "sorted" 1 1 _) (wpAny_pure ?_)
  refine wpAny_bind (collect_range (A := X.A.in1) (n := n) hh hrg (small_one (by omega) (by omega) (by omega) (by omega)) (by rw [rangeSize_nat, en]) (by omega) fun h1 tk1 acc hk1 hi => ?_)
  have hl : acc.toList.length = n := by rw [Array.length_toList]; exact hi.1
  refine wpAny_bind (wpAny_newList ?_ (by rw [hl]; exact nz))
  have at0 : (h1.push (seqObj "list" acc.toList.toArray 0)).get? h1.objs.size = some (seqObj "list" acc.toList.toArray 0) := Heap.get?_push_size _ rfl
  refine wpAny_bind (wpAny_holding (wpAny_call_entry_kw slot_list_sort ⟨_, at0, rfl⟩ entry_list_sort ?body (ksk_l1 _ _)))
  case body =>
    show wpAny (model X.prog X.w) X.A.in1.in1 (Builtin.«list.sort» ⟨[.ref h1.objs.size], [(Str.ofString "key", .ref f)]⟩) _ _ _
    rw [ksk_t1]
    have I0 : Inv X pins σ H { s with heap := h1, toks := tk1 } := I.kept hk1
    have I1 : Inv X pins σ H { s with heap := h1.push (seqObj "list" acc.toList.toArray 0), toks := tk1 } := I0.kept fun b o q => Heap.get?_push_of_some _ q
    refine wpAny_mono (tree_run (s := { s with heap := h1.push (seqObj "list" acc.toList.toArray 0), toks := tk1 }) Fn hcl cp hr I1 at0 (I0.hok.fresh (Nat.le_refl _)) (Inv.ours I0 (Nat.le_refl _)) (each_rgv hi) hn j0 turn fin) (fun f s' hf => ?_) fun _ _ e => e
    obtain ⟨rfl, hq⟩ := hf
    exact ⟨_, rfl, wpAny_pure ⟨_, rfl, hq⟩⟩
theorem boot_sortedK : bootBuiltins "sorted" = some (.builtin "sorted") := by decide +kernel
/-- sorted(range(..), key=f) -/
theorem pe_sortKey {e : Expr} {te : L2.St → Hp → (Int → Int → Hp → Prop) → Prop} {i : Nat} {x : Str} {p p2 p3 pos : Pos} (Fn : ∀ f c', COk X.prog X.w X.K X.mg X.base CX0 k f (mk c') ps fr sp) (hcl : ∀ c', (mk c').cl = cl) (cp : X.Ok → NdefX.Caps X cl fr js) (hr : Room (k + 2) X.A) (hc : X.calm = true)
    (hg : Gl X "sorted") (hm : X.mg "sorted" = none) (hN : X.N[i]? = some x) (hv : Vis X.env.scope x) (he : PRg X e te)
    (hd : (x == ("__debug__" : Str)) = false := by decide) (hcd : (x == ("__classdict__" : Str)) = false := by decide) (na : starEach [e] X.env = (false, eval e X.env) :: starEach [] X.env := by rfl) (na2 : backTo pos (starEach [e] X.env) = (false, eval e X.env) :: backTo pos (starEach [] X.env) := by rfl) (hpl : (backTo pos (starEach [e] X.env)).any (·.1) = false := by rfl) :
    PE X (.Call (.Name "sorted" p) [e] [⟨some "key", .Name x p2, p3⟩] pos) (tSortK mk i js sp te) := by
  refine ⟨fun pins s σ H Q I h => ?_⟩
  refine wpAny_Call_Name_kw (ld_blt I hg hm boot_sortedK ?_)
  refine PyProof.Rows.callWith_kw (args_cons (thn (he pins s σ H _ I h) fun xv s1 ⟨r, a, b, t, u, v, H1, ex, hrg, I1, f, c', n, key, J, hs, ha, hb, hn, j0, turn, fin⟩ => args_nil ?_) na) na2 hpl
  subst ex ha hb
  show wpAny _ _ (evalAll ((do let v ← eval (.Name x p2) X.env; standAt pos; pure v) :: [])) _ _ s1
  refine wpAny_evalAll_cons (wpAny_bind (thn (ld_slot I1 hN hs hv hd hcd) fun u1 s2 ⟨e2, ru⟩ => wpAny_bind (wpAny_standAt (wpAny_pure ?_))))
  subst e2
  obtain rfl : u1 = Value.ref f := ru
  refine wpAny_evalAll_nil ?_
  exact sort_run (Fn f c') (hcl c') cp hr I1 (I1.ok.hd hc) hrg hn j0 turn fin
end
section
variable {K : PySem.W.Frag} {ρ : Env} {ta : TE}
/-- .. on deep data -/
theorem ef_sortKey {mk : Addr → CF} {i : Nat} {js : List Nat} {c : Addr} {us0 : List V} {ds0 cs : List D} {α : Type} {pre : α → Prop} {arg cap : α → List D} {res : α → D} {n : Nat} {key : Nat → List Int} (x : Nat → α) (hi : ρ[i]? = some (some (.sh (.clo (mk c) us0 ds0)))) (hj : js.map (fun j => ρ[j]?) = cs.map (fun d => some (some (.sh d))))
    (hx : ∀ k, k < n → arg (x k) = [.int (k : Int)] ∧ cap (x k) = cs ∧ pre (x k) ∧ res (x k) = .lst ((key k).map .int)) (ht : EvD K ta ρ (.int (n : Int))) (hn : n ≤ 100000) :
    EvF K (tSortK mk i js (spN_ (spCl K pre arg cap res)) (tRg1 ta)) ρ ((srtBy n key).map fun (k : Nat) => D.int (k : Int)) := fun B Hs H σ r Q q =>
  ht B Hs H σ r _ fun Hs1 H1 v1 g1 y1 => by
    cases y1
    have r1 := r.grow g1
    obtain ⟨us, e1, e2⟩ := r1.gets hj
    obtain ⟨v, e, xv⟩ := r1.get hi
    cases xv with
    | @clo f _ _ _ h1 h2 _ =>
      refine ⟨(n : Int), rfl, f, c, n, key, fun ks H2 => ∃ Hs2, Gr Hs1 H1 H1 Hs2 H2 ∧ RepL K Hs2 ks ((List.range ks.length).map fun k => .lst ((key k).map .int)), e, rfl, rfl, hn, ⟨Hs1, Gr.refl r1.ex, .nil⟩, ?_, ?_⟩
      · rintro ks H2 hl ⟨Hs2, g, hk⟩
        obtain ⟨x1, x2, x3, x4⟩ := hx ks.length hl
        refine ⟨g.lv _ _ (g.sh _ _ h1), g.lv _ _ (g.sh _ _ h2), us, e1, Hs2, x ks.length, ⟨g.lv, (r1.grow g).tb⟩, ?_, ?_, x3, ?_⟩
        · rw [x1]
          exact .cons (.int _) .nil
        · rw [x2]
          exact e2.mono g.sh
        · intro Hs' H' w g2 y
          refine ⟨Hs', g.trans g2, ?_⟩
          rw [List.length_append, List.length_cons, List.length_nil, Nat.zero_add, List.range_succ, List.map_append]
          rw [x4] at y
          exact (hk.mono g2.sh).append (.cons y .nil)
      · rintro ks H2 hl ⟨Hs2, g, hk⟩
        refine ⟨fun k v hv => ?_, fun p hp => ?_⟩
        · obtain ⟨d, hd, rd⟩ := hk.get hv
          rw [List.getElem?_map, List.getElem?_range (List.getElem?_eq_some_iff.mp hv).1] at hd
          cases hd
          cases rd with
          | lst a b =>
            have := RepL.ints b
            subst this
            exact ⟨_, rfl, g.lv _ _ a⟩
        · obtain ⟨n1, n2⟩ := gr_none (g1.trans g) hp
          refine q Hs2 _ p _ ((g1.trans g).trans (Gr.newO g.lv hp)) n1 n2 upd_same ?_
          have : ((srtBy n key).map fun (k : Nat) => V.int (k : Int)) = ((srtBy n key).map fun (k : Nat) => (k : Int)).map V.int := by rw [List.map_map]; rfl
          rw [this]
          have : ((srtBy n key).map fun (k : Nat) => D.int (k : Int)) = ((srtBy n key).map fun (k : Nat) => (k : Int)).map D.int := by rw [List.map_map]; rfl
          rw [this]
          exact RepL.ofInts _
end
end DL

/-! DFor: for over a list of the frame's own; sorted of whole numbers. -/
namespace DL
open PySem L2
variable [TbC]
section
variable {K : PySem.W.Frag} {B : Base} {Hs H Hs' H' : Hp} {σ : St} {ρ ρ' : Env} {i j : Nat} {ds es : List D} {R : DEnds} {te ta tb : TE} {d : D}
/-- the same, seen otherwise -/
theorem RS.recast {sv sv' : SV} (r : RS K B Hs H σ ρ) (hi : ρ[i]? = some (some sv)) {v : V} (hv : σ[i]? = some (some v)) (h : ∀ R, Holds K Hs R v sv → Holds K Hs R v sv') (hn : sv'.nw = true → sv.nw = true) : RS K B Hs H σ (ρ.set i (some sv')) := by
  obtain ⟨Q, g1, g2, g3, g4⟩ := r.reg
  have hl : i < ρ.length := (List.getElem?_eq_some_iff.mp hi).1
  refine ⟨r.gr, by rw [List.length_set]; exact r.len, Q, fun m sv2 e => ?_, g2, g3, fun m sv2 a e1 e2 e3 => ?_⟩
  · by_cases q : m = i
    · subst q
      rw [List.getElem?_set_self hl] at e
      cases e
      obtain ⟨w, hw, hk⟩ := g1 m _ hi
      rw [hv] at hw
      cases hw
      exact ⟨v, hv, h _ hk⟩
    · rw [List.getElem?_set_ne (Ne.symm q)] at e
      exact g1 m sv2 e
  · by_cases q : m = i
    · subst q
      rw [List.getElem?_set_self hl] at e1
      cases e1
      exact g4 m _ a hi (hn e2) e3
    · rw [List.getElem?_set_ne (Ne.symm q)] at e1
      exact g4 m sv2 a e1 e2 e3
theorem RS.toA (r : RS K B Hs H σ ρ) (hi : ρ[i]? = some (some (.ol ds))) : ∃ a, σ[i]? = some (some (.ref a)) ∧ RS K B Hs H σ (ρ.set i (some (.trA K a ds))) := by
  obtain ⟨Q, g1, g2, g3, g4⟩ := r.reg
  obtain ⟨v, hv, p, vs, rfl, hR, x⟩ := g1 i _ hi
  refine ⟨p, hv, r.recast hi hv (fun R hk => ?_) fun _ => rfl⟩
  obtain ⟨p', vs', e, hR', x'⟩ := hk
  cases e
  refine fun Hs1 e1 => ⟨rfl, vs', x'.mono e1, ?_⟩
  rw [hR']
  rfl
theorem RS.ofA {a : Addr} (r : RS K B Hs H σ ρ) (hi : ρ[i]? = some (some (.trA K a ds))) : RS K B Hs H σ (ρ.set i (some (.ol ds))) := by
  obtain ⟨Q, g1, g2, g3, g4⟩ := r.reg
  obtain ⟨v, hv, hk⟩ := g1 i _ hi
  refine r.recast hi hv (fun R hk => ?_) fun _ => rfl
  obtain ⟨rfl, vs, x, hR⟩ := hk Hs (Ex.refl Hs)
  refine ⟨a, vs, rfl, ?_, x⟩
  rw [hR]
  rfl
/-- for .. in an own list; while it runs its slot is known by its address -/
theorem xs_forA {g : TG} {tb : TS} (hi : ρ[i]? = some (some (.ol ds))) (I : Addr → Nat → Env → Prop) (h0 : ∀ a, I a 0 (ρ.set i (some (.trA K a ds)))) (hI : ∀ a k ρ1, I a k ρ1 → ρ1[i]? = some (some (.trA K a ds)))
    (hs : ∀ a k d ρ1, ds[k]? = some d → I a k ρ1 → ∃ ρ2, EvG K g d ρ1 ρ2 ∧ ExS K tb ρ2 { R with nx := I a (k + 1), ct := I a (k + 1), bk := fun ρ3 => ρ3[i]? = some (some (.trA K a ds)) ∧ R.nx (ρ3.set i (some (.ol ds))) })
    (hd : ∀ a ρ1, I a ds.length ρ1 → R.nx (ρ1.set i (some (.ol ds)))) : ExS K (tFor (iSeq K (tVar i)) g tb) ρ R := fun B Hs H σ Dn r l => by
  obtain ⟨a, hv, r0⟩ := r.toA hi
  have look : ∀ {Hs2 H2 σ2 ρ2}, RS K B Hs2 H2 σ2 ρ2 → ρ2[i]? = some (some (.trA K a ds)) → ∃ vs, H2 a = some (.lst vs) ∧ RepL K Hs2 vs ds := fun {Hs2 H2 σ2 ρ2} r2 h2 => by
    obtain ⟨Q, g1, g2, _⟩ := r2.reg
    obtain ⟨w, _, hk⟩ := g1 i _ h2
    obtain ⟨_, vs, x, hR⟩ := hk Hs2 (Ex.refl Hs2)
    exact ⟨vs, (g2 i a _ (by rw [hR]; exact upd_same)).1, x⟩
  obtain ⟨vs0, ha0, _⟩ := look r0 (hI a 0 _ (h0 a))
  refine ⟨.ref a, hv, a, rfl, .inl ⟨⟨vs0, .of ha0⟩, ?_⟩⟩
  refine ⟨fun k m σ' H' => m = ds.length - k ∧ k ≤ ds.length ∧ ∃ Hs2 ρ1, RS K B Hs2 H' σ' ρ1 ∧ I a k ρ1, ⟨ds.length, rfl, Nat.zero_le _, Hs, _, r0, h0 a⟩, ?_⟩
  rintro k m σ2 H2 ⟨rfl, hk, Hs2, ρ1, r2, hI2⟩
  obtain ⟨vs, ha, x⟩ := look r2 (hI a k _ hI2)
  by_cases hlt : k < ds.length
  · obtain ⟨w, hw, xw⟩ := x.at (List.getElem?_eq_getElem hlt)
    refine .inr ⟨⟨vs, w, .of ha, hw⟩, fun σ' H' => ∃ Hs3 ρ3, RS K B Hs3 H' σ' ρ3 ∧ I a (k + 1) ρ3, fun σ' H' ⟨Hs3, ρ3, r3, i3⟩ => ⟨ds.length - (k + 1), by omega, rfl, hlt, Hs3, ρ3, r3, i3⟩, fun y H3 hy => ?_⟩
    obtain ⟨rfl, hy⟩ := hy
    have z := hy vs (.of ha)
    rw [hw] at z
    cases z
    obtain ⟨ρ2, hg, hx⟩ := hs a k _ ρ1 (List.getElem?_eq_getElem hlt) hI2
    refine hg B Hs2 H3 σ2 w r2 xw _ fun Hs4 H4 σ4 g4 r4 => ?_
    exact hx.run r4 (fun Hs5 H5 σ5 ρ5 e5 r5 q => ⟨Hs5, ρ5, r5, q⟩) l.rt l.rf (fun Hs5 H5 σ5 ρ5 e5 r5 q => l.nx Hs5 H5 σ5 _ (r5.ofA q.1) q.2) (fun Hs5 H5 σ5 ρ5 e5 r5 q => ⟨Hs5, ρ5, r5, q⟩) (fun Hs5 H5 σ5 ρ5 v d e5 r5 x q => l.ro Hs5 H5 σ5 ρ5 v d r5 x q) (fun Hs5 H5 σ5 ρ5 cls dd fs e5 r5 x q => l.ex Hs5 H5 σ5 ρ5 cls dd fs r5 x q) l.rn
  · have e : k = ds.length := by omega
    subst e
    exact .inl ⟨⟨vs, .of ha, by rw [x.length]; exact Nat.le_refl _⟩, l.nx Hs2 H2 σ2 _ (r2.ofA (hI a _ _ hI2)) (hd a ρ1 hI2)⟩
/-- .. where the frame stays but for the target -/
theorem em_A {a : Addr} (hi : ρ[i]? = some (some (.trA K a ds))) : EvM K (tVar i) ρ ds := fun B Hs H σ r Q q => by
  obtain ⟨R0, g1, g2, _⟩ := r.reg
  obtain ⟨w, hw, hk⟩ := g1 i _ hi
  obtain ⟨rfl, vs0, rs0, eR0⟩ := hk Hs (Ex.refl Hs)
  exact ⟨.ref a, hw, q Hs H _ _ (Gr.refl r.ex) (g2 i a _ (by rw [eR0]; exact upd_same)).1 rs0⟩
/-- sorted(whole numbers) -/
theorem sortIK {X : Cx} (h : X.K = K) : CallR X (.builtin "sorted") (rSortedI K) := by subst h; exact cr_sortedI
theorem ef_sortI {ns ms : List Int} (ha : EvB K ta ρ (ns.map D.int)) (hu : ∀ ns', ns'.Perm ns → ns'.Pairwise (· ≤ ·) → ns' = ms) : EvF K (tCB (rSortedI K) (tCons ta tNil)) ρ (ms.map D.int) := fun B Hs H σ r Q q =>
  ha B Hs H σ r _ fun Hs1 H1 p vs g hp xs => by
    have e := xs.ints
    subst e
    refine ⟨p, ns, rfl, hp, fun ns' p2 hpm hpw hn => ?_⟩
    obtain rfl := hu ns' hpm hpw
    obtain ⟨n1, n2⟩ := gr_none g hn
    exact q Hs1 _ p2 _ (g.trans (Gr.newO g.lv hn)) n1 n2 upd_same (RepL.ofInts _)
end
end DL

/-! DLt: a list of whole numbers is less than another one; the least, the greatest of a list. -/
namespace DL
open PySem L2 PySem.W
variable [TbC]
/-- xs < ys, lists of whole numbers -/
def rLtL (K : PySem.W.Frag) : R2 := fun x y H Q => ∃ (a b : Addr) (ns ms : List Int), x = .ref a ∧ y = .ref b ∧ SqL K H a (ns.map V.int) ∧ SqL K H b (ms.map V.int) ∧ Q (.bl (decide (ns < ms))) H
section
variable {X : Cx} {K : PySem.W.Frag} {ρ : Env} {ta tb : TE}
theorem op_ltL (hu : X.A.units + 64 < cLine) : OpR X (compareOp .Lt) (rLtL X.K) := by
  intro pins s σ H x y v u Q I rx ry h
  obtain ⟨a, b, ns, ms, rfl, rfl, ha, hb, q⟩ := h
  cases rx
  cases ry
  obtain ⟨its, r1, p1, _⟩ := I.list ha
  obtain ⟨its2, r2, p2, _⟩ := I.list hb
  obtain ⟨o1, e1, c1, n1, d1⟩ := p1.isList
  obtain ⟨o2, e2, c2, n2, d2⟩ := p2.isList
  have R1 : Reads s.heap (.ref a) (.list (ns.map .int)) [a] := .list e1 c1 d1 (reads_ints (by rw [List.toList_toArray]; exact r1))
  have R2 : Reads s.heap (.ref b) (.list (ms.map .int)) [b] := .list e2 c2 d2 (reads_ints (by rw [List.toList_toArray]; exact r2))
  have al : alike (.list (ns.map .int)) (.list (ms.map .int)) = true := by
    rw [alike]
    exact alike_ints _ _
  have hd : PyData.depth (.list (ns.map .int)) = 1 ∧ PyData.depth (.list (ms.map .int)) = 1 := by
    refine ⟨?_, ?_⟩ <;> rw [PyData.depth, depth_ints]
  have z := rcLt_alike _ _ X.A s _ _ _ _ R1 R2 al (by intro z; cases z) (by rw [hd.1, hd.2]; omega)
  rw [dataLt_list] at z
  have e : PyProof.Rows.lexLt PyProof.Rows.itemOrd (keyToksAll (ns.map .int)) (keyToksAll (ms.map .int)) = decide (ns < ms) := dataLt_ints ns ms
  rw [e] at z
  exact z _ _ _ _ ⟨.bl (decide (ns < ms)), H, I, rfl, q⟩
theorem ltLK (h : X.K = K) (hu : X.A.units + 64 < cLine) : OpR X (compareOp .Lt) (rLtL K) := by subst h; exact op_ltL hu
theorem minK (h : X.K = K) (hc : X.calm = true) : CallR X (.builtin "min") (rMin K) := by subst h; exact cr_min hc
theorem maxK (h : X.K = K) (hc : X.calm = true) : CallR X (.builtin "max") (rMax K) := by subst h; exact cr_max hc
theorem ev_ltL {xs ys : List Int} (ha : EvB K ta ρ (xs.map .int)) (hb : EvB K tb ρ (ys.map .int)) : EvD K (tOp (rLtL K) ta tb) ρ (.bl (decide (xs < ys))) := fun B Hs H σ r Q q =>
  ha B Hs H σ r _ fun Hs1 H1 p vs g1 hp x1 => hb B Hs1 H1 σ (r.grow g1) _ fun Hs2 H2 p2 vs2 g2 hp2 x2 => by
    have e := x1.ints
    subst e
    have e := x2.ints
    subst e
    exact ⟨p, p2, xs, ys, rfl, rfl, g2.fr.sl hp, hp2, q Hs2 H2 _ (g1.trans g2) (.bl _)⟩
theorem ev_minL {ns : List Int} {m : Int} (ha : EvB K ta ρ (ns.map .int)) (h1 : m ∈ ns) (h2 : ∀ y ∈ ns, m ≤ y) : EvD K (tCB (rMin K) (tCons ta tNil)) ρ (.int m) := fun B Hs H σ r Q q =>
  ha B Hs H σ r _ fun Hs1 H1 p vs g1 hp x1 => by
    have e := x1.ints
    subst e
    refine ⟨p, ns, rfl, hp, List.length_pos_iff.mpr (fun z => by rw [z] at h1; cases h1), fun m' k1 k2 => ?_⟩
    obtain rfl : m' = m := Int.le_antisymm (k2 m h1) (h2 m' k1)
    exact q Hs1 H1 _ g1 (.int _)
theorem ev_maxL {ns : List Int} {m : Int} (ha : EvB K ta ρ (ns.map .int)) (h1 : m ∈ ns) (h2 : ∀ y ∈ ns, y ≤ m) : EvD K (tCB (rMax K) (tCons ta tNil)) ρ (.int m) := fun B Hs H σ r Q q =>
  ha B Hs H σ r _ fun Hs1 H1 p vs g1 hp x1 => by
    have e := x1.ints
    subst e
    refine ⟨p, ns, rfl, hp, List.length_pos_iff.mpr (fun z => by rw [z] at h1; cases h1), fun m' k1 k2 => ?_⟩
    obtain rfl : m' = m := Int.le_antisymm (h2 m' k1) (k2 m h1)
    exact q Hs1 H1 _ g1 (.int _)
end
end DL

/-! DDef: defs with default values. -/
namespace DL
open PySem L2
open PyProof.Rows (envOfC)
variable [TbC]
/-- a def of which the last parameters have defaults -/
abbrev FunE (K : PySem.W.Frag) (x qual : Str) (st : Stmt) (dvs : List V) (f : Addr) (fd : FuncData) : Prop := FunD K x qual (defArgs st) (defBody st) (defScope st) dvs [] f fd
section
variable {K : PySem.W.Frag} {ρ : Env} {ds es : List D} {P : Program} {w : World} {mg : Str → Option Value} {base : Heap} {x qual : Str} {st : Stmt} {f : Addr} {fd : FuncData} {N ps : List Str} {k : Nat} {α : Type} {pre : α → Prop} {arg : α → List D} {dvs : List V}
theorem fune_mk {oc : Value} {od an : Option Addr} {osl : Array (Option Value)} {kV doc pm cdv ct : Value} {D : Addr} {o : Obj} {its : List Value} {n : Nat} (l : K.lookup f = some ⟨oc, od, .func (PySem.W.fnOf x qual (defArgs st) (defBody st) (defScope st) (.ref D) kV doc pm an cdv ct), osl⟩)
    (c : PySem.W.codeIn K cdv qual = true) (k : PySem.W.keepIn K (.ref f) = true) (lT : K.lookup D = some o) (oT : o.data = .seq its.toArray n) (r : Vals dvs its) (hd : dvs ≠ []) : FunE K x qual st dvs f (PySem.W.fnOf x qual (defArgs st) (defBody st) (defScope st) (.ref D) kV doc pm an cdv ct) :=
  ⟨⟨oc, od, _, kV, doc, pm, an, cdv, ct, osl, rfl, l, c, .inr ⟨hd, D, o, its, n, rfl, lT, oT, r⟩, .inl rfl⟩, k⟩
theorem fn_rE {post : α → D → Prop} (F : FunE K x qual st dvs f fd) (S : FnScope N ps (defScope st)) (hl : ∀ x, (arg x).length = ps.length) {t : TS}
    (hb : ∀ (cdv : Value) (A : Around) (outer : List PySem.Env) (s : Shared) (H : Hp) (E : XK), Room k (A.deeper (envOfC qual (defScope st) s.heap.objs.size f cdv)) → PSs (cxOf CX0 P w K mg base N qual (defScope st) f cdv A outer s H E).nox (defBody st) t)
    (hd : ∀ x, pre x → ExS K t (entry N (arg x)) { nx := fun _ => post x .non, rt := post x }) : FnOk P w K mg base CX0 (k + 1) f fd ps (spR K pre arg post) := by
  have hN : ps.length ≤ N.length := by have := congrArg List.length S.pre; rw [List.length_take] at this; omega
  refine F.ok S (fun vs H Q E h => ?_) (fun cdv A outer s H vs Q E hr h => ?_)
  · obtain ⟨Hs, x, _, r, _⟩ := h
    rw [r.length, hl]
  · obtain ⟨Hs, x, e, r, hp, q⟩ := h
    refine ⟨t, (hb cdv A outer s H E hr).nox, ?_⟩
    exact hd x hp ⟨Hs, H, H, e.2⟩ Hs H (L2.start N vs) _ (rs_entry e r (by rw [hl]; exact hN))
      ⟨fun Hs' H' σ ρ r' z => q Hs' H' .non .non r'.gr .non z, fun Hs' H' v d g x z => q Hs' H' v d g x z, fun _ _ _ _ _ _ _ _ _ _ z => z.elim, fun _ _ _ _ _ z => z.elim, fun _ _ _ _ _ z => z.elim, fun _ _ _ _ _ _ _ _ z => z.elim, fun _ _ _ _ _ _ _ _ _ z => z.elim, fun _ _ _ _ _ _ _ _ z => z.elim⟩
theorem fn_fE {res : α → List D} (F : FunE K x qual st dvs f fd) (S : FnScope N ps (defScope st)) (hl : ∀ x, (arg x).length = ps.length) {t : TS}
    (hb : ∀ (cdv : Value) (A : Around) (outer : List PySem.Env) (s : Shared) (H : Hp) (E : XK), Room k (A.deeper (envOfC qual (defScope st) s.heap.objs.size f cdv)) → PSs (cxOf CX0 P w K mg base N qual (defScope st) f cdv A outer s H E).nox (defBody st) t)
    (hd : ∀ x, pre x → ExS K t (entry N (arg x)) { nx := fun _ => False, rt := fun _ => False, rf := fun ds => ds = res x }) : FnOk P w K mg base CX0 (k + 1) f fd ps (spF K pre arg res) := by
  have hN : ps.length ≤ N.length := by have := congrArg List.length S.pre; rw [List.length_take] at this; omega
  refine F.ok S (fun vs H Q E h => ?_) (fun cdv A outer s H vs Q E hr h => ?_)
  · obtain ⟨Hs, x, _, r, _⟩ := h
    rw [r.length, hl]
  · obtain ⟨Hs, x, e, r, hp, q⟩ := h
    refine ⟨t, (hb cdv A outer s H E hr).nox, ?_⟩
    exact hd x hp ⟨Hs, H, H, e.2⟩ Hs H (L2.start N vs) _ (rs_entry e r (by rw [hl]; exact hN))
      ⟨fun Hs' H' σ ρ r' z => z.elim, fun Hs' H' v d g x z => z.elim, fun Hs' H' p ws ds g n ns e x z => q Hs' H' p ws g n ns e (z ▸ x), fun _ _ _ _ _ z => z.elim, fun _ _ _ _ _ z => z.elim, fun _ _ _ _ _ _ _ _ z => z.elim, fun _ _ _ _ _ _ _ _ _ z => z.elim, fun _ _ _ _ _ _ _ _ z => z.elim⟩
/-! ### calls that leave the last arguments out -/
theorem ev_callD {res : α → D} {E : XK} {ta : TA} (x : α) (h : EvA K ta ρ ds) (hr : ∀ Hs, RepL K Hs dvs es) (e : ds ++ es = arg x) (p : pre x) : EvD K (tCall (spG K pre arg res) dvs E ta) ρ (res x) := fun B Hs H σ r Q q =>
  h B Hs H σ r _ fun Hs1 H1 vs g1 xs => ⟨Hs1, x, ⟨g1.lv, (r.grow g1).tb⟩, e ▸ xs.append (hr _), p, fun Hs' H' v d g y e => q Hs' H' v (g1.trans g) (e ▸ y)⟩
theorem ef_callD {res : α → List D} {E : XK} {ta : TA} (x : α) (h : EvA K ta ρ ds) (hr : ∀ Hs, RepL K Hs dvs es) (e : ds ++ es = arg x) (p : pre x) : EvF K (tCall (spF K pre arg res) dvs E ta) ρ (res x) := fun B Hs H σ r Q q =>
  h B Hs H σ r _ fun Hs1 H1 vs g1 xs => by
    refine ⟨Hs1, x, ⟨g1.lv, (r.grow g1).tb⟩, e ▸ xs.append (hr _), p, fun Hs' H' l ws g n ns e y => q Hs' H' l ws (g1.trans g) ?_ ns e y⟩
    exact (g1.new0 n).1
end
theorem rep_i {K : PySem.W.Frag} (i : Int) (Hs : Hp) : RepL K Hs [.int i] [.int i] := .cons (.int i) .nil
end DL

/-! DLam: lambdas: made, and by their body; min(list, key=lambda). -/
namespace DL
open PySem L2 PySem.W LamX
open PyProof.Rows
/-! ### where a lambda stands in a def -/
def sBody : Stmt → List Stmt
  | .While _ b _ _ => b
  | .If _ b _ _ => b
  | .For _ _ b _ _ => b
  | .Try b _ _ _ _ => b
  | _ => []
def sOr : Stmt → List Stmt
  | .While _ _ b _ => b
  | .If _ _ b _ => b
  | .For _ _ _ b _ => b
  | _ => []
def noE : Expr := .Name "" ⟨0, 0, 0, 0⟩
def sVal : Stmt → Expr
  | .Assign _ v _ => v
  | .Return (some v) _ => v
  | .Expr v _ => v
  | .AugAssign _ _ v _ => v
  | _ => noE
def eArg : Expr → Nat → Expr
  | .Call _ a _ _, i => a.getD i noE
  | _, _ => noE
def eKw : Expr → Nat → Expr
  | .Call _ _ k _, i => match k[i]? with
    | some q => q.value
    | none => noE
  | _, _ => noE
def eFn : Expr → Expr
  | .Call f _ _ _ => f
  | .Attribute f _ _ => f
  | _ => noE
def lamArgs : Expr → Arguments
  | .Lambda a _ _ _ => a
  | _ => { posonlyargs := [], args := [], vararg := none, kwonlyargs := [], kw_defaults := [], kwarg := none, defaults := [] }
def lamBody : Expr → Expr
  | .Lambda _ b _ _ => b
  | _ => noE
def lamScope : Expr → Scope
  | .Lambda _ _ s _ => s
  | _ => C8.fnScope (.Pass ⟨0, 0, 0, 0⟩)
/-- a lambda: its words, its body -/
@[reducible] def CF.l (F : NdefX.NF) (b : Expr) : CF where
  at_ := fun f h => ∃ (pm ctv : Value), h.get? f = some (PySem.W.kla_obj F.name F.qual F.params b F.scope F.cl pm F.c ctv)
  c := F.c
  qual := F.qual
  cl := F.cl
  fn := fun f h ⟨pm, ctv, e⟩ => ⟨_, _, _, _, e⟩
section
variable {X : Cx} {pins : List (Addr × Obj)} {σ : L2.St} {H : Hp} {s : Shared}
theorem inv_lam {F : NdefX.NF} {b : Expr} {t' : Nat} {pm ctv : Value} (I : Inv X pins σ H s) :
    Inv X pins σ (upd H s.heap.objs.size ((CF.l F b).ob s.heap.objs.size)) { s with heap := s.heap.push (PySem.W.kla_obj F.name F.qual F.params b F.scope F.cl pm F.c ctv), toks := t' } := by
  refine I.laid (a := s.heap.objs.size) (fun b u e => Heap.get?_push_of_some _ e) (Nat.le_refl _) ?_
  have e : (s.heap.push (PySem.W.kla_obj F.name F.qual F.params b F.scope F.cl pm F.c ctv)).get? s.heap.objs.size = some (PySem.W.kla_obj F.name F.qual F.params b F.scope F.cl pm F.c ctv) := Heap.get?_push_size _ rfl
  exact ⟨⟨pm, ctv, e⟩, ⟨_, e⟩, fun h1 h2 ⟨p, t, z⟩ st => ⟨p, t, st _ z⟩⟩
/-- a lambda is made: its code object is new, or found in the table -/
theorem lam_makeN {T : List NdefX.NTab} {nm : Nat → Nat → Str} {c P : Addr} {params : Arguments} {body : Expr} {scope : Scope} {pos : Pos} {q : Str} {E : Value → Shared → Prop} {Q : Value → Shared → Prop} (I : Inv X pins σ H s) (TB : TabB X.base X.mg c P) (hcode : X.env.code = .ref c)
    (hm : (P, nm) ∈ T) (hn : nm pos.line pos.col = q) (hq : X.env.qual ++ "<lambda>" = q) (hu : ∀ p ∈ T, p.1 = P → p.2 = nm) (hT : NdefX.TabsN T H) (hdef : defaultsOf params X.env = ([], [])) (hfree : ∀ y ∈ scope.names, y.2 = .free → ∃ c, X.env.cells.lookup y.1 = some c)
    (h : ∀ (f c' : Addr) (H1 : Hp) (s' : Shared), Inv X pins σ H1 s' → LamX.ExtN H H1 → (∀ b, H1 b = Option.none → H b = Option.none) → NdefX.TabsN T H1 → H f = none → H1 f = some ((CF.l ⟨"<lambda>", q, params, [], scope, cloFrom X.env.cells scope.names [], c'⟩ body).ob f) → H1 c' = some (CodeO c' q) → Q (.ref f) s') :
    wpAny (model X.prog X.w) X.A (eval (.Lambda params body scope pos) X.env) Q E s := by
  subst hq
  obtain ⟨ps, hP, ht, ha⟩ := (show NdefX.TabN H P nm from hT _ hm)
  refine PySem.W.kla_eval hdef ?_
  have bP : s.heap.BuiltinsAt X.mg P := TB.bm.keeps I.bk
  have hP' : s.heap.get? P = some { cls := .none, data := .fields ps } := I.hok P _ hP
  cases hc : codeAmong pos ps.toList with
  | none =>
    refine PySem.W.kla_makeFunction (mg := X.mg) (c := c) (P := P) (ps := ps) (closure_ok hfree) I.ok.glob (I.mod.glob.keeps I.bk) hcode (TB.code.keeps I.bk) hP' ht hc TB.gP bP fun c' ctv h' tk hx hge hlt hrec htb => ?_
    obtain ⟨c2, oc, vs, t, e2, hoc, hd, hv⟩ := hrec
    cases e2
    have nC : H c' = none := I.hok.fresh hge
    have I1 := inv_table (t' := tk) (more := #[rawInt pos.line, rawInt pos.col, .ref c']) (h' := h') I hP (fun b o hb e => hx b o hb e) htb hge ⟨oc, vs, t, hoc, hd, hv⟩
    have hE : LamX.ExtN H (upd (upd H P (.tbl (ps ++ #[rawInt pos.line, rawInt pos.col, .ref c']))) c' (CodeO c' (X.env.qual ++ "<lambda>"))) := fun b o e n => by
      rw [upd_ne (ne_of_none e nC), upd_ne (fun z => n ps (Option.some.inj (e.symm.trans (by rw [z]; exact hP))))]
      exact e
    have eL : (ps ++ #[rawInt pos.line, rawInt pos.col, .ref c']).toList = ps.toList ++ [rawInt pos.line, rawInt pos.col, .ref c'] := by simp
    have T1 : NdefX.TabsN T (upd (upd H P (.tbl (ps ++ #[rawInt pos.line, rawInt pos.col, .ref c']))) c' (CodeO c' (X.env.qual ++ "<lambda>"))) := fun p hp => by
      by_cases hb : p.1 = P
      · rw [hu p hp hb, hb]
        refine ⟨_, by rw [upd_ne (ne_of_none hP nC), upd_same], by rw [eL]; exact PySem.TriplesOk_snoc _ _ _ _ ht, fun p' cv hcv => ?_⟩
        rw [eL] at hcv
        rcases NdefX.among_app2 _ ht hcv with z | ⟨z, z1, z2⟩
        · obtain ⟨c0, e1, e2⟩ := ha p' cv z
          exact ⟨c0, e1, hE _ _ e2 codeO_ne⟩
        · refine ⟨c', z, ?_⟩
          rw [← z1, ← z2, hn]
          exact upd_same
      · obtain ⟨ps', a1, a2, a3⟩ := hT p hp
        refine ⟨ps', by rw [upd_ne (ne_of_none a1 nC), upd_ne hb]; exact a1, a2, fun p' cv hcv => ?_⟩
        obtain ⟨c0, e1, e2⟩ := a3 p' cv hcv
        exact ⟨c0, e1, hE _ _ e2 codeO_ne⟩
    have nF := I1.hok.fresh (Nat.le_refl _)
    have I2 := inv_lam (F := ⟨"<lambda>", X.env.qual ++ "<lambda>", params, [], scope, cloFrom X.env.cells scope.names [], c'⟩) (b := body) (t' := tk) (pm := (X.mg "__name__").getD .none) (ctv := ctv) I1
    refine h h'.objs.size c' _ _ I2 (fun b o e n => ?_) (fun b e => NdefX.upd_none (NdefX.upd_none (NdefX.upd_none e))) (T1.ext fun b o e => ?_) (I.hok.fresh (Nat.le_trans hge (Nat.le_of_lt hlt))) upd_same ?_
    · have e1 := hE b o e n
      exact (upd_ne (ne_of_none e1 nF)).trans e1
    · exact (upd_ne (ne_of_none e nF)).trans e
    · exact (upd_ne (Nat.ne_of_lt hlt)).trans upd_same
  | some cv =>
    obtain ⟨c', e, hco⟩ := ha pos cv hc
    subst e
    rw [hn] at hco
    refine PySem.W.kla_makeFunctionHit (mg := X.mg) (c := c) (P := P) (ps := ps) (closure_ok hfree) I.ok.glob (I.mod.glob.keeps I.bk) hcode (TB.code.keeps I.bk) hP' ht hc bP fun ctv h' tk hx hsz => ?_
    have I1 : Inv X pins σ H { s with heap := h', toks := tk } := I.kept hx
    have nF : H h'.objs.size = none := I1.hok.fresh (Nat.le_refl _)
    have I2 := inv_lam (F := ⟨"<lambda>", X.env.qual ++ "<lambda>", params, [], scope, cloFrom X.env.cells scope.names [], c'⟩) (b := body) (t' := tk) (pm := (X.mg "__name__").getD .none) (ctv := ctv) I1
    refine h h'.objs.size c' _ _ I2 (fun b o e n => ?_) (fun b e => NdefX.upd_none e) (hT.ext fun b o e => ?_) nF upd_same ?_
    · exact (upd_ne (ne_of_none e nF)).trans e
    · exact (upd_ne (ne_of_none e nF)).trans e
    · exact (upd_ne (ne_of_none hco nF)).trans hco
end
section
variable {CX : CXT} {P : Program} {w : World} {K : PySem.W.Frag} {mg : Str → Option Value} {base : Heap} {N ps fr : List Str} {F : NdefX.NF} {b : Expr} {f : Addr} {k : Nat} {sp : List (Option V) → Sp}
/-- a lambda by its body -/
theorem lok_of (S : NdefX.NScope N ps fr F.scope) (hb : ∀ (pm ctv : Value) (us : List Value), us.length = ps.length → bindArgs (PySem.W.kla_fn F.name F.qual F.params b F.scope F.cl pm (.ref F.c) ctv) ⟨us, []⟩ = pure (ps.zip us)) (len : ∀ ws vs H Q E, sp ws vs H Q E → vs.length = ps.length)
    (hbody : ∀ (A : Around) (outer : List PySem.Env) (s : Shared) (H : Hp) (vs : List V) (ws : List (Option V)) (Q : VK) (E : XK), Room k (A.deeper (NdefX.envF F f s.heap.objs.size)) → H f = some ((CF.l F b).ob f) → H F.c = some (CodeO F.c F.qual) → ws.length = fr.length → sp ws vs H Q E →
      ∃ t, PE (NdefX.ncx CX P w K mg base N F f A outer s H E) b t ∧ t (NdefX.startF N vs ws) H Q) :
    COk P w K mg base CX (k + 1) f (CF.l F b) ps fr sp := by
  refine ⟨len, fun A outer s H us vs ws Q E hr e0 hf hc C r hsp => ?_⟩
  have hl := len _ _ _ _ _ hsp
  have lim : s.heap.NoLimit := e0.mod.nolimit.keeps fun b o e => (e0.bs b o e).1
  obtain ⟨⟨pm, ctv, ho⟩, _, _⟩ := e0.hok f _ hf
  refine PySem.W.kla_callFunE hr.depth ho rfl S.co S.gen rfl (NdefX.codeO_at e0.hok hc) ?_
  rw [hb pm ctv us (by rw [← r.length]; exact hl)]
  refine wpAny_pure (wpAny_newFunctionEnv S.nocell (fun ⟨n, _⟩ hy => S.par n (List.of_mem_zip hy).1) (fun h₁ hns hsb => ⟨lim.fresh _ hsb, ?_⟩) S.kind)
  show codeAny _ _ (.expr b (NdefX.envF F f s.heap.objs.size)) _ _
  have kp : ∀ b o, s.heap.get? b = some o → h₁.get? b = some o := fun b o e => hsb.extBut b o (Nat.ne_of_lt (Heap.lt_size e)) (Heap.get?_push_of_some _ e)
  obtain ⟨t, ht, hq⟩ := hbody A outer s H vs ws Q E (hr.deeper _) hf hc C.len hsp
  have I : Inv (NdefX.ncx CX P w K mg base N F f A outer s H E) [] (NdefX.startF N vs ws) H { s with heap := h₁, toks := s.toks + (ps.zip us).length } := NdefX.inv_startN S hr.hd e0 hl r C hns kp
  refine PySem.W.kla_codeExpr (wpAny_mono (ht.run [] _ (NdefX.startF N vs ws) H _ I hq) (fun v s' hs => ?_) fun e s' hs => hs)
  obtain ⟨w', H', J, rv, q⟩ := hs
  exact ⟨w', H', J.os, J.bare, J.base, J.hok, rv, q⟩
end
section
variable [TbC] {K : PySem.W.Frag}
/-- .. on deep data -/
theorem lok_r {P : Program} {w : World} {mg : Str → Option Value} {base : Heap} {N ps fr : List Str} {F : NdefX.NF} {b : Expr} {f : Addr} {k : Nat} {α : Type} {pre : α → Prop} {arg cap : α → List D} {res : α → D} (S : NdefX.NScope N ps fr F.scope)
    (hb : ∀ (pm ctv : Value) (us : List Value), us.length = ps.length → bindArgs (PySem.W.kla_fn F.name F.qual F.params b F.scope F.cl pm (.ref F.c) ctv) ⟨us, []⟩ = pure (ps.zip us)) (hl : ∀ x, (arg x).length = ps.length) (hc : ∀ x, (cap x).length = fr.length) {t : TE}
    (hp : ∀ (A : Around) (outer : List PySem.Env) (s : Shared) (H : Hp) (E : XK), Room k (A.deeper (NdefX.envF F f s.heap.objs.size)) → PE (NdefX.ncx CX0 P w K mg base N F f A outer s H E).nox b t)
    (hd : ∀ x, pre x → EvD K t (entry N (arg x ++ cap x)) (res x)) : COk P w K mg base CX0 (k + 1) f (CF.l F b) ps fr (spN_ (spCl K pre arg cap res)) := by
  refine lok_of S hb (fun ws vs H Q E h => ?_) (fun A outer s H vs ws Q E hr h1 h2 h3 h => ?_)
  · obtain ⟨us, _, Hs, x, _, r, _⟩ := h
    rw [r.length, hl]
  · obtain ⟨us, e1, Hs, x, e, r, r2, hpx, q⟩ := h
    refine ⟨t, (hp A outer s H E hr).nox, ?_⟩
    have hN : (arg x ++ cap x).length ≤ N.length := by
      have := congrArg List.length S.pre
      rw [List.length_take, List.length_append] at this
      rw [List.length_append, hl, hc]
      omega
    have es : NdefX.startF N vs ws = L2.start N (vs ++ us) := by
      unfold NdefX.startF L2.start
      rw [e1, List.map_append, List.length_map, List.length_append, List.append_assoc, Nat.sub_sub]
    rw [es]
    exact hd x hpx ⟨Hs, H, H, e.2⟩ Hs H (L2.start N (vs ++ us)) (rs_entry e (r.append r2) hN) Q fun Hs' H' v g y => q Hs' H' v g y
end
end DL

/-! DMin: min(list of whole numbers, key=lambda that gives tuples of whole numbers). -/
namespace DL
open PySem L2 PySem.W LamX
open PyProof.Rows
section
variable {X : Cx} {pins : List (Addr × Obj)} {σ : L2.St} {H : Hp} {s : Shared}
/-- two records of ours change -/
theorem Inv.pin2 {a b : Addr} {oa ob oa' ob' : Obj} {h' : Heap} {t' : Nat} (I : Inv X ((a, oa) :: (b, ob) :: pins) σ H s) (Oa : Ours X pins a) (Ob : Ours X pins b) (hda : ∀ v, oa'.data ≠ .cell v) (hdb : ∀ v, ob'.data ≠ .cell v)
    (k : ∀ c o, c ≠ a → c ≠ b → s.heap.get? c = some o → h'.get? c = some o) (ea : h'.get? a = some oa') (eb : h'.get? b = some ob') : Inv X ((a, oa') :: (b, ob') :: pins) σ H { s with heap := h', toks := t' } := by
  have p0 := I.pin (a, oa) (List.mem_append_right _ (.head _))
  have p1 := I.pin (b, ob) (List.mem_append_right _ (.tail _ (.head _)))
  have I0 : Inv X pins σ H s := I.pins_of fun p hp => I.pin p (List.mem_append_right _ (.tail _ (.tail _ hp)))
  have I1 : Inv X pins σ H { s with heap := h', toks := t' } := Inv.turnedL (ch := [a, b]) I0 (fun c o hc e => k c o (fun z => hc (by simp [z])) (fun z => hc (by simp [z])) e) fun c hc => by
    rcases List.mem_cons.mp hc with e | hc
    · subst e
      exact ⟨p0.2.1, Oa.ne, Oa.fs, .inr Oa.sz, Oa.ce, Oa.pn⟩
    · obtain rfl := List.mem_singleton.mp hc
      exact ⟨p1.2.1, Ob.ne, Ob.fs, .inr Ob.sz, Ob.ce, Ob.pn⟩
  refine Inv.pins_of I1 fun p hp => ?_
  rcases List.mem_cons.mp hp with rfl | hp
  · exact ⟨ea, p0.2.1, Oa.ne, Oa.fs, hda⟩
  rcases List.mem_cons.mp hp with rfl | hp
  · exact ⟨eb, p1.2.1, Ob.ne, Ob.fs, hdb⟩
  · exact I1.pin p (List.mem_append_right _ hp)
end
/-- the first of the least keys -/
def bestOf (key : Int → List Int) : Int → List Int → Int
  | b, [] => b
  | b, x :: xs => bestOf key (if key x < key b then x else b) xs
theorem dataLt_tints (ns ms : List Int) : dataLt (.tuple (ns.map .int)) (.tuple (ms.map .int)) = decide (ns < ms) := by
  rw [dataLt_tuple]
  exact dataLt_ints ns ms
section
variable [TbC] {X : Cx} {k : Nat} {mk : Addr → CF} {cl : List (Str × Addr)} {ps fr : List Str} {js : List Nat} {sp : List (Option V) → Sp}
theorem min_loop {pins : List (Addr × Obj)} {σ : L2.St} {f c' l It S : Addr} {xs : List Int} {key : Int → List Int} {J : Hp → Prop} {R : Result → Shared → Prop} {kw : List (Str × Value)}
    (Fn : COk X.prog X.w X.K X.mg X.base CX0 k f (mk c') ps fr sp) (hcl : (mk c').cl = cl) (cp : X.Ok → NdefX.Caps X cl fr js) (hr : Room (k + 2) X.A) (hh : X.A.handled = none)
    (OS : Ours X pins S) (OI : Ours X pins It) (hSI : S ≠ It) (hlI : l ≠ It) (hlS : l ≠ S)
    (turn : ∀ x ∈ xs, ∀ H3, J H3 → H3 f = some ((mk c').ob f) ∧ H3 (mk c').c = some (CodeO (mk c').c (mk c').qual) ∧ sp (js.map (NdefX.slotAt σ)) [.int x] H3 (fun v H4 => J H4 ∧ (∀ b vs, H3 b = some (.tup vs) → H4 b = some (.tup vs)) ∧ ∃ q, v = .ref q ∧ H4 q = some (.tup ((key x).map .int))) (fun _ _ _ => False))
    (hl : ∀ H3, J H3 → SqL X.K H3 l (xs.map V.int)) :
    ∀ (todo : List Int) (j : Nat) (s : Shared) (H' : Hp) (b : Int) (vb : Value) (q : Addr) (cc : Nat) (oI : Obj), xs.drop (j + 1) = todo → Inv X ((S, seqObj "list" #[vb, .ref q] cc) :: (It, oI) :: pins) σ H' s → J H' → s.heap.IsListIter It l (j + 1) →
      RelV (.int b) vb → H' q = some (.tup ((key b).map .int)) → (∀ u H3 s3, Inv X pins σ H3 s3 → J H3 → RelV (.int (bestOf key b todo)) u → R (.ok (.ret u)) s3) →
      codeAny (model X.prog X.w) X.A (.builtin "min.loop" ⟨[.ref It, .ref f, .ref S], kw⟩) R s := by
  have hname : (toString "min" ++ toString ".loop" : String) = "min.loop" := by decide
  intro todo
  induction todo with
  | nil =>
    intro j s H' b vb q cc oI htd I hj hit hvb hq hR
    obtain ⟨its, r1, p1, _⟩ := I.list (hl _ hj)
    have hL := p1.isList
    have pS := I.pin (S, seqObj "list" #[vb, .ref q] cc) (List.mem_append_right _ (.head _))
    have pI := I.pin (It, oI) (List.mem_append_right _ (.tail _ (.head _)))
    have hlen : its.length = xs.length := by rw [← r1.length, List.length_map]
    have hge : xs.length ≤ j + 1 := List.drop_eq_nil_iff.mp htd
    refine codeAny_builtin F.entry_min_loop ?_
    rw [Around.under_plainId F.plain_min_loop _]
    show wpAny _ X.A.in1 (seqItems? (.ref S) >>= _) _ _ s
    refine wpAny_bind (wpAny_seqItems pS.1 rfl ?_)
    show wpAny _ X.A.in1 (tryCatch (pyNext (.ref It)) _ >>= _) _ _ s
    refine wpAny_bind (wpAny_tryCatch (wpAny_pyNext_list_end (A := X.A.in1) hh hit hL (by simp; omega) fun h' he => ?_))
    have hS' := he S _ hSI pS.1
    show wpAny _ X.A.in1 (updateSeq S (fun _ => #[]) >>= _) _ _ _
    refine wpAny_bind ?_
    refine wpAny_updateSeq hS' rfl (wpAny_bind (wpAny_letGo (wpAny_pure ?_)))
    have I0 : Inv X pins σ H' s := I.pins_of fun p hp => I.pin p (List.mem_append_right _ (.tail _ (.tail _ hp)))
    have I3 : Inv X pins σ H' { s with heap := h'.update S (Obj.mapSeq fun _ => (#[] : Array Value)), toks := s.toks } := Inv.turnedL (ch := [S, It]) (t' := s.toks) I0 (fun c o hc e => by
      rw [Heap.get?_update_other _ _ (fun z => hc (by simp [z]))]
      exact he c o (fun z => hc (by simp [z])) e) fun c hc => by
      rcases List.mem_cons.mp hc with e | hc
      · subst e
        exact ⟨pS.2.1, OS.ne, OS.fs, .inr OS.sz, OS.ce, OS.pn⟩
      · obtain rfl := List.mem_singleton.mp hc
        exact ⟨pI.2.1, OI.ne, OI.fs, .inr OI.sz, OI.ce, OI.pn⟩
    exact hR vb H' _ I3 hj hvb
  | cons x todo ih =>
    intro j s H' b vb q cc oI htd I hj hit hvb hq hR
    have hxj : xs[j + 1]? = some x := by
      have := congrArg (fun l => l[0]?) htd
      rw [List.getElem?_drop] at this
      exact this
    have hmem : x ∈ xs := List.mem_of_getElem? hxj
    have htd' : xs.drop (j + 1 + 1) = todo := by
      rw [← List.drop_drop, htd]
      rfl
    obtain ⟨its, r1, p1, _⟩ := I.list (hl _ hj)
    have hL := p1.isList
    have pS := I.pin (S, seqObj "list" #[vb, .ref q] cc) (List.mem_append_right _ (.head _))
    have pI := I.pin (It, oI) (List.mem_append_right _ (.tail _ (.head _)))
    obtain ⟨v, hv, rv⟩ := r1.get (i := j + 1) (x := V.int x) (by rw [List.getElem?_map, hxj]; rfl)
    refine codeAny_builtin F.entry_min_loop ?_
    rw [Around.under_plainId F.plain_min_loop _]
    show wpAny _ X.A.in1 (seqItems? (.ref S) >>= _) _ _ s
    refine wpAny_bind (wpAny_seqItems pS.1 rfl ?_)
    show wpAny _ X.A.in1 (tryCatch (pyNext (.ref It)) _ >>= _) _ _ s
    refine wpAny_bind (wpAny_tryCatch (wpAny_pyNext_list_item hit hL (x := v) (by simpa using hv) fun h' hit' hs' => ?_))
    obtain ⟨oI', hoI', hoc, hod⟩ := id hit'
    have hS' := hs'.extBut S _ hSI pS.1
    have I1 : Inv X ((S, seqObj "list" #[vb, .ref q] cc) :: (It, oI') :: pins) σ H' { s with heap := h' } := Inv.pin2 (t' := s.toks) I OS OI (fun v z => by cases z) (fun v z => by rw [hod] at z; cases z) (fun c o h1 h2 e => hs'.extBut c o h2 e) hS' hoI'
    obtain ⟨t1, t2, t3⟩ := turn x hmem H' hj
    have hr' : Room k X.A.in1 := hr.in1.mono (by omega)
    have e0 : Env0 X.prog X.w X.K X.mg X.base X.A.in1 X.stack { s with heap := h' } H' := ⟨I1.env0.frames, I1.env0.mod, I1.env0.bs, I1.env0.bsz, I1.env0.funs, I1.env0.frf, I1.env0.hok, I1.env0.bare⟩
    have C := NdefX.cells_of I1 (cp I1.ok)
    rw [← hcl] at C
    show wpAny _ X.A.in1 (tryCatch (holding [v] (call (.ref f) [v])) _ >>= _) _ _ _
    refine wpAny_bind (wpAny_tryCatch (wpAny_holding (wpAny_call (codeAny_mono (Fn.run X.A.in1 X.stack _ H' [v] [.int x] _ _ _ hr' e0 t1 t2 C (.cons rv .nil) t3) fun r s2 hq2 => ?_))))
    cases r with
    | error e => exact False.elim hq2
    | ok fl =>
      cases fl with
      | next => exact False.elim hq2
      | brk => exact False.elim hq2
      | cont => exact False.elim hq2
      | ret kx =>
        obtain ⟨w2, H2, I2, rk, hj2, hkeep, q2, ew, hq2'⟩ := I1.after hq2
        subst ew
        obtain rfl : kx = Value.ref q2 := rk
        have pS2 := I2.pin (S, seqObj "list" #[vb, .ref q] cc) (List.mem_append_right _ (.head _))
        have pI2 := I2.pin (It, oI') (List.mem_append_right _ (.tail _ (.head _)))
        have hqb := hkeep _ _ hq
        have rd : ∀ {p : Addr} {ns : List Int}, H2 p = some (.tup (ns.map .int)) → ∃ as, Reads s2.heap (.ref p) (.tuple (ns.map .int)) as := fun {p ns} hp => by
          obtain ⟨_, is, rr, oo, e1, e2, n, e3⟩ : ((ns.map V.int).length ≤ sizeLine ∧ ∃ is : List Value, Vals (ns.map V.int) is ∧ IsTup s2.heap p is.toArray) := I2.hok _ _ hp
          exact ⟨_, .tuple e1 e2 e3 (reads_ints (by rw [List.toList_toArray]; exact rr))⟩
        obtain ⟨_, R1⟩ := rd hq2'
        obtain ⟨_, R2⟩ := rd hqb
        have hu := (hr.in1).un
        have al : alike (.tuple ((key x).map .int)) (.tuple ((key b).map .int)) = true := by
          rw [alike]
          exact alike_ints _ _
        have hd : PyData.depth (.tuple ((key x).map .int)) = 1 ∧ PyData.depth (.tuple ((key b).map .int)) = 1 := by
          refine ⟨?_, ?_⟩ <;> rw [PyData.depth, depth_ints]
        have z := rcLt_alike _ _ X.A.in1 s2 _ _ _ _ R1 R2 al (by intro z; cases z) (by rw [hd.1, hd.2]; omega)
        rw [dataLt_tints] at z
        show wpAny _ X.A.in1 (tryCatch (holding [v, .ref q2] (richCompare .Lt (.ref q2) (.ref q) >>= _)) _ >>= _) _ _ _
        refine wpAny_bind (wpAny_tryCatch (wpAny_holding (wpAny_bind (z _ _ _ _ ?_))))
        refine wpAny_bind (wpAny_holding (wpAny_truthy_bool ?_))
        refine wpAny_bind (wpAny_letGo (wpAny_pure ?_))
        by_cases hb : key x < key b
        · rw [decide_eq_true hb]
          simp only [if_true]
          have s1 := Heap.SameBut.update s2.heap S (Obj.mapSeq fun _ => #[v, .ref q2])
          obtain ⟨c2, hc2⟩ : ∃ c2, (s2.heap.update S (Obj.mapSeq fun _ => #[v, .ref q2])).get? S = some (seqObj "list" #[v, .ref q2] c2) := ⟨_, get?_update_seq pS2.1 fun _ => #[v, .ref q2]⟩
          refine wpAny_bind ?_
          refine wpAny_updateSeq pS2.1 rfl (wpAny_bind (wpAny_letGo ?_))
          rw [hname]
          have I3 : Inv X ((S, seqObj "list" #[v, .ref q2] c2) :: (It, oI') :: pins) σ H2 { s2 with heap := s2.heap.update S (Obj.mapSeq fun _ => #[v, .ref q2]), toks := s2.toks } := Inv.pin2 (t' := s2.toks) I2 OS OI (fun v z => by cases z) (fun v z => by rw [hod] at z; cases z) (fun c o h1 _ e => (s1.2 c h1).trans e) hc2 ((s1.2 It (Ne.symm hSI)).trans pI2.1)
          refine wpAny_pure ⟨plainId_quiet F.plain_min_loop _, ih (j + 1) _ H2 x v q2 c2 oI' htd' I3 hj2 ⟨oI', (s1.2 It (Ne.symm hSI)).trans pI2.1, hoc, hod⟩ rv hq2' fun u H3 s3 i3 j3 r3 => hR u H3 s3 i3 j3 ?_⟩
          rw [bestOf, if_pos hb]
          exact r3
        · rw [decide_eq_false hb]
          simp only [Bool.false_eq_true, if_false]
          refine wpAny_bind (wpAny_letGo ?_)
          rw [hname]
          refine wpAny_pure ⟨plainId_quiet F.plain_min_loop _, ih (j + 1) s2 H2 b vb q cc oI' htd' I2 hj2 ⟨oI', pI2.1, hoc, hod⟩ hvb hqb fun u H3 s3 i3 j3 r3 => hR u H3 s3 i3 j3 ?_⟩
          rw [bestOf, if_neg hb]
          exact r3
theorem min_run {pins : List (Addr × Obj)} {σ : L2.St} {H : Hp} {s : Shared} {Q : VK} {f c' l : Addr} {x0 : Int} {xs : List Int} {key : Int → List Int} {J : Hp → Prop}
    (Fn : COk X.prog X.w X.K X.mg X.base CX0 k f (mk c') ps fr sp) (hcl : (mk c').cl = cl) (cp : X.Ok → NdefX.Caps X cl fr js) (hr : Room (k + 2) X.A) (hh : X.A.handled = none) (I : Inv X pins σ H s) (j0 : J H)
    (turn : ∀ x ∈ x0 :: xs, ∀ H3, J H3 → H3 f = some ((mk c').ob f) ∧ H3 (mk c').c = some (CodeO (mk c').c (mk c').qual) ∧ sp (js.map (NdefX.slotAt σ)) [.int x] H3 (fun v H4 => J H4 ∧ (∀ b vs, H3 b = some (.tup vs) → H4 b = some (.tup vs)) ∧ ∃ q, v = .ref q ∧ H4 q = some (.tup ((key x).map .int))) (fun _ _ _ => False))
    (hl : ∀ H3, J H3 → SqL X.K H3 l ((x0 :: xs).map V.int)) (fin : ∀ H3, J H3 → Q (.int (bestOf key x0 xs)) H3) :
    wpAny (model X.prog X.w) X.A (call (.builtin "min") [.ref l] [(Str.ofString "key", .ref f)]) (EP X pins σ Q) X.xe s := by
  have hname : (toString "min" ++ toString ".loop" : String) = "min.loop" := by decide
  obtain ⟨its, r1, p1, _⟩ := I.list (hl _ j0)
  have hL := p1.isList
  obtain ⟨ol, hol, _⟩ := id hL
  have hll : l < s.heap.objs.size := Heap.lt_size hol
  refine PyProof.Rows.kmk_tree F.kind_min F.plain_min F.entry_min (PyProof.Rows.kmk_min_key _ _) ?_
  show wpAny _ X.A.in1 (Builtin.Builtins.bindParams "min" ["key", "default"] 0 ⟨[], [(Str.ofString "key", .ref f)]⟩ >>= _) _ _ s
  refine wpAny_bind (wpAny_of_eq (show Builtin.Builtins.bindParams "min" ["key", "default"] 0 ⟨[], [(Str.ofString "key", .ref f)]⟩ = pure [some (.ref f), none] from rfl) ?_)
  refine wpAny_bind (wpAny_pure ?_)
  refine wpAny_bind (wpAny_pyIter_list hL ?_)
  refine wpAny_bind (wpAny_newList ?_ (Nat.zero_le _))
  rw [hname]
  have hS : (s.heap.push { cls := .type "list_iterator", data := .fields #[.ref l, .int 0 0] }).objs.size = s.heap.objs.size + 1 := size_push' ..
  have keep : ∀ b o, s.heap.get? b = some o → ((s.heap.push { cls := .type "list_iterator", data := .fields #[.ref l, .int 0 0] }).push (seqObj "list" #[] 0)).get? b = some o := fun b o e => Heap.get?_push_of_some _ (Heap.get?_push_of_some _ e)
  have gI : ((s.heap.push { cls := .type "list_iterator", data := .fields #[.ref l, .int 0 0] }).push (seqObj "list" #[] 0)).get? s.heap.objs.size = some { cls := .type "list_iterator", data := .fields #[.ref l, .int 0 0] } :=
    Heap.get?_push_of_some _ (Heap.get?_push_size _ rfl)
  have gS : ((s.heap.push { cls := .type "list_iterator", data := .fields #[.ref l, .int 0 0] }).push (seqObj "list" #[] 0)).get? (s.heap.push { cls := .type "list_iterator", data := .fields #[.ref l, .int 0 0] }).objs.size = some (seqObj "list" #[] 0) := Heap.get?_push_size _ rfl
  refine wpAny_pure ⟨plainId_quiet F.plain_min_loop _, ?_⟩
  show codeAny _ _ _ _ { s with heap := ((s.heap.push { cls := .type "list_iterator", data := .fields #[.ref l, .int 0 0] }).push (seqObj "list" #[] 0)) }
  generalize ((s.heap.push { cls := .type "list_iterator", data := .fields #[.ref l, .int 0 0] }).push (seqObj "list" #[] 0)) = g at keep gI gS ⊢
  generalize hSe : (s.heap.push { cls := .type "list_iterator", data := .fields #[.ref l, .int 0 0] }).objs.size = S at gS ⊢
  have hS2 : S = s.heap.objs.size + 1 := hSe.symm.trans hS
  have OI : Ours X pins s.heap.objs.size := Inv.ours I (Nat.le_refl _)
  have OS : Ours X pins S := Inv.ours I (by omega)
  have nI : H s.heap.objs.size = none := I.hok.fresh (Nat.le_refl _)
  have nS : H S = none := I.hok.fresh (by omega)
  have hSI : S ≠ s.heap.objs.size := by rw [hS2]; exact Nat.succ_ne_self _
  have hlI : l ≠ s.heap.objs.size := Nat.ne_of_lt hll
  have hlS : l ≠ S := Nat.ne_of_lt (by rw [hS2]; exact Nat.lt_succ_of_lt hll)
  generalize s.heap.objs.size = It at *
  have I1 : Inv X pins σ H { s with heap := g, toks := s.toks } := I.kept keep
  have I2 : Inv X ((S, seqObj "list" #[] 0) :: (It, { cls := .type "list_iterator", data := .fields #[.ref l, .int 0 0] }) :: pins) σ H { s with heap := g } := Inv.pins_of I1 fun p hp => by
    rcases List.mem_cons.mp hp with rfl | hp
    · exact ⟨gS, nS, OS.ne, OS.fs, fun v z => by cases z⟩
    rcases List.mem_cons.mp hp with rfl | hp
    · exact ⟨gI, nI, OI.ne, OI.fs, fun v z => by cases z⟩
    · exact I1.pin p (List.mem_append_right _ hp)
  obtain ⟨its2, r2, p2, _⟩ := I2.list (hl _ j0)
  have hL2 := p2.isList
  obtain ⟨v, hv, rv⟩ := r2.get (i := 0) (x := V.int x0) rfl
  refine codeAny_builtin F.entry_min_loop ?_
  rw [Around.under_plainId F.plain_min_loop _]
  show wpAny _ X.A.in1 (seqItems? (.ref S) >>= _) _ _ _
  refine wpAny_bind (wpAny_seqItems gS rfl ?_)
  show wpAny _ X.A.in1 (tryCatch (pyNext (.ref It)) _ >>= _) _ _ _
  refine wpAny_bind (wpAny_tryCatch (wpAny_pyNext_list_item (i := 0) ⟨_, gI, rfl, rfl⟩ hL2 (x := v) (by simpa using hv) fun h' hit' hs' => ?_))
  obtain ⟨oI', hoI', hoc, hod⟩ := id hit'
  have hS' := hs'.extBut S _ hSI gS
  have I3 : Inv X ((S, seqObj "list" #[] 0) :: (It, oI') :: pins) σ H { s with heap := h', toks := s.toks } := Inv.pin2 (s := { s with heap := g }) (t' := s.toks) I2 OS OI (fun v z => by cases z) (fun v z => by rw [hod] at z; cases z) (fun c o h1 h2 e => hs'.extBut c o h2 e) hS' hoI'
  obtain ⟨t1, t2, t3⟩ := turn x0 (.head _) H j0
  have hr' : Room k X.A.in1 := hr.in1.mono (by omega)
  have e0 : Env0 X.prog X.w X.K X.mg X.base X.A.in1 X.stack { s with heap := h' } H := ⟨I3.env0.frames, I3.env0.mod, I3.env0.bs, I3.env0.bsz, I3.env0.funs, I3.env0.frf, I3.env0.hok, I3.env0.bare⟩
  have C := NdefX.cells_of I3 (cp I3.ok)
  rw [← hcl] at C
  show wpAny _ X.A.in1 (tryCatch (holding [v] (call (.ref f) [v])) _ >>= _) _ _ _
  refine wpAny_bind (wpAny_tryCatch (wpAny_holding (wpAny_call (codeAny_mono (Fn.run X.A.in1 X.stack _ H [v] [.int x0] _ _ _ hr' e0 t1 t2 C (.cons rv .nil) t3) fun r s2 hq2 => ?_))))
  cases r with
  | error e => exact False.elim hq2
  | ok fl =>
    cases fl with
    | next => exact False.elim hq2
    | brk => exact False.elim hq2
    | cont => exact False.elim hq2
    | ret kx =>
      obtain ⟨w2, H2, I4, rk, hj2, hkeep, q2, ew, hq2'⟩ := I3.after hq2
      subst ew
      obtain rfl : kx = Value.ref q2 := rk
      have pS2 := I4.pin (S, seqObj "list" #[] 0) (List.mem_append_right _ (.head _))
      have pI2 := I4.pin (It, oI') (List.mem_append_right _ (.tail _ (.head _)))
      have s1 := Heap.SameBut.update s2.heap S (Obj.mapSeq fun _ => #[v, .ref q2])
      obtain ⟨c2, hc2⟩ : ∃ c2, (s2.heap.update S (Obj.mapSeq fun _ => #[v, .ref q2])).get? S = some (seqObj "list" #[v, .ref q2] c2) := ⟨_, get?_update_seq pS2.1 fun _ => #[v, .ref q2]⟩
      show wpAny _ X.A.in1 (updateSeq S (fun _ => #[v, .ref q2]) >>= _) _ _ _
      refine wpAny_bind ?_
      refine wpAny_updateSeq pS2.1 rfl ?_
      rw [hname]
      have I5 : Inv X ((S, seqObj "list" #[v, .ref q2] c2) :: (It, oI') :: pins) σ H2 { s2 with heap := s2.heap.update S (Obj.mapSeq fun _ => #[v, .ref q2]), toks := s2.toks } := Inv.pin2 (t' := s2.toks) I4 OS OI (fun v z => by cases z) (fun v z => by rw [hod] at z; cases z) (fun c o h1 _ e => (s1.2 c h1).trans e) hc2 ((s1.2 It (Ne.symm hSI)).trans pI2.1)
      refine wpAny_pure ⟨plainId_quiet F.plain_min_loop _, min_loop (xs := x0 :: xs) (key := key) (J := J) Fn hcl cp hr hh OS OI hSI hlI hlS turn hl xs 0 _ H2 x0 v q2 c2 oI' rfl I5 hj2 ⟨oI', (s1.2 It (Ne.symm hSI)).trans pI2.1, hoc, hod⟩ rv hq2' fun u H3 s3 i3 j3 r3 => ⟨_, H3, i3, r3, fin H3 j3⟩⟩
/-- the reading of min(e, key=lambda ..) -/
def tMinL (mk : Addr → CF) (js : List Nat) (sp : List (Option V) → Sp) (K : PySem.W.Frag) (te : TE) : TE := fun σ H Q => te σ H fun x H1 => NdefX.TabsN TbC.T H1 ∧ ∃ (l : Addr) (x0 : Int) (xs : List Int) (key : Int → List Int), x = .ref l ∧
  ∀ (f c' : Addr) (H2 : Hp), LamX.ExtN H1 H2 → (∀ b, H2 b = none → H1 b = none) → NdefX.TabsN TbC.T H2 → H1 f = none → H2 f = some ((mk c').ob f) → H2 c' = some (CodeO c' (mk c').qual) →
    ∃ J : Hp → Prop, J H2 ∧ (∀ x ∈ x0 :: xs, ∀ H3, J H3 → H3 f = some ((mk c').ob f) ∧ H3 (mk c').c = some (CodeO (mk c').c (mk c').qual) ∧ sp (js.map (NdefX.slotAt σ)) [.int x] H3 (fun v H4 => J H4 ∧ (∀ b vs, H3 b = some (.tup vs) → H4 b = some (.tup vs)) ∧ ∃ q, v = .ref q ∧ H4 q = some (.tup ((key x).map .int))) (fun _ _ _ => False)) ∧
      (∀ H3, J H3 → SqL K H3 l ((x0 :: xs).map V.int)) ∧ ∀ H3, J H3 → Q (.int (bestOf key x0 xs)) H3
/-- min(e, key=lambda ..) -/
theorem pe_minL {e : Expr} {te : TE} {nm : Nat → Nat → Str} {c P : Addr} {params : Arguments} {body : Expr} {scope : Scope} {q : Str} {cl0 : List (Str × Addr)} {p lpos kpos pos : Pos}
    (Fn : ∀ f c', COk X.prog X.w X.K X.mg X.base CX0 k f (CF.l ⟨"<lambda>", q, params, [], scope, cloFrom cl0 scope.names [], c'⟩ body) ps fr sp) (cp : X.Ok → NdefX.Caps X (cloFrom cl0 scope.names []) fr js) (hr : Room (k + 2) X.A) (hc : X.calm = true)
    (TB : TabB X.base X.mg c P) (hcode : X.env.code = .ref c) (hm : (P, nm) ∈ TbC.T) (hn : nm lpos.line lpos.col = q) (hq : X.env.qual ++ "<lambda>" = q) (hu : ∀ p ∈ TbC.T, p.1 = P → p.2 = nm) (hdef : defaultsOf params X.env = ([], [])) (hfree : X.Ok → ∀ y ∈ scope.names, y.2 = .free → ∃ c, X.env.cells.lookup y.1 = some c) (hcl : X.env.cells = cl0)
    (hg : Gl X "min") (hmg : X.mg "min" = none) (he : PE X e te)
    (na : starEach [e] X.env = (false, eval e X.env) :: starEach [] X.env := by rfl) (na2 : backTo pos (starEach [e] X.env) = (false, eval e X.env) :: backTo pos (starEach [] X.env) := by rfl) (hpl : (backTo pos (starEach [e] X.env)).any (·.1) = false := by rfl) :
    PE X (.Call (.Name "min" p) [e] [⟨some "key", .Lambda params body scope lpos, kpos⟩] pos) (tMinL (fun c' => CF.l ⟨"<lambda>", q, params, [], scope, cloFrom cl0 scope.names [], c'⟩ body) js sp X.K te) := by
  subst hcl
  refine ⟨fun pins s σ H Q I h => ?_⟩
  refine wpAny_Call_Name_kw (ld_blt I hg hmg boot_min ?_)
  refine PyProof.Rows.callWith_kw (args_cons (thn (he.run pins s σ H _ I h) fun xv s1 ⟨v, H1, I1, r1, hT, l, x0, xs, key, ev, hJ⟩ => args_nil ?_) na) na2 hpl
  subst ev
  obtain rfl : xv = Value.ref l := r1
  show wpAny _ _ (evalAll ((do let v ← eval (.Lambda params body scope lpos) X.env; standAt pos; pure v) :: [])) _ _ s1
  refine wpAny_evalAll_cons (wpAny_bind (lam_makeN I1 TB hcode hm hn hq hu hT hdef (hfree I1.ok) fun f c' H2 s2 I2 eN nn T2 f0 f1 c1 => wpAny_bind (wpAny_standAt (wpAny_pure ?_))))
  refine wpAny_evalAll_nil ?_
  obtain ⟨J, j0, turn, hl, fin⟩ := hJ f c' H2 eN nn T2 f0 f1 c1
  exact min_run (mk := fun c' => CF.l ⟨"<lambda>", q, params, [], scope, cloFrom X.env.cells scope.names [], c'⟩ body) (Fn f c') rfl cp hr (I2.ok.hd hc) I2 j0 turn hl fin
end
section
variable [TbC] {X : Cx} {K : PySem.W.Frag} {k : Nat} {ps fr : List Str} {js : List Nat} {sp : List (Option V) → Sp}
/-- .. the lambda at L, of the def that runs -/
theorem pe_minLC {L e : Expr} {te : TE} {c P : Addr} {q : Str} {cl0 : List (Str × Addr)} {p lpos kpos pos : Pos} (hK : X.K = K) (hL : L = .Lambda (lamArgs L) (lamBody L) (lamScope L) lpos)
    (Fn : ∀ f c', COk X.prog X.w X.K X.mg X.base CX0 k f (CF.l ⟨"<lambda>", q, lamArgs L, [], lamScope L, cloFrom cl0 (lamScope L).names [], c'⟩ (lamBody L)) ps fr sp) (hB : NdefX.ndefB X.env.scope (lamScope L) fr = true) (hjs : js.map (fun j => X.N[j]?) = fr.map some) (hcl : X.env.cells = cl0) (hr : Room (k + 2) X.A) (hc : X.calm = true)
    (TB : TabB X.base X.mg c P) (hcode : X.env.code = .ref c) (hm : (P, fun _ _ => q) ∈ TbC.T) (hu : ∀ p ∈ TbC.T, p.1 = P → p.2 = fun _ _ => q) (hq : X.env.qual ++ "<lambda>" = q) (hdef : defaultsOf (lamArgs L) X.env = ([], []))
    (hg : Gl X "min") (hmg : X.mg "min" = none) (he : PE X e te)
    (na : starEach [e] X.env = (false, eval e X.env) :: starEach [] X.env := by rfl) (na2 : backTo pos (starEach [e] X.env) = (false, eval e X.env) :: backTo pos (starEach [] X.env) := by rfl) (hpl : (backTo pos (starEach [e] X.env)).any (·.1) = false := by rfl) :
    PE X (.Call (.Name "min" p) [e] [⟨some "key", L, kpos⟩] pos) (tMinL (fun c' => CF.l ⟨"<lambda>", q, lamArgs L, [], lamScope L, cloFrom cl0 (lamScope L).names [], c'⟩ (lamBody L)) js sp K te) := by
  subst hK
  have z := pe_minL (cl0 := cl0) (nm := fun _ _ => q) (kpos := kpos) (lpos := lpos) (pos := pos) (p := p) Fn (fun ok => by
    subst hcl
    exact NdefX.Caps.made ok (NdefX.ndef_free hB) (NdefX.ndef_fr hB) hjs) hr hc TB hcode hm rfl hq hu hdef (fun ok y hy e => (NdefX.ndef_free hB y hy e).elim (fun z => ok.has _ (.inl z)) fun z => ok.has _ (.inr z)) hcl hg hmg he na na2 hpl
  rw [← hL] at z
  exact z
end
section
variable [TbC] {K : PySem.W.Frag} {ρ : Env} {ta : TE}
/-- a function has been made -/
theorem gr_fn {Hs H H1 : Hp} {f c' : Addr} {F : CF} {q : Str} (ex : Ex Hs H) (nt : NT Hs) (eN : LamX.ExtN H H1) (dm : ∀ b, H1 b = none → H b = none) (T1 : NdefX.TabsN TbC.T H1) (f0 : H f = none) (f1 : H1 f = some (F.ob f)) (c1 : H1 c' = some (CodeO c' q)) :
    Gr Hs H H (fun a => if a = f ∨ a = c' then H1 a else Hs a) H1 := by
  have old : ∀ a o, Hs a = some o → H1 a = some o := fun a o z => eN a o (ex a o z) fun ps z2 => nt a ps (by rw [z, z2])
  refine ⟨eN, fun a o z => ?_, fun a o z => ?_, fun a z => ?_, fun a z y => z (dm a y), fun a z y => z (dm a y), fun a z => ?_, fun _ a ps z => ?_, fun _ => T1⟩
  · show (if a = f ∨ a = c' then H1 a else Hs a) = some o
    split
    · exact old a o z
    · exact z
  · have z : (if a = f ∨ a = c' then H1 a else Hs a) = some o := z
    split at z
    · exact z
    · exact old a o z
  · show (if a = f ∨ a = c' then H1 a else Hs a) = Hs a
    obtain ⟨o, e1, e2⟩ := z
    refine if_neg fun y => ?_
    have e3 := eN a o e1 (pln_tbl e2)
    rcases y with y | y
    · rw [y, f0] at e1
      cases e1
    · rw [y, c1] at e3
      cases e3
      cases e2
  · obtain ⟨o, e1, e2⟩ := z
    exact ⟨o, eN a o e1 (pln_tbl e2), e2⟩
  · have z : (if a = f ∨ a = c' then H1 a else Hs a) = some (.tbl ps) := z
    split at z
    · rename_i y
      rcases y with y | y
      · rw [y, f1] at z
        cases z
      · rw [y, c1] at z
        cases z
    · exact nt a ps z
/-- min(list, key=lambda) on deep data -/
theorem ev_minLam {mk : Addr → CF} {js : List Nat} {cs : List D} {α : Type} {pre : α → Prop} {arg cap : α → List D} {res : α → D} {x0 : Int} {xs : List Int} {key : Int → List Int} (x : Int → α) (hj : js.map (fun j => ρ[j]?) = cs.map (fun d => some (some (.sh d))))
    (hx : ∀ i ∈ x0 :: xs, arg (x i) = [.int i] ∧ cap (x i) = cs ∧ pre (x i) ∧ res (x i) = .tup ((key i).map .int)) (hc : ∀ c, (mk c).c = c) (ht : EvB K ta ρ ((x0 :: xs).map .int)) :
    EvD K (tMinL mk js (spN_ (spCl K pre arg cap res)) K ta) ρ (.int (bestOf key x0 xs)) := fun B Hs H σ r Q q =>
  ht B Hs H σ r _ fun Hs1 H1 p vs g1 hp y1 => by
    have r1 := r.grow g1
    obtain ⟨us, e1, e2⟩ := r1.gets hj
    have e := y1.ints
    subst e
    refine ⟨r1.tb.2, p, x0, xs, key, rfl, fun f c' H2 eN dm T2 f0 f1 c1 => ?_⟩
    have g2 := gr_fn r1.ex r1.tb.1 eN dm T2 f0 f1 c1
    have r2 := r1.grow g2
    refine ⟨fun H3 => ∃ Hs3, Gr (fun a => if a = f ∨ a = c' then H2 a else Hs1 a) H2 H2 Hs3 H3, ⟨_, Gr.refl g2.lv⟩, ?_, ?_, ?_⟩
    · rintro i hi H3 ⟨Hs3, g⟩
      obtain ⟨x1, x2, x3, x4⟩ := hx i hi
      refine ⟨g.fr _ _ f1 CF.ne, ?_, us, e1, Hs3, x i, ⟨g.lv, (r2.grow g).tb⟩, ?_, ?_, x3, ?_⟩
      · refine g.fr _ _ ?_ LamX.codeO_ne
        rw [hc c', c1]
      · rw [x1]
        exact .cons (.int _) .nil
      · rw [x2]
        exact e2.mono (g2.sh.trans g.sh)
      · intro Hs' H' w g3 y
        refine ⟨⟨Hs', g.trans g3⟩, fun b vs e => g3.fr.pl e, ?_⟩
        rw [x4] at y
        cases y with
        | tup a b =>
          have := RepL.ints b
          subst this
          exact ⟨_, rfl, g3.lv _ _ a⟩
    · rintro H3 ⟨Hs3, g⟩
      exact g.fr.sl (g2.fr.sl hp)
    · rintro H3 ⟨Hs3, g⟩
      exact q Hs3 H3 _ ((g1.trans g2).trans g) (.int _)
end
end DL

/-! DIoe: a number that an in-out call gives, stored anywhere; for over what an in-out call gives. -/
namespace DL
open PySem L2
variable [TbC]
section
variable {K : PySem.W.Frag} {ρ ρ' : Env} {te : TE} {R : DEnds}
/-- the value is a number: then as if it were written -/
theorem xs_asgI {g : TG} {Z : D → Env → Prop} (h : EvE K te ρ Z) (q : ∀ d ρ', Z d ρ' → ∃ i : Int, d = .int i ∧ ExS K (tAsg (tC (.int i)) g) ρ' R) : ExS K (tAsg te g) ρ R := fun B Hs H σ Dn r l =>
  h B Hs H σ r _ fun Hs' H' v d ρ' e r' x z => by
    obtain ⟨i, rfl, hq⟩ := q d ρ' z
    cases x
    exact hq B Hs' H' σ Dn r' l
/-- for .. in f(..): f(..) in-out, a list -/
theorem xs_forE {g : TG} {tb : TS} {Z : D → Env → Prop} (h : EvE K te ρ Z) (q : ∀ d ρ', Z d ρ' → ∃ (ds : List D) (I : Nat → Env → Prop), d = .lst ds ∧ I 0 ρ' ∧
    (∀ k d ρ1, ds[k]? = some d → I k ρ1 → ∃ ρ2, EvG K g d ρ1 ρ2 ∧ ExS K tb ρ2 { R with nx := I (k + 1), ct := I (k + 1), bk := R.nx }) ∧ ∀ ρ1, I ds.length ρ1 → R.nx ρ1) : ExS K (tFor (iSeq K te) g tb) ρ R := fun B Hs H σ Dn r l =>
  h B Hs H σ r _ fun Hs1 H1 v d ρ' e1 r1 x z => by
    obtain ⟨ds, I, rfl, h0, hs, hd⟩ := q d ρ' z
    cases x with
    | @lst p vs _ hp' xs =>
    have hp : SqL K Hs1 p vs := .of hp'
    refine ⟨p, rfl, .inl ⟨⟨vs, (show Ex Hs1 H1 from r1.ex).n.sl hp⟩, ?_⟩⟩
    refine ⟨fun i m σ H => m = ds.length - i ∧ i ≤ ds.length ∧ ∃ Hs2 ρ1, RS K B Hs2 H σ ρ1 ∧ Ex Hs1 Hs2 ∧ I i ρ1, ⟨ds.length, rfl, Nat.zero_le _, Hs1, ρ', r1, Ex.refl _, h0⟩, ?_⟩
    rintro i m σ2 H2 ⟨rfl, hi, Hs2, ρ1, r2, e2, hI⟩
    have hq := (e2.trans r2.ex).sl hp
    by_cases hlt : i < ds.length
    · have hget := List.getElem?_eq_getElem hlt
      obtain ⟨u, hu, xu⟩ := xs.at hget
      refine .inr ⟨⟨vs, u, hq, hu⟩, fun σ' H' => ∃ Hs3 ρ3, RS K B Hs3 H' σ' ρ3 ∧ Ex Hs1 Hs3 ∧ I (i + 1) ρ3, fun σ' H' ⟨Hs3, ρ3, r3, e3, i3⟩ => ⟨ds.length - (i + 1), by omega, rfl, hlt, Hs3, ρ3, r3, e3, i3⟩, fun x H3 y => ?_⟩
      obtain ⟨rfl, y⟩ := y
      have z2 := y vs hq
      rw [hu] at z2
      cases z2
      obtain ⟨ρ2, hg, hx⟩ := hs i _ ρ1 hget hI
      refine hg B Hs2 _ σ2 _ r2 (xu.mono e2) _ fun Hs4 H4 σ4 g4 r4 => ?_
      have e4 : Ex Hs1 Hs4 := e2.trans g4.sh
      exact hx.run r4 (fun Hs5 H5 σ5 ρ5 e5 r5 q => ⟨Hs5, ρ5, r5, e4.trans e5, q⟩) l.rt l.rf (fun Hs5 H5 σ5 ρ5 e5 r5 q => l.nx Hs5 H5 σ5 ρ5 r5 q) (fun Hs5 H5 σ5 ρ5 e5 r5 q => ⟨Hs5, ρ5, r5, e4.trans e5, q⟩) (fun Hs5 H5 σ5 ρ5 v d e5 r5 x q => l.ro Hs5 H5 σ5 ρ5 v d r5 x q) (fun Hs5 H5 σ5 ρ5 cls dd fs e5 r5 x q => l.ex Hs5 H5 σ5 ρ5 cls dd fs r5 x q) l.rn
    · have e : i = ds.length := by omega
      subst e
      exact .inl ⟨⟨vs, hq, by rw [xs.length]; exact Nat.le_refl _⟩, l.nx Hs2 H2 σ2 ρ1 r2 (hd ρ1 hI)⟩
/-- a slot told otherwise: the same value, the same region -/
theorem RS.retell {B : Base} {Hs H : Hp} {σ : St} {i : Nat} {sv sv' : SV} (r : RS K B Hs H σ ρ) (hi : ρ[i]? = some (some sv)) (h : ∀ R0 v, Holds K Hs R0 v sv → (sv.nw = true → ∀ a, R0 a ≠ none → B.h a = none) → Holds K Hs R0 v sv' ∧ (sv'.nw = true → ∀ a, R0 a ≠ none → B.h a = none)) :
    RS K B Hs H σ (ρ.set i (some sv')) := by
  obtain ⟨R, h1, h2, h3, h4⟩ := r.reg
  have hl := (List.getElem?_eq_some_iff.mp hi).1
  obtain ⟨v, hv, hh⟩ := h1 i sv hi
  obtain ⟨k1, k2⟩ := h (R i) v hh (fun n a => h4 i sv a hi n)
  refine ⟨r.gr, by rw [List.length_set]; exact r.len, R, fun j u e => ?_, h2, h3, fun j u a e n => ?_⟩
  · by_cases q : j = i
    · subst q
      rw [List.getElem?_set_self hl] at e
      cases e
      exact ⟨v, hv, k1⟩
    · rw [List.getElem?_set_ne (Ne.symm q)] at e
      exact h1 j u e
  · by_cases q : j = i
    · subst q
      rw [List.getElem?_set_self hl] at e
      cases e
      exact k2 n a
    · rw [List.getElem?_set_ne (Ne.symm q)] at e
      exact h4 j u a e n
/-- the slot's value is named -/
theorem xs_pin {ts : TS} (i : Nat) {b : Bool} {o : O} (hi : ρ[i]? = some (some (.tr K ⟨b, none⟩ o))) (h : ∀ v, ExS K ts (ρ.set i (some (.tr K ⟨b, some v⟩ o))) R) : ExS K ts ρ R := fun B Hs H σ Dn r l => by
  obtain ⟨R0, h1, _⟩ := r.reg
  obtain ⟨v, hv, _⟩ := h1 i _ hi
  refine h v B Hs H σ Dn ?_ l
  obtain ⟨R, h1, h2, h3, h4⟩ := r.reg
  have hl := (List.getElem?_eq_some_iff.mp hi).1
  refine ⟨r.gr, by rw [List.length_set]; exact r.len, R, fun j u e => ?_, h2, h3, fun j u a e n => ?_⟩
  · by_cases q : j = i
    · subst q
      rw [List.getElem?_set_self hl] at e
      cases e
      obtain ⟨v', hv', hh⟩ := h1 j _ hi
      rw [hv] at hv'
      cases hv'
      refine ⟨v, hv, fun Hs2 e2 => ⟨fun w hw => ?_, (hh Hs2 e2).2⟩⟩
      exact Option.some.inj hw
    · rw [List.getElem?_set_ne (Ne.symm q)] at e
      exact h1 j u e
  · by_cases q : j = i
    · subst q
      rw [List.getElem?_set_self hl] at e
      cases e
      exact h4 j _ a hi n
    · rw [List.getElem?_set_ne (Ne.symm q)] at e
      exact h4 j u a e n
theorem xs_unpin {ts : TS} (i : Nat) {nw : Nw} {o : O} (hi : ρ[i]? = some (some (.tr K nw o))) (h : ExS K ts (ρ.set i (some (.tr K ⟨nw.b, none⟩ o))) R) : ExS K ts ρ R := fun B Hs H σ Dn r l =>
  h B Hs H σ Dn (r.retell hi fun R0 v hh hn => ⟨fun Hs2 e2 => ⟨nopv, (hh Hs2 e2).2⟩, hn⟩) l
/-- a list of data whose value is named, and new, is new behind the call too -/
theorem EvE.renew {Z Z' : D → Env → Prop} {i : Nat} {v : V} {ds : List D} (h : EvE K te ρ Z) (hi : ρ[i]? = some (some (.tr K ⟨true, some v⟩ (.ol (ds.map .sh)))))
    (hz : ∀ d ρ', Z d ρ' → ∃ (b : Bool) (ds' : List D), ρ'[i]? = some (some (.tr K ⟨b, some v⟩ (.ol (ds'.map .sh)))) ∧ Z' d (ρ'.set i (some (.tr K ⟨true, some v⟩ (.ol (ds'.map .sh)))))) : EvE K te ρ Z' := fun B Hs H σ r Q q =>
  h B Hs H σ r Q fun Hs' H' w d ρ' e r' x z => by
    obtain ⟨b, ds', hi', z'⟩ := hz d ρ' z
    obtain ⟨R0, h1, h2, h3, h4⟩ := r.reg
    obtain ⟨v0, _, hh⟩ := h1 i _ hi
    obtain ⟨hv0, ow⟩ := hh Hs (Ex.refl Hs)
    obtain rfl : v0 = v := hv0 v rfl
    obtain ⟨a, vs, Ra, ea, nn, _, eR⟩ := ow.ol_inv
    have hn : B.h a = none := h4 i _ a hi rfl (by rw [eR, upd_same]; exact fun z => nomatch z)
    refine q Hs' H' w d _ e (r'.retell (sv' := .tr K ⟨true, some v0⟩ (.ol (ds'.map .sh))) hi' fun R1 v1 hh1 _ => ⟨fun Hs2 e2 => hh1 Hs2 e2, fun _ c hc => ?_⟩) x z'
    obtain ⟨hv1, ow1⟩ := hh1 Hs' (Ex.refl Hs')
    obtain rfl : v1 = v0 := hv1 v0 rfl
    obtain ⟨a', vs', Ra', ea', nn', hl', eR'⟩ := ow1.ol_inv
    obtain ⟨_, eRa⟩ := hl'.reps
    rw [ea] at ea'
    cases ea'
    by_cases q : c = a
    · rw [q]
      exact hn
    · rw [eR', upd_ne q, eRa] at hc
      exact absurd rfl hc
theorem ev_notInC {α : Type} [DecidableEq α] {n : Nat} {f : α → D} {ta tb : TE} (c : Cod n f) (hn : n < 64) {x : α} {xs : List α} (ha : EvR K ta ρ (f x)) (hb : EvR K tb ρ (.lst (xs.map f))) : EvD K (tOp (rNotInA K) ta tb) ρ (.bl (!decide (x ∈ xs))) := fun B Hs H σ r Q q =>
  ha B Hs H σ r _ fun Hs1 H1 x g1 x1 => hb B Hs1 H1 σ (r.grow g1) _ fun Hs2 H2 y g2 y1 => by
    have f1 := c.fit (by omega) ‹α›
    have f2 := c.lst.fit (by omega) xs
    unfold D.fit at f1 f2
    rw [Bool.and_eq_true] at f1 f2
    refine .inr (.inl ⟨_, _, (x1.monoN g2.fr).dp f1.1, y1.dp f2.1, f1.2, f2.2, ?_⟩)
    rw [any_cod c]
    exact q Hs2 H2 _ (g1.trans g2) (.bl _)
end
end DL

/-! DSto: objects of the frame's own: made, their fields written, their methods; lambdas as arguments; max(.., default=0). -/
namespace DL
open PySem L2 PySem.W LamX
open PyProof.Rows
/-! ### max(list, default=0) -/
def maxOr0 : List Int → Int
  | [] => 0
  | n :: ns => ns.foldl max n
def tMaxD (K : PySem.W.Frag) (te : TE) : TE := fun σ H Q => te σ H fun x H1 => ∃ (l : Addr) (ns : List Int), x = .ref l ∧ SqL K H1 l (ns.map V.int) ∧ Q (.int (maxOr0 ns)) H1
section
variable [TbC] {X : Cx}
theorem pe_maxD {K : PySem.W.Frag} {e dx : Expr} {te : TE} {p kpos pos : Pos} (hK : X.K = K) (hh : X.A.handled = none) (hu : X.A.units + 65 < cLine) (hg : Gl X "max") (hmg : X.mg "max" = none) (he : PE X e te) (hd : PE X dx (tC (.int 0)))
    (na : starEach [e] X.env = (false, eval e X.env) :: starEach [] X.env := by rfl) (na2 : backTo pos (starEach [e] X.env) = (false, eval e X.env) :: backTo pos (starEach [] X.env) := by rfl) (hpl : (backTo pos (starEach [e] X.env)).any (·.1) = false := by rfl)
    (hk : (backToKw pos (keywordEach [⟨some "default", dx, kpos⟩] X.env)).map (·.2) = [do let v ← eval dx X.env; standAt pos; pure v] := by rfl) :
    PE X (.Call (.Name "max" p) [e] [⟨some "default", dx, kpos⟩] pos) (tMaxD K te) := by
  subst hK
  refine ⟨fun pins s σ H Q I h => ?_⟩
  refine wpAny_Call_Name_kw (ld_blt I hg hmg boot_max ?_)
  refine PyProof.Rows.callWith_kw (args_cons (thn (he.run pins s σ H _ I h) fun xv s1 ⟨v, H1, I1, r1, l, ns, ev, hs, q⟩ => args_nil ?_) na) na2 hpl
  subst ev
  obtain rfl : xv = Value.ref l := r1
  show wpAny _ _ (evalAll ((do let v ← eval dx X.env; standAt pos; pure v) :: [])) _ _ s1
  refine wpAny_evalAll_cons (wpAny_bind (thn (hd.run pins s1 σ H1 (fun v H2 => v = .int 0 ∧ H2 = H1) I1 ⟨rfl, rfl⟩) fun dv s2 ⟨v, H2, I2, r2, ev, eH⟩ => wpAny_bind (wpAny_standAt (wpAny_pure ?_))))
  subst ev
  subst eH
  refine wpAny_evalAll_nil ?_
  obtain ⟨its, rv, p1, _⟩ := I2.list hs
  have hL := p1.isList
  have R := reads_ints (h := s2.heap) rv
  have hi : ∀ y ∈ ns.map PyData.int, ∃ i, y = .int i := fun y hy => by
    obtain ⟨i, _, rfl⟩ := List.mem_map.mp hy
    exact ⟨i, rfl⟩
  have dp : ∀ ms : List Int, PyData.depthAll (ms.map .int) ≤ 2 := fun ms => by
    induction ms with
    | nil => exact Nat.zero_le _
    | cons m ms ih =>
      show PyData.depthAll (PyData.int m :: ms.map PyData.int) ≤ 2
      unfold PyData.depthAll
      have : (PyData.int m).depth ≤ 2 := by unfold PyData.depth; omega
      omega
  refine max_list_default hh hL (xs := ns.map PyData.int) (by simpa using R) ⟨fun x hx y hy => ?_, fun x hx => ?_⟩ (by have := dp ns; omega) (fun hz h' tk hk => ?_) (fun y ys i v h' tk bs hxs hv hr hk => ?_)
  · obtain ⟨i, rfl⟩ := hi x hx
    obtain ⟨j, rfl⟩ := hi y hy
    rfl
  · obtain ⟨i, rfl⟩ := hi x hx
    intro z
    cases z
  · have e : ns = [] := by simpa using hz
    subst e
    exact ⟨.int 0, H2, I2.kept hk, r2, q⟩
  · cases ns with
    | nil => cases hxs
    | cons n ns =>
      have e1 : PyData.int n = y ∧ ns.map PyData.int = ys := by simpa using hxs
      obtain ⟨rfl, rfl⟩ := e1
      rw [maxD_ints] at hr
      cases hr
      exact ⟨.int (maxOr0 (n :: ns)), H2, I2.kept hk, ⟨_, rfl⟩, q⟩
end
section
variable [TbC] {K : PySem.W.Frag} {ρ ρ' : Env} {te ta tb tv : TE} {d e : D} {ds es : List D} {R : DEnds}
theorem ev_maxD {ns : List Int} (h : EvB K ta ρ (ns.map .int)) : EvD K (tMaxD K ta) ρ (.int (maxOr0 ns)) := fun B Hs H σ r Q q =>
  h B Hs H σ r _ fun Hs1 H1 p vs g1 hp y1 => by
    have e := y1.ints
    subst e
    exact ⟨p, ns, rfl, hp, q Hs1 H1 _ g1 (.int _)⟩
end
/-! ### a lambda as an argument -/
section
variable [TbC] {X : Cx}
def tLam (mk : Addr → CF) : TE := fun σ H Q => NdefX.TabsN TbC.T H ∧ ∀ (f c' : Addr) (H1 : Hp), LamX.ExtN H H1 → (∀ b, H1 b = none → H b = none) → NdefX.TabsN TbC.T H1 → H f = none → H1 f = some ((mk c').ob f) → H1 c' = some (CodeO c' (mk c').qual) → Q (.ref f) H1
theorem pe_lam {L : Expr} {fr : List Str} {c P : Addr} {q : Str} {cl0 : List (Str × Addr)} {lpos : Pos} (hL : L = .Lambda (lamArgs L) (lamBody L) (lamScope L) lpos) (hB : NdefX.ndefB X.env.scope (lamScope L) fr = true) (hcl : X.env.cells = cl0)
    (TB : TabB X.base X.mg c P) (hcode : X.env.code = .ref c) (hm : (P, fun _ _ => q) ∈ TbC.T) (hu : ∀ p ∈ TbC.T, p.1 = P → p.2 = fun _ _ => q) (hq : X.env.qual ++ "<lambda>" = q) (hdef : defaultsOf (lamArgs L) X.env = ([], [])) :
    PE X L (tLam (fun c' => CF.l ⟨"<lambda>", q, lamArgs L, [], lamScope L, cloFrom cl0 (lamScope L).names [], c'⟩ (lamBody L))) := by
  subst hcl
  refine ⟨fun pins s σ H Q I h => ?_⟩
  rw [hL]
  refine lam_makeN (nm := fun _ _ => q) (q := q) I TB hcode hm rfl hq hu h.1 hdef (fun y hy e => (NdefX.ndef_free hB y hy e).elim (fun z => I.ok.has _ (.inl z)) fun z => I.ok.has _ (.inr z)) fun f c' H1 s' I' eN dm T1 f0 f1 c1 => ?_
  exact ⟨.ref f, H1, I', rfl, h.2 f c' H1 eN dm T1 f0 f1 c1⟩
end
theorem capsL {X : Cx} {L : Expr} {fr : List Str} {js : List Nat} {cl0 : List (Str × Addr)} (hB : NdefX.ndefB X.env.scope (lamScope L) fr = true) (hjs : js.map (fun j => X.N[j]?) = fr.map some) (hcl : X.env.cells = cl0) (ok : X.Ok) : NdefX.Caps X (cloFrom cl0 (lamScope L).names []) fr js := by
  subst hcl
  exact NdefX.Caps.made ok (NdefX.ndef_free hB) (NdefX.ndef_fr hB) hjs
section
variable [TbC] {K : PySem.W.Frag} {ρ ρ' : Env} {te ta tb tv : TE} {d e : D} {ds es : List D} {R : DEnds} {B : Base} {Hs H Hs' H' : Hp} {σ : L2.St}
/-- arguments: their data is one that P tells -/
def EvAx (K : PySem.W.Frag) (ta : TA) (ρ : Env) (P : List D → Prop) : Prop := ∀ B Hs H σ, RS K B Hs H σ ρ → ∀ Q : List V → Hp → Prop, (∀ Hs' H' vs ds, Gr Hs H H Hs' H' → RepL K Hs' vs ds → P ds → Q vs H') → ta σ H Q
theorem eax_cons {t : TA} {P : List D → Prop} (h : EvD K te ρ d) (hs : EvAx K t ρ P) : EvAx K (tCons te t) ρ (fun ds => ∃ ds', ds = d :: ds' ∧ P ds') := fun B Hs H σ r Q q =>
  h B Hs H σ r _ fun Hs1 H1 v g1 x => hs B Hs1 H1 σ (r.grow g1) _ fun Hs2 H2 vs ds g2 xs p => q Hs2 H2 _ _ (g1.trans g2) (.cons (x.mono g2.sh) xs) ⟨ds, rfl, p⟩
theorem eax_lam {mk : Addr → CF} (hc : ∀ c, (mk c).c = c) : EvAx K (tCons (tLam mk) tNil) ρ (fun ds => ∃ c, ds = [.clo (mk c) [] []]) := fun B Hs H σ r Q q => by
  refine ⟨r.tb.2, fun f c' H1 eN dm T1 f0 f1 c1 => ?_⟩
  have g := gr_fn r.ex r.tb.1 eN dm T1 f0 f1 c1
  refine q _ H1 _ _ g (.cons (.clo ?_ ?_ .nil) .nil) ⟨c', rfl⟩
  · show (if f = f ∨ f = c' then H1 f else Hs f) = _
    rw [if_pos (.inl rfl)]
    exact f1
  · rw [hc]
    show (if c' = f ∨ c' = c' then H1 c' else Hs c') = _
    rw [if_pos (.inr rfl)]
    exact c1
/-- o.m(.., lambda): what the lambda captures is shared -/
theorem ev_methUx {C : Addr} {ns : List Str} {cs : List D} {js : List Nat} {alts : List V → List (Addr × Sp)} {m : Str} {E : XK} {t : TA} {P : List D → Prop} {α : Type} {pre : α → Prop} {arg : List V → α → List D} {res : α → D} (x : List D → α) (h : EvD K ta ρ (.obj C ns ds)) (ht : EvAx K t ρ P) (hj : js.map (fun j => ρ[j]?) = cs.map (fun d => some (some (.sh d)))) (hin : ∀ us, (C, spG K pre (arg us) res) ∈ alts us) (hm : ns.contains m = false)
    (ha : ∀ us es, P es → arg us (x es) = .obj C ns ds :: es.map (dress us cs)) (p : ∀ es, P es → pre (x es)) (hr : ∀ es, P es → res (x es) = d) : EvD K (tMethU js alts m E ta t) ρ d := fun B Hs H σ r Q q =>
  h B Hs H σ r _ fun Hs1 H1 v g1 xo => by
    cases xo with
    | @obj a _ dx _ vs _ hp xs =>
      obtain ⟨us, e1, e2⟩ := r.gets hj
      refine ⟨a, C, dx, _, us, _, rfl, g1.lv _ _ hp, e1, hin us, look_none hm, ht B Hs1 H1 σ (r.grow g1) _ fun Hs2 H2 ws es g2 ys pe => ?_⟩
      refine ⟨Hs2, x es, ⟨g2.lv, (r.grow (g1.trans g2)).tb⟩, by rw [ha us es pe]; exact .cons (.obj (g2.sh _ _ hp) (xs.mono g2.sh)) (RepL.dress (e2.mono (g1.trans g2).sh) ys), p es pe, fun Hs' H' w d' g y e => ?_⟩
      exact q Hs' H' w ((g1.trans g2).trans g) (by rw [← hr es pe]; exact e ▸ y)
/-! ### methods of an object of the frame's own -/
theorem ev_methB {α : Type} {pre : α → Prop} {arg : α → List AV} {post : α → D → List AV → Prop} {exc : α → Value → Option (List (Str × D)) → List AV → Prop} {alts : List (Addr × Sp)} {m : Str} {i : Nat} {nw : Nw} {C : Addr} {ns : List Str} {xs : List O} {ar : List AR} {t : TA} {E : XK} (x : α)
    (hi : ρ[i]? = some (some (.tr K nw (.ob C ns xs)))) (ht : EvAS K t ρ ar) (hin : (C, spB K pre arg post exc) ∈ alts) (hm : ns.contains m = false) (ha : ArgOk K ρ (.inr (i, nw) :: ar) (arg x)) (p : pre x) (sep : sepB (.inr (i, nw) :: ar) = true := by rfl)
    (sh : ∀ d as, post x d as → Shp (.inr (i, nw) :: ar) as) (hx : ∀ cls fs as, ¬ exc x cls fs as) :
    EvE K (tMethD alts m E (tVar i) t) ρ (fun d ρ' => ∃ as, post x d as ∧ ρ' = back K (allOf (.inr (i, nw) :: ar)) (.inr (i, nw) :: ar) as ρ) := fun B Hs H σ r Q q => by
  obtain ⟨R0, rg0⟩ := r.reg
  obtain ⟨v0, hv0, hh⟩ := rg0.1 i _ hi
  obtain ⟨a, dx, vs0, R1, rfl, _, _, _, e0⟩ := (hh Hs (Ex.refl Hs)).2.ob_inv
  have hHa : H a = some (.ins C dx (ns.zip vs0)) := (rg0.2.1 i a _ (by rw [e0]; exact upd_same)).1
  refine ⟨.ref a, hv0, a, C, dx, _, _, rfl, hHa, hin, look_none hm, ht B Hs H σ r _ fun Hs1 H1 vs g xs1 => ?_⟩
  have r1 := r.grow g
  obtain ⟨R, rg⟩ := r1.reg
  have hv : VsOk K Hs1 σ (.ref a :: vs) (.inr (i, nw) :: ar) := ⟨hv0, xs1⟩
  refine ⟨Hs1, x, _, ⟨g.lv, r1.tb⟩, r1.lay rg hv ha sep, p, fun Hs' H' v d as Rs' g2 b y z => ?_, fun _ _ cls _ fs as _ _ _ _ z => (hx cls fs as z).elim⟩
  exact q Hs' H' v d _ (g.sh.trans g2.sh) (r1.behind rg hv ha sep (sh d as z) g2 b) y ⟨as, z, rfl⟩
/-! ### fields of an object of the frame's own -/
theorem putF_at {f : Str} {y : V} : ∀ {ns : List Str} {vs : List V} {j : Nat}, ns.findIdx? (· == f) = some j → ns.length = vs.length → putF f y (ns.zip vs) = ns.zip (vs.set j y)
  | [], vs, j, h, _ => by simp at h
  | n :: ns, [], j, _, hl => by simp at hl
  | n :: ns, v :: vs, j, h, hl => by
    rw [List.findIdx?_cons] at h
    rw [List.zip_cons_cons]
    unfold putF
    by_cases e : (n == f) = true
    · rw [if_pos e] at h
      have h' := Option.some.inj h
      subst h'
      rw [if_pos (eq_of_beq e), List.set_cons_zero, List.zip_cons_cons]
    · rw [if_neg e] at h
      obtain ⟨k, hk, rfl⟩ := Option.map_eq_some_iff.mp h
      rw [if_neg (fun z => e (by rw [z]; exact beq_self_eq_true _)), List.set_cons_succ, List.zip_cons_cons, putF_at hk (by simpa using hl)]
theorem putF_new {f : Str} {y : V} : ∀ {ns : List Str} {vs : List V}, ns.contains f = false → ns.length = vs.length → putF f y (ns.zip vs) = (ns ++ [f]).zip (vs ++ [y])
  | [], [], _, _ => rfl
  | [], _ :: _, _, hl => by simp at hl
  | n :: ns, [], _, hl => by simp at hl
  | n :: ns, v :: vs, h, hl => by
    rw [List.contains_cons, Bool.or_eq_false_iff] at h
    rw [List.zip_cons_cons, List.cons_append, List.cons_append, List.zip_cons_cons]
    unfold putF
    rw [if_neg (fun z => by rw [z, beq_self_eq_true] at h; cases h.1), putF_new h.2 (by simpa using hl)]
theorem findIdx_lt {f : Str} : ∀ {ns : List Str} {j : Nat}, ns.findIdx? (· == f) = some j → j < ns.length
  | [], j, h => by simp at h
  | n :: ns, j, h => by
    rw [List.findIdx?_cons] at h
    by_cases e : (n == f) = true
    · rw [if_pos e] at h
      have h' := Option.some.inj h
      subst h'
      exact Nat.succ_pos _
    · rw [if_neg e] at h
      obtain ⟨k, hk, rfl⟩ := Option.map_eq_some_iff.mp h
      have := findIdx_lt hk
      show k + 1 < ns.length + 1
      omega
section
variable {f : Str} {C : Addr} {ns : List Str} {xs : List O} {j i : Nat} {nw : Nw} {o o2 : O} {p : List Nat}
/-- t.f = d, t an object in a tree, f there already -/
theorem xs_setF (h : EvD K tv ρ d) (hw : EvW K ta ρ i p) (hi : ρ[i]? = some (some (.tr K nw o))) (hp : o.at_ p = some (.ob C ns xs)) (hj : ns.findIdx? (· == f) = some j) (hc : Cls K C) (hn : NoAttr K C f) (hl : ns.length < 1000) (q : R.nx (ρ.set i (some (.tr K nw (o.put p (.ob C ns (xs.set j (.sh d)))))))) :
    ExS K (sFld K ta tv f) ρ R := fun B Hs0 H0 σ Dn r0 l =>
  h B Hs0 H0 σ r0 _ fun Hs H w g0 y => by
    refine hw B Hs H σ (r0.grow g0) _ fun Hs1 H1 v0 v g hv va => ?_
    have r1 := (r0.grow g0).grow g
    obtain ⟨R1, rg1⟩ := r1.reg
    obtain ⟨v0', v1, S, hv', va', ow, sub, kk⟩ := r1.part rg1 hi hp
    rw [hv] at hv'
    cases hv'
    have e := va.det va'
    subst e
    obtain ⟨a, dx, vs, Ra, rfl, nn, hlen, hl', rfl⟩ := ow.ob_inv
    have ha := (sub a _ upd_same).1
    have hvl := hl'.length
    have hjl : j < xs.length := by have := findIdx_lt hj; omega
    obtain ⟨u, S1, T1, e1, o1, d1, eR, k1⟩ := hl'.split (j := j) (List.getElem?_eq_getElem hjl)
    have own2 := k1 (Ex.refl _) (v' := w) (o' := .sh d) (S' := em) (.sh (y.mono g.sh)) (fun a h => absurd rfl h)
    rw [jn_em] at own2
    have nT : T1 a = none := by
      rw [eR] at nn
      exact (jn_none.mp nn).2
    refine ⟨a, C, dx, _, rfl, ha, hc, hn, by rw [List.length_zip]; omega, l.nx Hs1 _ _ _ (kk (S' := upd T1 a (.ins C dx (ns.zip (vs.set j w)))) (o' := .ob C ns (xs.set j (.sh d))) (.ob nT (by rw [List.length_set]; exact hlen) own2) (fun b u' z => ?_) (fun b u' z e => ?_) (fun b e => upd_keep ha e) Ch.upd) q⟩
    · rw [putF_at hj (by omega)]
      by_cases eb : b = a
      · subst eb
        rw [upd_same] at z ⊢
        exact ⟨z, .inl (by rw [upd_same]; exact fun q => nomatch q)⟩
      · rw [upd_ne eb] at z ⊢
        have zR : Ra b = some u' := by
          rw [eR]
          cases y1 : S1 b with
          | none => rw [jn_r y1]; exact z
          | some w' =>
            have := d1 b (by rw [y1]; exact fun q => nomatch q)
            rw [z] at this
            cases this
        have zS : upd Ra a (.ins C dx (ns.zip vs)) b = some u' := by rw [upd_ne eb]; exact zR
        exact ⟨(sub b u' zS).1, .inl (by rw [zS]; exact fun q => nomatch q)⟩
    · by_cases eb : b = a
      · subst eb
        rw [upd_same] at z
        cases z
      · rw [upd_ne eb]
        exact e
/-- t.f = a new tree, f not there yet -/
theorem xs_addF (h : EvN K tv ρ o2) (hw : EvW K ta ρ i p) (hi : ρ[i]? = some (some (.tr K nw o))) (hp : o.at_ p = some (.ob C ns xs)) (hf : ns.contains f = false) (hc : Cls K C) (hn : NoAttr K C f) (hl : ns.length < 1000) (q : R.nx (ρ.set i (some (.tr K nw (o.put p (.ob C (ns ++ [f]) (xs ++ [o2]))))))) :
    ExS K (sFld K ta tv f) ρ R := fun B Hs0 H0 σ Dn r0 l =>
  h B Hs0 H0 σ r0 _ fun Hs H w Sn g0 own subn => by
    obtain ⟨R0, rg0⟩ := r0.reg
    refine hw B Hs H σ (r0.grow g0) _ fun Hs1 H1 v0 v g hv va => ?_
    have r1 := (r0.grow g0).grow g
    have rg1 : Reg K B Hs1 H1 σ ρ R0 := Reg.grow (Reg.grow rg0 g0) g
    obtain ⟨v0', v1, S, hv', va', ow, sub, kk⟩ := r1.part rg1 hi hp
    rw [hv] at hv'
    cases hv'
    have e := va.det va'
    subst e
    obtain ⟨a, dx, vs, Ra, rfl, nn, hlen, hl', rfl⟩ := ow.ob_inv
    have ha := (sub a _ upd_same).1
    have hvl := hl'.length
    have sub1 : ∀ b u, Sn b = some u → H1 b = some u ∧ Fresh B Hs1 R0 b := fun b u z => by
      obtain ⟨z1, z2, z3⟩ := subn b u z
      have pl := own.pl b u z
      exact ⟨g.fr.pl z1 pl, (r0.fresh rg0 z2).grow (by rw [g.nw b (.of z1 pl)]; exact z3)⟩
    have disj : ∀ b, Sn b ≠ none → upd Ra a (.ins C dx (ns.zip vs)) b = none := fun b hb => by
      cases z : Sn b with
      | none => exact absurd z hb
      | some u =>
        cases y : upd Ra a (.ins C dx (ns.zip vs)) b with
        | none => rfl
        | some w => exact absurd ((sub1 b u z).2.1 i) (sub b w y).2.2
    have nSa : Sn a = none := by
      cases z : Sn a with
      | none => rfl
      | some u =>
        have := disj a (by rw [z]; exact fun q => nomatch q)
        rw [upd_same] at this
        cases this
    refine ⟨a, C, dx, _, rfl, ha, hc, hn, by rw [List.length_zip]; omega, l.nx Hs1 _ _ _ (kk (S' := upd (jn Sn Ra) a (.ins C dx ((ns ++ [f]).zip (vs ++ [w])))) (o' := .ob C (ns ++ [f]) (xs ++ [o2])) (.ob (jn_none.mpr ⟨nSa, nn⟩) (by rw [List.length_append, List.length_append]; show ns.length + 1 = xs.length + 1; omega) ?_) (fun b u z => ?_) (fun b u z e => ?_) (fun b e => upd_keep ha e) Ch.upd) q⟩
    · refine OwnL.snoc (own.mono g.sh) hl' fun b hb => ?_
      have := disj b hb
      by_cases eb : b = a
      · subst eb
        exact nn
      · rw [upd_ne eb] at this
        exact this
    · rw [putF_new hf (by omega)]
      by_cases eb : b = a
      · subst eb
        rw [upd_same] at z ⊢
        exact ⟨z, .inl (by rw [upd_same]; exact fun q => nomatch q)⟩
      · rw [upd_ne eb] at z ⊢
        cases y : Sn b with
        | some w' =>
          rw [jn_l y] at z
          have z' := Option.some.inj z
          subst z'
          exact ⟨(sub1 b w' y).1, .inr (sub1 b w' y).2⟩
        | none =>
          rw [jn_r y] at z
          exact ⟨(sub b u (by rw [upd_ne eb]; exact z)).1, .inl (by rw [upd_ne eb, z]; exact fun q => nomatch q)⟩
    · rw [upd_ne (fun eb => by rw [eb, upd_same] at z; cases z)]
      exact e
end
theorem EvD.n (h : EvD K te ρ d) : EvN K te ρ (.sh d) := fun B Hs H σ r Q q => h B Hs H σ r Q fun Hs' H' v g x => q Hs' H' v em g (.sh x) fun a u z => nomatch z
/-! ### an object of the frame's own is made -/
theorem make_core {B : Base} {Hs1 H1 : Hp} {σ : L2.St} {C : Addr} {dvs ws : List V} {dds : List D} {E : XK} {α : Type} {pre : α → Prop} {arg : α → List AV} {post : α → D → List AV → Prop} {exc : α → Value → Option (List (Str × D)) → List AV → Prop} (x : α) {o : O} (r1 : RS K B Hs1 H1 σ ρ) (xs : RepL K Hs1 ws ds) (hd : ∀ Hs, RepL K Hs dvs dds)
    (ha : arg x = .o (.ob C [] []) :: (ds ++ dds).map .d) (p : pre x) (sh : ∀ d as, post x d as → d = .non ∧ ∃ as', as = .o o :: as' ∧ ∀ a ∈ as', a.own = false) (hx : ∀ cls fs as, ¬ exc x cls fs as)
    (Q : VK) (q : ∀ Hs' H' v S, Gr Hs1 H1 H1 Hs' H' → Own K Hs' v o S → (∀ a u, S a = some u → H' a = some u ∧ H1 a = none ∧ Hs' a = none) → Q v H') : tMake C (spB K pre arg post exc) dvs E (fun _ H K => K ws H) σ H1 Q := fun y dx hy hdx ne => by
    have g1 := Gr.refl r1.ex
    have ny : Hs1 y = none := (gr_none (Gr.refl g1.lv) hy).2
    have ndx : Hs1 dx = none := (gr_none (Gr.refl g1.lv) hdx).2
    have hy2 : upd H1 dx (.own y) y = none := by rw [upd_ne (Ne.symm ne)]; exact hy
    have ga : Gr Hs1 H1 H1 Hs1 (upd H1 dx (.own y)) := Gr.newO g1.lv hdx
    have gb : Gr Hs1 (upd H1 dx (.own y)) (upd H1 dx (.own y)) Hs1 (upd (upd H1 dx (.own y)) y (.ins C dx [])) := Gr.newO ga.lv hy2
    have gab := ga.trans gb
    have r2 := r1.grow gab
    have hL : IsL K Hs1 (upd (upd H1 dx (.own y)) y (.ins C dx [])) (.ref y :: (ws ++ dvs)) (arg x) (fun k => if k = 0 then upd em y (.ins C dx []) else em) := by
      rw [ha]
      have hall := xs.append (hd Hs1)
      refine ⟨?_, fun i v a e1 e2 => ?_, fun i a u e => ?_, fun i k a e1 e2 => ?_⟩
      · rw [List.length_cons, List.length_cons, List.length_map, hall.length]
      · cases i with
        | zero =>
          cases e1
          cases e2
          exact Own.ob (vs := []) (ns := []) rfl rfl .nil
        | succ i =>
          rw [List.getElem?_cons_succ] at e1 e2
          rw [List.getElem?_map] at e2
          obtain ⟨d, e3, rfl⟩ := Option.map_eq_some_iff.mp e2
          obtain ⟨v', e4, e5⟩ := hall.at e3
          rw [e1] at e4
          cases e4
          exact ⟨e5, if_neg (Nat.succ_ne_zero i)⟩
      · have e : (if i = 0 then upd em y (HO.ins C dx []) else em) a = some u := e
        split at e
        · rename_i z
          by_cases ea : a = y
          · subst ea
            rw [upd_same] at e
            cases e
            exact ⟨by rw [z]; exact Nat.succ_pos _, upd_same, ny, rfl⟩
          · rw [upd_ne ea] at e
            cases e
        · cases e
      · have e1 : (if i = 0 then upd em y (HO.ins C dx []) else em) a ≠ none := e1
        have e2 : (if k = 0 then upd em y (HO.ins C dx []) else em) a ≠ none := e2
        split at e1
        · split at e2
          · omega
          · exact absurd rfl e2
        · exact absurd rfl e1
    refine ⟨Hs1, x, _, ⟨gab.lv, r2.tb⟩, hL, p, fun Hs' H' v d as Rs' g2 b z po => ?_, fun _ _ cls _ fs as _ _ _ _ z => (hx cls fs as z).elim⟩
    obtain ⟨rfl, as', rfl, hno⟩ := sh d as po
    cases z
    have cutOf : ∀ a, a ≠ y → cut (upd (upd H1 dx (.own y)) y (.ins C dx [])) (fun k => if k = 0 then upd em y (.ins C dx []) else em) a = upd (upd H1 dx (.own y)) y (.ins C dx []) a := fun a na => cut_of fun k => by
      show (if k = 0 then upd em y (HO.ins C dx []) else em) a = none
      split
      · rw [upd_ne na]; rfl
      · rfl
    have gg : Gr Hs1 H1 H1 Hs' H' := by
      refine ⟨fun a u e n => ?_, g2.sh, g2.lv, fun a z => g2.nw a (gab.dp a z), fun a z => g2.dm a (gab.dm a z), fun a z => g2.dm a (gab.dm a z), fun a z => g2.dp a (gab.dp a z), g2.nt, fun t => g2.tb (gab.tb t)⟩
      have na : a ≠ y := ne_of_none e hy
      exact g2.fr a u (by rw [cutOf a na]; exact gab.fr a u e n) n
    refine ⟨rfl, q Hs' H' (.ref y) (Rs' 0) gg (b.is 0 _ _ rfl rfl rfl) fun a u e => ?_⟩
    obtain ⟨_, e1, e2, e3, e4⟩ := b.reg 0 a u e
    refine ⟨e1, ?_, e2⟩
    have key : H1 a = none := by
      rcases e4 with ⟨k, e4⟩ | e4
      · have e4 : (if k = 0 then upd em y (HO.ins C dx []) else em) a ≠ none := e4
        split at e4
        · by_cases ea : a = y
          · rw [ea]; exact hy
          · rw [upd_ne ea] at e4
            exact absurd rfl e4
        · exact absurd rfl e4
      · cases z : H1 a with
        | none => rfl
        | some w => exact absurd e4 (gab.dm a (by rw [z]; exact fun q => nomatch q))
    exact key
theorem en_make {C : Addr} {dvs : List V} {dds : List D} {E : XK} {t : TA} {α : Type} {pre : α → Prop} {arg : α → List AV} {post : α → D → List AV → Prop} {exc : α → Value → Option (List (Str × D)) → List AV → Prop} (x : α) {o : O} (h : EvA K t ρ ds) (hd : ∀ Hs, RepL K Hs dvs dds)
    (ha : arg x = .o (.ob C [] []) :: (ds ++ dds).map .d) (p : pre x) (sh : ∀ d as, post x d as → d = .non ∧ ∃ as', as = .o o :: as' ∧ ∀ a ∈ as', a.own = false) (hx : ∀ cls fs as, ¬ exc x cls fs as) :
    EvN K (tMake C (spB K pre arg post exc) dvs E t) ρ o := fun B Hs H σ r Q q =>
  h B Hs H σ r _ fun Hs1 H1 ws g1 xs => make_core x (r.grow g1) xs hd ha p sh hx Q fun Hs' H' v S g ow c => q Hs' H' v S (g1.trans g) ow fun a u e => by
    obtain ⟨e1, e2, e3⟩ := c a u e
    exact ⟨e1, (g1.new0 e2).1, e3⟩
/-- a new tree: one of P -/
def EvNx (K : PySem.W.Frag) (te : TE) (ρ : Env) (P : O → Prop) : Prop := ∀ B Hs H σ, RS K B Hs H σ ρ → ∀ Q : VK, (∀ Hs' H' v o S, Gr Hs H H Hs' H' → Own K Hs' v o S → (∀ a u, S a = some u → H' a = some u ∧ H a = none ∧ Hs' a = none) → P o → Q v H') → te σ H Q
theorem EvNx.one {te : TE} {o : O} {P : O → Prop} (h : EvN K te ρ o) (p : P o) : EvNx K te ρ P := fun B Hs H σ r Q q => h B Hs H σ r Q fun Hs' H' v S g ow c => q Hs' H' v o S g ow c p
/-- .., among the arguments things that are told by P -/
theorem en_makeX {C : Addr} {dvs : List V} {dds : List D} {E : XK} {t : TA} {P : List D → Prop} {α : Type} {pre : α → Prop} {arg : α → List AV} {post : α → D → List AV → Prop} {exc : α → Value → Option (List (Str × D)) → List AV → Prop} (x : List D → α) {o : List D → O} (h : EvAx K t ρ P) (hd : ∀ Hs, RepL K Hs dvs dds)
    (ha : ∀ ds, P ds → arg (x ds) = .o (.ob C [] []) :: (ds ++ dds).map .d) (p : ∀ ds, P ds → pre (x ds)) (sh : ∀ ds, P ds → ∀ d as, post (x ds) d as → d = .non ∧ ∃ as', as = .o (o ds) :: as' ∧ ∀ a ∈ as', a.own = false) (hx : ∀ ds, P ds → ∀ cls fs as, ¬ exc (x ds) cls fs as) :
    EvNx K (tMake C (spB K pre arg post exc) dvs E t) ρ (fun o' => ∃ ds, P ds ∧ o' = o ds) := fun B Hs H σ r Q q =>
  h B Hs H σ r _ fun Hs1 H1 ws ds g1 xs pd => make_core (x ds) (r.grow g1) xs hd (ha ds pd) (p ds pd) (sh ds pd) (hx ds pd) Q fun Hs' H' v S g ow c => q Hs' H' v (o ds) S (g1.trans g) ow (fun a u e => by
    obtain ⟨e1, e2, e3⟩ := c a u e
    exact ⟨e1, (g1.new0 e2).1, e3⟩) ⟨ds, pd, rfl⟩
theorem xs_asgNx {te : TE} {i : Nat} {R : DEnds} {P : O → Prop} (h : EvNx K te ρ P) (q : ∀ o, P o → R.nx (ρ.set i (some (.tr K true o)))) : ExS K (tAsg te (gName i)) ρ R := fun B Hs H σ Dn r l =>
  h B Hs H σ r _ fun Hs' H' v o S g ow c p => l.nx _ _ _ _ (r.setR g i (sv := .tr K true o) (T := S) (fun a u e => ⟨(c a u e).2.1, (c a u e).1, (c a u e).2.2⟩) (fun Hs1 x => ⟨nopv, ow.mono x⟩)) (q o p)
end
section
variable [TbC] {K : PySem.W.Frag} {P : Program} {w : World} {mg : Str → Option Value} {base : Heap} {x qual : Str} {st : Stmt} {f c : Addr} {fd : FuncData} {N ps : List Str} {k : Nat} {α : Type} {pre : α → Prop} {arg : α → List AV} {post : α → D → List AV → Prop} {exc : α → Value → Option (List (Str × D)) → List AV → Prop} {dvs : List V}
/-- a def with defaults, in-out -/
theorem fn_bE (F : FunE K x qual st dvs f fd) (S : FnScope N ps (defScope st)) (hl : ∀ x, (arg x).length = ps.length) {t : TS}
    (hb : ∀ (cdv : Value) (A : Around) (outer : List PySem.Env) (s : Shared) (H : Hp) (E : XK), Room k (A.deeper (envOfC qual (defScope st) s.heap.objs.size f cdv)) → PSs (cxOf CX0 P w K mg base N qual (defScope st) f cdv A outer s H E).nox (defBody st) t)
    (hd : ∀ x vs, vs.length = ps.length → pre x → ExS K t (entB K N vs (arg x)) (endB K post x vs)) : FnOk P w K mg base CX0 (k + 1) f fd ps (spB K pre arg post exc) := by
  have hN : ps.length ≤ N.length := by have := congrArg List.length S.pre; rw [List.length_take] at this; omega
  refine F.ok S (fun vs H Q E h => ?_) (fun cdv A outer s H vs Q E hr h => ?_)
  · obtain ⟨Hs, x, Rs, _, r, _⟩ := h
    rw [r.len, hl]
  · obtain ⟨Hs, x, Rs, e, r, hp, q, _⟩ := h
    exact ⟨t, (hb cdv A outer s H E hr).nox, hd x vs (by rw [r.len, hl]) hp _ Hs H (L2.start N vs) _ (rs_entB e r (by rw [hl]; exact hN)) (lk_b (E := E) q)⟩
/-- two promises of one def -/
def spOr (a b : Sp) : Sp := fun vs H Q E => a vs H Q E ∨ b vs H Q E
end
end DL

/-! DTup: sorted(list of data). -/
namespace DL
open PySem L2 PySem.W
open PyProof.Rows
def rSortD (K : PySem.W.Frag) : List V → Hp → VK → Prop := fun vs H Q => ∃ (p : Addr) (zs : List (V × PyData)), vs = [V.ref p] ∧ SqL K H p (zs.map (·.1)) ∧ (∀ z ∈ zs, Dp K H z.1 z.2) ∧ AllAlike (zs.map (·.2)) ∧ Sortable (zs.map (·.2)) ∧ zs.length ≤ 100000 ∧ (∀ z ∈ zs, z.2.depth ≤ 60) ∧
  ∀ q, H q = none → Q (.ref q) (upd H q (.lst ((zs.mergeSort (dataLe false (·.2))).map (·.1))))
section
variable {X : Cx}
theorem eachis_vals : ∀ {zs : List (V × PyData)} {us : List Value}, EachIs (fun (u : Value) (z : V × PyData) => RelV z.1 u) us zs → Vals (zs.map (·.1)) us
  | _, _, .nil => .nil
  | _, _, .cons h r => .cons h (eachis_vals r)
theorem vals_eachis : ∀ {zs : List (V × PyData)} {us : List Value}, Vals (zs.map (·.1)) us → EachIs (fun (u : Value) (z : V × PyData) => RelV z.1 u) us zs
  | [], [], _ => .nil
  | [], _ :: _, r => by cases r
  | _ :: _, [], r => by cases r
  | z :: zs, u :: us, r => by
    cases r with
    | cons a b => exact .cons a (vals_eachis b)
theorem eachis_reads {h : Heap} : ∀ {zs : List (V × PyData)} {us : List Value}, (∀ z ∈ zs, ∀ u, RelV z.1 u → ∃ as, Reads h u z.2 as) → EachIs (fun (u : Value) (z : V × PyData) => RelV z.1 u) us zs → EachIs (fun (u : Value) (z : V × PyData) => ∃ as, Reads h u z.2 as) us zs
  | _, _, _, .nil => .nil
  | _, _, hz, .cons h r => .cons (hz _ (.head _) _ h) (eachis_reads (fun z m => hz z (.tail _ m)) r)
theorem cr_sortD (hu : X.A.units + 65 < cLine) : CallR X (.builtin "sorted") (rSortD X.K) := by
  intro pins s σ H vs us Q I r h
  obtain ⟨a, zs, rfl, hs, hd, hal, hk, hL, hdp, q⟩ := h
  obtain ⟨its, rv, hl, hz⟩ := I.list hs
  obtain ⟨u, rfl, ru⟩ := vals1 r
  obtain rfl : u = Value.ref a := ru
  have e := vals_eachis rv
  have er := eachis_reads (h := s.heap) (fun z m u hr => Dp.reads I z.2 z.1 u (hd z m) hr) e
  refine sorted_data (vs := its) (bs := zs) (enc := (·.2)) (R := fun (u : Value) (z : V × PyData) => RelV z.1 u) (by simpa using hl.isList) e er hal hk (by rw [sizeLine_eq]; omega) (fun b hb => by have := hdp b hb; omega) fun out ho eo => ?_
  obtain ⟨c, hc⟩ := sortedAll_at s.heap its (List.toArray out)
  have kp : ∀ b o, s.heap.get? b = some o → (sortedAll s.heap its (List.toArray out)).get? b = some o := fun b o e => sortedAll_old e
  have hv := eachis_vals eo
  refine ⟨.ref (s.heap.objs.size + 1), upd H (s.heap.objs.size + 1) (.lst ((zs.mergeSort (dataLe false (·.2))).map (·.1))), I.laid (t' := s.toks) kp (Nat.le_succ _) ⟨?_, out, c, hv, hc⟩, rfl, q _ (I.hok.fresh (Nat.le_succ _))⟩
  rw [List.length_map, List.length_mergeSort, sizeLine_eq]
  omega
theorem sortDK {K : PySem.W.Frag} (h : X.K = K) (hu : X.A.units + 65 < cLine) : CallR X (.builtin "sorted") (rSortD K) := by
  subst h
  exact cr_sortD hu
end
section
variable [TbC] {K : PySem.W.Frag} {ρ : Env} {ta : TE}
theorem RepL.zip {H : Hp} {α : Type} {f : α → D} : ∀ {vs : List V} {xs : List α}, RepL K H vs (xs.map f) → ∃ zs : List (V × α), zs.map (·.1) = vs ∧ zs.map (·.2) = xs ∧ ∀ z ∈ zs, Rep K H z.1 (f z.2)
  | _, [], h => by
    cases h
    exact ⟨[], rfl, rfl, fun z m => nomatch m⟩
  | _, x :: xs, h => by
    cases h with
    | cons a b =>
      obtain ⟨zs, e1, e2, e3⟩ := RepL.zip b
      refine ⟨(_, x) :: zs, by rw [List.map_cons, e1], by rw [List.map_cons, e2], fun z m => ?_⟩
      rcases List.mem_cons.mp m with rfl | m
      · exact a
      · exact e3 z m
theorem RepL.unzip {H : Hp} {α : Type} {f : α → D} : ∀ {zs : List (V × α)}, (∀ z ∈ zs, Rep K H z.1 (f z.2)) → RepL K H (zs.map (·.1)) ((zs.map (·.2)).map f)
  | [], _ => .nil
  | z :: zs, h => .cons (h z (.head _)) (RepL.unzip fun y m => h y (.tail _ m))
/-- sorted(list of tuples) -/
theorem ef_sortD {α : Type} (xs : List α) (f : α → D) (ha : EvB K ta ρ (xs.map f)) (hp : ∀ x ∈ xs, (f x).pl = true) (hal : ∀ x ∈ xs, ∀ y ∈ xs, alike (f x).pd (f y).pd = true) (hk : ∀ x ∈ xs, ∃ y r, (f x).pd = .tuple (y :: r)) (hL : xs.length ≤ 100000) (hd : ∀ x ∈ xs, (f x).pd.depth ≤ 60) :
    EvF K (tCB (rSortD K) (tCons ta tNil)) ρ ((xs.mergeSort (dataLe false fun x => (f x).pd)).map f) := fun B Hs H σ r Q q =>
  ha B Hs H σ r _ fun Hs1 H1 p vs g1 hq y1 => by
    obtain ⟨zs, e1, e2, e3⟩ := y1.zip
    have hm : ∀ z ∈ zs, z.2 ∈ xs := fun z m => by rw [← e2]; exact List.mem_map.mpr ⟨z, m, rfl⟩
    refine ⟨p, zs.map fun z => (z.1, (f z.2).pd), rfl, ?_, ?_, ?_, ?_, ?_, ?_, fun l hn => ?_⟩
    · rw [List.map_map]
      show SqL K H1 p (zs.map (·.1))
      rw [e1]
      exact hq
    · intro z m
      obtain ⟨y, hy, rfl⟩ := List.mem_map.mp m
      exact ((e3 y hy).mono g1.lv).dp (hp _ (hm y hy))
    · intro d m d' m'
      rw [List.map_map] at m m'
      obtain ⟨y, hy, rfl⟩ := List.mem_map.mp m
      obtain ⟨y', hy', rfl⟩ := List.mem_map.mp m'
      exact hal _ (hm y hy) _ (hm y' hy')
    · refine .inl fun d m => ?_
      rw [List.map_map] at m
      obtain ⟨y, hy, rfl⟩ := List.mem_map.mp m
      exact hk _ (hm y hy)
    · rw [List.length_map, ← List.length_map (f := fun z : V × α => z.2), e2]
      exact hL
    · intro z m
      obtain ⟨y, hy, rfl⟩ := List.mem_map.mp m
      exact hd _ (hm y hy)
    · obtain ⟨n1, n2⟩ := gr_none g1 hn
      have s1 : ((zs.map fun z => (z.1, (f z.2).pd)).mergeSort (dataLe false (·.2))) = (zs.mergeSort (dataLe false fun z => (f z.2).pd)).map fun z => (z.1, (f z.2).pd) := (List.map_mergeSort (r := dataLe false fun z : V × α => (f z.2).pd) (s := dataLe false (·.2)) (f := fun z : V × α => (z.1, (f z.2).pd)) (fun a _ b _ => rfl)).symm
      have s2 : (zs.mergeSort (dataLe false fun z => (f z.2).pd)).map (·.2) = xs.mergeSort (dataLe false fun x => (f x).pd) := by
        rw [← e2]
        exact List.map_mergeSort (r := dataLe false fun z : V × α => (f z.2).pd) (s := dataLe false fun x => (f x).pd) (f := fun z : V × α => z.2) (fun a _ b _ => rfl)
      rw [s1, List.map_map]
      refine q Hs1 _ l _ (g1.trans (Gr.newO g1.lv hn)) n1 n2 upd_same ?_
      rw [← s2]
      exact RepL.unzip fun z m => e3 z ((List.mergeSort_perm zs _).mem_iff.mp m)
end
/-! ### the order of such tuples -/
theorem le_total' {β : Type} (k : β → PyData) : ∀ a b, (dataLe false k a b || dataLe false k b a) = true := fun a b => by
  rw [Bool.or_eq_true]
  exact (sortLe_total (listOrd itemOrd) false fun b => keyToks (k b)).total a b
theorem le_trans' {β : Type} (k : β → PyData) : ∀ a b c, dataLe false k a b = true → dataLe false k b c = true → dataLe false k a c = true := (sortLe_total (listOrd itemOrd) false fun b => keyToks (k b)).trans
theorem lt_word_int {w : Str} {x y : Int} {xs ys : List PyData} (h : x ≠ y) : dataLt (.tuple (.str w :: .int x :: xs)) (.tuple (.str w :: .int y :: ys)) = decide (x < y) := by
  rw [dataLt_tuple, dataLt_cons (by rfl), if_pos (by simp [PyData.eqv]), dataLt_cons (by rfl), if_neg (by simpa [PyData.eqv] using h), dataLt_int]
/-- sorted by the numbers behind the word, where these are unlike -/
theorem sorted_to {β : Type} {w : Str} {k : β → PyData} {t : β → Int} {xs : List β} (hk : ∀ b ∈ xs, ∃ r, k b = .tuple (.str w :: .int (t b) :: r)) (nd : (xs.map t).Nodup) : (xs.mergeSort (dataLe false k)).Pairwise fun a b => t a < t b := by
  have h1 := List.pairwise_mergeSort (le := dataLe false k) (le_trans' k) (le_total' k) xs
  have hp := List.mergeSort_perm xs (dataLe false k)
  have h2 : ((xs.mergeSort (dataLe false k)).map t).Nodup := (hp.map t).nodup_iff.mpr nd
  rw [List.nodup_iff_pairwise_ne, List.pairwise_map] at h2
  refine (List.Pairwise.and h1 h2).imp_of_mem fun {a b} ma mb h => ?_
  obtain ⟨h3, h4⟩ := h
  rw [dataLe_eq] at h3
  have h3 : (!dataLt (k b) (k a)) = true := h3
  obtain ⟨ra, ea⟩ := hk a (hp.mem_iff.mp ma)
  obtain ⟨rb, eb⟩ := hk b (hp.mem_iff.mp mb)
  rw [ea, eb, lt_word_int (Ne.symm h4)] at h3
  simp at h3
  omega
end DL

/-! DXio: exceptions that leave in-out defs; exceptions with fields. -/
namespace DL
open PySem L2
open PyProof.Rows (envOfC)
/-! ### own classes over ValueError whose __init__ is a def -/
def oexB (K : PySem.W.Frag) (C : Addr) : Bool := match K.lookup C with
  | some ⟨.type "type", _, .cls cd, sl⟩ => (match cd, sl.toList with
    | ⟨_, _, .ref C' :: bm, _, _, true, _, _, _, _, false⟩, [_, _, _, _, some (.builtin n), _] => C' == C && n == "ValueError.__new__" && PySem.HandSPX.refsVE bm
    | _, _ => false)
  | _ => false
theorem oex_of {K : PySem.W.Frag} {C : Addr} (q : oexB K C = true) (sa : PySem.W.findIn K (.ref C) "__setattr__" = some (some (.builtin "object.__setattr__"))) (exC : PySem.W.subIn K (.ref C) (.type "BaseException") = some true) (tyC : PySem.W.typeIn K (.ref C) = some (.type "type")) (kC : PySem.W.keepIn K (.ref C) = true) : OexC K C := by
  refine ⟨?_, sa, exC, tyC, kC⟩
  unfold oexB at q
  split at q
  · rename_i dd cd sl ho
    split at q
    · rename_i nm bs C' bm ns qn sn sub ab col k0 k1 k2 k3 n k5 hs
      simp only [Bool.and_eq_true, beq_iff_eq] at q
      obtain ⟨⟨rfl, rfl⟩, ht⟩ := q
      have hsl : sl = #[k0, k1, k2, k3, some (.builtin "ValueError.__new__"), k5] := by
        obtain ⟨l⟩ := sl
        simp only at hs
        rw [hs]
      subst hsl
      exact ⟨nm, qn, ns, bs, bm, sn, sub, ab, col, dd, k0, k1, k2, k3, k5, ho, ht⟩
    · cases q
  · cases q
/-- the __init__ of such a class: one field is set -/
def spXI (C : Addr) (f : Str) (K : PySem.W.Frag) : Sp := fun vs H Q _ => ∃ (a : Addr) (v : V), vs = [.ref a, v] ∧ H a = some (exo a C none) ∧ OexC K C ∧ PySem.W.findIn K (.ref C) f = some none ∧ ∀ dx, H dx = none → dx ≠ a → Q .non (upd (upd H dx (exd dx [(f, v)])) a (exo a C (some dx)))
section
variable [TbC] {K : PySem.W.Frag} {ρ ρ' : Env} {te ta tb tv : TE} {d e : D} {ds es : List D} {R : DEnds} {B : Base} {Hs H Hs' H' : Hp} {σ : L2.St}
/-- raise C(e) -/
def tRaiseF (K : PySem.W.Frag) (C : Addr) (f : Str) (W : WX) (te : TE) : TS := fun _ σ H => tMkO C (spXI C f K) [] (tCons te tNil) σ H fun cls d H' => W cls d σ H'
theorem xs_raiseF {C : Addr} {f : Str} {W : WX} (h : EvD K te ρ d) (T : OexC K C) (hno : PySem.W.findIn K (.ref C) f = some none) (hW : R.W = W) (q : R.ex ρ (.ref C) (some [(f, d)])) : ExS K (tRaiseF K C f W te) ρ R := fun B Hs H σ Dn r l =>
  h B Hs H σ r _ fun Hs1 H1 v g x => by
    subst hW
    refine ⟨by show 1 ≤ 1000; decide, fun a ha => ⟨a, v, rfl, upd_same, T, hno, fun dx hdx hne => ?_⟩⟩
    have hdx1 : H1 dx = none := by rwa [upd_ne hne] at hdx
    refine ⟨rfl, dx, [(f, v)], upd_same, by rw [upd_ne hne, upd_same], hdx1, ?_⟩
    have gn := Gr.new (o := .xd [(f, v)]) g.lv hdx1
    have e1 : upd (del (upd (upd (upd H1 a (exo a C none)) dx (exd dx [(f, v)])) a (exo a C (some dx))) a) dx (.xd [(f, v)]) = upd H1 dx (.xd [(f, v)]) := funext fun b => by
      by_cases eb : b = dx
      · rw [eb, upd_same, upd_same]
      · rw [upd_ne eb, upd_ne eb]
        by_cases ea : b = a
        · rw [ea, del_same, ha]
        · rw [del_ne ea, upd_ne ea, upd_ne eb, upd_ne ea]
    rw [e1]
    have nsdx : Hs1 dx = none := (gr_none (Gr.refl g.lv) hdx1).2
    exact l.ex (upd Hs1 dx (.xd [(f, v)])) _ σ ρ (.ref C) (some dx) (some [(f, d)]) (r.grow (g.trans gn)) ⟨[v], upd_same, .cons (x.mono gn.sh) .nil⟩ q
/-- a slot holds the exception at a, its fields fs in the dict at dd -/
@[reducible] def SV.exf (K : PySem.W.Frag) (a dd : Addr) (fs : List (Str × D)) : SV := .ow false (fun Hs v R => (v = .ref a ∧ R = em) ∧ ∃ vs, Hs dd = some (.xd ((fs.map (·.1)).zip vs)) ∧ RepL K Hs vs (fs.map (·.2))) fun _ _ _ h => by
  rw [h.1.2]
  exact PlR.em
theorem RS.setF (r : RS K B Hs H σ ρ) (i : Nat) (a : Addr) {dd : Addr} {fs : List (Str × D)} (x : XRep K Hs H (some dd) (some fs)) : RS K B Hs H (σ.set i (some (.ref a))) (ρ.set i (some (.exf K a dd fs))) :=
  r.setR (Gr.refl r.ex) i (T := em) (fun _ _ z => nomatch z) (sv := .exf K a dd fs) fun Hs1 e => by
    obtain ⟨vs, h1, h2⟩ := x
    exact ⟨⟨rfl, rfl⟩, vs, e _ _ h1, h2.mono e⟩
/-- e.f in the suite -/
theorem ev_xf {a dd C : Addr} {i : Nat} {fs : List (Str × D)} {f : Str} (hi : ρ[i]? = some (some (.exf K a dd fs))) (hl : ((fs.map (·.1)).zip (fs.map (·.2))).lookup f = some d) : EvD K (tXf a (.ref C) (some dd) C f (tVar i)) ρ d := fun B Hs H σ r Q q => by
  obtain ⟨S, rg⟩ := r.reg
  obtain ⟨v0, hv, hh⟩ := rg.1 i _ hi
  obtain ⟨⟨rfl, _⟩, vs, h1, h2⟩ := hh Hs (Ex.refl Hs)
  obtain ⟨u, e1, e2⟩ := look_zip h2 hl
  exact ⟨.ref a, hv, rfl, rfl, dd, _, u, rfl, r.ex _ _ h1, e1, q Hs H u (Gr.refl r.ex) e2⟩
/-- try: .. except c as e: .., the exception has fields -/
theorem xs_tryF {c : Value} {i : Nat} {tb : WX → TS} {ts : Addr → Value → Option Addr → TS} {Wout : WX} (EX : Env → Value → Option (List (Str × D)) → Prop) (hb : ∀ W, ExS K (tb W) ρ { R with ex := EX, W := W })
    (hx : ∀ ρ' cls fs, EX ρ' cls fs → ∃ fs', fs = some fs' ∧ ∃ b, PySem.W.exmOne K cls c = some b ∧ (b = true → ∀ a dd, ExS K (ts a cls (some dd)) (ρ'.set i (some (.exf K a dd fs'))) { R with nx := fun ρ2 => R.nx (ρ2.set i none), bk := fun ρ2 => R.bk (ρ2.set i none), ct := fun ρ2 => R.ct (ρ2.set i none) }) ∧ (b = false → R.W = Wout ∧ R.ex ρ' cls fs)) :
    ExS K (tTryA K c i tb ts Wout) ρ R := fun B Hs H σ Dn r l =>
  hb _ B Hs H σ Dn r ⟨l.nx, l.rt, l.rf, l.bk, l.ct, l.ro, fun Hs' H' σ' ρ' cls dd fs r' y q => by
    obtain ⟨fs', rfl, b, h1, h2, h3⟩ := hx ρ' cls fs q
    cases dd with
    | none => exact y.elim
    | some dd =>
      refine ⟨b, h1, fun hb a ha => h2 hb a dd B Hs' H' _ _ (r'.setF i a y) ⟨fun Hs2 H2 σ2 ρ2 r2 q2 => l.nx Hs2 H2 _ _ (r2.forget i none) q2, l.rt, l.rf, fun Hs2 H2 σ2 ρ2 r2 q2 => l.bk Hs2 H2 _ _ (r2.forget i none) q2, fun Hs2 H2 σ2 ρ2 r2 q2 => l.ct Hs2 H2 _ _ (r2.forget i none) q2, l.ro, l.ex, l.rn⟩, fun hb => ?_⟩
      obtain ⟨e1, e2⟩ := h3 hb
      subst e1
      exact l.ex Hs' H' σ' ρ' cls _ _ r' y e2, l.rn⟩
/-! ### expressions with effects that exceptions may leave -/
def EvEx (K : PySem.W.Frag) (te : TE) (W : WX) (ρ : Env) (Z : D → Env → Prop) (EX : Env → Value → Option (List (Str × D)) → Prop) : Prop := ∀ B Hs H σ, RS K B Hs H σ ρ → ∀ Q : VK, (∀ Hs' H' v d ρ', Ex Hs Hs' → RS K B Hs' H' σ ρ' → Rep K Hs' v d → Z d ρ' → Q v H') →
  (∀ Hs' H' cls dd fs ρ', RS K B Hs' H' σ ρ' → XRep K Hs' H' dd fs → EX ρ' cls fs → W cls dd σ H') → te σ H Q
theorem xs_dropEx {W : WX} {Z : D → Env → Prop} {EX : Env → Value → Option (List (Str × D)) → Prop} (h : EvEx K te W ρ Z EX) (hW : R.W = W) (q : ∀ d ρ', Z d ρ' → R.nx ρ') (qx : ∀ ρ' cls fs, EX ρ' cls fs → R.ex ρ' cls fs) : ExS K (tDrop te) ρ R := fun B Hs H σ Dn r l =>
  h B Hs H σ r _ (fun Hs' H' v d ρ' _ r' x z => l.nx Hs' H' _ _ r' (q d ρ' z)) fun Hs' H' cls dd fs ρ' r' y z => by
    subst hW
    exact l.ex Hs' H' σ ρ' cls dd fs r' y (qx ρ' cls fs z)
theorem xs_asgEx {W : WX} {i : Nat} {Z : D → Env → Prop} {EX : Env → Value → Option (List (Str × D)) → Prop} (h : EvEx K te W ρ Z EX) (hW : R.W = W) (q : ∀ d ρ', Z d ρ' → R.nx (ρ'.set i (some (.sh d)))) (qx : ∀ ρ' cls fs, EX ρ' cls fs → R.ex ρ' cls fs) : ExS K (tAsg te (gName i)) ρ R := fun B Hs H σ Dn r l =>
  h B Hs H σ r _ (fun Hs' H' v d ρ' _ r' x z => l.nx Hs' H' _ _ (r'.set i x) (q d ρ' z)) fun Hs' H' cls dd fs ρ' r' y z => by
    subst hW
    exact l.ex Hs' H' σ ρ' cls dd fs r' y (qx ρ' cls fs z)
theorem xs_retEx {W : WX} {Z : D → Env → Prop} {EX : Env → Value → Option (List (Str × D)) → Prop} (h : EvEx K te W ρ Z EX) (hW : R.W = W) (q : ∀ d ρ', Z d ρ' → R.ro ρ' d) (qx : ∀ ρ' cls fs, EX ρ' cls fs → R.ex ρ' cls fs) : ExS K (tRet te) ρ R := fun B Hs H σ Dn r l =>
  h B Hs H σ r _ (fun Hs' H' v d ρ' _ r' x z => l.ro Hs' H' σ ρ' v d r' x (q d ρ' z)) fun Hs' H' cls dd fs ρ' r' y z => by
    subst hW
    exact l.ex Hs' H' σ ρ' cls dd fs r' y (qx ρ' cls fs z)
variable {α : Type} {pre : α → Prop} {arg : α → List AV} {post : α → D → List AV → Prop} {exc : α → Value → Option (List (Str × D)) → List AV → Prop}
theorem ev_callBX {ar : List AR} {ta : TA} {W : WX} (x : α) (ht : EvAS K ta ρ ar) (ha : ArgOk K ρ ar (arg x)) (p : pre x) (sep : sepB ar = true := by rfl) (sh : ∀ d as, post x d as → Shp ar as) (shx : ∀ cls fs as, exc x cls fs as → Shp ar as) :
    EvEx K (tCallS (spB K pre arg post exc) (WE W) ta) W ρ (fun d ρ' => ∃ as, post x d as ∧ ρ' = back K (allOf ar) ar as ρ) (fun ρ' cls fs => ∃ as, exc x cls fs as ∧ ρ' = back K (allOf ar) ar as ρ) := fun B Hs H σ r Q q qx =>
  ht B Hs H σ r _ fun Hs1 H1 vs g xs => by
    have r1 := r.grow g
    obtain ⟨R, rg⟩ := r1.reg
    refine ⟨Hs1, x, _, ⟨g.lv, r1.tb⟩, r1.lay rg xs ha sep, p, fun Hs' H' v d as Rs' g2 b y z => ?_, fun Hs' H' cls dd fs as Rs' g2 b y z => ?_⟩
    · exact q Hs' H' v d _ (g.sh.trans g2.sh) (r1.behind rg xs ha sep (sh d as z) g2 b) y ⟨as, z, rfl⟩
    · exact qx Hs' H' cls dd fs _ (r1.behind rg xs ha sep (shx cls fs as z) g2 b) y ⟨as, z, rfl⟩
/-- o.m(..), an exception of which is taken at W -/
def tMethS (alts : List (Addr × Sp)) (m : Str) (W : WX) (ta : TE) (t : TA) : TE := fun σ H Q => ta σ H fun x H1 => ∃ a C dx fs sp, x = .ref a ∧ H1 a = some (.ins C dx fs) ∧ (C, sp) ∈ alts ∧ fs.lookup m = none ∧
  t σ H1 fun vs H2 => sp (x :: vs) H2 Q (WE W σ)
theorem ev_methBX {W : WX} {alts : List (Addr × Sp)} {m : Str} {i : Nat} {nw : Nw} {C : Addr} {ns : List Str} {xs : List O} {ar : List AR} {t : TA} (x : α)
    (hi : ρ[i]? = some (some (.tr K nw (.ob C ns xs)))) (ht : EvAS K t ρ ar) (hin : (C, spB K pre arg post exc) ∈ alts) (hm : ns.contains m = false) (ha : ArgOk K ρ (.inr (i, nw) :: ar) (arg x)) (p : pre x) (sep : sepB (.inr (i, nw) :: ar) = true := by rfl)
    (sh : ∀ d as, post x d as → Shp (.inr (i, nw) :: ar) as) (shx : ∀ cls fs as, exc x cls fs as → Shp (.inr (i, nw) :: ar) as) :
    EvEx K (tMethS alts m W (tVar i) t) W ρ (fun d ρ' => ∃ as, post x d as ∧ ρ' = back K (allOf (.inr (i, nw) :: ar)) (.inr (i, nw) :: ar) as ρ) (fun ρ' cls fs => ∃ as, exc x cls fs as ∧ ρ' = back K (allOf (.inr (i, nw) :: ar)) (.inr (i, nw) :: ar) as ρ) := fun B Hs H σ r Q q qx => by
  obtain ⟨R0, rg0⟩ := r.reg
  obtain ⟨v0, hv0, hh⟩ := rg0.1 i _ hi
  obtain ⟨a, dx, vs0, R1, rfl, _, _, _, e0⟩ := (hh Hs (Ex.refl Hs)).2.ob_inv
  have hHa : H a = some (.ins C dx (ns.zip vs0)) := (rg0.2.1 i a _ (by rw [e0]; exact upd_same)).1
  refine ⟨.ref a, hv0, a, C, dx, _, _, rfl, hHa, hin, look_none hm, ht B Hs H σ r _ fun Hs1 H1 vs g xs1 => ?_⟩
  have r1 := r.grow g
  obtain ⟨R, rg⟩ := r1.reg
  have hv : VsOk K Hs1 σ (.ref a :: vs) (.inr (i, nw) :: ar) := ⟨hv0, xs1⟩
  refine ⟨Hs1, x, _, ⟨g.lv, r1.tb⟩, r1.lay rg hv ha sep, p, fun Hs' H' v d as Rs' g2 b y z => ?_, fun Hs' H' cls dd fs as Rs' g2 b y z => ?_⟩
  · exact q Hs' H' v d _ (g.sh.trans g2.sh) (r1.behind rg hv ha sep (sh d as z) g2 b) y ⟨as, z, rfl⟩
  · exact qx Hs' H' cls dd fs _ (r1.behind rg hv ha sep (shx cls fs as z) g2 b) y ⟨as, z, rfl⟩
variable {P : Program} {w : World} {mg : Str → Option Value} {base : Heap} {x qual : Str} {st : Stmt} {f c : Addr} {fd : FuncData} {N ps : List Str} {k : Nat}
/-- what is wanted of the body -/
abbrev endBX (K : PySem.W.Frag) {α : Type} (post : α → D → List AV → Prop) (exc : α → Value → Option (List (Str × D)) → List AV → Prop) (x : α) (vs : List V) (E : XK) : DEnds := { endB K post x vs with ex := fun ρ cls fs => ∃ as, exc x cls fs as ∧ outs K vs ρ as, W := fun cls dd _ H => E cls dd H }
theorem lk_bX {x : α} {vs : List V} {H : Hp} {Q : VK} {E : XK} {Rs : Nat → Hp} {t : NT Hs ∧ TB H} (q : ∀ Hs' H' v d as Rs', Gr Hs (cut H Rs) H Hs' H' → IsB K H Hs' H' vs as Rs Rs' → Rep K Hs' v d → post x d as → Q v H')
    (qx : ∀ Hs' H' cls dd fs as Rs', Gr Hs (cut H Rs) H Hs' H' → IsB K H Hs' H' vs as Rs Rs' → XRep K Hs' H' dd fs → exc x cls fs as → E cls dd H') :
    Lk K ⟨Hs, cut H Rs, H, t⟩ (endBX K post exc x vs E) { nx := fun _ H' => Q .non H', rt := Q } :=
  have l0 := lk_b (K := K) (post := post) (E := E) (t := t) q
  ⟨l0.nx, l0.rt, l0.rf, l0.bk, l0.ct, l0.ro, fun Hs' H' σ ρ cls dd fs r y ⟨as, z, o⟩ => by
    obtain ⟨Rs', b⟩ := r.told o
    exact qx Hs' H' cls dd fs as Rs' r.gr b y z, l0.rn⟩
theorem fn_bX (F : Fun K x qual st f fd) (S : FnScope N ps (defScope st)) (hl : ∀ x, (arg x).length = ps.length) {t : XK → TS}
    (hb : ∀ (cdv : Value) (A : Around) (outer : List PySem.Env) (s : Shared) (H : Hp) (E : XK), Room k (A.deeper (envOfC qual (defScope st) s.heap.objs.size f cdv)) → PSs (cxOf (L2.CX P w) P w K mg base N qual (defScope st) f cdv A outer s H E) (defBody st) (t E))
    (hd : ∀ x vs, vs.length = ps.length → pre x → ∀ E : XK, ExS K (t E) (entB K N vs (arg x)) (endBX K post exc x vs E)) : FnOk P w K mg base (L2.CX P w) (k + 1) f fd ps (spB K pre arg post exc) := by
  have hN : ps.length ≤ N.length := by have := congrArg List.length S.pre; rw [List.length_take] at this; omega
  refine F.okX S (fun vs H Q E h => ?_) (fun cdv A outer s H vs Q E hr h => ?_)
  · obtain ⟨Hs, x, Rs, _, r, _⟩ := h
    rw [r.len, hl]
  · obtain ⟨Hs, x, Rs, e, r, hp, q, qx⟩ := h
    exact ⟨t E, hb cdv A outer s H E hr, hd x vs (by rw [r.len, hl]) hp E _ Hs H (L2.start N vs) _ (rs_entB e r (by rw [hl]; exact hN)) (lk_bX q qx)⟩
end
section
variable [TbC] {X : Cx} {CX : CXT} {k : Nat} {C : Addr} {W : WX} {x m : Str} {p pos apos : Pos} {e o : Expr} {es : List Expr} {ta : TE} {t : TA} {pl : Sem Bool}
theorem pe_methS {alts : List (Addr × Sp)} (he : PE X o ta) (al : Alts X CX k m alts) (hr : Room k X.A) (hx : ∀ σ, PassesAt CX X σ (WE W σ)) (ha : PA X (e :: es) t)
    (hst : starEach (e :: es) X.env = (false, eval e X.env) :: starEach es X.env := by rfl) (hpl : (backTo pos (starEach es X.env)).any (·.1) = false := by rfl)
    (ht : eval (.Call (.Attribute o m apos) (e :: es) [] pos) X.env = (do
      let ov ← eval o X.env
      standAt apos.atName
      let (f, first) ← holding [ov] (getMethod ov m pl)
      callWith pos f first (backTo pos (starEach (e :: es) X.env)) (backToKw pos (keywordEach [] X.env))) := by rfl) :
    PE X (.Call (.Attribute o m apos) (e :: es) [] pos) (tMethS alts m W ta t) := by
  refine ⟨fun pins s σ H Q I h => ?_⟩
  refine PySem.W.methodCall_KW (pl := pl) (thn (he.run pins s σ H _ I h) fun u s1 ⟨x, H1, I1, rx, a, C, dx, fs, sp, ex, ea, hin, l, q⟩ => ?_) ht
  subst ex
  obtain rfl : u = Value.ref a := rx
  obtain ⟨f, fd, ps, c, hm, F, hb⟩ := al.get hin
  refine getmeth_ok I1 ea c hm l ?_
  refine PySem.W.callWith_K (first := [.ref a]) (h₀ := X.base) I.ok.mod.kin hm.kp (thn (ha.run pos pins s1 σ H1 _ I1 q) fun us s2 ⟨vs, H2, I2, r, q2⟩ => ⟨I2.kIn, ?_⟩) hst hpl
  exact run_fnS (us := .ref a :: us) (vs := .ref a :: vs) F hr hb (hx σ) I2 (.cons rfl r) q2
end
/-! ### two promises; effects on the left -/
theorem FnOk.or {P : Program} {w : World} {K : PySem.W.Frag} {mg : Str → Option Value} {base : Heap} {CX : CXT} {k : Nat} {f : Addr} {fd : FuncData} {ps : List Str} {a b : Sp} (h1 : FnOk P w K mg base CX k f fd ps a) (h2 : FnOk P w K mg base CX k f fd ps b) : FnOk P w K mg base CX k f fd ps (spOr a b) :=
  ⟨fun vs H Q E h => h.elim (h1.len vs H Q E) (h2.len vs H Q E), fun A outer s H args us vs Q E hr e0 hb r h => h.elim (h1.run A outer s H args us vs Q E hr e0 hb r) (h2.run A outer s H args us vs Q E hr e0 hb r)⟩
section
variable [TbC] {K : PySem.W.Frag} {ρ ρ' : Env} {te ta tb tv : TE} {d e : D} {ds es : List D} {R : DEnds}
theorem ev_methDw {C : Addr} {ns : List Str} {alts : List (Addr × Sp)} {sp : Sp} {m : Str} {E : XK} {t : TA} {α : Type} {pre : α → Prop} {arg : α → List D} {res : α → D} (x : α) (h : EvD K ta ρ (.obj C ns ds)) (ht : EvA K t ρ es) (hin : (C, sp) ∈ alts) (hsp : ∀ vs H Q E, spG K pre arg res vs H Q E → sp vs H Q E) (hm : ns.contains m = false)
    (ha : arg x = .obj C ns ds :: es) (p : pre x) : EvD K (tMethD alts m E ta t) ρ (res x) := fun B Hs H σ r Q q =>
  h B Hs H σ r _ fun Hs1 H1 v g1 xo => by
    cases xo with
    | @obj a _ dx _ vs _ hp xs =>
      refine ⟨a, C, dx, _, _, rfl, g1.lv _ _ hp, hin, look_none hm, ht B Hs1 H1 σ (r.grow g1) _ fun Hs2 H2 ws g2 ys => hsp _ _ _ _ ?_⟩
      refine ⟨Hs2, x, ⟨g2.lv, (r.grow (g1.trans g2)).tb⟩, by rw [ha]; exact .cons (.obj (g2.sh _ _ hp) (xs.mono g2.sh)) ys, p, fun Hs' H' w d g y e => ?_⟩
      exact q Hs' H' w ((g1.trans g2).trans g) (e ▸ y)
theorem ev_methBw {α : Type} {pre : α → Prop} {arg : α → List AV} {post : α → D → List AV → Prop} {exc : α → Value → Option (List (Str × D)) → List AV → Prop} {alts : List (Addr × Sp)} {sp : Sp} {m : Str} {i : Nat} {nw : Nw} {C : Addr} {ns : List Str} {xs : List O} {ar : List AR} {t : TA} {E : XK} (x : α)
    (hi : ρ[i]? = some (some (.tr K nw (.ob C ns xs)))) (ht : EvAS K t ρ ar) (hin : (C, sp) ∈ alts) (hsp : ∀ vs H Q E, spB K pre arg post exc vs H Q E → sp vs H Q E) (hm : ns.contains m = false) (ha : ArgOk K ρ (.inr (i, nw) :: ar) (arg x)) (p : pre x) (sep : sepB (.inr (i, nw) :: ar) = true := by rfl)
    (sh : ∀ d as, post x d as → Shp (.inr (i, nw) :: ar) as) (hx : ∀ cls fs as, ¬ exc x cls fs as) :
    EvE K (tMethD alts m E (tVar i) t) ρ (fun d ρ' => ∃ as, post x d as ∧ ρ' = back K (allOf (.inr (i, nw) :: ar)) (.inr (i, nw) :: ar) as ρ) := fun B Hs H σ r Q q => by
  obtain ⟨R0, rg0⟩ := r.reg
  obtain ⟨v0, hv0, hh⟩ := rg0.1 i _ hi
  obtain ⟨a, dx, vs0, R1, rfl, _, _, _, e0⟩ := (hh Hs (Ex.refl Hs)).2.ob_inv
  have hHa : H a = some (.ins C dx (ns.zip vs0)) := (rg0.2.1 i a _ (by rw [e0]; exact upd_same)).1
  refine ⟨.ref a, hv0, a, C, dx, _, _, rfl, hHa, hin, look_none hm, ht B Hs H σ r _ fun Hs1 H1 vs g xs1 => hsp _ _ _ _ ?_⟩
  have r1 := r.grow g
  obtain ⟨R, rg⟩ := r1.reg
  have hv : VsOk K Hs1 σ (.ref a :: vs) (.inr (i, nw) :: ar) := ⟨hv0, xs1⟩
  refine ⟨Hs1, x, _, ⟨g.lv, r1.tb⟩, r1.lay rg hv ha sep, p, fun Hs' H' v d as Rs' g2 b y z => ?_, fun _ _ cls _ fs as _ _ _ _ z => (hx cls fs as z).elim⟩
  exact q Hs' H' v d _ (g.sh.trans g2.sh) (r1.behind rg hv ha sep (sh d as z) g2 b) y ⟨as, z, rfl⟩
/-- an effect on the left of an operator; it gives a number -/
theorem eve_op1 {r : R2} {Z Y : D → Env → Prop} (h : EvE K ta ρ Z) (q : ∀ d ρ', Z d ρ' → ∃ (i : Int) (e : D), d = .int i ∧ EvD K (tOp r (tC (.int i)) tb) ρ' e ∧ Y e ρ') : EvE K (tOp r ta tb) ρ Y := fun B Hs H σ rr Q qq =>
  h B Hs H σ rr _ fun Hs1 H1 v d ρ' e1 r1 x z => by
    obtain ⟨i, e, rfl, he, y⟩ := q d ρ' z
    cases x
    exact he B Hs1 H1 σ r1 Q fun Hs2 H2 w g xw => qq Hs2 H2 w e ρ' (e1.trans g.sh) (r1.grow g) xw y
/-- an effect on the left of 'and' -/
theorem eve_and1 {Z Y : D → Env → Prop} (h : EvE K ta ρ Z) (q : ∀ d ρ', Z d ρ' → ∃ (b : Bool) (e : D), d = .bl b ∧ EvD K (tAndV (tC (.bl b)) tb) ρ' e ∧ Y e ρ') : EvE K (tAndV ta tb) ρ Y := fun B Hs H σ rr Q qq =>
  h B Hs H σ rr _ fun Hs1 H1 v d ρ' e1 r1 x z => by
    obtain ⟨b, e, rfl, he, y⟩ := q d ρ' z
    cases x
    exact he B Hs1 H1 σ r1 Q fun Hs2 H2 w g xw => qq Hs2 H2 w e ρ' (e1.trans g.sh) (r1.grow g) xw y
end
end DL

/-! DStr: texts. -/
namespace DL
open PySem L2
theorem repl_strs [TbC] {K : PySem.W.Frag} {Hs : Hp} : ∀ ys : List Str, RepL K Hs (ys.map V.str) (ys.map D.str)
  | [] => .nil
  | y :: ys => .cons (.str y) (repl_strs ys)
section
variable [TbC] {K : PySem.W.Frag} {ρ ρ' : Env} {te ta tb ti : TE} {d e : D} {ds es : List D} {tt : TT} {R : DEnds}
/-- str(i) -/
theorem ev_strI {i : Int} (h : EvD K ta ρ (.int i)) (hi : i.natAbs.log2 < 1920) : EvD K (tCB (fun xs H Q => ∃ i, xs = [V.int i] ∧ i.natAbs.log2 < 1920 ∧ Q (.str (toString i)) H) (tCons ta tNil)) ρ (.str (toString i)) := fun B Hs H σ r Q q =>
  h B Hs H σ r _ fun Hs1 H1 v g x => by
    cases x
    exact ⟨i, rfl, hi, q Hs1 H1 _ g (.str _)⟩
/-- a.join(ys) -/
abbrev rJoin (K : PySem.W.Frag) : V → List V → Hp → VK → Prop := fun x xs H Q => ∃ a p, ∃ ys : List Str, x = .str a ∧ xs = [.ref p] ∧ (SqL K H p (ys.map V.str) ∨ SqT K H p (ys.map V.str)) ∧
    (ys.map (·.length)).sum + ys.length * a.length ≤ 16777216 ∧ Q (.str (Txt.join a ys)) H
theorem joinK {X : Cx} (h : X.K = K) : MtR X "str.join" (rJoin K) := by subst h; exact mt_join
theorem ev_join {a : Str} {ys : List Str} (h : EvD K ta ρ (.str a)) (hb : EvB K tb ρ (ys.map .str)) (hl : (ys.map (·.length)).sum + ys.length * a.length ≤ 16777216) : EvD K (tBM K "str" (rJoin K) ta (tCons tb tNil)) ρ (.str (Txt.join a ys)) := fun B Hs H σ r Q q =>
  h B Hs H σ r _ fun Hs1 H1 v g x => by
    cases x
    refine ⟨rfl, hb B Hs1 H1 σ (r.grow g) _ fun Hs2 H2 p vs g2 hp xs => ?_⟩
    have e := RepL.strs xs
    subst e
    exact ⟨a, p, ys, rfl, rfl, .inl hp, hl, q Hs2 H2 _ (g.trans g2) (.str _)⟩
/-- a.split(b) -/
abbrev rSplit : V → List V → Hp → VK → Prop := fun x xs H Q => ∃ a b, x = V.str a ∧ xs = [V.str b] ∧ (b.length == 0) = false ∧ a.length + 2 ≤ sizeLine ∧ rNewStrs (Txt.split a b) H Q
theorem ef_split {a b : Str} (h : EvD K ta ρ (.str a)) (hb : EvD K tb ρ (.str b)) (h0 : (b.length == 0) = false) (hl : a.length + 2 ≤ sizeLine) : EvF K (tBM K "str" rSplit ta (tCons tb tNil)) ρ ((Txt.split a b).map .str) := fun B Hs H σ r Q q =>
  h B Hs H σ r _ fun Hs1 H1 v g x => by
    cases x
    refine ⟨rfl, hb B Hs1 H1 σ (r.grow g) _ fun Hs2 H2 w g2 y => ?_⟩
    cases y
    refine ⟨a, b, rfl, rfl, h0, hl, fun l hn => ?_⟩
    obtain ⟨n1, n2⟩ := gr_none (g.trans g2) hn
    exact q Hs2 _ l _ ((g.trans g2).trans (Gr.newO g2.lv hn)) n1 n2 upd_same (repl_strs _)
/-- a.startswith(b) -/
abbrev rSw : V → List V → Hp → VK → Prop := fun x xs H Q => ∃ a b, x = V.str a ∧ xs = [V.str b] ∧ Q (.bl (Txt.startswith a b)) H
theorem ev_sw {a b : Str} (h : EvD K ta ρ (.str a)) (hb : EvD K tb ρ (.str b)) : EvD K (tBM K "str" rSw ta (tCons tb tNil)) ρ (.bl (Txt.startswith a b)) := fun B Hs H σ r Q q =>
  h B Hs H σ r _ fun Hs1 H1 v g x => by
    cases x
    refine ⟨rfl, hb B Hs1 H1 σ (r.grow g) _ fun Hs2 H2 w g2 y => ?_⟩
    cases y
    exact ⟨a, b, rfl, rfl, q Hs2 H2 _ (g.trans g2) (.bl _)⟩
/-- int(a) -/
abbrev rIntS : List V → Hp → VK → Prop := fun xs H Q => ∃ a n, xs = [V.str a] ∧ PySem.intText? a = some n ∧ a.length ≤ 640 ∧ Q (.int n) H
theorem ev_intS {a : Str} {n : Int} (h : EvD K ta ρ (.str a)) (hn : PySem.intText? a = some n) (hl : a.length ≤ 640) : EvD K (tCB rIntS (tCons ta tNil)) ρ (.int n) := fun B Hs H σ r Q q =>
  h B Hs H σ r _ fun Hs1 H1 v g x => by
    cases x
    exact ⟨a, n, rfl, hn, hl, q Hs1 H1 _ g (.int _)⟩
/-- a[lo:hi] -/
theorem ev_slS {a : Str} {tl th : TO} {lo hi : Option Int} (h : EvD K ta ρ (.str a)) (hl : EvO K tl ρ lo) (hh : EvO K th ρ hi) (hz : a.length ≤ sizeLine) : EvD K (tSl rSlS ta tl th) ρ (.str (cutS a lo hi)) := fun B Hs H σ r Q q =>
  h B Hs H σ r _ fun Hs1 H1 v g1 x => hl B Hs1 H1 σ (r.grow g1) _ fun Hs2 H2 g2 => hh B Hs2 H2 σ ((r.grow g1).grow g2) _ fun Hs3 H3 g3 => by
    cases x
    exact ⟨a, rfl, hz, q Hs3 H3 _ ((g1.trans g2).trans g3) (.str _)⟩
/-- a + b -/
theorem ev_addS {a b : Str} (h : EvD K ta ρ (.str a)) (hb : EvD K tb ρ (.str b)) (hl : a.length + b.length ≤ sizeLine) : EvD K (tOp (rAddA K) ta tb) ρ (.str (a ++ b)) := fun B Hs H σ r Q q =>
  h B Hs H σ r _ fun Hs1 H1 v g x => hb B Hs1 H1 σ (r.grow g) _ fun Hs2 H2 w g2 y => by
    cases x
    cases y
    exact .inr (.inr (.inr ⟨a, b, rfl, rfl, hl, q Hs2 H2 _ (g.trans g2) (.str _)⟩))
/-- the signs of a text, one after the other -/
theorem ei_str {a : Str} (h : EvD K ta ρ (.str a)) : EvI K (iStr ta) ρ (a.cps.toList.map fun c => D.str ⟨#[c]⟩) := fun B Hs H σ r R q => h B Hs H σ r _ fun Hs1 H1 v g x => by
  cases x
  refine ⟨a, rfl, q _ Hs1 H1 g fun i Hs2 H2 e1 e2 => ⟨fun d hd => ?_, fun hi => ?_⟩⟩
  · rw [List.getElem?_map] at hd
    obtain ⟨c, hc, rfl⟩ := Option.map_eq_some_iff.mp hd
    rw [Array.getElem?_toList] at hc
    refine ⟨(Array.getElem?_eq_some_iff.mp hc).1, fun x H3 y => ?_⟩
    obtain ⟨rfl, c', hc', rfl⟩ := y
    rw [hc] at hc'
    cases hc'
    exact ⟨Hs2, Gr.refl e2, .str _⟩
  · rw [List.length_map, Array.length_toList] at hi
    show a.cps.size ≤ i
    omega
theorem ev_notInSg {c : Nat} {z : Str} (h : EvD K ta ρ (.str ⟨#[c]⟩)) (hb : EvD K tb ρ (.str z)) : EvD K (tOp (rNotInA K) ta tb) ρ (.bl (!decide (c ∈ z.cps.toList))) := fun B Hs H σ r Q q =>
  h B Hs H σ r _ fun Hs1 H1 v g x => hb B Hs1 H1 σ (r.grow g) _ fun Hs2 H2 w g2 y => by
    cases x
    cases y
    exact .inr (.inr (.inr ⟨c, z, rfl, rfl, q Hs2 H2 _ (g.trans g2) (.bl _)⟩))
end
/-! ### a tuple of texts that the top has -/
def tupB (K : PySem.W.Frag) (p : Addr) (ys : List Str) : Bool := match K.lookup p with
  | some ⟨.type "tuple", none, .seq its _, _⟩ => decide (its.toList.length ≤ 1000) && decide (its.toList.length = ys.length) && (its.toList.zip ys).all fun q => Value.isStrOf q.2 q.1
  | _ => false
def TupC (K : PySem.W.Frag) (p : Addr) (ys : List Str) : Prop := ∃ (o : Obj) (its : Array Value) (n : Nat), K.lookup p = some o ∧ o.cls = .type "tuple" ∧ o.dict = none ∧ o.data = .seq its n ∧ its.size ≤ sizeLine ∧ Vals (ys.map V.str) its.toList
theorem vals_zip : ∀ {its : List Value} {ys : List Str}, its.length = ys.length → ((its.zip ys).all fun q => Value.isStrOf q.2 q.1) = true → Vals (ys.map V.str) its
  | [], [], _, _ => .nil
  | v :: its, y :: ys, hl, h => by
    rw [List.zip_cons_cons, List.all_cons, Bool.and_eq_true] at h
    exact .cons (Value.isStrOf_shape h.1) (vals_zip (Nat.succ.inj hl) h.2)
theorem tupc_of {K : PySem.W.Frag} {p : Addr} {ys : List Str} (q : tupB K p ys = true) : TupC K p ys := by
  unfold tupB at q
  split at q
  · rename_i its n sl ho
    simp only [Bool.and_eq_true, decide_eq_true_eq] at q
    exact ⟨_, its, n, ho, rfl, rfl, rfl, by rw [sizeLine_eq, ← Array.length_toList]; omega, vals_zip q.1.2 q.2⟩
  · cases q
abbrev rTIndex (K : PySem.W.Frag) : V → List V → Hp → VK → Prop := fun x xs H Q => ∃ p, ∃ ys : List Str, ∃ z j, x = .ref p ∧ xs = [.str z] ∧ SqT K H p (ys.map V.str) ∧ ys[j]? = some z ∧ (∀ m, m < j → ys[m]? ≠ some z) ∧ Q (.int (j : Nat)) H
theorem tindexK {X : Cx} {K : PySem.W.Frag} (h : X.K = K) : MtR X "tuple.index" (rTIndex K) := by subst h; exact mt_tup_index
theorem ev_tindex [TbC] {K : PySem.W.Frag} {ρ : Env} {tb : TE} {p : Addr} {ys : List Str} {z : Str} {j : Nat} (T : TupC K p ys) (hb : EvD K tb ρ (.str z)) (hj : ys[j]? = some z) (hm : ∀ m, m < j → ys[m]? ≠ some z) : EvD K (tBM K "tuple" (rTIndex K) (tC (.ref p)) (tCons tb tNil)) ρ (.int (j : Nat)) := fun B Hs H σ r Q q => by
  obtain ⟨o, its, n, h1, h2, h3, h4, h5, h6⟩ := T
  exact ⟨.inr (.inl ⟨rfl, o, h1, h2, h3⟩), hb B Hs H σ r _ fun Hs2 H2 w g2 y => by
    cases y
    exact ⟨p, ys, z, j, rfl, rfl, .inr ⟨o, its, n, h1, h2, h4, h5, h6⟩, hj, hm, q Hs2 H2 _ g2 (.int _)⟩⟩
end DL

/-! DFal: closures kept in fields of own trees: called there; dressed with what they capture. -/
namespace DL
open PySem L2
section
variable [TbC] {X : Cx} {CX : CXT} {cl : List (Str × Addr)} {ps fr : List Str} {j k : Nat} {m : Str} {E : XK} {ta : TE} {t : TA} {o e : Expr} {es : List Expr} {pos apos : Pos} {pl : Sem Bool}
theorem getmeth_attr {pins : List (Addr × Obj)} {σ : L2.St} {H : Hp} {s : Shared} {a C dx : Addr} {fs : List (Str × V)} {v : V} {A : Around} {Ex : Value → Shared → Prop} {Q : Value × List Value → Shared → Prop} (I : Inv X pins σ H s) (e : H a = some (.ins C dx fs)) (c : Cls X.K C) (n : NoAttr X.K C m) (l : fs.lookup m = some v)
    (h : ∀ u s', Inv X pins σ H s' → RelV v u → Q (u, []) s') : wpAny (model X.prog X.w) A (getMethod (.ref a) m pl) Q Ex s := by
  obtain ⟨mA, O, _⟩ := ins_get I.hok e
  obtain ⟨od, J, _⟩ := O.look
  exact PySem.W.method_usual I.kIn J (PySem.W.plainGet_of (c.get m)).1 (PySem.W.plainGet_of (c.get m)).2 n rfl (getattr_ok I e c n l fun u s' I' ru => h u s' I' ru)
/-- o.m(..), m a field that holds a closure; the base has its cells -/
def tCallA (K : PySem.W.Frag) (mk : Addr → CF) (m : Str) (sp : Sp) (E : XK) (ta : TE) (t : TA) : TE := fun σ H Q => ta σ H fun x H1 => ∃ a C dx fs f c', x = .ref a ∧ H1 a = some (.ins C dx fs) ∧ Cls K C ∧ NoAttr K C m ∧ fs.lookup m = some (.ref f) ∧ H1 f = some ((mk c').ob f) ∧
  t σ H1 fun vs H2 => H2 f = some ((mk c').ob f) ∧ H2 (mk c').c = some (LamX.CodeO (mk c').c (mk c').qual) ∧ sp vs H2 Q E
theorem pe_callA {K : PySem.W.Frag} {mk : Addr → CF} {us : List V} {spn : List (Option V) → Sp} (hK : X.K = K) (he : PE X o ta) (Fn : ∀ f c', COk X.prog X.w X.K X.mg X.base CX j f (mk c') ps fr spn) (C : NdefX.CellsAt cl fr (us.map some) X.base em) (hcl : ∀ c', (mk c').cl = cl) (hr : Room k X.A) (hk : j ≤ k) (hx : Passes CX X E)
    (ha : PA X (e :: es) t) (hs : starEach (e :: es) X.env = (false, eval e X.env) :: starEach es X.env := by rfl) (hpl : (backTo pos (starEach es X.env)).any (·.1) = false := by rfl)
    (ht : eval (.Call (.Attribute o m apos) (e :: es) [] pos) X.env = (do
      let ov ← eval o X.env
      standAt apos.atName
      let (f, first) ← holding [ov] (getMethod ov m pl)
      callWith pos f first (backTo pos (starEach (e :: es) X.env)) (backToKw pos (keywordEach [] X.env))) := by rfl) :
    PE X (.Call (.Attribute o m apos) (e :: es) [] pos) (tCallA K mk m (spn (us.map some)) E ta t) := by
  subst hK
  refine ⟨fun pins s σ H Q I h => ?_⟩
  refine PySem.W.methodCall_KW (pl := pl) (thn (he.run pins s σ H _ I h) fun u s1 ⟨x, H1, I1, rx, a, C0, dx, fs, f, c', ex, ea, c, n, l, hf, q⟩ => ?_) ht
  subst ex
  obtain rfl : u = Value.ref a := rx
  refine getmeth_attr I1 ea c n l fun u s2 I2 ru => ?_
  obtain rfl : u = Value.ref f := ru
  refine PySem.W.callWith_F (first := []) (cfAt_of I2 hf) (thn (ha.run pos pins s2 σ _ _ I2 q) fun ws s3 ⟨vs, H2, I3, r, h1, h2, q2⟩ => ⟨cfAt_of I3 h1, ?_⟩) hs hpl
  show wpAny _ _ (call (.ref f) ws) _ _ _
  have C2 := CellsAt.live C I3
  rw [← hcl c'] at C2
  refine wpAny_call (codeAny_mono ((Fn f c').run X.A X.stack s3 H2 ws vs (us.map some) Q E (hr.mono hk) I3.env0 h1 h2 C2 r q2) fun r s' hq => ?_)
  cases r with
  | error e => exact hx pins σ H2 s3 e s' I3 hq
  | ok fl =>
    cases fl with
    | ret u => exact I3.after hq
    | next => exact False.elim hq
    | brk => exact False.elim hq
    | cont => exact False.elim hq
end
/-! ### a tree in a slot, of which a call takes a part -/
section
variable [TbC] {K : PySem.W.Frag} {B : Base} {Hs H Hs' H' : Hp} {σ : L2.St} {ρ ρ' : Env} {i : Nat} {nw : Nw} {o o1 : O} {p : List Nat}
theorem RS.ioG (r : RS K B Hs H σ ρ) {R : Nat → Hp} (rg : Reg K B Hs H σ ρ R) {o' : O} (hi : ρ[i]? = some (some (.tr K nw o))) {v0 : V} (hv : σ[i]? = some (some v0)) {S C T' : Hp} (g : Gr Hs C H Hs' H') (hS : ∀ a, S a ≠ none → R i a ≠ none) (hC : ∀ a, S a = none → C a = H a) (ow : Own K Hs' v0 o' T')
    (hT : ∀ a u, T' a = some u → (S a = none ∧ R i a = some u) ∨ (H' a = some u ∧ Hs' a = none ∧ u.pln = true ∧ (S a ≠ none ∨ H a = none))) : RS K B Hs' H' σ (ρ.set i (some (.tr K nw o'))) := by
  obtain ⟨v, hv', hh⟩ := rg.1 i _ hi
  rw [hv] at hv'
  cases hv'
  refine r.io rg (fun j => j = i) g (fun a z => hC a ?_) (by rw [List.length_set]) (fun _ => T') (fun j sv e => ?_) (fun j a u ej e => ?_) (fun j l a ej el _ _ => by rw [ej, el])
  · cases y : S a with
    | none => rfl
    | some u => exact absurd (z i rfl) (hS a (some_ne y))
  · by_cases ej : j = i
    · subst ej
      have hl : j < ρ.length := (List.getElem?_eq_some_iff.mp hi).1
      rw [List.getElem?_set_self hl] at e
      cases e
      exact .inr ⟨rfl, v0, hv, fun Hs1 x => ⟨(hh Hs (Ex.refl Hs)).1, ow.mono x⟩, fun nn k ek => ⟨.tr K nw o, by rw [ek]; exact hi, nn⟩⟩
    · rw [List.getElem?_set_ne (Ne.symm ej)] at e
      exact .inl ⟨ej, e⟩
  · subst ej
    rcases hT a u e with ⟨e1, e2⟩ | ⟨e1, e2, e3, e4⟩
    · obtain ⟨z1, z2, z3, z4⟩ := rg.2.1 j a u e2
      refine ⟨g.fr.pl ((hC a e1).trans z1) z4, ?_, z4, .inl ⟨j, rfl, some_ne e2⟩⟩
      rw [g.nw a (.of z1 z4)]
      exact z2
    · exact ⟨e1, e2, e3, e4.imp (fun y => ⟨j, rfl, hS a y⟩) id⟩
/-- what lies at a path, and how a call may change it -/
theorem RS.ioP (r : RS K B Hs H σ ρ) {R : Nat → Hp} (rg : Reg K B Hs H σ ρ R) (hi : ρ[i]? = some (some (.tr K nw o))) (hp : o.at_ p = some o1) :
    ∃ v0 v1 S, σ[i]? = some (some v0) ∧ VAt H v0 p v1 ∧ Own K Hs v1 o1 S ∧ (∀ a u, S a = some u → H a = some u ∧ Hs a = none ∧ u.pln = true) ∧
      ∀ {Hs' H' C S' : Hp} {o1' : O}, Gr Hs C H Hs' H' → (∀ a, S a = none → C a = H a) → Own K Hs' v1 o1' S' → (∀ a u, S' a = some u → H' a = some u ∧ Hs' a = none ∧ u.pln = true ∧ (S a ≠ none ∨ H a = none)) → RS K B Hs' H' σ (ρ.set i (some (.tr K nw (o.put p o1')))) := by
  obtain ⟨v0, hv, hh⟩ := rg.1 i _ hi
  have ow : Own K Hs v0 o (R i) := (hh Hs (Ex.refl Hs)).2
  obtain ⟨v1, S, T, va, h1, d1, e1, k1⟩ := ow.part hp
  have sub : ∀ a u, S a = some u → R i a = some u := fun a u e => by rw [e1, jn_l e]
  refine ⟨v0, v1, S, hv, va.mono fun a u e => (rg.2.1 i a u e).1, h1, fun a u e => ?_, fun {Hs' H' C S' o1'} g hC h' hS' => ?_⟩
  · obtain ⟨z1, z2, _, z4⟩ := rg.2.1 i a u (sub a u e)
    exact ⟨z1, z2, z4⟩
  · have dT : ∀ a, S' a ≠ none → T a = none := fun a ha => by
      obtain ⟨u, hu⟩ := ne_some ha
      rcases (hS' a u hu).2.2.2 with y | y
      · exact d1 a y
      · cases z : T a with
        | none => rfl
        | some w =>
          have hS : S a = none := by
            cases q : S a with
            | none => rfl
            | some w2 => rw [d1 a (some_ne q)] at z; cases z
          have : R i a = some w := by rw [e1, jn_r hS, z]
          rw [(rg.2.1 i a w this).1] at y
          cases y
    refine r.ioG rg hi hv g (fun a ha => ?_) hC (k1 g.sh h' dT) (fun a u e => ?_)
    · obtain ⟨u, hu⟩ := ne_some ha
      exact some_ne (sub a u hu)
    · cases z : S' a with
      | some w =>
        rw [jn_l z] at e
        cases e
        exact .inr (hS' a u z)
      | none =>
        rw [jn_r z] at e
        have hS : S a = none := by
          cases y : S a with
          | none => rfl
          | some w =>
            rw [d1 a (some_ne y)] at e
            cases e
        exact .inl ⟨hS, by rw [e1, jn_r hS, e]⟩
theorem O.at_app : ∀ {p q : List Nat} {o o1 : O}, o.at_ p = some o1 → o.at_ (p ++ q) = o1.at_ q
  | [], q, o, o1, h => by
    have h := Option.some.inj h
    subst h
    rfl
  | j :: p, q, o, o1, h => by
    obtain ⟨x, hx, h⟩ := Option.bind_eq_some_iff.mp h
    show (o.kids[j]?).bind (fun x => x.at_ (p ++ q)) = _
    rw [hx]
    exact O.at_app h
theorem Own.cl_inv {v : V} {tk : Option (List Str)} {F : CF} {us : List V} {xs : List O} {S : Hp} (h : Own K Hs v (.cl tk F us xs) S) : ∃ f, v = .ref f ∧ (Hs f = some (F.ob f) ∧ Hs F.c = some (LamX.CodeO F.c F.qual) ∧ ∀ fr, tk = some fr → Trk Hs F.cl fr us) ∧ OwnL K Hs us xs S := by
  cases h with
  | cl h r => exact ⟨_, rfl, h, r⟩
end
section
variable [TbC] {K : PySem.W.Frag} {ρ ρ' : Env} {i : Nat} {nw : Nw} {o : O} {p : List Nat} {ta : TE} {t : TA} {es : List D} {α : Type} {pre : α → Prop} {arg : α → List AV} {post : α → D → List AV → Prop} {exc : α → Value → Option (List (Str × D)) → List AV → Prop}
/-- regions of the own among a call's arguments: shared ones, then those with the regions Rs -/
theorem isl_app {Hs H : Hp} {vs us : List V} {ds : List D} {os : List O} {S : Hp} (ys : RepL K Hs vs ds) (ol : OwnL K Hs us os S) (hS : ∀ a u, S a = some u → H a = some u ∧ Hs a = none ∧ u.pln = true) :
    ∃ Rs : Nat → Hp, IsL K Hs H (vs ++ us) (ds.map AV.d ++ os.map AV.o) Rs ∧ (∀ a, (∀ m, Rs m a = none) ↔ S a = none) := by
  obtain ⟨Rs, s1, s2, s3, s4⟩ := OwnL.regs ol
  have hvl := ys.length
  have hlo := ol.length
  refine ⟨fun m => if m < vs.length then em else Rs (m - vs.length), ⟨by rw [List.length_append, List.length_append, List.length_map, List.length_map, hvl, hlo], fun m u a e1 e2 => ?_, fun m a u e => ?_, fun m l a e1 e2 => ?_⟩, fun a => ⟨fun h => ?_, fun h m => ?_⟩⟩
  · by_cases hm : m < vs.length
    · rw [List.getElem?_append_left hm] at e1
      rw [List.getElem?_append_left (by rw [List.length_map, ← hvl]; exact hm), List.getElem?_map] at e2
      obtain ⟨d0, e3, rfl⟩ := Option.map_eq_some_iff.mp e2
      obtain ⟨d1, e4, e5⟩ := ys.get e1
      rw [e3] at e4
      cases e4
      exact ⟨e5, if_pos hm⟩
    · rw [List.getElem?_append_right (Nat.le_of_not_lt hm)] at e1
      rw [List.getElem?_append_right (by rw [List.length_map, ← hvl]; exact Nat.le_of_not_lt hm), List.getElem?_map, List.length_map, ← hvl] at e2
      obtain ⟨t0, e3, rfl⟩ := Option.map_eq_some_iff.mp e2
      show Own K Hs u t0 (if m < vs.length then em else Rs (m - vs.length))
      rw [if_neg hm]
      exact s1 _ _ _ e1 e3
  · by_cases hm : m < vs.length
    · rw [if_pos hm] at e
      cases e
    · rw [if_neg hm] at e
      obtain ⟨z1, z2⟩ := s2 _ a u e
      obtain ⟨e1, e2, e3⟩ := hS a u z2
      exact ⟨by rw [List.length_append]; omega, e1, e2, e3⟩
  · by_cases hm : m < vs.length
    · rw [if_pos hm] at e1
      exact absurd rfl e1
    · by_cases hm' : l < vs.length
      · rw [if_pos hm'] at e2
        exact absurd rfl e2
      · rw [if_neg hm] at e1
        rw [if_neg hm'] at e2
        have := s3 _ _ a e1 e2
        omega
  · cases q0 : S a with
    | none => rfl
    | some u =>
      obtain ⟨k, hk⟩ := s4 a u q0
      have := h (vs.length + k)
      dsimp only at this
      rw [if_neg (by omega), Nat.add_sub_cancel_left, hk] at this
      cases this
  · dsimp only
    by_cases hm : m < vs.length
    · rw [if_pos hm]
      rfl
    · rw [if_neg hm]
      cases q0 : Rs (m - vs.length) a with
      | none => rfl
      | some u =>
        rw [(s2 _ a u q0).2] at h
        cases h
/-- .. and behind the call -/
theorem isb_app {H Hs' H' S : Hp} {vs us : List V} {as : List AV} {os os' : List O} {Rs Rs' : Nat → Hp} {n : Nat} (b : IsB K H Hs' H' (vs ++ us) as Rs Rs') (hn : n = vs.length) (hl : us.length = os.length) (w1 : ∀ k : Nat, k < os.length → as[n + k]? = (os'.map AV.o)[k]?) (w2 : os'.length = os.length) (hR : ∀ a, (∀ m, Rs m a = none) ↔ S a = none) :
    ∃ S', OwnL K Hs' us os' S' ∧ ∀ a u, S' a = some u → H' a = some u ∧ Hs' a = none ∧ u.pln = true ∧ (S a ≠ none ∨ H a = none) := by
  subst hn
  obtain ⟨R', o1, o2, o3⟩ := OwnL.ofRegs (K := K) (Hs := Hs') (us := us) (os := os') (Rs := fun k => Rs' (vs.length + k)) (by rw [hl, w2]) (fun k u o e1 e2 => by
    have hk : k < os.length := by rw [← w2]; exact (List.getElem?_eq_some_iff.mp e2).1
    exact b.is (vs.length + k) u (.o o) (by rw [List.getElem?_append_right (Nat.le_add_right _ _), Nat.add_sub_cancel_left]; exact e1) (by rw [w1 k hk, List.getElem?_map, e2]; rfl) rfl) (fun k l a e1 e2 => by
    have := b.dis _ _ a e1 e2
    omega)
  refine ⟨R', o1, fun a u e => ?_⟩
  obtain ⟨k, _, z2⟩ := o2 a u e
  obtain ⟨_, e1, e2, e3, e4⟩ := b.reg _ a u z2
  refine ⟨e1, e2, e3, e4.imp (fun ⟨m, z3⟩ q0 => z3 ((hR a).mpr q0 m)) id⟩
/-- o.m(..), m a field of an own tree that holds a closure over own things -/
theorem ev_callA {mk : Addr → CF} {cc : Addr} {jf : Nat} {m : Str} {C : Addr} {ns : List Str} {xs : List O} {tk : Option (List Str)} {us : List V} {os : List O} {E : XK} {np nf : Nat} (x : α)
    (hw : EvW K ta ρ i p) (hi : ρ[i]? = some (some (.tr K nw o))) (hp : o.at_ p = some (.ob C ns xs)) (hj : ns.findIdx? (· == m) = some jf) (hxs : xs[jf]? = some (.cl tk (mk cc) us os)) (hc : Cls K C) (hn : NoAttr K C m)
    (ht : EvA K t ρ es) (hpre : pre x) (ha : arg x = es.map AV.d ++ os.map AV.o) (hnp : es.length = np) (hno : os.length = nf) (Z : D → List O → Prop)
    (sh : ∀ d as, post x d as → ∃ os', (∀ k : Nat, k < os.length → as[es.length + k]? = (os'.map AV.o)[k]?) ∧ os'.length = os.length ∧ Z d os') (hx : ∀ cls fs as, ¬ exc x cls fs as) :
    EvE K (tCallA K mk m (fun vs H Q E => vs.length = np ∧ (us.map some).length = nf ∧ spCB (spB K pre arg post exc) (us.map some) vs H Q E) E ta t) ρ (fun d ρ' => ∃ os', Z d os' ∧ ρ' = ρ.set i (some (.tr K nw (o.put (p ++ [jf]) (.cl tk (mk cc) us os'))))) := fun B Hs H σ r Q q =>
  hw B Hs H σ r _ fun Hs0 H0 v0 v g0 hv va => by
    have r0 := r.grow g0
    obtain ⟨R0, rg0⟩ := r0.reg
    obtain ⟨v0', v1, S, hv', va', ow, sub, _⟩ := r0.part rg0 hi hp
    rw [hv] at hv'
    cases hv'
    have e := va.det va'
    subst e
    obtain ⟨a, dx, vs, R1, rfl, n, l, hl, rfl⟩ := ow.ob_inv
    obtain ⟨u, h1, h2⟩ := look_zipN hj (by rw [hl.length]; exact l)
    have hHa := (sub a _ upd_same).1
    obtain ⟨f', hf'⟩ := zip_get (ns := ns) (by rw [hl.length]; exact l) h2
    have vau : VAt H0 v0 (p ++ [jf]) u := va.app (.ins hHa hf' .nil)
    have hpl : o.at_ (p ++ [jf]) = some (.cl tk (mk cc) us os) := by
      rw [O.at_app hp]
      show (xs[jf]?).bind (fun x => some x) = _
      rw [hxs]
      rfl
    obtain ⟨v0', v1, S, hv', va', ow, sub2, _⟩ := r0.ioP rg0 hi hpl
    rw [hv] at hv'
    cases hv'
    have e := vau.det va'
    subst e
    obtain ⟨f, rfl, ⟨f1, f2, _⟩, ol⟩ := ow.cl_inv
    refine ⟨a, C, dx, _, f, cc, rfl, hHa, hc, hn, h1, r0.ex _ _ f1, ht B Hs0 H0 σ r0 _ fun Hs1 H1 ws g1 ys => ?_⟩
    have r1 := r0.grow g1
    obtain ⟨R, rg⟩ := r1.reg
    obtain ⟨v0', v1, S, hv', va', ow, sub2, back⟩ := r1.ioP rg hi hpl
    rw [hv] at hv'
    cases hv'
    have e := (vau.monoN g1.fr).det va'
    subst e
    obtain ⟨f', ef, ⟨f1, f2, f3⟩, ol⟩ := ow.cl_inv
    cases ef
    obtain ⟨Rs, il, hR⟩ := isl_app ys ol sub2
    have hwl := ys.length
    have hul := ol.length
    refine ⟨r1.ex _ _ f1, r1.ex _ _ f2, by rw [hwl, hnp], by rw [List.length_map, hul, hno], us, rfl, Hs1, x, Rs, ⟨r1.ex, r1.tb⟩, by rw [ha]; exact il, hpre, fun Hs' H' w d as Rs' gg b y z => ?_, fun _ _ cls _ fs as _ _ _ _ z => (hx cls fs as z).elim⟩
    obtain ⟨os', w1, w2, w3⟩ := sh d as z
    obtain ⟨S', o1, o2⟩ := isb_app b (n := es.length) hwl.symm hul w1 w2 hR
    exact q Hs' H' w d _ ((g0.sh.trans g1.sh).trans gg.sh) (back gg (fun a z => cut_of ((hR a).mpr z)) (.cl ⟨gg.sh _ _ f1, gg.sh _ _ f2, fun fr e => (f3 fr e).mono gg.sh⟩ o1) o2) y ⟨os', w3, rfl⟩
end
/-! ### a closure of the running frame, kept in a tree: dressed for a call -/
/-- what a closure captures: js, what the slots hold -/
def CapOk [TbC] (K : PySem.W.Frag) (ρ : Env) : List (Nat × AR) → List O → Prop
  | [], [] => True
  | (n, .inl d) :: cs, o :: os => (o = .sh d ∧ ρ[n]? = some (some (.sh d))) ∧ CapOk K ρ cs os
  | (n, .inr j) :: cs, o :: os => (n = j.1 ∧ ρ[j.1]? = some (some (.tr K j.2 o))) ∧ CapOk K ρ cs os
  | _, _ => False
def capA : List (Nat × AR) → List O → List AV
  | (_, .inl d) :: cs, _ :: os => .d d :: capA cs os
  | (_, .inr _) :: cs, o :: os => .o o :: capA cs os
  | _, _ => []
section
variable [TbC] {K : PySem.W.Frag} {B : Base} {Hs H Hs' H' : Hp} {σ : L2.St} {ρ ρ' : Env} {i : Nat} {nw : Nw} {o : O} {q : List Nat} {F : CF} {cs : List (Nat × AR)} {os os' : List O}
theorem CapOk.arg : ∀ {cs : List (Nat × AR)} {os : List O}, CapOk K ρ cs os → ArgOk K ρ (cs.map (·.2)) (capA cs os)
  | [], [], _ => trivial
  | [], _ :: _, h => by cases h
  | (_, .inl _) :: _, [], h => by cases h
  | (_, .inr _) :: _, [], h => by cases h
  | (_, .inl d) :: cs, o :: os, h => ⟨rfl, CapOk.arg (cs := cs) (os := os) h.2⟩
  | (_, .inr j) :: cs, o :: os, h => ⟨h.1.2, CapOk.arg (cs := cs) (os := os) h.2⟩
theorem CapOk.length : ∀ {cs : List (Nat × AR)} {os : List O}, CapOk K ρ cs os → cs.length = os.length
  | [], [], _ => rfl
  | [], _ :: _, h => by cases h
  | (_, .inl _) :: _, [], h => by cases h
  | (_, .inr _) :: _, [], h => by cases h
  | (_, .inl d) :: cs, o :: os, h => congrArg (· + 1) (CapOk.length (cs := cs) (os := os) h.2)
  | (_, .inr j) :: cs, o :: os, h => congrArg (· + 1) (CapOk.length (cs := cs) (os := os) h.2)
theorem CapOk.get : ∀ {cs : List (Nat × AR)} {os : List O} {k : Nat} {o : O}, CapOk K ρ cs os → os[k]? = some o → (∃ d, o = .sh d ∧ (capA cs os)[k]? = some (.d d)) ∨ (capA cs os)[k]? = some (.o o)
  | [], [], _, _, _, e => by simp at e
  | [], _ :: _, _, _, h, _ => by cases h
  | (_, .inl _) :: _, [], _, _, h, _ => by cases h
  | (_, .inr _) :: _, [], _, _, h, _ => by cases h
  | (_, .inl d) :: cs, o :: os, 0, _, h, e => by
    cases e
    exact .inl ⟨d, h.1.1, rfl⟩
  | (_, .inr j) :: cs, o :: os, 0, _, h, e => by
    cases e
    exact .inr rfl
  | (_, .inl d) :: cs, o :: os, k + 1, _, h, e => CapOk.get (cs := cs) (os := os) (k := k) h.2 e
  | (_, .inr j) :: cs, o :: os, k + 1, _, h, e => CapOk.get (cs := cs) (os := os) (k := k) h.2 e
/-- the slots' values -/
theorem CapOk.vals (r : RS K B Hs H σ ρ) {R : Nat → Hp} (rg : Reg K B Hs H σ ρ R) : ∀ {cs : List (Nat × AR)} {os : List O}, CapOk K ρ cs os → ∃ us : List V, (cs.map (·.1)).map (NdefX.slotAt σ) = us.map some ∧ VsOk K Hs σ us (cs.map (·.2))
  | [], [], _ => ⟨[], rfl, trivial⟩
  | [], _ :: _, h => by cases h
  | (_, .inl _) :: _, [], h => by cases h
  | (_, .inr _) :: _, [], h => by cases h
  | (n, .inl d) :: cs, o :: os, h => by
    obtain ⟨us, e1, e2⟩ := CapOk.vals r rg (cs := cs) (os := os) h.2
    obtain ⟨v, e3, x⟩ := r.get h.1.2
    exact ⟨v :: us, by rw [List.map_cons, List.map_cons, List.map_cons, e1, NdefX.slotAt_of e3], x, e2⟩
  | (n, .inr j) :: cs, o :: os, h => by
    obtain ⟨us, e1, e2⟩ := CapOk.vals r rg (cs := cs) (os := os) h.2
    obtain ⟨v, e3, x⟩ := rg.1 j.1 _ h.1.2
    exact ⟨v :: us, by rw [List.map_cons, List.map_cons, List.map_cons, e1]; dsimp only; rw [h.1.1, NdefX.slotAt_of e3], e3, e2⟩
theorem ArgOk.app : ∀ {ar ar' : List AR} {as as' : List AV}, ArgOk K ρ ar as → ArgOk K ρ ar' as' → ArgOk K ρ (ar ++ ar') (as ++ as')
  | [], _, [], _, _, h => h
  | [], _, _ :: _, _, h, _ => by cases h
  | .inl _ :: _, _, [], _, h, _ => by cases h
  | .inr _ :: _, _, [], _, h, _ => by cases h
  | .inl _ :: ar, _, .d _ :: as, _, h, k => ⟨h.1, ArgOk.app (ar := ar) (as := as) h.2 k⟩
  | .inr _ :: ar, _, .o _ :: as, _, h, k => ⟨h.1, ArgOk.app (ar := ar) (as := as) h.2 k⟩
  | .inl _ :: _, _, .o _ :: _, _, h, _ => by cases h
  | .inl _ :: _, _, .c _ _ _ :: _, _, h, _ => by cases h
  | .inr _ :: _, _, .d _ :: _, _, h, _ => by cases h
  | .inr _ :: _, _, .c _ _ _ :: _, _, h, _ => by cases h
theorem argOk_d : ∀ ds : List D, ArgOk K ρ (ds.map Sum.inl) (ds.map AV.d)
  | [] => trivial
  | d :: ds => ⟨rfl, argOk_d ds⟩
theorem shp_d : ∀ ds : List D, Shp (ds.map Sum.inl) (ds.map AV.d)
  | [] => trivial
  | d :: ds => shp_d ds
theorem VsOk.app : ∀ {vs us : List V} {ar ar' : List AR}, VsOk K Hs σ vs ar → VsOk K Hs σ us ar' → VsOk K Hs σ (vs ++ us) (ar ++ ar')
  | [], _, [], _, _, h => h
  | [], _, _ :: _, _, h, _ => by cases h
  | _ :: _, _, [], _, h, _ => by cases h
  | v :: vs, _, .inl _ :: ar, _, h, k => ⟨h.1, VsOk.app (vs := vs) (ar := ar) h.2 k⟩
  | v :: vs, _, .inr _ :: ar, _, h, k => ⟨h.1, VsOk.app (vs := vs) (ar := ar) h.2 k⟩
theorem vsOk_d : ∀ {vs : List V} {ds : List D}, RepL K Hs vs ds → VsOk K Hs σ vs (ds.map Sum.inl)
  | _, _, .nil => trivial
  | _, _, .cons h r => ⟨h, vsOk_d r⟩
theorem vsOk_rep : ∀ {vs : List V} {ds : List D}, VsOk K Hs σ vs (ds.map Sum.inl) → RepL K Hs vs ds
  | [], [], _ => .nil
  | [], _ :: _, h => by cases h
  | _ :: _, [], h => by cases h
  | v :: vs, d :: ds, h => .cons h.1 (vsOk_rep h.2)
theorem Shp.app : ∀ {ar ar' : List AR} {as as' : List AV}, Shp ar as → Shp ar' as' → Shp (ar ++ ar') (as ++ as')
  | [], _, [], _, _, h => h
  | [], _, _ :: _, _, h, _ => by cases h
  | .inl _ :: _, _, [], _, h, _ => by cases h
  | .inr _ :: _, _, [], _, h, _ => by cases h
  | .inl _ :: ar, _, .d _ :: as, _, h, k => Shp.app (ar := ar) (as := as) h k
  | .inr _ :: ar, _, .o _ :: as, _, h, k => Shp.app (ar := ar) (as := as) h k
  | .inl _ :: _, _, .o _ :: _, _, h, _ => by cases h
  | .inl _ :: _, _, .c _ _ _ :: _, _, h, _ => by cases h
  | .inr _ :: _, _, .d _ :: _, _, h, _ => by cases h
  | .inr _ :: _, _, .c _ _ _ :: _, _, h, _ => by cases h
theorem capA_shp : ∀ {cs : List (Nat × AR)} {os : List O}, cs.length = os.length → Shp (cs.map (·.2)) (capA cs os)
  | [], [], _ => trivial
  | [], _ :: _, h => by cases h
  | _ :: _, [], h => by cases h
  | (_, .inl d) :: cs, o :: os, h => capA_shp (cs := cs) (os := os) (Nat.succ.inj h)
  | (_, .inr j) :: cs, o :: os, h => capA_shp (cs := cs) (os := os) (Nat.succ.inj h)
theorem capA_own : ∀ {cs : List (Nat × AR)} {os : List O} {k : Nat} {a : AV}, (capA cs os)[k]? = some a → a.own = true → ∃ o, a = .o o ∧ os[k]? = some o
  | [], [], _, _, e, _ => by simp [capA] at e
  | [], _ :: _, _, _, e, _ => by simp [capA] at e
  | (_, .inl _) :: _, [], _, _, e, _ => by simp [capA] at e
  | (_, .inr _) :: _, [], _, _, e, _ => by simp [capA] at e
  | (_, .inl d) :: cs, o :: os, 0, _, e, h => by
    cases e
    cases h
  | (_, .inr d) :: cs, o :: os, 0, _, e, h => by
    cases e
    exact ⟨o, rfl, rfl⟩
  | (_, .inl d) :: cs, o :: os, k + 1, _, e, h => capA_own (cs := cs) (os := os) (k := k) e h
  | (_, .inr d) :: cs, o :: os, k + 1, _, e, h => capA_own (cs := cs) (os := os) (k := k) e h
theorem capA_length : ∀ {cs : List (Nat × AR)} {os : List O}, cs.length = os.length → (capA cs os).length = os.length
  | [], [], _ => rfl
  | [], _ :: _, h => by cases h
  | _ :: _, [], h => by cases h
  | (_, .inl d) :: cs, o :: os, h => congrArg (· + 1) (capA_length (cs := cs) (os := os) (Nat.succ.inj h))
  | (_, .inr j) :: cs, o :: os, h => congrArg (· + 1) (capA_length (cs := cs) (os := os) (Nat.succ.inj h))
theorem Own.sh_inv {v : V} {d : D} {S : Hp} (h : Own K Hs v (.sh d) S) : Rep K Hs v d ∧ S = em := by
  cases h with
  | sh x => exact ⟨x, rfl⟩
/-- the call's arguments, the tree dressed; and the way back -/
theorem RS.dress (r : RS K B Hs H σ ρ) {R : Nat → Hp} (rg : Reg K B Hs H σ ρ R) {v : V} {vs us : List V} {ds : List D} (hi : ρ[i]? = some (some (.tr K nw o))) (hv : σ[i]? = some (some v)) (ys : RepL K Hs vs ds) (hq : o.at_ q = some (.sh (.clo F [] [])))
    (hc : CapOk K ρ cs os) (hus : VsOk K Hs σ us (cs.map (·.2))) (sep : sepB (.inr (i, nw) :: (ds.map Sum.inl ++ cs.map (·.2))) = true) :
    ∃ Rs, IsL K Hs H (v :: vs) (.o (o.put q (.cl none F us os)) :: ds.map AV.d) Rs ∧ ∀ Hs' H' o' os' Rs', Gr Hs (cut H Rs) H Hs' H' → IsB K H Hs' H' (v :: vs) (.o o' :: ds.map AV.d) Rs Rs' → o'.at_ q = some (.cl none F us os') → os'.length = os.length →
      RS K B Hs' H' σ (DL.back K (allOf (.inr (i, nw) :: (ds.map Sum.inl ++ cs.map (·.2)))) (.inr (i, nw) :: (ds.map Sum.inl ++ cs.map (·.2))) (.o (o'.put q (.sh (.clo F [] []))) :: (ds.map AV.d ++ capA cs os')) ρ) := by
  have hvl := ys.length
  have hcl := hc.length
  have hvs : VsOk K Hs σ (v :: (vs ++ us)) (.inr (i, nw) :: (ds.map Sum.inl ++ cs.map (·.2))) := ⟨hv, (vsOk_d ys).app hus⟩
  have hag : ArgOk K ρ (.inr (i, nw) :: (ds.map Sum.inl ++ cs.map (·.2))) (.o o :: (ds.map AV.d ++ capA cs os)) := ⟨hi, (argOk_d ds).app hc.arg⟩
  have lay := r.lay rg hvs hag sep
  have hul : us.length = os.length := by
    have := hus.length
    rw [List.length_map] at this
    omega
  generalize hAR : (Sum.inr (i, nw) :: (ds.map Sum.inl ++ cs.map (·.2)) : List AR) = AR0 at hvs hag lay sep ⊢
  have ix : ∀ k : Nat, (v :: (vs ++ us))[1 + vs.length + k]? = us[k]? := fun k => by
    rw [show 1 + vs.length + k = (vs.length + k) + 1 by omega, List.getElem?_cons_succ, List.getElem?_append_right (Nat.le_add_right _ _), Nat.add_sub_cancel_left]
  have ia : ∀ (os : List O) (k : Nat), (AV.o o :: (ds.map AV.d ++ capA cs os))[1 + vs.length + k]? = (capA cs os)[k]? := fun os k => by
    rw [show 1 + vs.length + k = (vs.length + k) + 1 by omega, List.getElem?_cons_succ, List.getElem?_append_right (by rw [List.length_map]; omega), List.length_map, hvl, Nat.add_sub_cancel_left]
  obtain ⟨RU, u1, u2, u3⟩ := OwnL.ofRegs (K := K) (Hs := Hs) (us := us) (os := os) (Rs := fun k => regA R AR0 (1 + vs.length + k)) hul (fun k u o' e1 e2 => by
    rcases hc.get e2 with ⟨d, rfl, e3⟩ | e3
    · obtain ⟨x1, x2⟩ := lay.is _ u (.d d) (by rw [ix]; exact e1) (by rw [ia]; exact e3)
      rw [x2]
      exact .sh x1
    · exact lay.is _ u (.o o') (by rw [ix]; exact e1) (by rw [ia]; exact e3)) (fun k l a e1 e2 => by
    have := lay.dis _ _ a e1 e2
    omega)
  have ow : Own K Hs v o (regA R AR0 0) := lay.is 0 v (.o o) rfl rfl
  obtain ⟨v1, S, T, va, h1, d1, e1, k1⟩ := ow.part hq
  obtain ⟨rp, rfl⟩ := h1.sh_inv
  have eT : ∀ a, regA R AR0 0 a = T a := fun a => by rw [e1]; rfl
  have dUT : ∀ a, RU a ≠ none → T a = none := fun a ha => by
    obtain ⟨w, hw⟩ := ne_some ha
    obtain ⟨k, _, hk⟩ := u2 a w hw
    cases z : T a with
    | none => rfl
    | some w2 =>
      have := lay.dis _ _ a (some_ne hk) (show regA R AR0 0 a ≠ none by rw [eT]; exact some_ne z)
      omega
  have leaf : ∃ f, v1 = .ref f ∧ Hs f = some (F.ob f) ∧ Hs F.c = some (LamX.CodeO F.c F.qual) := by
    cases rp with
    | clo a b c => exact ⟨_, rfl, a, b⟩
  obtain ⟨f, rfl, f1, f2⟩ := leaf
  have dr := k1 (Ex.refl Hs) (Own.cl (tk := none) ⟨f1, f2, fun fr z => nomatch z⟩ u1) dUT
  have mid : ∀ m, 0 < m → m < 1 + vs.length → regA R AR0 m = em := fun m h0 hm => by
    subst hAR
    cases m with
    | zero => exact absurd h0 (Nat.lt_irrefl _)
    | succ m =>
      have hm2 : m < ds.length := by omega
      have : (Sum.inr (i, nw) :: (ds.map Sum.inl ++ cs.map (·.2)) : List AR)[m + 1]? = some (.inl ds[m]) := by
        rw [List.getElem?_cons_succ, List.getElem?_append_left (by rw [List.length_map]; exact hm2), List.getElem?_map, List.getElem?_eq_getElem hm2]
        rfl
      exact regA_l this
  have same : ∀ a, (∃ m, (fun m => if m = 0 then jn RU T else em) m a ≠ none) ↔ ∃ m, regA R AR0 m a ≠ none := fun a => by
    constructor
    · rintro ⟨m, hm⟩
      dsimp only at hm
      by_cases m0 : m = 0
      · rw [if_pos m0] at hm
        cases z : RU a with
        | some w =>
          obtain ⟨k, _, hk⟩ := u2 a w z
          exact ⟨_, some_ne hk⟩
        | none =>
          rw [jn_r z] at hm
          exact ⟨0, by rw [eT]; exact hm⟩
      · rw [if_neg m0] at hm
        exact absurd rfl hm
    · rintro ⟨m, hm⟩
      refine ⟨0, ?_⟩
      dsimp only
      rw [if_pos rfl]
      obtain ⟨w, hw⟩ := ne_some hm
      have hlt := (lay.reg m a w hw).1
      by_cases m0 : m = 0
      · subst m0
        rw [eT] at hw
        cases z : RU a with
        | some w => rw [jn_l z]; exact fun y => nomatch y
        | none => rw [jn_r z, hw]; exact fun y => nomatch y
      · by_cases hm2 : m < 1 + vs.length
        · rw [mid m (by omega) hm2] at hw
          cases hw
        · have hm3 : m - (1 + vs.length) < us.length := by
            rw [List.length_cons, List.length_append] at hlt
            omega
          have := u3 (m - (1 + vs.length)) a w hm3 (by
            show regA R AR0 (1 + vs.length + (m - (1 + vs.length))) a = some w
            rw [show 1 + vs.length + (m - (1 + vs.length)) = m by omega]
            exact hw)
          rw [jn_l this]
          exact fun y => nomatch y
  have sameC : cut H (fun m => if m = 0 then jn RU T else em) = cut H (regA R AR0) := by
    funext a
    unfold cut
    congr 1
    exact propext (same a)
  refine ⟨fun m => if m = 0 then jn RU T else em, ⟨by rw [List.length_cons, List.length_cons, List.length_map, hvl], fun m u a e3 e4 => ?_, fun m a u e => ?_, fun m l a e3 e4 => ?_⟩, fun Hs' H' o' os' Rs' g b hq' hl' => ?_⟩
  · cases m with
    | zero =>
      cases e3
      cases e4
      exact dr
    | succ m =>
      rw [List.getElem?_cons_succ] at e3 e4
      rw [List.getElem?_map] at e4
      obtain ⟨d0, e5, rfl⟩ := Option.map_eq_some_iff.mp e4
      obtain ⟨d1, e6, e7⟩ := ys.get e3
      rw [e5] at e6
      cases e6
      exact ⟨e7, if_neg (Nat.succ_ne_zero m)⟩
  · by_cases m0 : m = 0
    · subst m0
      obtain ⟨m, hm⟩ := (same a).mp ⟨0, some_ne e⟩
      obtain ⟨w, hw⟩ := ne_some hm
      obtain ⟨_, z1, z2, z3⟩ := lay.reg m a w hw
      have e : jn RU T a = some u := by rw [← e]; exact (if_pos rfl).symm ▸ rfl
      have z4 : H a = some u := by
        cases z : RU a with
        | some w2 =>
          rw [jn_l z] at e
          obtain ⟨k, _, hk⟩ := u2 a w2 z
          rw [← e]
          exact (lay.reg _ a w2 hk).2.1
        | none =>
          rw [jn_r z] at e
          exact (lay.reg 0 a u (by rw [eT]; exact e)).2.1
      rw [z1] at z4
      cases z4
      exact ⟨by rw [List.length_cons]; omega, z1, z2, z3⟩
    · rw [if_neg m0] at e
      cases e
  · have q1 : m = 0 := by
      by_cases m0 : m = 0
      · exact m0
      · rw [if_neg m0] at e3
        exact absurd rfl e3
    have q2 : l = 0 := by
      by_cases m0 : l = 0
      · exact m0
      · rw [if_neg m0] at e4
        exact absurd rfl e4
    rw [q1, q2]
  · have ow' : Own K Hs' v o' (Rs' 0) := b.is 0 v (.o o') rfl rfl rfl
    obtain ⟨v1, S', T', va', h1', d1', e1', k1'⟩ := ow'.part hq'
    obtain ⟨f', rfl, ⟨f1', f2', _⟩, ol'⟩ := h1'.cl_inv
    have un := k1' (Ex.refl Hs') (Own.sh (Rep.clo f1' f2' .nil)) (fun a z => absurd rfl z)
    obtain ⟨Rt, t1, t2, t3, t4⟩ := OwnL.regs ol'
    rw [sameC] at g
    have inR : ∀ a u, S' a = some u ∨ T' a = some u → Rs' 0 a = some u := fun a u z => by
      rw [e1']
      rcases z with z | z
      · exact jn_l z
      · rw [jn_r]
        · exact z
        · cases y : S' a with
          | none => rfl
          | some w => rw [d1' a (some_ne y)] at z; cases z
    have rg0 : ∀ a u, Rs' 0 a = some u → H' a = some u ∧ Hs' a = none ∧ u.pln = true ∧ ((∃ k, regA R AR0 k a ≠ none) ∨ H a = none) := fun a u z => by
      obtain ⟨_, z1, z2, z3, z4⟩ := b.reg 0 a u z
      exact ⟨z1, z2, z3, z4.imp (fun y => (same a).mp y) id⟩
    have pick : ∀ m a u, (if m = 0 then T' else if m < 1 + vs.length then em else Rt (m - (1 + vs.length))) a = some u → (m = 0 ∧ T' a = some u) ∨ (1 + vs.length ≤ m ∧ m - (1 + vs.length) < us.length ∧ Rt (m - (1 + vs.length)) a = some u ∧ S' a = some u) := fun m a u e => by
      by_cases m0 : m = 0
      · rw [if_pos m0] at e
        exact .inl ⟨m0, e⟩
      · rw [if_neg m0] at e
        by_cases hm : m < 1 + vs.length
        · rw [if_pos hm] at e
          cases e
        · rw [if_neg hm] at e
          obtain ⟨z1, z2⟩ := t2 _ a u e
          exact .inr ⟨by omega, z1, e, z2⟩
    subst hAR
    refine r.behind rg hvs hag sep ?_ g ⟨?_, fun m u a e3 e4 e5 => ?_, fun m a u e => ?_, fun m l a e3 e4 => ?_⟩ (Rs' := fun m => if m = 0 then T' else if m < 1 + vs.length then em else Rt (m - (1 + vs.length)))
    · exact Shp.app (shp_d ds) (capA_shp (by omega))
    · rw [List.length_cons, List.length_cons, List.length_append, List.length_append, List.length_map, capA_length (by omega), hvl]
      omega
    · cases m with
      | zero =>
        cases e3
        cases e4
        show Own K Hs' v (o'.put q (.sh (.clo F [] []))) (if 0 = 0 then T' else _)
        rw [if_pos rfl]
        exact un
      | succ m =>
        rw [List.getElem?_cons_succ] at e3 e4
        by_cases hm : m < vs.length
        · rw [List.getElem?_append_left (by rw [List.length_map]; omega), List.getElem?_map] at e4
          obtain ⟨d0, _, rfl⟩ := Option.map_eq_some_iff.mp e4
          cases e5
        · rw [List.getElem?_append_right (by rw [List.length_map]; omega), List.length_map] at e4
          rw [List.getElem?_append_right (by omega)] at e3
          obtain ⟨o2, rfl, e6⟩ := capA_own e4 e5
          show Own K Hs' u o2 (if m + 1 = 0 then T' else if m + 1 < 1 + vs.length then em else Rt (m + 1 - (1 + vs.length)))
          rw [if_neg (Nat.succ_ne_zero m), if_neg (by omega), show m + 1 - (1 + vs.length) = m - vs.length by omega]
          exact t1 _ _ _ e3 (by rw [hvl]; exact e6)
    · rcases pick m a u e with ⟨rfl, z⟩ | ⟨z1, z2, z3, z4⟩
      · obtain ⟨y1, y2, y3, y4⟩ := rg0 a u (inR a u (.inr z))
        exact ⟨by rw [List.length_cons]; omega, y1, y2, y3, y4⟩
      · obtain ⟨y1, y2, y3, y4⟩ := rg0 a u (inR a u (.inl z4))
        exact ⟨by rw [List.length_cons, List.length_append]; omega, y1, y2, y3, y4⟩
    · obtain ⟨w, hw⟩ := ne_some e3
      obtain ⟨w2, hw2⟩ := ne_some e4
      rcases pick m a w hw with ⟨rfl, z⟩ | ⟨z1, z2, z3, z4⟩
      · rcases pick l a w2 hw2 with ⟨rfl, y⟩ | ⟨y1, y2, y3, y4⟩
        · rfl
        · rw [d1' a (some_ne y4)] at z
          cases z
      · rcases pick l a w2 hw2 with ⟨rfl, y⟩ | ⟨y1, y2, y3, y4⟩
        · rw [d1' a (some_ne z4)] at y
          cases y
        · have := t3 _ _ a (some_ne z3) (some_ne y3)
          omega
end
section
variable [TbC] {K : PySem.W.Frag} {ρ ρ' : Env} {i : Nat} {nw : Nw} {o : O} {q : List Nat} {F : CF} {cs : List (Nat × AR)} {os : List O} {js : List Nat} {ta : TE} {t : TA} {ds : List D} {α : Type} {pre : α → Prop} {arg : List V → α → List AV} {post : List V → α → D → List AV → Prop} {exc : List V → α → Value → Option (List (Str × D)) → List AV → Prop} {E : XK}
abbrev capAR (i : Nat) (nw : Nw) (ds : List D) (cs : List (Nat × AR)) : List AR := .inr (i, nw) :: (ds.map Sum.inl ++ cs.map (·.2))
/-- f(tree, ..), in the tree a closure of the running frame -/
theorem ev_callUD (x : α) (ht : EvAS K t ρ (.inr (i, nw) :: ds.map Sum.inl)) (hi : ρ[i]? = some (some (.tr K nw o))) (hq : o.at_ q = some (.sh (.clo F [] []))) (cs : List (Nat × AR)) (hjs : js = cs.map (·.1)) (hc : CapOk K ρ cs os)
    (sep : sepB (capAR i nw ds cs) = true) (ha : ∀ us, arg us x = .o (o.put q (.cl none F us os)) :: ds.map AV.d) (p : pre x) (Z : D → O → List O → Prop)
    (sh : ∀ us d as, post us x d as → ∃ o' os', as = .o o' :: ds.map AV.d ∧ o'.at_ q = some (.cl none F us os') ∧ os'.length = os.length ∧ Z d (o'.put q (.sh (.clo F [] []))) os') (hx : ∀ us cls fs as, ¬ exc us x cls fs as) :
    EvE K (tCallU js (fun us => spB K pre (arg us) (post us) (exc us)) E t) ρ (fun d ρ' => ∃ o' os', Z d o' os' ∧ ρ' = back K (allOf (capAR i nw ds cs)) (capAR i nw ds cs) (.o o' :: (ds.map AV.d ++ capA cs os')) ρ) := fun B Hs H σ r Q qq =>
  ht B Hs H σ r _ fun Hs1 H1 vs g xs => by
    have r1 := r.grow g
    obtain ⟨R, rg⟩ := r1.reg
    obtain ⟨us, e1, e2⟩ := CapOk.vals r1 rg hc
    cases vs with
    | nil => cases xs
    | cons v vs =>
      obtain ⟨Rs, il, bk⟩ := r1.dress rg hi xs.1 (vsOk_rep xs.2) hq hc e2 sep
      refine ⟨us, by rw [hjs]; exact e1, Hs1, x, Rs, ⟨r1.ex, r1.tb⟩, by rw [ha]; exact il, p, fun Hs' H' w d as Rs' gg b y z => ?_, fun _ _ cls _ fs as _ _ _ _ z => (hx _ cls fs as z).elim⟩
      obtain ⟨o', os', rfl, w1, w2, w3⟩ := sh us d as z
      exact qq Hs' H' w d _ (g.sh.trans gg.sh) (bk Hs' H' o' os' Rs' gg b w1 w2) y ⟨_, os', w3, rfl⟩
/-- tree.m(..), in the tree a closure of the running frame -/
theorem ev_methUD {C : Addr} {ns : List Str} {xs : List O} {m : Str} {alts : List V → List (Addr × Sp)} (x : α) (ht : EvAS K t ρ (ds.map Sum.inl)) (hi : ρ[i]? = some (some (.tr K nw (.ob C ns xs)))) (hq : (O.ob C ns xs).at_ q = some (.sh (.clo F [] []))) (cs : List (Nat × AR)) (hjs : js = cs.map (·.1)) (hc : CapOk K ρ cs os)
    (sep : sepB (capAR i nw ds cs) = true) (hin : ∀ us, (C, spB K pre (arg us) (post us) (exc us)) ∈ alts us) (hm : ns.contains m = false) (ha : ∀ us, arg us x = .o ((O.ob C ns xs).put q (.cl none F us os)) :: ds.map AV.d) (p : pre x) (Z : D → O → List O → Prop)
    (sh : ∀ us d as, post us x d as → ∃ o' os', as = .o o' :: ds.map AV.d ∧ o'.at_ q = some (.cl none F us os') ∧ os'.length = os.length ∧ Z d (o'.put q (.sh (.clo F [] []))) os') (hx : ∀ us cls fs as, ¬ exc us x cls fs as) :
    EvE K (tMethU js alts m E (tVar i) t) ρ (fun d ρ' => ∃ o' os', Z d o' os' ∧ ρ' = back K (allOf (capAR i nw ds cs)) (capAR i nw ds cs) (.o o' :: (ds.map AV.d ++ capA cs os')) ρ) := fun B Hs H σ r Q qq => by
  obtain ⟨R0, rg0⟩ := r.reg
  obtain ⟨v0, hv0, hh⟩ := rg0.1 i _ hi
  obtain ⟨a, dx, vs0, R1, rfl, _, _, _, e0⟩ := (hh Hs (Ex.refl Hs)).2.ob_inv
  have hHa : H a = some (.ins C dx (ns.zip vs0)) := (rg0.2.1 i a _ (by rw [e0]; exact upd_same)).1
  obtain ⟨us, e1, _⟩ := CapOk.vals r rg0 hc
  refine ⟨.ref a, hv0, a, C, dx, _, us, _, rfl, hHa, by rw [hjs]; exact e1, hin us, look_none hm, ht B Hs H σ r _ fun Hs1 H1 vs g xs => ?_⟩
  have r1 := r.grow g
  obtain ⟨R, rg⟩ := r1.reg
  obtain ⟨us', e1', e2⟩ := CapOk.vals r1 rg hc
  obtain rfl : us = us' := by
    have : us.map some = us'.map some := by rw [← e1, ← e1']
    exact (List.map_inj_right (fun _ _ z => Option.some.inj z)).mp this
  obtain ⟨Rs, il, bk⟩ := r1.dress rg hi hv0 (vsOk_rep xs) hq hc e2 sep
  refine ⟨Hs1, x, Rs, ⟨r1.ex, r1.tb⟩, by rw [ha]; exact il, p, fun Hs' H' w d as Rs' gg b y z => ?_, fun _ _ cls _ fs as _ _ _ _ z => (hx _ cls fs as z).elim⟩
  obtain ⟨o', os', rfl, w1, w2, w3⟩ := sh us d as z
  exact qq Hs' H' w d _ (g.sh.trans gg.sh) (bk Hs' H' o' os' Rs' gg b w1 w2) y ⟨_, os', w3, rfl⟩
end
/-! ### a lambda over own things, by its body -/
theorem lok_b [TbC] {K : PySem.W.Frag} {P : Program} {w : World} {mg : Str → Option Value} {base : Heap} {N ps fr : List Str} {F : NdefX.NF} {b : Expr} {f : Addr} {k : Nat} {α : Type} {pre : α → Prop} {arg : α → List AV} {post : α → D → List AV → Prop} {exc : α → Value → Option (List (Str × D)) → List AV → Prop} (S : NdefX.NScope N ps fr F.scope)
    (hb : ∀ (pm ctv : Value) (us : List Value), us.length = ps.length → bindArgs (PySem.W.kla_fn F.name F.qual F.params b F.scope F.cl pm (.ref F.c) ctv) ⟨us, []⟩ = pure (ps.zip us)) (hl : ∀ x, (arg x).length = ps.length + fr.length) {t : TE}
    (hp : ∀ (A : Around) (outer : List PySem.Env) (s : Shared) (H : Hp) (E : XK), Room k (A.deeper (NdefX.envF F f s.heap.objs.size)) → PE (NdefX.ncx CX0 P w K mg base N F f A outer s H E).nox b t)
    (hd : ∀ x vs, vs.length = ps.length + fr.length → pre x → EvE K t (entB K N vs (arg x)) (fun d ρ' => ∃ as, post x d as ∧ outs K vs ρ' as)) : COk P w K mg base CX0 (k + 1) f (CF.l F b) ps fr (fun ws vs H Q E => vs.length = ps.length ∧ ws.length = fr.length ∧ spCB (spB K pre arg post exc) ws vs H Q E) := by
  refine lok_of S hb (fun ws vs H Q E h => h.1) (fun A outer s H vs ws Q E hr h1 h2 h3 h => ?_)
  obtain ⟨g1, g2, us, e1, Hs, x, Rs, e, r, hpx, q, _⟩ := h
  refine ⟨t, (hp A outer s H E hr).nox, ?_⟩
  have hN : ps.length + fr.length ≤ N.length := by
    have := congrArg List.length S.pre
    rw [List.length_take, List.length_append] at this
    omega
  have es : NdefX.startF N vs ws = L2.start N (vs ++ us) := by
    unfold NdefX.startF L2.start
    rw [e1, List.map_append, List.length_map, List.length_append, List.append_assoc, Nat.sub_sub]
  rw [es]
  refine hd x (vs ++ us) (by rw [r.len, hl]) hpx _ Hs H (L2.start N (vs ++ us)) (rs_entB e r (by rw [hl]; exact hN)) Q fun Hs' H' v d ρ' _ r' y ⟨as, z1, z2⟩ => ?_
  obtain ⟨Rs', b⟩ := r'.told z2
  exact q Hs' H' v d as Rs' r'.gr b y z1
/-! ### tuples in trees -/
section
variable [TbC] {K : PySem.W.Frag} {ρ ρ' : Env} {i : Nat} {nw : Nw} {o o1 o2 : O} {p : List Nat} {te ti : TE} {ta : TA} {xs : List O} {d : D}
theorem Own.tp_inv {Hs : Hp} {v : V} {S : Hp} (h : Own K Hs v (.tp xs) S) : ∃ a vs R1, v = .ref a ∧ R1 a = none ∧ OwnL K Hs vs xs R1 ∧ S = upd R1 a (.tup vs) := by
  cases h with
  | tp n h => exact ⟨_, _, _, rfl, n, h, rfl⟩
/-- t[k], t a tuple in a tree -/
theorem ew_ixT {n : Int} {j : Nat} (h : EvW K te ρ i p) (hi : ρ[i]? = some (some (.tr K nw o))) (hp : o.at_ p = some (.tp xs)) (hk : EvD K ti ρ (.int n)) (hj : ixN xs.length n = some j) (hl : j < xs.length) : EvW K (tOp (rIx K) te ti) ρ i (p ++ [j]) := fun B Hs H σ r Q q =>
  h B Hs H σ r _ fun Hs1 H1 v0 v g hv va => hk B Hs1 H1 σ (r.grow g) _ fun Hs2 H2 y g2 y2 => by
    cases y2
    have r2 := (r.grow g).grow g2
    obtain ⟨R, rg⟩ := r2.reg
    obtain ⟨v0', v1, S, hv', va', ow, sub, _⟩ := r2.part rg hi hp
    rw [hv] at hv'
    cases hv'
    have e := (va.monoN g2.fr).det va'
    subst e
    obtain ⟨a, vs, R1, rfl, nn, hl', rfl⟩ := ow.tp_inv
    have ha := (sub a _ upd_same).1
    have hjv : j < vs.length := by rw [hl'.length]; exact hl
    refine .inr (.inl ⟨a, vs, n, vs[j], rfl, rfl, .of ha, ?_, q Hs2 H2 v0 _ (g.trans g2) hv ((va.monoN g2.fr).app (.tup ha (List.getElem?_eq_getElem hjv) .nil))⟩)
    unfold atI
    rw [hl'.length, hj]
    exact List.getElem?_eq_getElem hjv
/-- new trees -/
def EvNL (K : PySem.W.Frag) (ta : TA) (ρ : Env) (os : List O) : Prop := ∀ B Hs H σ, RS K B Hs H σ ρ → ∀ Q : List V → Hp → Prop, (∀ Hs' H' vs S, Gr Hs H H Hs' H' → OwnL K Hs' vs os S → (∀ a u, S a = some u → H' a = some u ∧ H a = none ∧ Hs' a = none) → Q vs H') → ta σ H Q
theorem enl_nil : EvNL K tNil ρ [] := fun B Hs H σ r Q q => q Hs H [] em (Gr.refl r.ex) .nil fun a u z => nomatch z
theorem enl_cons {os : List O} (h : EvN K te ρ o) (hs : EvNL K ta ρ os) : EvNL K (tCons te ta) ρ (o :: os) := fun B Hs H σ r Q q =>
  h B Hs H σ r _ fun Hs1 H1 v S g ow c => hs B Hs1 H1 σ (r.grow g) _ fun Hs2 H2 vs S2 g2 ol c2 => by
    have pl := ow.pl
    have kp : ∀ a u, S a = some u → H2 a = some u ∧ H a = none ∧ Hs2 a = none := fun a u e => by
      obtain ⟨e1, e2, e3⟩ := c a u e
      refine ⟨g2.fr.pl e1 (pl a u e), e2, ?_⟩
      rw [g2.nw a (.of e1 (pl a u e))]
      exact e3
    refine q Hs2 H2 (v :: vs) (jn S S2) (g.trans g2) (.cons (ow.mono g2.sh) ol fun a ha => ?_) fun a u e => ?_
    · obtain ⟨u, hu⟩ := ne_some ha
      cases z : S2 a with
      | none => rfl
      | some w =>
        have := (c2 a w z).2.1
        rw [(c a u hu).1] at this
        cases this
    · cases z : S a with
      | some w =>
        rw [jn_l z] at e
        cases e
        exact kp a u z
      | none =>
        rw [jn_r z] at e
        obtain ⟨e1, e2, e3⟩ := c2 a u e
        exact ⟨e1, (g.new0 e2).1, e3⟩
theorem en_tup (h : EvNL K ta ρ xs) (hl : xs.length ≤ 100000) : EvN K (tTup ta) ρ (.tp xs) := fun B Hs H σ r Q q =>
  h B Hs H σ r _ fun Hs1 H1 vs S g ol c => ⟨by rw [ol.length]; exact sz_of hl, fun p hp => by
    obtain ⟨n1, n2⟩ := gr_none g hp
    have nS : S p = none := by
      cases z : S p with
      | none => rfl
      | some u => rw [(c p u z).1] at hp; cases hp
    refine q Hs1 _ _ _ (g.trans (Gr.newO g.lv hp)) (.tp nS ol) fun a u e => ?_
    by_cases y : a = p
    · subst y
      rw [upd_same] at e ⊢
      exact ⟨e, n1, n2⟩
    · rw [upd_ne y] at e ⊢
      exact c a u e⟩
mutual
/-- all leaves are scalars -/
def O.scals : O → Bool
  | .sh d => d.scal
  | .ol xs => O.scalL xs
  | .ob _ _ xs => O.scalL xs
  | .tp xs => O.scalL xs
  | .dg _ _ => true
  | .cl _ _ _ _ => false
def O.scalL : List O → Bool
  | [] => true
  | x :: xs => x.scals && O.scalL xs
end
mutual
theorem Own.scals {Hs Hs' : Hp} : ∀ {v : V} {o : O} {R : Hp}, Own K Hs v o R → o.scals = true → Own K Hs' v o R
  | _, _, _, .sh h, s => .sh (h.scal (by unfold O.scals at s; exact s))
  | _, _, _, .ol n h, s => .ol n (OwnL.scals h (by unfold O.scals at s; exact s))
  | _, _, _, .ob n l h, s => .ob n l (OwnL.scals h (by unfold O.scals at s; exact s))
  | _, _, _, .tp n h, s => .tp n (OwnL.scals h (by unfold O.scals at s; exact s))
  | _, _, _, .dg h, _ => .dg h
  | _, _, _, .cl _ _, s => by cases s
theorem OwnL.scals {Hs Hs' : Hp} : ∀ {vs : List V} {os : List O} {R : Hp}, OwnL K Hs vs os R → O.scalL os = true → OwnL K Hs' vs os R
  | _, _, _, .nil, _ => .nil
  | _, _, _, .cons h r d, s => by
    unfold O.scalL at s
    rw [Bool.and_eq_true] at s
    exact .cons (Own.scals h s.1) (OwnL.scals r s.2) d
end
/-- a new tree of scalars, made while slot i's tree is shared -/
theorem EvN.thawT (i : Nat) (hi : ρ[i]? = some (some (.tr K nw o))) (f : o.frz = true) (h : EvN K te (ρ.set i (some (.sh o.toD))) o2) (hd : o2.scals = true) : EvN K te ρ o2 := fun B Hs H σ r Q q => by
  obtain ⟨Hs2, e1, e2, r2⟩ := r.temp.fzT hi (.inr fun _ => npl_pn _) f
  refine h _ Hs2 H σ r2 Q fun Hs' H' v S g ow c => q Hs H' v S (gr_thaw e1 g) (ow.scals hd) fun a u e => ?_
  obtain ⟨z1, z2, z3⟩ := c a u e
  refine ⟨z1, z2, ?_⟩
  cases z : Hs a with
  | none => rfl
  | some w => rw [r.ex a w z] at z2; cases z2
end
section
variable [TbC] {K : PySem.W.Frag} {ρ : Env} {α : Type} {pre : α → Prop} {arg : α → List AV} {post : α → D → List AV → Prop} {exc : α → Value → Option (List (Str × D)) → List AV → Prop}
/-- .. a promise weaker than the method's -/
theorem ev_methBXw {W : WX} {alts : List (Addr × Sp)} {sp : Sp} {m : Str} {i : Nat} {nw : Nw} {C : Addr} {ns : List Str} {xs : List O} {ar : List AR} {t : TA} (x : α)
    (hi : ρ[i]? = some (some (.tr K nw (.ob C ns xs)))) (ht : EvAS K t ρ ar) (hin : (C, sp) ∈ alts) (hsp : ∀ vs H Q E, spB K pre arg post exc vs H Q E → sp vs H Q E) (hm : ns.contains m = false) (ha : ArgOk K ρ (.inr (i, nw) :: ar) (arg x)) (p : pre x) (sep : sepB (.inr (i, nw) :: ar) = true := by rfl)
    (sh : ∀ d as, post x d as → Shp (.inr (i, nw) :: ar) as) (shx : ∀ cls fs as, exc x cls fs as → Shp (.inr (i, nw) :: ar) as) :
    EvEx K (tMethS alts m W (tVar i) t) W ρ (fun d ρ' => ∃ as, post x d as ∧ ρ' = DL.back K (allOf (.inr (i, nw) :: ar)) (.inr (i, nw) :: ar) as ρ) (fun ρ' cls fs => ∃ as, exc x cls fs as ∧ ρ' = DL.back K (allOf (.inr (i, nw) :: ar)) (.inr (i, nw) :: ar) as ρ) := fun B Hs H σ r Q q qx => by
  obtain ⟨R0, rg0⟩ := r.reg
  obtain ⟨v0, hv0, hh⟩ := rg0.1 i _ hi
  obtain ⟨a, dx, vs0, R1, rfl, _, _, _, e0⟩ := (hh Hs (Ex.refl Hs)).2.ob_inv
  have hHa : H a = some (.ins C dx (ns.zip vs0)) := (rg0.2.1 i a _ (by rw [e0]; exact upd_same)).1
  refine ⟨.ref a, hv0, a, C, dx, _, _, rfl, hHa, hin, look_none hm, ht B Hs H σ r _ fun Hs1 H1 vs g xs1 => hsp _ _ _ _ ?_⟩
  have r1 := r.grow g
  obtain ⟨R, rg⟩ := r1.reg
  have hv : VsOk K Hs1 σ (.ref a :: vs) (.inr (i, nw) :: ar) := ⟨hv0, xs1⟩
  refine ⟨Hs1, x, _, ⟨g.lv, r1.tb⟩, r1.lay rg hv ha sep, p, fun Hs' H' v d as Rs' g2 b y z => ?_, fun Hs' H' cls dd fs as Rs' g2 b y z => ?_⟩
  · exact q Hs' H' v d _ (g.sh.trans g2.sh) (r1.behind rg hv ha sep (sh d as z) g2 b) y ⟨as, z, rfl⟩
  · exact qx Hs' H' cls dd fs _ (r1.behind rg hv ha sep (shx cls fs as z) g2 b) y ⟨as, z, rfl⟩
end
section
variable [TbC] {K : PySem.W.Frag} {ρ : Env} {te : TE}
theorem EvE.imp {Z Y : D → Env → Prop} (h : EvE K te ρ Z) (q : ∀ d ρ', Z d ρ' → Y d ρ') : EvE K te ρ Y := fun B Hs H σ r Q qq => h B Hs H σ r Q fun Hs' H' v d ρ' e r' x z => qq Hs' H' v d ρ' e r' x (q d ρ' z)
/-- a written power -/
theorem ev_pow {i : Int} {k : Nat} (h : CPow i k) : EvD K (tOp (rI CPow fun i j => .int (i ^ j.toNat)) (tC (.int i)) (tC (.int (k : Int)))) ρ (.int (i ^ k)) := EvD.is (d := .int (i ^ ((k : Int)).toNat)) (ev_IC (i := i) (j := (k : Int)) ev_ci ev_ci h) rfl
end
section
variable [TbC] {K : PySem.W.Frag} {ρ : Env} {ta tb : TE}
/-- an effect on the left of == and != -/
theorem eve_ne {Z Y : D → Env → Prop} (h : EvE K ta ρ Z) (q : ∀ d ρ', Z d ρ' → ∃ e, EvR K tb ρ' e ∧ d.fit = true ∧ e.fit = true ∧ Y (.bl (!PyData.eqv d.pd e.pd)) ρ') : EvE K (tOp (rNeD K) ta tb) ρ Y := fun B Hs H σ r Q qq =>
  h B Hs H σ r _ fun Hs1 H1 x d ρ' e1 r1 x1 z => by
    obtain ⟨e, hb, fd, fe, y⟩ := q d ρ' z
    refine hb B Hs1 H1 σ r1 _ fun Hs2 H2 w g2 y2 => ?_
    unfold D.fit at fd fe
    rw [Bool.and_eq_true] at fd fe
    exact ⟨_, _, ((x1.mono r1.ex).monoN g2.fr).dp fd.1, y2.dp fe.1, fd.2, fe.2, qq Hs2 H2 _ _ ρ' (e1.trans g2.sh) (r1.grow g2) (.bl _) y⟩
theorem eve_eq {Z Y : D → Env → Prop} (h : EvE K ta ρ Z) (q : ∀ d ρ', Z d ρ' → ∃ e, EvR K tb ρ' e ∧ d.fit = true ∧ e.fit = true ∧ Y (.bl (PyData.eqv d.pd e.pd)) ρ') : EvE K (tOp (rEqD K) ta tb) ρ Y := fun B Hs H σ r Q qq =>
  h B Hs H σ r _ fun Hs1 H1 x d ρ' e1 r1 x1 z => by
    obtain ⟨e, hb, fd, fe, y⟩ := q d ρ' z
    refine hb B Hs1 H1 σ r1 _ fun Hs2 H2 w g2 y2 => ?_
    unfold D.fit at fd fe
    rw [Bool.and_eq_true] at fd fe
    exact ⟨_, _, ((x1.mono r1.ex).monoN g2.fr).dp fd.1, y2.dp fe.1, fd.2, fe.2, qq Hs2 H2 _ _ ρ' (e1.trans g2.sh) (r1.grow g2) (.bl _) y⟩
end
/-! ### what is made while a slot's tree is shared: only new things stay shared -/
section
variable [TbC] {K : PySem.W.Frag} {ρ : Env}
open Classical in
noncomputable def onlyN (Hs H Hs' : Hp) : Hp := fun a => if Pn H a then Hs a else Hs' a
theorem onlyN_ex {Hs Hs2 H Hs' H' : Hp} (e1 : Ex Hs Hs2) (g : Gr Hs2 H H Hs' H') : Ex (onlyN Hs H Hs') Hs' := fun a u e => by
  unfold onlyN at e
  split at e
  · exact g.sh a u (e1 a u e)
  · exact e
theorem gr_thawN {Hs Hs2 H Hs' H' : Hp} (e0 : Ex Hs H) (e1 : Ex Hs Hs2) (n2 : NT Hs2) (g : Gr Hs2 H H Hs' H') : Gr Hs H H (onlyN Hs H Hs') H' := by
  refine ⟨g.fr, fun a u e => ?_, (onlyN_ex e1 g).trans g.lv, fun a x => ?_, g.dm, g.fd, g.dp, fun t a ps e => ?_, g.tb⟩
  · unfold onlyN
    split
    · exact e
    · exact g.sh a u (e1 a u e)
  · unfold onlyN
    rw [if_pos x]
  · unfold onlyN at e
    split at e
    · exact t a ps e
    · exact g.nt n2 a ps e
/-- scalars, and closures that are told nothing of -/
def D.thin : D → Bool
  | .clo _ _ ds => ds.all D.scal
  | d => d.scal
theorem RepL.scalN {Hs Hs' : Hp} {vs : List V} {ds : List D} (h : RepL K Hs vs ds) (s : ds.all D.scal = true) : RepL K Hs' vs ds := h.scal s
theorem Rep.thin {Hs H Hs' : Hp} {v : V} {d : D} (h : Rep K Hs' v d) (s : d.thin = true) (hp : ∀ a o, Hs' a = some o → o.pln = false → onlyN Hs H Hs' a = some o) : Rep K (onlyN Hs H Hs') v d := by
  cases h with
  | clo a b c => exact .clo (hp _ _ a rfl) (hp _ _ b rfl) (c.scal s)
  | non => exact .non
  | bl b => exact .bl b
  | int i => exact .int i
  | str x => exact .str x
  | ty n => exact .ty n
  | fn a => exact .fn a
  | lst _ _ => cases s
  | scr _ _ => cases s
  | tup _ _ => cases s
  | obj _ _ => cases s
mutual
def O.thin : O → Bool
  | .sh d => d.thin
  | .ol xs => O.thinL xs
  | .ob _ _ xs => O.thinL xs
  | .tp xs => O.thinL xs
  | .dg _ _ => true
  | .cl _ _ _ _ => false
def O.thinL : List O → Bool
  | [] => true
  | x :: xs => x.thin && O.thinL xs
end
mutual
theorem Own.thin {Hs H Hs' : Hp} (hp : ∀ a o, Hs' a = some o → o.pln = false → onlyN Hs H Hs' a = some o) : ∀ {v : V} {o : O} {R : Hp}, Own K Hs' v o R → o.thin = true → Own K (onlyN Hs H Hs') v o R
  | _, _, _, .sh h, s => .sh (h.thin (by unfold O.thin at s; exact s) hp)
  | _, _, _, .ol n h, s => .ol n (OwnL.thin hp h (by unfold O.thin at s; exact s))
  | _, _, _, .ob n l h, s => .ob n l (OwnL.thin hp h (by unfold O.thin at s; exact s))
  | _, _, _, .tp n h, s => .tp n (OwnL.thin hp h (by unfold O.thin at s; exact s))
  | _, _, _, .dg h, _ => .dg h
  | _, _, _, .cl _ _, s => by cases s
theorem OwnL.thin {Hs H Hs' : Hp} (hp : ∀ a o, Hs' a = some o → o.pln = false → onlyN Hs H Hs' a = some o) : ∀ {vs : List V} {os : List O} {R : Hp}, OwnL K Hs' vs os R → O.thinL os = true → OwnL K (onlyN Hs H Hs') vs os R
  | _, _, _, .nil, _ => .nil
  | _, _, _, .cons h r d, s => by
    unfold O.thinL at s
    rw [Bool.and_eq_true] at s
    exact .cons (Own.thin hp h s.1) (OwnL.thin hp r s.2) d
end
theorem thin_hp {Hs Hs2 H Hs' H' : Hp} (e0 : Ex Hs H) (g : Gr Hs2 H H Hs' H') : ∀ a o, Hs' a = some o → o.pln = false → onlyN Hs H Hs' a = some o := fun a o e n => by
  unfold onlyN
  split
  · rename_i z
    exfalso
    obtain ⟨u, h1, h2⟩ := z
    have h3 := g.fr.pl h1 h2
    rw [g.lv a o e] at h3
    cases h3
    rw [n] at h2
    cases h2
  · exact e
/-- a new tree, made while slot i's own list is shared -/
theorem EvNx.thawL {te : TE} {P : O → Prop} {ds : List D} (i : Nat) (hi : ρ[i]? = some (some (.ol ds))) (h : EvNx K te (ρ.set i (some (.sh (.lst ds)))) P) (hd : ∀ o, P o → o.thin = true) : EvNx K te ρ P := fun B Hs H σ r Q q => by
  obtain ⟨Hs2, e1, e2, r2⟩ := r.temp.fz i hi
  refine h _ Hs2 H σ r2 Q fun Hs' H' v o S g ow c p => q (onlyN Hs H Hs') H' v o S (gr_thawN r.ex e1 r2.tb.1 g) (ow.thin (thin_hp r.ex g) (hd o p)) (fun a u e => ?_) p
  obtain ⟨z1, z2, z3⟩ := c a u e
  refine ⟨z1, z2, ?_⟩
  unfold onlyN
  split
  · rename_i z
    exact absurd z2 z.ne
  · exact z3
/-- tree.m(..) in the frame that makes the base's closure, the tree holds none of it -/
theorem ev_methUP {i : Nat} {nw : Nw} {os : List O} {js : List Nat} {ar : List AR} {t : TA} {α : Type} {pre : α → Prop} {arg : List V → α → List AV} {post : List V → α → D → List AV → Prop} {exc : List V → α → Value → Option (List (Str × D)) → List AV → Prop} {E : XK} {C : Addr} {ns : List Str} {xs : List O} {m : Str} {alts : List V → List (Addr × Sp)} (x : α)
    (hi : ρ[i]? = some (some (.tr K nw (.ob C ns xs)))) (ht : EvAS K t ρ ar) (cs : List (Nat × AR)) (hjs : js = cs.map (·.1)) (hc : CapOk K ρ cs os) (hin : ∀ us, (C, spB K pre (arg us) (post us) (exc us)) ∈ alts us) (hm : ns.contains m = false) (ha : ∀ us, ArgOk K ρ (.inr (i, nw) :: ar) (arg us x)) (p : pre x) (sep : sepB (.inr (i, nw) :: ar) = true := by rfl)
    (Z : D → List AV → Prop) (sh : ∀ us d as, post us x d as → Shp (.inr (i, nw) :: ar) as ∧ Z d as) (hx : ∀ us cls fs as, ¬ exc us x cls fs as) :
    EvE K (tMethU js alts m E (tVar i) t) ρ (fun d ρ' => ∃ as, Z d as ∧ ρ' = DL.back K (allOf (.inr (i, nw) :: ar)) (.inr (i, nw) :: ar) as ρ) := fun B Hs H σ r Q q => by
  obtain ⟨R0, rg0⟩ := r.reg
  obtain ⟨v0, hv0, hh⟩ := rg0.1 i _ hi
  obtain ⟨a, dx, vs0, R1, rfl, _, _, _, e0⟩ := (hh Hs (Ex.refl Hs)).2.ob_inv
  have hHa : H a = some (.ins C dx (ns.zip vs0)) := (rg0.2.1 i a _ (by rw [e0]; exact upd_same)).1
  obtain ⟨us, e1, _⟩ := CapOk.vals r rg0 hc
  refine ⟨.ref a, hv0, a, C, dx, _, us, _, rfl, hHa, by rw [hjs]; exact e1, hin us, look_none hm, ht B Hs H σ r _ fun Hs1 H1 vs g xs1 => ?_⟩
  have r1 := r.grow g
  obtain ⟨R, rg⟩ := r1.reg
  have hv : VsOk K Hs1 σ (.ref a :: vs) (.inr (i, nw) :: ar) := ⟨hv0, xs1⟩
  refine ⟨Hs1, x, _, ⟨g.lv, r1.tb⟩, r1.lay rg hv (ha us) sep, p, fun Hs' H' v d as Rs' g2 b y z => ?_, fun _ _ cls _ fs as _ _ _ _ z => (hx _ cls fs as z).elim⟩
  exact q Hs' H' v d _ (g.sh.trans g2.sh) (r1.behind rg hv (ha us) sep (sh us d as z).1 g2 b) y ⟨as, (sh us d as z).2, rfl⟩
end
/-- pe_callU, the captured first -/
theorem pe_callUc [TbC] {X : Cx} {CX : CXT} {cl : List (Str × Addr)} {fr : List Str} {js : List Nat} {k : Nat} {x : Str} {f : Addr} {fd : FuncData} {ps : List Str} {E : XK} {t : TA} {e : Expr} {es : List Expr} {p pos : Pos} {sp : List V → Sp} (hfn : ∀ y, X.fn y = true) (hst : X.stack = X.env :: X.outer) (hfr : X.env.frame = some X.env.locals) (cp : X.Ok → NdefX.Caps X cl fr js)
    (F : ∀ base' (us : List V), (∀ b o, X.base.get? b = some o → base'.get? b = some o) → NdefX.CellsAt cl fr (us.map some) base' em → FnOk X.prog X.w X.K X.mg base' CX k f fd ps (sp us))
    (hr : Room k X.A) (hg : Gl X x) (hm : X.mg x = some (.ref f)) (hk : PySem.W.keepIn X.K (.ref f) = true) (hb : Binds X.K fd ps []) (hx : Passes CX X E) (ha : PA X (e :: es) t)
    (hdb : (x == ("__debug__" : Str)) = false := by decide) (hs : starEach (e :: es) X.env = (false, eval e X.env) :: starEach es X.env := by rfl) (hpl : (backTo pos (starEach es X.env)).any (·.1) = false := by rfl) :
    PE X (.Call (.Name x p) (e :: es) [] pos) (tCallU js sp E t) := pe_callU F hfn hst hfr cp hr hg hm hk hb hx ha hdb hs hpl
end DL

/-! DTry: several except clauses, with names and without. -/
namespace DL
open PySem L2 PySem.Spec PyProof.Rows
/-- a clause: its class, the slot of its name, its suite -/
abbrev Cz := Value × Option Nat × (Addr → Value → Option Addr → TS)
def behindN (i : Nat) (D : Ends) : Ends := { nx := fun σ' H' => D.nx (σ'.set i none) H', rt := D.rt, bk := fun σ' H' => D.bk (σ'.set i none) H', ct := fun σ' H' => D.ct (σ'.set i none) H' }
def suiteN (D : Ends) (a : Addr) (cls : Value) (d : Option Addr) (σ : L2.St) (H : Hp) : Option Nat → (Addr → Value → Option Addr → TS) → Prop
  | none, ts => ts a cls d D σ H
  | some i, ts => ts a cls d (behindN i D) (σ.set i (some (.ref a))) H
/-- what the clauses wish of an exception -/
def wN (K : PySem.W.Frag) (Wout : WX) (D : Ends) : List Cz → WX
  | [] => Wout
  | (c, oi, ts) :: r => fun cls d σ H => ∃ b, PySem.W.exmOne K cls c = some b ∧ (b = true → ∀ a, H a = none → suiteN D a cls d σ H oi ts) ∧ (b = false → wN K Wout D r cls d σ H)
/-- a clause as it is written -/
inductive CzOk (X : Cx) : ExceptHandler → Cz → Prop
  | bare {x : Str} {c : Value} {ts : Addr → Value → Option Addr → TS} {st : Stmt} {sts : List Stmt} {p1 p2 : Pos} (hc : Names X x c)
      (ht : ∀ (a : Addr) (ob : Obj) (cls : Value) (d : Option Addr) (pn : List (Addr × Obj)), Zc cls d ob → (∃ vs, ob.data = .fields vs) → PSs (X.suite a ((a, ob) :: pn)) (st :: sts) (ts a cls d)) :
      CzOk X (.ExceptHandler (some (.Name x p1)) none (st :: sts) p2) (c, none, ts)
  | named {x n : Str} {i : Nat} {c : Value} {ts : Addr → Value → Option Addr → TS} {st : Stmt} {sts : List Stmt} {p1 p2 : Pos} (hc : Names X x c) (hN : X.N.Nodup) (hi : X.N[i]? = some n) (hn : X.env.kindOf n = some .local)
      (ht : ∀ (a : Addr) (ob : Obj) (cls : Value) (d : Option Addr) (pn : List (Addr × Obj)), Zc cls d ob → (∃ vs, ob.data = .fields vs) → PSs (X.suite a ((a, ob) :: pn)) (st :: sts) (ts a cls d)) :
      CzOk X (.ExceptHandler (some (.Name x p1)) (some n) (st :: sts) p2) (c, some i, ts)
inductive CzsOk (X : Cx) : List ExceptHandler → List Cz → Prop
  | nil : CzsOk X [] []
  | cons {h : ExceptHandler} {z : Cz} {hs : List ExceptHandler} {zs : List Cz} (o : CzOk X h z) (r : CzsOk X hs zs) : CzsOk X (h :: hs) (z :: zs)
section
variable {X : Cx} {pins : List (Addr × Obj)} {σ : L2.St} {H : Hp} {D : Ends} {Wout : WX} {a : Addr} {cls : Value} {d : Option Addr}
/-- an exception that has come down; the clauses are asked -/
structure Down (X : Cx) (pins : List (Addr × Obj)) (σ : L2.St) (H : Hp) (a : Addr) (cls : Value) (d : Option Addr) (s : Shared) : Prop where
  ex : ∃ (G : Heap) (s0 : Shared), Inv X pins σ H s0 ∧ (∀ b ob, s0.heap.get? b = some ob → b ∉ frs X.stack → G.get? b = some ob) ∧ s0.heap.UpToSlots s.heap ∧ HandSPX.FlyingZ G X.stack a (Zc cls d) s.heap ∧ s.os = s0.os ∧ AllBare s.gens
  na : H a = none
theorem Down.inv (w : Down X pins σ H a cls d s) : Inv X pins σ H s := by
  obtain ⟨G, s0, I, n, u, f, e1, e2⟩ := w.ex
  exact I.landed n f.1 u e1 e2
/-- its object, and the context of a suite -/
theorem Down.obj (w : Down X pins σ H a cls d s) (hst : X.stack = X.env :: X.outer) (hfr : X.env.frame = some X.env.locals) : ∃ ob, Zc cls d ob ∧ (∃ vs, ob.data = .fields vs) ∧ s.heap.get? a = some ob ∧ Inv (X.suite a ((a, ob) :: (X.pn ++ pins))) [] σ H s := by
  obtain ⟨G, s0, I, n, u, f, e1, e2⟩ := w.ex
  obtain ⟨ob, vs, h1, h2, h3⟩ := f.there
  have out : a ∉ frs X.stack := fun hm => by
    obtain ⟨_, ob2, h4, h5⟩ := f.2.2.1.mem hm
    rw [h1] at h4
    cases h4
    exact h5 _ h3
  refine ⟨ob, h2, ⟨vs, h3⟩, h1, w.inv.suite h1 h3 w.na (fun z => out ?_) (fun hm => out ?_)⟩
  · rw [hst]
    exact List.mem_filterMap.mpr ⟨X.env, .head _, by rw [hfr, z]⟩
  · rw [hst]
    obtain ⟨e, he, q⟩ := List.mem_filterMap.mp hm
    exact List.mem_filterMap.mpr ⟨e, .tail _ he, q⟩
theorem Down.again {Q : Unit → Shared → Prop} {E : Value → Shared → Prop} {M : Model} {A : Around} (w : Down X pins σ H a cls d s) (h : ∀ s', Down X pins σ H a cls d s' → Q () s') : wpAny M A (setFlight (.ref a) none) Q E s := by
  obtain ⟨G, s0, I, n, u, f, e1, e2⟩ := w.ex
  exact HandSPX.lands_againZ f fun h4 f4 u4 => h _ ⟨⟨G, s0, I, n, u.trans u4, f4, e1, e2⟩, w.na⟩
/-- no clause is of its class -/
theorem Down.pass {Q : Flow → Shared → Prop} (w : Down X pins σ H a cls d s) (hst : X.stack = X.env :: X.outer) (hfr : X.env.frame = some X.env.locals) (tk : Takes X Wout) (q : Wout cls d σ H) :
    wpAny (model X.prog X.w) X.A (handleBy (.ref a) X.env []) Q X.xe s := by
  obtain ⟨G, s0, I, n, u, f, e1, e2⟩ := w.ex
  obtain ⟨_, _, _, ob, vs, tb, ot, ts, g1, g2, g3, g4, _⟩ := id f
  refine wpAny_handleBy_nil ?_
  unfold PySem.passOn
  refine wpAny_bind (wpAny_field g1 g3 g4 ?_)
  rw [if_neg (show ¬ ((Value.ref tb == Value.none) = true) from by simp)]
  have last : wpAny (model X.prog X.w) X.A (setFlight (.ref a) X.env.frame) (fun _ s4 => wpAny (model X.prog X.w) X.A (throw (.ref a) : Sem Flow) Q X.xe s4) X.xe s := by
    rw [hfr]
    exact HandSPX.setFlight_upZ f fun h4 f4 u4 => wpAny_throw (tk _ _ ⟨a, G, s0, pins, σ, H, cls, d, rfl, I, n, u.trans u4, .inr (.inr f4), w.na, e1, e2, q⟩)
  first
    | exact wpAny_bind (wpAny_pure (wpAny_bind last))
    | exact wpAny_bind last
/-- the class of a clause is read -/
theorem name_ok {ob : Obj} {x : Str} {c : Value} {np : Pos} {pn : List (Addr × Obj)} {Q E : Value → Shared → Prop} (S : Inv (X.suite a ((a, ob) :: pn)) [] σ H s) (hc : Names X x c) (q : Q c s) : wpAny (model X.prog X.w) (X.A.mark (some (.ref a))) (eval (.Name x np) X.env) Q E s := by
  obtain ⟨h1, h2, h3 | ⟨h3, h4, h5⟩⟩ := hc
  · exact ld_glob (X := X.suite a ((a, ob) :: pn)) S h1 h3 q h2
  · exact ld_blt (X := X.suite a ((a, ob) :: pn)) S h1 h3 h4 q h5 h2
/-- the clauses, one after the other -/
theorem Down.clauses (hst : X.stack = X.env :: X.outer) (hfr : X.env.frame = some X.env.locals) (tk : Takes X Wout) : ∀ {hs : List ExceptHandler} {zs : List Cz}, CzsOk X hs zs → ∀ {s : Shared}, Down X pins σ H a cls d s → wN X.K Wout D zs cls d σ H →
    wpAny (model X.prog X.w) X.A (handleBy (.ref a) X.env hs) (SP X pins D) X.xe s := by
  intro hs zs hk
  induction hk with
  | nil => intro s w q; exact w.pass hst hfr tk q
  | @cons h z hs zs o r ih =>
    intro s w q
    obtain ⟨ob, z1, z2, z3, S⟩ := w.obj hst hfr
    have lt : PySem.W.Looks (model X.prog X.w) s.heap (typeOf (.ref a)) cls := fun A Q E s' k y => wpAny_typeOf_ref (k _ _ z3) (by rw [z1.1]; exact y)
    cases o with
    | @bare x c ts st sts p1 p2 hc ht =>
      obtain ⟨b, hb, yes, no⟩ := q
      refine wpAny_handleBy_cons (codeAny_handlers_test ?_) (by intro y; cases y)
      refine name_ok S hc ((PySem.W.exm_one (M := model X.prog X.w) w.inv.kIn lt hb).here ?_)
      cases b with
      | false => exact ih w (no rfl)
      | true =>
        refine codeAny_handlers_suite (w.again fun s4 w4 => ?_)
        obtain ⟨ob4, y1, y2, y3, S4⟩ := w4.obj hst hfr
        refine wpAny_mono ((ht a ob4 cls d (X.pn ++ pins) y1 y2).run [] s4 σ H D S4 (yes rfl a w.na)) (fun f s6 e => ?_) (fun _ _ y => False.elim y)
        have ok := w.inv.ok
        cases f with
        | next => obtain ⟨σ6, H6, S6, q6⟩ := e; exact ⟨_, _, S6.unsuite ok, q6⟩
        | brk => obtain ⟨σ6, H6, S6, q6⟩ := e; exact ⟨_, _, S6.unsuite ok, q6⟩
        | cont => obtain ⟨σ6, H6, S6, q6⟩ := e; exact ⟨_, _, S6.unsuite ok, q6⟩
        | ret u => obtain ⟨v6, σ6, H6, S6, r6, q6⟩ := e; exact ⟨_, _, _, S6.unsuite ok, r6, q6⟩
    | @named x n i c ts st sts p1 p2 hc hN hi hn ht =>
      obtain ⟨b, hb, yes, no⟩ := q
      refine wpAny_handleBy_cons (codeAny_handlers_test ?_) (by intro y; cases y)
      refine name_ok S hc ((PySem.W.exm_one (M := model X.prog X.w) w.inv.kIn lt hb).here ?_)
      cases b with
      | false => exact ih w (no rfl)
      | true =>
        refine codeAny_handlers_suite_as (w.again fun s4 w4 => ?_)
        obtain ⟨ob4, y1, y2, y3, S4⟩ := w4.obj hst hfr
        refine store_ok (X := X.suite a ((a, ob4) :: (X.pn ++ pins))) (v := .ref a) S4 hN hi (.inl hn) rfl (fun s5 S5 => ?_) (.inr hn)
        refine wpAny_mono ((ht a ob4 cls d (X.pn ++ pins) y1 y2).run [] s5 _ H (behindN i D) S5 (yes rfl a w.na)) (fun f s6 e => ?_) (fun _ _ y => False.elim y)
        have ok := w.inv.ok
        have gone : ∀ {σ6 : L2.St} {H6 : Hp} {Q : Shared → Prop}, Inv (X.suite a ((a, ob4) :: (X.pn ++ pins))) [] σ6 H6 s6 → (∀ s7, Inv X pins (σ6.set i none) H6 s7 → Q s7) → wpAny (model X.prog X.w) X.A (do bindName X.env n .none; unbindBehindTheSuite X.env n p2) (fun _ s7 => Q s7) X.xe s6 :=
          fun {σ6 H6 Q} S6 y => gone_ok (S6.unsuite ok) hN hi hn y
        cases f with
        | next => obtain ⟨σ6, H6, S6, q6⟩ := e; exact gone S6 fun s7 J => ⟨_, _, J, q6⟩
        | brk => obtain ⟨σ6, H6, S6, q6⟩ := e; exact gone S6 fun s7 J => ⟨_, _, J, q6⟩
        | cont => obtain ⟨σ6, H6, S6, q6⟩ := e; exact gone S6 fun s7 J => ⟨_, _, J, q6⟩
        | ret u => obtain ⟨v6, σ6, H6, S6, r6, q6⟩ := e; exact gone S6 fun s7 J => ⟨_, _, _, J, r6, q6⟩
end
def tTryN (K : PySem.W.Frag) (tb : WX → TS) (zs : List Cz) (Wout : WX) : TS := fun D σ H => tb (wN K Wout D zs) D σ H
theorem ps_tryN {X : Cx} {body : List Stmt} {h : ExceptHandler} {hs : List ExceptHandler} {zs : List Cz} {pos : Pos} {tb : WX → TS} {Wout : WX} (hst : X.stack = X.env :: X.outer) (hfr : X.env.frame = some X.env.locals) (tk : Takes X Wout)
    (hb : ∀ (W : WX) (pn : List (Addr × Obj)) (xe : Value → Shared → Prop), Takes (X.tr pn xe) W → PassesOwn (model X.prog X.w) X.A X.env xe → PSs (X.tr pn xe) body (tb W)) (hk : CzsOk X (h :: hs) zs) :
    PS X (.Try body (h :: hs) [] [] pos) (tTryN X.K tb zs Wout) := by
  refine ⟨fun pins s σ H D I q => wpAny_Try_except ?_⟩
  refine wpAny_mono ((hb (wN X.K Wout D zs) (X.pn ++ pins) (fun e s1 => wpAny (model X.prog X.w) X.A (noteFrame e X.env) (fun _ s2 => wpAny (model X.prog X.w) X.A (setFlight e none) (fun _ s3 => wpAny (model X.prog X.w) X.A (handleBy e X.env (h :: hs)) (SP X pins D) X.xe s3) X.xe s2) X.xe s1)
    (fun u s1 xx => ?_) PassesOwn.looking).run [] s σ H D (I.toTry _) q) (fun f s1 e => ?_) (fun e s1 he => he)
  · obtain ⟨a, G, s0, pins0, σ1, H1, cls, d, rfl, J0, n, u1, sky, na, e1, e2, w⟩ := xx
    have J := J0.ofTry I.ok
    have sky1 : Sky G (X.env :: X.outer) a (Zc cls d) X.env.locals s1.heap := hst ▸ sky
    refine Sky.land Zc.steady (by rw [I.ok.frames, hst]) hfr sky1 fun h3 f3 u3 => ?_
    exact Down.clauses hst hfr tk hk ⟨⟨G, s0, J, n, u1.trans u3, hst ▸ f3, e1, e2⟩, na⟩ w
  · cases f with
    | next => obtain ⟨σ1, H1, J, q1⟩ := e; exact wpAny_execs_nil ⟨σ1, H1, J.ofTry I.ok, q1⟩
    | brk => obtain ⟨σ1, H1, J, q1⟩ := e; exact ⟨σ1, H1, J.ofTry I.ok, q1⟩
    | cont => obtain ⟨σ1, H1, J, q1⟩ := e; exact ⟨σ1, H1, J.ofTry I.ok, q1⟩
    | ret u => obtain ⟨v, σ1, H1, J, r1, q1⟩ := e; exact ⟨v, σ1, H1, J.ofTry I.ok, r1, q1⟩
theorem tryNK {X : Cx} {K : PySem.W.Frag} {body : List Stmt} {h : ExceptHandler} {hs : List ExceptHandler} {zs : List Cz} {pos : Pos} {tb : WX → TS} {Wout : WX} (hK : X.K = K) (hst : X.stack = X.env :: X.outer) (hfr : X.env.frame = some X.env.locals) (tk : Takes X Wout)
    (hb : ∀ (W : WX) (pn : List (Addr × Obj)) (xe : Value → Shared → Prop), Takes (X.tr pn xe) W → PassesOwn (model X.prog X.w) X.A X.env xe → PSs (X.tr pn xe) body (tb W)) (hk : CzsOk X (h :: hs) zs) :
    PS X (.Try body (h :: hs) [] [] pos) (tTryN K tb zs Wout) := by subst hK; exact ps_tryN hst hfr tk hb hk
/-! ### on deep data -/
section
variable [TbC] {K : PySem.W.Frag} {ρ ρ' : Env} {R : DEnds}
/-- behind a clause with a name -/
abbrev DEnds.less (R : DEnds) (i : Nat) : DEnds := { R with nx := fun ρ2 => R.nx (ρ2.set i none), bk := fun ρ2 => R.bk (ρ2.set i none), ct := fun ρ2 => R.ct (ρ2.set i none) }
/-- what the clauses make of an exception -/
def Clz (K : PySem.W.Frag) (R : DEnds) (Wout : WX) (ρ : Env) (cls : Value) (fs : Option (List (Str × D))) : List Cz → Prop
  | [] => R.W = Wout ∧ R.ex ρ cls fs
  | (c, none, ts) :: zs => ∃ b, PySem.W.exmOne K cls c = some b ∧ (b = true → ∀ a dd, (fs = none → dd = none) → ExS K (ts a cls dd) ρ R) ∧ (b = false → Clz K R Wout ρ cls fs zs)
  | (c, some i, ts) :: zs => ∃ b, PySem.W.exmOne K cls c = some b ∧ (b = true → (∀ fs', fs = some fs' → ∀ a dd, ExS K (ts a cls (some dd)) (ρ.set i (some (.exf K a dd fs'))) (R.less i)) ∧ (fs = none → ∀ a, ExS K (ts a cls none) (ρ.set i (some (.exv a))) (R.less i))) ∧ (b = false → Clz K R Wout ρ cls fs zs)
theorem Lk.less {B : Base} {Dn : Ends} (l : Lk K B R Dn) (i : Nat) : Lk K B (R.less i) (behindN i Dn) :=
  ⟨fun Hs H σ ρ r q => l.nx Hs H _ _ (r.forget i none) q, l.rt, l.rf, fun Hs H σ ρ r q => l.bk Hs H _ _ (r.forget i none) q, fun Hs H σ ρ r q => l.ct Hs H _ _ (r.forget i none) q, l.ro, l.ex, l.rn⟩
theorem clz_w {B : Base} {Hs H : Hp} {σ : L2.St} {Dn : Ends} {Wout : WX} {cls : Value} {dd : Option Addr} {fs : Option (List (Str × D))} (r : RS K B Hs H σ ρ) (y : XRep K Hs H dd fs) (l : Lk K B R Dn) : ∀ {zs : List Cz}, Clz K R Wout ρ cls fs zs → wN K Wout Dn zs cls dd σ H
  | [], ⟨e1, e2⟩ => by
    subst e1
    exact l.ex Hs H σ ρ cls dd fs r y e2
  | (c, none, ts) :: zs, ⟨b, h1, h2, h3⟩ => ⟨b, h1, fun hb a ha => h2 hb a dd (fun e => by
      subst e
      cases dd with
      | none => rfl
      | some a => exact y.elim) B Hs H σ Dn r l, fun hb => clz_w r y l (h3 hb)⟩
  | (c, some i, ts) :: zs, ⟨b, h1, h2, h3⟩ => by
    refine ⟨b, h1, fun hb a ha => ?_, fun hb => clz_w r y l (h3 hb)⟩
    cases dd with
    | none =>
      cases fs with
      | some fs => exact y.elim
      | none => exact (h2 hb).2 rfl a B Hs H _ _ (r.setE i a) (l.less i)
    | some dd =>
      cases fs with
      | none => exact y.elim
      | some fs => exact (h2 hb).1 fs rfl a dd B Hs H _ _ (r.setF i a y) (l.less i)
theorem xs_tryN {zs : List Cz} {tb : WX → TS} {Wout : WX} (EX : Env → Value → Option (List (Str × D)) → Prop) (hb : ∀ W, ExS K (tb W) ρ { R with ex := EX, W := W }) (hx : ∀ ρ' cls fs, EX ρ' cls fs → Clz K R Wout ρ' cls fs zs) : ExS K (tTryN K tb zs Wout) ρ R := fun B Hs H σ Dn r l =>
  hb _ B Hs H σ Dn r ⟨l.nx, l.rt, l.rf, l.bk, l.ct, l.ro, fun Hs' H' σ' ρ' cls dd fs r' y q => clz_w r' y l (hx ρ' cls fs q), l.rn⟩
end
end DL
/-! ### isinstance of a caught error that has fields -/
namespace DL
open PySem PySem.W PySem.Spec PySem.Calls PyProof.Rows
section
variable {prog : Program} {w : World} {A : Around} {E : Value → Shared → Prop} {s : Shared} {K : PySem.W.Frag} {x C : Addr} {xo dob : Obj}
theorem cls_of_exc {Q : Option Value → Shared → Prop} (F : L2.ExcC K C) (kin : K.In s.heap) (J : InstAt s.heap x xo C (some dob)) (q : Q (some (.ref C)) { s with toks := s.toks + 1 }) : wpAny (model prog w) A (getAttr? (.ref x) "__class__") Q E s := by
  have fnd : findObj K C (some dob) "__class__" = some (.bind (.builtin "getset_descriptor.__get__") (.builtin "object.__class__")) := findObj_data (by obtain ⟨cd, y, _⟩ := any_some F.hd; rw [y]; rfl) F.ha F.hn F.ht
  obtain ⟨hp, gs, dr, tk, ot⟩ := s
  have l0 := J.type (M := model prog w)
  have l1 := looks_findIn (M := model prog w) kin F.hg
  have l2 := looks_findIn (M := model prog w) kin F.hk
  have l3 := looks_find (M := model prog w) kin J fnd
  have lsub : Looks (model prog w) hp (isInstance (.ref x) (.type "BaseException")) true := l0.andThen (looks_subIn kin F.hs)
  have n0 : (Value.builtin "BaseException.__getattribute__" == Value.builtin "object.__getattribute__") = false := by decide +kernel
  have n1 : (onTheHeap (Value.ref C) && Value.builtin "BaseException.__getattribute__" == Value.builtin "object.__getattribute__") = false := by rw [n0]; rfl
  have n2 : (false && onTheHeap (Value.builtin "BaseException.__getattribute__")) = false := rfl
  unfold getAttr? getAttrBy? getAttrBy
  refine wpAny_bind (wpAny_mkText (wpAny_bind (wpAny_attempt (wpAny_holding (wpAny_bind (l0.at (wpAny_bind (l1.at ?_))))))))
  show wpAny _ _ (if (onTheHeap (Value.ref C) && Value.builtin "BaseException.__getattribute__" == Value.builtin "object.__getattribute__") = true then _ else _) _ _ _
  rw [n1, if_neg Bool.false_ne_true]
  unfold getAttrByItsOwn hookBefore
  refine wpAny_bind ?_
  rw [if_pos (show onTheHeap (Value.ref C) = true from rfl)]
  refine l2.at (wpAny_bind (wpAny_attempt (wpAny_holding ?_)))
  unfold callGetattribute
  rw [n2, if_neg Bool.false_ne_true]
  unfold boundAndCalled
  rw [PySem.F.excAttr_ValueError.ga.bind (.ref x)]
  refine wpAny_bind (wpAny_pure ?_)
  show wpAny _ _ (call (.builtin "BaseException.__getattribute__") [.ref x, .str "__class__" tk]) _ _ _
  refine wpAny_call (codeAny_call_builtin PySem.F.excAttr_ValueError.ga.plain PySem.F.entry_bexc_ga ?_)
  refine @check_slot (model prog w) _ _ ⟨hp, gs, dr, tk + 1, ot⟩ "BaseException.__getattribute__" "BaseException" "__getattribute__" (.ref x) [.str "__class__" tk] [] _ (by decide +kernel) (by decide +kernel) lsub (PySem.F.args_bexc_ga (.ref x) (.str "__class__" tk)) ?_
  unfold Builtin.«object.__getattribute__»
  refine wpAny_bind (wpAny_of_eq (a := ((Value.ref x : Value), [Value.str "__class__" tk])) (by first | rfl | (simp only [slotArgs]; rfl)) ?_)
  refine wpAny_bind (wpAny_pure (wpAny_bind (l0.at (wpAny_bind (l3.at ?_)))))
  show wpAny _ _ (holding [Value.builtin "object.__class__"] (call (.builtin "getset_descriptor.__get__") [.builtin "object.__class__", .ref x, .ref C]) >>= ret) _ _ _
  refine wpAny_bind (wpAny_holding (wpAny_call (class_get (s := ⟨hp, gs, dr, tk + 1, ot⟩) (ox := xo) (od := some dob) kin J F.hm (wpAny_pure ?_))))
  show wpAny _ _ (handedOut (.ref C)) _ _ _
  rw [handedOut_of (v := .ref C) rfl]
  first
    | exact wpAny_pure (wpAny_pure q)
    | exact wpAny_pure q
    | exact wpAny_pure (wpAny_bind (wpAny_pure (wpAny_pure q)))
theorem kit_of_exc (F : L2.ExcC K C) : KitX K (.ref x) (.ref C) (fun h => InstAt h x xo C (some dob)) where
  ty := fun _ _ _ J => J.type
  it := fun _ _ kin _ => by
    obtain ⟨cd, y, _⟩ := any_some F.hd
    unfold clsIn at y
    split at y
    · rename_i ho
      intro A1 Q1 E1 s1 kk q
      unfold isType loadHead
      exact wpAny_bind (wpAny_loadPart (kk _ _ (kin _ _ ho)) (wpAny_pure q))
    · cases y
  ne := fun hh tup dd items n sl kin ht => by
    obtain ⟨cd, y, _⟩ := any_some F.hd
    unfold clsIn at y
    split at y
    · rename_i ho
      refine Bool.eq_false_iff.mpr fun q => ?_
      have q1 : C = tup := Value.ref.inj (beq_iff_eq.mp q)
      rw [← q1, kin _ _ ho] at ht
      cases ht
    · cases y
  ca := fun kin J q => cls_of_exc F kin J q
end
end DL
namespace DL
open PySem L2 PySem.Spec PyProof.Rows
/-- isinstance(e, c), e the exception that the suite holds, its dict at dd -/
def rIsF (K : PySem.W.Frag) (C a dd : Addr) : List V → Hp → VK → Prop := fun xs H Q => ∃ (c : V) (cv : Value) (b : Bool) (fs : List (Str × V)), xs = [.ref a, c] ∧ H dd = some (.xd fs) ∧ (∀ u, RelV c u → u = cv) ∧ PySem.W.kitOne K (.ref C) cv = some b ∧ Q (.bl b) H
theorem call_isF {X : Cx} {a C dd : Addr} {ob : Obj} {pn : List (Addr × Obj)} (F : ExcC X.K C) (hz : Zc (.ref C) (some dd) ob) (hf : ∃ vs, ob.data = .fields vs) : CallR (X.suite a ((a, ob) :: pn)) (.builtin "isinstance") (rIsF X.K C a dd) := by
  intro pins s σ H xs us Q I r h
  obtain ⟨c, cv, b, fs, rfl, hd, hcv, e, q⟩ := h
  cases r with
  | cons rx rr =>
    cases rr with
    | cons rt rr =>
      cases rr
      cases rx
      have ec := hcv _ rt
      subst ec
      obtain ⟨hget, _⟩ := I.pin (a, ob) (List.mem_append.mpr (.inl List.mem_cons_self))
      obtain ⟨vs, hv⟩ := hf
      obtain ⟨mA, ⟨dob, _, _, hdo, _⟩, _⟩ := (show ObjOk X.prog X.w H s.heap dd (.xd fs) from I.hok dd _ hd)
      have J : PySem.W.InstAt s.heap a ob C (some dob) := by
        obtain ⟨oc, od, oda, osl⟩ := ob
        obtain ⟨y1, y2⟩ := hz
        dsimp only at y1 y2 hv
        subst y1 y2 hv
        exact ⟨hget, rfl, rfl, hdo⟩
      exact PySem.W.kia_one (kit_of_exc F) I.kIn J e (fun z => nomatch z) fun tk => ⟨.bl b, H, I.kept (t' := tk) fun _ _ z => z, rfl, q⟩
theorem isFK {X : Cx} {K : PySem.W.Frag} {a C dd : Addr} {ob : Obj} {pn : List (Addr × Obj)} (hK : X.K = K) (F : ExcC K C) (hz : Zc (.ref C) (some dd) ob) (hf : ∃ vs, ob.data = .fields vs) : CallR (X.suite a ((a, ob) :: pn)) (.builtin "isinstance") (rIsF K C a dd) := by subst hK; exact call_isF F hz hf
section
variable [TbC] {K : PySem.W.Frag} {ρ : Env}
theorem ev_isF {C a dd : Addr} {i : Nat} {c : V} {cv : Value} {b : Bool} {fs : List (Str × D)} (hi : ρ[i]? = some (some (.exf K a dd fs))) (hc : ∀ u, RelV c u → u = cv) (hk : PySem.W.kitOne K (.ref C) cv = some b) : EvD K (tCB (rIsF K C a dd) (tCons (tVar i) (tCons (tC c) tNil))) ρ (.bl b) := fun B Hs H σ r Q q => by
  obtain ⟨S, rg⟩ := r.reg
  obtain ⟨v0, hv, hh⟩ := rg.1 i _ hi
  obtain ⟨⟨rfl, _⟩, vs, h1, h2⟩ := hh Hs (Ex.refl Hs)
  exact ⟨.ref a, hv, c, cv, b, _, rfl, r.ex _ _ h1, hc, hk, q Hs H _ (Gr.refl r.ex) (.bl b)⟩
end
/-! ### isinstance of a caught error, of any of some classes -/
def rIsG (K : PySem.W.Frag) (cls : Value) (d : Option Addr) (a : Addr) : List V → Hp → VK → Prop := fun xs H Q => ∃ (C : Addr) (c : V) (cv : Value) (b : Bool), cls = .ref C ∧ ExcC K C ∧ (d = none ∨ ∃ dd fs, d = some dd ∧ H dd = some (.xd fs)) ∧ xs = [.ref a, c] ∧ (∀ u, RelV c u → u = cv) ∧ PySem.W.kitOne K (.ref C) cv = some b ∧ Q (.bl b) H
theorem isGK {X : Cx} {K : PySem.W.Frag} {a : Addr} {cls : Value} {d : Option Addr} {ob : Obj} {pn : List (Addr × Obj)} (hK : X.K = K) (hz : Zc cls d ob) (hf : ∃ vs, ob.data = .fields vs) : CallR (X.suite a ((a, ob) :: pn)) (.builtin "isinstance") (rIsG K cls d a) := by
  subst hK
  intro pins s σ H xs us Q I r h
  obtain ⟨C, c, cv, b, rfl, F, hd, rfl, hcv, e, q⟩ := h
  rcases hd with rfl | ⟨dd, fs, rfl, hd⟩
  · exact call_isE F hz hf pins s σ H _ us Q I r ⟨c, cv, b, rfl, hcv, e, q⟩
  · exact call_isF F hz hf pins s σ H _ us Q I r ⟨c, cv, b, fs, rfl, hd, hcv, e, q⟩
section
variable [TbC] {K : PySem.W.Frag} {ρ : Env}
theorem ev_isGF {C a dd : Addr} {i : Nat} {c : V} {cv : Value} {b : Bool} {fs : List (Str × D)} (hi : ρ[i]? = some (some (.exf K a dd fs))) (F : ExcC K C) (hc : ∀ u, RelV c u → u = cv) (hk : PySem.W.kitOne K (.ref C) cv = some b) : EvD K (tCB (rIsG K (.ref C) (some dd) a) (tCons (tVar i) (tCons (tC c) tNil))) ρ (.bl b) := fun B Hs H σ r Q q => by
  obtain ⟨S, rg⟩ := r.reg
  obtain ⟨v0, hv, hh⟩ := rg.1 i _ hi
  obtain ⟨⟨rfl, _⟩, vs, h1, h2⟩ := hh Hs (Ex.refl Hs)
  exact ⟨.ref a, hv, C, c, cv, b, rfl, F, .inr ⟨dd, _, rfl, r.ex _ _ h1⟩, rfl, hc, hk, q Hs H _ (Gr.refl r.ex) (.bl b)⟩
theorem ev_isGE {C a : Addr} {i : Nat} {c : V} {cv : Value} {b : Bool} (hi : ρ[i]? = some (some (.exv a))) (F : ExcC K C) (hc : ∀ u, RelV c u → u = cv) (hk : PySem.W.kitOne K (.ref C) cv = some b) : EvD K (tCB (rIsG K (.ref C) none a) (tCons (tVar i) (tCons (tC c) tNil))) ρ (.bl b) := fun B Hs H σ r Q q => by
  obtain ⟨S, rg⟩ := r.reg
  obtain ⟨v0, hv, hh⟩ := rg.1 i _ hi
  obtain ⟨rfl, _⟩ := hh Hs (Ex.refl Hs)
  exact ⟨.ref a, hv, C, c, cv, b, rfl, F, .inl rfl, rfl, hc, hk, q Hs H _ (Gr.refl r.ex) (.bl b)⟩
end
/-! ### methods without arguments: those that may raise; those of the running frame's closures -/
section
variable [TbC] {X : Cx} {CX : CXT} {k : Nat} {W : WX} {m : Str} {pos apos : Pos} {o : Expr} {ta : TE} {pl : Sem Bool} {E : XK} {cl : List (Str × Addr)} {fr : List Str} {js : List Nat}
theorem pe_methS0 {alts : List (Addr × Sp)} (he : PE X o ta) (al : Alts X CX k m alts) (hr : Room k X.A) (hx : ∀ σ, PassesAt CX X σ (WE W σ))
    (ht : eval (.Call (.Attribute o m apos) [] [] pos) X.env = (do
      let ov ← eval o X.env
      standAt apos.atName
      let (f, first) ← holding [ov] (getMethod ov m pl)
      callWith pos f first (backTo pos (starEach [] X.env)) (backToKw pos (keywordEach [] X.env))) := by rfl) :
    PE X (.Call (.Attribute o m apos) [] [] pos) (tMethS alts m W ta tNil) := by
  refine ⟨fun pins s σ H Q I h => PySem.W.methodCall_KW (pl := pl) (thn (he.run pins s σ H _ I h) fun u s1 ⟨x, H1, I1, rx, a, C, dx, fs, sp, ex, ea, hin, l, q⟩ => ?_) ht⟩
  subst ex
  obtain rfl : u = Value.ref a := rx
  obtain ⟨f, fd, ps, c, hm, F, hb⟩ := al.get hin
  exact getmeth_ok I1 ea c hm l (PySem.W.callWith_K0 (first := [.ref a]) I1.kIn hm.kp (run_fnS (us := [.ref a]) (vs := [.ref a]) F hr hb (hx σ) I1 (.cons rfl .nil) q))
theorem pe_methU0 {alts : List V → List (Addr × Sp)} (he : PE X o ta) (hfn : ∀ y, X.fn y = true) (hst : X.stack = X.env :: X.outer) (hfr : X.env.frame = some X.env.locals) (cp : X.Ok → NdefX.Caps X cl fr js)
    (al : ∀ base' (us : List V), (∀ b o, X.base.get? b = some o → base'.get? b = some o) → NdefX.CellsAt cl fr (us.map some) base' em → AltsG X base' CX k m (alts us)) (hr : Room k X.A) (hx : Passes CX X E)
    (ht : eval (.Call (.Attribute o m apos) [] [] pos) X.env = (do
      let ov ← eval o X.env
      standAt apos.atName
      let (f, first) ← holding [ov] (getMethod ov m pl)
      callWith pos f first (backTo pos (starEach [] X.env)) (backToKw pos (keywordEach [] X.env))) := by rfl) :
    PE X (.Call (.Attribute o m apos) [] [] pos) (tMethU js alts m E ta tNil) := by
  refine ⟨fun pins s σ H Q I h => PySem.W.methodCall_KW (pl := pl) (thn (he.run pins s σ H _ I h) fun u s1 ⟨x, H1, I1, rx, a, C, dx, fs, vs0, sp, ex, ea, hus, hin, l, q⟩ => ?_) ht⟩
  subst ex
  obtain rfl : u = Value.ref a := rx
  obtain ⟨base1, up1, C1, e1⟩ := Inv.up I1 hfn hst hfr (cp I1.ok)
  rw [hus] at C1
  obtain ⟨f, fd, ps, c, hm, F, hb⟩ := (al base1 vs0 up1.sub C1).get hin
  exact getmeth_ok I1 ea c hm l (PySem.W.callWith_K0 (first := [.ref a]) I1.kIn hm.kp (run_fnU (us := [.ref a]) (vs := [.ref a]) e1 F hr hb hx I1 (.cons rfl .nil) q))
end
end DL

local macro_rules | `(tactic| walk_at "dl side") => `(tactic| first
  | assumption
  | decide
  | omega
  | exact DL.divW_c (by omega) (by omega)
  | exact DL.atI_int (by omega) (by omega)
  | exact DL.atI2 (by omega) (by omega)
  | exact DL.atI3 (by omega) (by omega)
  | exact DL.atI4 (by omega) (by omega)
  | exact L2.atI_nat rfl
  | exact L2.atI_last _ _
  | exact DL.mulW_l (by omega) (by omega)
  | exact DL.mulW_r (by omega) (by omega)
  | exact DL.mulW_l (by decide) (by decide)
  | exact DL.mulW_r (by decide) (by decide)
  | exact ⟨by decide, by decide, by decide⟩
  | (refine ⟨?_, ?_⟩ <;> omega)
  | (refine ⟨?_, ?_, ?_⟩ <;> omega)
  | (refine ⟨?_, ?_, ?_, ?_⟩ <;> omega)
  | exact trivial
  | decide +kernel
  | exact Nat.le_of_ble_eq_true rfl
  | rfl)
local macro_rules | `(tactic| walk_at "dl ev") => `(tactic| first
  | assumption
  | with_reducible exact DL.ev_ci
  | with_reducible exact DL.ev_cs
  | with_reducible exact DL.ev_cb
  | with_reducible exact DL.ev_cn
  | with_reducible exact DL.ev_cf
  | with_reducible exact DL.ev_ct
  | ((with_reducible apply DL.ev_var); rfl)
  | ((with_reducible apply DL.em_var); rfl)
  | with_reducible exact DL.ea_nil
  | ((with_reducible apply DL.ea_cons) <;> walk_at "dl ev")
  | ((with_reducible apply DL.ev_addI) <;> walk_at "dl ev")
  | ((with_reducible apply DL.ev_I) <;> walk_at "dl ev")
  | ((with_reducible apply DL.ev_Ib) <;> walk_at "dl ev")
  | ((with_reducible apply DL.ev_mulI) <;> walk_at "dl ev")
  | ((with_reducible apply DL.ev_IC) <;> walk_at "dl ev")
  | ((with_reducible apply DL.ev_U) <;> walk_at "dl ev")
  | ((with_reducible apply DL.ev_eqI) <;> walk_at "dl ev")
  | ((with_reducible apply DL.ev_neI) <;> walk_at "dl ev")
  | ((with_reducible apply DL.ev_eqL) <;> walk_at "dl ev")
  | ((with_reducible apply DL.ev_neL) <;> walk_at "dl ev")
  | ((with_reducible apply DL.ev_eqS) <;> walk_at "dl ev")
  | ((with_reducible apply DL.ev_neS) <;> walk_at "dl ev")
  | ((with_reducible apply DL.ev_eqB) <;> walk_at "dl ev")
  | ((with_reducible apply DL.ev_neB) <;> walk_at "dl ev")
  | ((with_reducible apply DL.et_t) <;> walk_at "dl ev")
  | ((with_reducible apply DL.et_B) <;> walk_at "dl ev")
  | ((with_reducible apply DL.et_not) <;> walk_at "dl ev")
  | ((with_reducible apply DL.ev_not) <;> walk_at "dl ev")
  | ((with_reducible apply DL.et_and') <;> walk_at "dl ev")
  | ((with_reducible apply DL.et_or') <;> walk_at "dl ev")
  | ((with_reducible apply DL.ev_and') <;> walk_at "dl ev")
  | ((with_reducible apply DL.ev_or') <;> walk_at "dl ev")
  | with_reducible exact DL.et_yes
  | ((with_reducible apply DL.ev_chain) <;> walk_at "dl ev")
  | ((with_reducible apply DL.ev_lenMT) <;> walk_at "dl ev")
  | ((with_reducible apply DL.ev_lenM) <;> walk_at "dl ev")
  | ((with_reducible apply DL.ev_lenS1) <;> walk_at "dl ev")
  | ((with_reducible apply DL.ev_lenTA) <;> walk_at "dl ev")
  | ((with_reducible apply DL.ev_lenLA) <;> walk_at "dl ev")
  | ((with_reducible apply DL.ev_tup) <;> walk_at "dl ev")
  | ((with_reducible apply DL.ef_lst) <;> walk_at "dl ev")
  | ((with_reducible apply DL.ef_listR2) <;> walk_at "dl ev")
  | ((with_reducible apply DL.ef_listR1) <;> walk_at "dl ev")
  | ((with_reducible apply DL.ev_ixt) <;> walk_at "dl ev")
  | ((with_reducible apply DL.ev_ixl) <;> walk_at "dl ev")
  | ((with_reducible apply DL.ef_slL) <;> walk_at "dl ev")
  | ((with_reducible apply DL.ef_addL) <;> walk_at "dl ev")
  | ((with_reducible apply DL.ef_mulL) <;> walk_at "dl ev")
  | ((with_reducible apply DL.ef_listT) <;> walk_at "dl ev")
  | ((with_reducible apply DL.ef_listL) <;> walk_at "dl ev")
  | ((with_reducible apply DL.ev_tupleT) <;> walk_at "dl ev")
  | ((with_reducible apply DL.ev_tupleL) <;> walk_at "dl ev")
  | ((with_reducible apply DL.ev_intI) <;> walk_at "dl ev")
  | ((with_reducible apply DL.ev_intB) <;> walk_at "dl ev")
  | ((with_reducible apply DL.ev_divmod) <;> walk_at "dl ev")
  | ((with_reducible apply DL.ev_slT) <;> walk_at "dl ev")
  | ((with_reducible apply DL.ev_addT) <;> walk_at "dl ev")
  | ((with_reducible apply DL.ef_rev) <;> walk_at "dl ev")
  | ((with_reducible apply DL.ev_inI) <;> walk_at "dl ev")
  | ((with_reducible apply DL.ev_notInI) <;> walk_at "dl ev")
  | ((with_reducible apply DL.ev_abs) <;> walk_at "dl ev")
  | ((with_reducible apply DL.ev_max2) <;> walk_at "dl ev")
  | ((with_reducible apply DL.ev_min2) <;> walk_at "dl ev")
  | ((with_reducible apply DL.isi_int_int) <;> walk_at "dl ev")
  | ((with_reducible apply DL.isi_int_bool) <;> walk_at "dl ev")
  | ((with_reducible apply DL.isi_bool_bool) <;> walk_at "dl ev")
  | ((with_reducible apply DL.isi_bool_int) <;> walk_at "dl ev")
  | ((with_reducible apply DL.isi_lst_list) <;> walk_at "dl ev")
  | ((with_reducible apply DL.isi_tup_tuple) <;> walk_at "dl ev")
  | ((with_reducible apply DL.isi_lst_tuple) <;> walk_at "dl ev")
  | ((with_reducible apply DL.isi_str_str) <;> walk_at "dl ev")
  | with_reducible exact DL.eo_none
  | ((with_reducible apply DL.eo_some) <;> walk_at "dl ev")
  | ((with_reducible apply DL.ei_r1) <;> walk_at "dl ev")
  | ((with_reducible apply DL.ei_r2) <;> walk_at "dl ev")
  | ((with_reducible apply DL.ei_seqT) <;> walk_at "dl ev")
  | ((with_reducible apply DL.ei_seqL) <;> walk_at "dl ev")
  | ((with_reducible apply DL.ei_seqS) <;> walk_at "dl ev")
  | ((with_reducible apply DL.ei_enumL) <;> walk_at "dl ev")
  | walk_at "dl own"
  | ((with_reducible apply DL.EvF.v) <;> walk_at "dl ev")
  | ((with_reducible apply DL.EvM.b) <;> walk_at "dl ev")
  | ((with_reducible apply DL.EvF.m) <;> walk_at "dl ev")
  | ((with_reducible apply DL.EvD.m) <;> walk_at "dl ev")
  | ((with_reducible apply DL.EvD.s) <;> walk_at "dl ev")
  | ((with_reducible apply DL.EvD.r) <;> walk_at "dl ev")
  | ((with_reducible apply DL.EvM.r) <;> walk_at "dl ev")
  | (fail_if_success (with_reducible show DL.EvD _ _ _ _)
     fail_if_success (with_reducible show DL.EvF _ _ _ _)
     fail_if_success (with_reducible show DL.EvB _ _ _ _)
     fail_if_success (with_reducible show DL.EvM _ _ _ _)
     fail_if_success (with_reducible show DL.EvR _ _ _ _)
     fail_if_success (with_reducible show DL.EvT _ _ _ _)
     fail_if_success (with_reducible show DL.EvA _ _ _ _)
     fail_if_success (with_reducible show DL.EvO _ _ _ _)
     fail_if_success (with_reducible show DL.EvI _ _ _ _)
     first | walk_at "dl side" | skip))
local macro_rules | `(tactic| walk_at "dl own") => `(tactic| fail)
local macro_rules | `(tactic| walk_at "dl go") => `(tactic| first
  | ((with_reducible refine DL.xs_seq ?_); walk_at "dl go")
  | ((with_reducible refine DL.xs_next ?_); (try dsimp only); walk_at "dl go")
  | ((with_reducible refine DL.xs_brk ?_); (try dsimp only); walk_at "dl go")
  | ((with_reducible refine DL.xs_cont ?_); (try dsimp only); walk_at "dl go")
  | ((with_reducible apply DL.xs_asg); (· walk_at "dl ev"); (· exact DL.eg_name); (try dsimp only); walk_at "dl go")
  | ((with_reducible apply DL.xs_asgF); (· walk_at "dl ev"); (try dsimp only); walk_at "dl go")
  | ((with_reducible apply DL.xs_aug); (· exact rfl); (· walk_at "dl ev"); (try dsimp only); walk_at "dl go")
  | ((with_reducible apply DL.xs_ret); (· walk_at "dl ev"); (try dsimp only))
  | ((with_reducible apply DL.xs_if); (· walk_at "dl ev"))
  | skip)

namespace Lw
open PySem L2 DL


def topS (i : Nat) : Stmt := PySem.Challenge.pw_oneroom_k01_a_store.main.body.getD i (.Pass ⟨0, 0, 0, 0⟩)
abbrev s__law_cell_at : Stmt := (topS 7)
abbrev s_Store___init__ : Stmt := (inClass (topS 5) 0)
abbrev s__law_mixed : Stmt := (topS 8)
abbrev s__law_fall_at : Stmt := (topS 9)
abbrev s_Store_comes : Stmt := (inClass (topS 5) 1)
abbrev s_Fallen___init__ : Stmt := (inClass (topS 3) 0)
abbrev s_OutOfRoom___init__ : Stmt := (inClass (topS 2) 0)
abbrev s_Store_write : Stmt := (inClass (topS 5) 3)
abbrev s_Store_read : Stmt := (inClass (topS 5) 2)
abbrev s_Store_put_note : Stmt := (inClass (topS 5) 4)
abbrev s_Store_mark : Stmt := (inClass (topS 5) 5)
abbrev s_Store_begin : Stmt := (inClass (topS 5) 7)
abbrev s__law_refused : Stmt := (topS 10)
abbrev s__law_written : Stmt := (topS 13)
abbrev s__law_noted : Stmt := (topS 11)
abbrev s__law_begun : Stmt := (topS 12)
abbrev s__law_deed : Stmt := (topS 14)
abbrev s_Store_told : Stmt := (inClass (topS 5) 8)
abbrev s_Store_noted : Stmt := (inClass (topS 5) 6)
abbrev s_law : Stmt := (topS 15)
abbrev s_law_lam : Expr := (eArg (sVal ((defBody s_law).getD 5 (.Pass ⟨0, 0, 0, 0⟩))) 1)
theorem sc__law_cell_at : FnScope ["_law_script", "_law_k"] ["_law_script", "_law_k"] (defScope s__law_cell_at) := ⟨rfl, rfl, rfl, by decide +kernel, rfl, by decide +kernel, by decide +kernel⟩
theorem sc_Store___init__ : FnScope ["self", "cells", "fall"] ["self", "cells", "fall"] (defScope s_Store___init__) := ⟨rfl, rfl, rfl, by decide +kernel, rfl, by decide +kernel, by decide +kernel⟩
theorem sc__law_mixed : FnScope ["_law_cell", "_law_k", "_law_number"] ["_law_cell", "_law_k"] (defScope s__law_mixed) := ⟨rfl, rfl, rfl, by decide +kernel, rfl, by decide +kernel, by decide +kernel⟩
theorem sc__law_fall_at : FnScope ["_law_cell", "_law_count", "_law_draw"] ["_law_cell", "_law_count"] (defScope s__law_fall_at) := ⟨rfl, rfl, rfl, by decide +kernel, rfl, by decide +kernel, by decide +kernel⟩
theorem ns_law_lam : NdefX.NScope ["_law_count", "_law_falls"] ["_law_count"] ["_law_falls"] (lamScope s_law_lam) := NdefX.nscope_by (by decide +kernel)
theorem nb_law_lam : NdefX.ndefB (defScope s_law) (lamScope s_law_lam) ["_law_falls"] = true := by decide +kernel
abbrev q_law_lam : Str := (PyProof.Rows.envOfC "law" (defScope s_law) 0 0 .none).qual ++ "<lambda>"
abbrev mk_law_lam (cl : List (Str × Addr)) (c : Addr) : CF := CF.l ⟨"<lambda>", q_law_lam, lamArgs s_law_lam, [], lamScope s_law_lam, cl, c⟩ (lamBody s_law_lam)
abbrev cl_law_lam (cl0 : List (Str × Addr)) : List (Str × Addr) := cloFrom cl0 (lamScope s_law_lam).names []
theorem sc_Store_comes : FnScope ["self", "count"] ["self"] (defScope s_Store_comes) := ⟨rfl, rfl, rfl, by decide +kernel, rfl, by decide +kernel, by decide +kernel⟩
theorem sc_Fallen___init__ : FnScope ["self", "count"] ["self", "count"] (defScope s_Fallen___init__) := ⟨rfl, rfl, rfl, by decide +kernel, rfl, by decide +kernel, by decide +kernel⟩
theorem sc_OutOfRoom___init__ : FnScope ["self", "at"] ["self", "at"] (defScope s_OutOfRoom___init__) := ⟨rfl, rfl, rfl, by decide +kernel, rfl, by decide +kernel, by decide +kernel⟩
theorem sc_Store_write : FnScope ["self", "at", "sign", "how"] ["self", "at", "sign"] (defScope s_Store_write) := ⟨rfl, rfl, rfl, by decide +kernel, rfl, by decide +kernel, by decide +kernel⟩
theorem sc_Store_read : FnScope ["self", "at"] ["self", "at"] (defScope s_Store_read) := ⟨rfl, rfl, rfl, by decide +kernel, rfl, by decide +kernel, by decide +kernel⟩
theorem sc_Store_put_note : FnScope ["self", "which", "number", "how"] ["self", "which", "number"] (defScope s_Store_put_note) := ⟨rfl, rfl, rfl, by decide +kernel, rfl, by decide +kernel, by decide +kernel⟩
theorem sc_Store_mark : FnScope ["self", "number"] ["self", "number"] (defScope s_Store_mark) := ⟨rfl, rfl, rfl, by decide +kernel, rfl, by decide +kernel, by decide +kernel⟩
theorem sc_Store_begin : FnScope ["self"] ["self"] (defScope s_Store_begin) := ⟨rfl, rfl, rfl, by decide +kernel, rfl, by decide +kernel, by decide +kernel⟩
theorem sc__law_refused : FnScope ["_law_store", "_law_deed_here", "_law_at", "_law_sign", "_law_kinds", "e"] ["_law_store", "_law_deed_here", "_law_at", "_law_sign"] (defScope s__law_refused) := ⟨rfl, rfl, rfl, by decide +kernel, rfl, by decide +kernel, by decide +kernel⟩
theorem sc__law_written : FnScope ["_law_store", "_law_stand", "_law_at", "_law_sign", "_law_cell", "_law_cells", "_law_notes", "_law_asked", "_law_how", "_law_due"] ["_law_store", "_law_stand", "_law_at", "_law_sign", "_law_cell"] (defScope s__law_written) := ⟨rfl, rfl, rfl, by decide +kernel, rfl, by decide +kernel, by decide +kernel⟩
theorem sc__law_noted : FnScope ["_law_stand", "_law_which", "_law_number", "_law_cell", "_law_cells", "_law_notes", "_law_asked", "_law_how"] ["_law_stand", "_law_which", "_law_number", "_law_cell"] (defScope s__law_noted) := ⟨rfl, rfl, rfl, by decide +kernel, rfl, by decide +kernel, by decide +kernel⟩
theorem sc__law_begun : FnScope ["_law_store", "_law_stand", "_law_cell", "_law_behind", "_law_due"] ["_law_store", "_law_stand", "_law_cell"] (defScope s__law_begun) := ⟨rfl, rfl, rfl, by decide +kernel, rfl, by decide +kernel, by decide +kernel⟩
theorem sc__law_deed : FnScope ["_law_store", "_law_stand", "_law_cell", "_law_falls", "_law_k", "_law_draw", "_law_size", "_law_sign", "_law_at", "_law_due", "_law_number", "_law_behind"] ["_law_store", "_law_stand", "_law_cell", "_law_falls", "_law_k"] (defScope s__law_deed) := ⟨rfl, rfl, rfl, by decide +kernel, rfl, by decide +kernel, by decide +kernel⟩
theorem sc_Store_told : FnScope ["self"] ["self"] (defScope s_Store_told) := ⟨rfl, rfl, rfl, by decide +kernel, rfl, by decide +kernel, by decide +kernel⟩
theorem sc_Store_noted : FnScope ["self", "note"] ["self"] (defScope s_Store_noted) := ⟨rfl, rfl, rfl, by decide +kernel, rfl, by decide +kernel, by decide +kernel⟩
theorem sc_law : FnScope ["_law_script", "_law_cell", "_law_falls", "_law_sizes", "_law_cells", "_law_handed", "_law_store", "_law_quiet", "_law_stand", "_law_k", "_law_told", "_law_note"] ["_law_script"] (defScope s_law) := ⟨rfl, rfl, rfl, by decide +kernel, rfl, by decide +kernel, by decide +kernel⟩
variable [DL.TbC]
/-- what the top has written -/
structure Tx (K : PySem.W.Frag) (mg : Str → Option Value) where
  a__law_cell_at : Addr
  d__law_cell_at : FuncData
  F__law_cell_at : Fun K "_law_cell_at" "_law_cell_at" s__law_cell_at a__law_cell_at d__law_cell_at
  b__law_cell_at : Binds K d__law_cell_at ["_law_script", "_law_k"] []
  g__law_cell_at : mg "_law_cell_at" = some (.ref a__law_cell_at)
  a_Store___init__ : Addr
  d_Store___init__ : FuncData
  F_Store___init__ : FunE K "__init__" "Store.__init__" s_Store___init__ [.non] a_Store___init__ d_Store___init__
  b_Store___init__ : Binds K d_Store___init__ ["self", "cells", "fall"] []
  ds_Store___init__2 : List Value
  v_Store___init__2 : Vals [.non] ds_Store___init__2
  b_Store___init__2 : Binds K d_Store___init__ ["self", "cells", "fall"] ds_Store___init__2
  a__law_mixed : Addr
  d__law_mixed : FuncData
  F__law_mixed : Fun K "_law_mixed" "_law_mixed" s__law_mixed a__law_mixed d__law_mixed
  b__law_mixed : Binds K d__law_mixed ["_law_cell", "_law_k"] []
  g__law_mixed : mg "_law_mixed" = some (.ref a__law_mixed)
  a__law_fall_at : Addr
  d__law_fall_at : FuncData
  F__law_fall_at : Fun K "_law_fall_at" "_law_fall_at" s__law_fall_at a__law_fall_at d__law_fall_at
  b__law_fall_at : Binds K d__law_fall_at ["_law_cell", "_law_count"] []
  g__law_fall_at : mg "_law_fall_at" = some (.ref a__law_fall_at)
  a_Store_comes : Addr
  d_Store_comes : FuncData
  F_Store_comes : Fun K "comes" "Store.comes" s_Store_comes a_Store_comes d_Store_comes
  b_Store_comes : Binds K d_Store_comes ["self"] []
  a_Fallen___init__ : Addr
  d_Fallen___init__ : FuncData
  F_Fallen___init__ : Fun K "__init__" "Fallen.__init__" s_Fallen___init__ a_Fallen___init__ d_Fallen___init__
  b_Fallen___init__ : Binds K d_Fallen___init__ ["self", "count"] []
  a_OutOfRoom___init__ : Addr
  d_OutOfRoom___init__ : FuncData
  F_OutOfRoom___init__ : Fun K "__init__" "OutOfRoom.__init__" s_OutOfRoom___init__ a_OutOfRoom___init__ d_OutOfRoom___init__
  b_OutOfRoom___init__ : Binds K d_OutOfRoom___init__ ["self", "at"] []
  a_Store_write : Addr
  d_Store_write : FuncData
  F_Store_write : Fun K "write" "Store.write" s_Store_write a_Store_write d_Store_write
  b_Store_write : Binds K d_Store_write ["self", "at", "sign"] []
  a_Store_read : Addr
  d_Store_read : FuncData
  F_Store_read : Fun K "read" "Store.read" s_Store_read a_Store_read d_Store_read
  b_Store_read : Binds K d_Store_read ["self", "at"] []
  a_Store_put_note : Addr
  d_Store_put_note : FuncData
  F_Store_put_note : Fun K "put_note" "Store.put_note" s_Store_put_note a_Store_put_note d_Store_put_note
  b_Store_put_note : Binds K d_Store_put_note ["self", "which", "number"] []
  a_Store_mark : Addr
  d_Store_mark : FuncData
  F_Store_mark : Fun K "mark" "Store.mark" s_Store_mark a_Store_mark d_Store_mark
  b_Store_mark : Binds K d_Store_mark ["self", "number"] []
  a_Store_begin : Addr
  d_Store_begin : FuncData
  F_Store_begin : Fun K "begin" "Store.begin" s_Store_begin a_Store_begin d_Store_begin
  b_Store_begin : Binds K d_Store_begin ["self"] []
  a__law_refused : Addr
  d__law_refused : FuncData
  F__law_refused : Fun K "_law_refused" "_law_refused" s__law_refused a__law_refused d__law_refused
  b__law_refused : Binds K d__law_refused ["_law_store", "_law_deed_here", "_law_at", "_law_sign"] []
  g__law_refused : mg "_law_refused" = some (.ref a__law_refused)
  a__law_written : Addr
  d__law_written : FuncData
  F__law_written : Fun K "_law_written" "_law_written" s__law_written a__law_written d__law_written
  b__law_written : Binds K d__law_written ["_law_store", "_law_stand", "_law_at", "_law_sign", "_law_cell"] []
  g__law_written : mg "_law_written" = some (.ref a__law_written)
  a__law_noted : Addr
  d__law_noted : FuncData
  F__law_noted : Fun K "_law_noted" "_law_noted" s__law_noted a__law_noted d__law_noted
  b__law_noted : Binds K d__law_noted ["_law_stand", "_law_which", "_law_number", "_law_cell"] []
  g__law_noted : mg "_law_noted" = some (.ref a__law_noted)
  a__law_begun : Addr
  d__law_begun : FuncData
  F__law_begun : Fun K "_law_begun" "_law_begun" s__law_begun a__law_begun d__law_begun
  b__law_begun : Binds K d__law_begun ["_law_store", "_law_stand", "_law_cell"] []
  g__law_begun : mg "_law_begun" = some (.ref a__law_begun)
  a__law_deed : Addr
  d__law_deed : FuncData
  F__law_deed : Fun K "_law_deed" "_law_deed" s__law_deed a__law_deed d__law_deed
  b__law_deed : Binds K d__law_deed ["_law_store", "_law_stand", "_law_cell", "_law_falls", "_law_k"] []
  g__law_deed : mg "_law_deed" = some (.ref a__law_deed)
  a_Store_told : Addr
  d_Store_told : FuncData
  F_Store_told : Fun K "told" "Store.told" s_Store_told a_Store_told d_Store_told
  b_Store_told : Binds K d_Store_told ["self"] []
  a_Store_noted : Addr
  d_Store_noted : FuncData
  F_Store_noted : Fun K "noted" "Store.noted" s_Store_noted a_Store_noted d_Store_noted
  b_Store_noted : Binds K d_Store_noted ["self"] []
  a_law : Addr
  d_law : FuncData
  cc_law : Addr
  P_law : Addr
  F_law : FunC K "law" "law" s_law a_law d_law cc_law
  b_law : Binds K d_law ["_law_script"] []
  g_law : mg "law" = some (.ref a_law)
  tm_law : (P_law, fun _ _ => q_law_lam) ∈ DL.TbC.T
  tu_law : ∀ p ∈ DL.TbC.T, p.1 = P_law → p.2 = fun _ _ => q_law_lam
  C_Store : Addr
  g_Store : mg "Store" = some (.ref C_Store)
  cl_Store : Cls K C_Store
  mk_Store : Mk K C_Store a_Store___init__
  n_Store_cells : NoAttr K C_Store "cells"
  n_Store_notes : NoAttr K C_Store "notes"
  n_Store_asked : NoAttr K C_Store "asked"
  n_Store_fall : NoAttr K C_Store "fall"
  C_RoomError : Addr
  C_OutOfRoom : Addr
  C_Fallen : Addr
  g_RoomError : mg "RoomError" = some (.ref C_RoomError)
  g_OutOfRoom : mg "OutOfRoom" = some (.ref C_OutOfRoom)
  g_Fallen : mg "Fallen" = some (.ref C_Fallen)
  ox_OutOfRoom : OexC K C_OutOfRoom
  xf_OutOfRoom : XfC K C_OutOfRoom
  nx_OutOfRoom : PySem.W.findIn K (.ref C_OutOfRoom) "at" = some none
  ix_OutOfRoom : PySem.W.findIn K (.ref C_OutOfRoom) "__init__" = some (some (.ref a_OutOfRoom___init__))
  ti_OutOfRoom : PySem.W.typeIn K (.ref a_OutOfRoom___init__) = some (.type "function")
  ox_Fallen : OexC K C_Fallen
  xf_Fallen : XfC K C_Fallen
  nx_Fallen : PySem.W.findIn K (.ref C_Fallen) "count" = some none
  ix_Fallen : PySem.W.findIn K (.ref C_Fallen) "__init__" = some (some (.ref a_Fallen___init__))
  ti_Fallen : PySem.W.typeIn K (.ref a_Fallen___init__) = some (.type "function")
  ec_OutOfRoom : ExcC K C_OutOfRoom
  ec_Fallen : ExcC K C_Fallen
  e_Fallen_Fallen : PySem.W.exmOne K (.ref C_Fallen) (.ref C_Fallen) = some true
  e_OutOfRoom_Fallen : PySem.W.exmOne K (.ref C_OutOfRoom) (.ref C_Fallen) = some false
  e_OutOfRoom_OutOfRoom : PySem.W.exmOne K (.ref C_OutOfRoom) (.ref C_OutOfRoom) = some true
  kit_Fallen_OutOfRoom : PySem.W.kitOne K (.ref C_Fallen) (.ref C_OutOfRoom) = some false
  kit_Fallen_RoomError : PySem.W.kitOne K (.ref C_Fallen) (.ref C_RoomError) = some true
  kit_Fallen_ValueError : PySem.W.kitOne K (.ref C_Fallen) (.type "ValueError") = some true
  kit_OutOfRoom_RoomError : PySem.W.kitOne K (.ref C_OutOfRoom) (.ref C_RoomError) = some true
  kit_OutOfRoom_ValueError : PySem.W.kitOne K (.ref C_OutOfRoom) (.type "ValueError") = some true
  m_Store_begin : Meth K C_Store "begin" a_Store_begin
  m_Store_comes : Meth K C_Store "comes" a_Store_comes
  m_Store_mark : Meth K C_Store "mark" a_Store_mark
  m_Store_noted : Meth K C_Store "noted" a_Store_noted
  m_Store_put_note : Meth K C_Store "put_note" a_Store_put_note
  m_Store_read : Meth K C_Store "read" a_Store_read
  m_Store_told : Meth K C_Store "told" a_Store_told
  m_Store_write : Meth K C_Store "write" a_Store_write
  z_ValueError : mg "ValueError" = none
  z_divmod : mg "divmod" = none
  z_isinstance : mg "isinstance" = none
  z_len : mg "len" = none
  z_list : mg "list" = none
  z_max : mg "max" = none
  z_min : mg "min" = none
  z_range : mg "range" = none
  z_tuple : mg "tuple" = none
/-! ### what many laws draw with -/
def mixed (c k : Int) : Int := (((c % 2147483647 + 7919 * k + 1) * 48271 % 2147483647) * (((c % 2147483647 + 7919 * k + 1) * 48271 % 2147483647) / 1009 + 69621)) % 2147483647
theorem mixed_b (c k : Int) : 0 ≤ mixed c k ∧ mixed c k < 2147483647 := by unfold mixed; omega
def cellAt (ns : List Int) (k : Int) : Int := if k < (ns.length : Int) then ns.getD k.toNat 0 else 0
section
variable {K : PySem.W.Frag} {mg : Str → Option Value} (T : Tx K mg)
abbrev sp__law_mixed {K : PySem.W.Frag} {mg : Str → Option Value} (T : Tx K mg) : Sp := spG K (fun x : Int × Int => 0 ≤ x.2 ∧ x.2 ≤ 1000000) (fun x => [.int x.1, .int x.2]) (fun x => .int (mixed x.1 x.2))
abbrev sp__law_cell_at {K : PySem.W.Frag} {mg : Str → Option Value} (T : Tx K mg) : Sp := spG K (fun x : List Int × Int => 0 ≤ x.2) (fun x => [.scr (x.1.map .int), .int x.2]) (fun x => .int (cellAt x.1 x.2))
abbrev spEnd (K : PySem.W.Frag) : Sp := spR K (fun ns : List Int => ns.length ≤ 63) (fun ns => [.scr (ns.map .int)]) (fun _ d => d = .bl true)
abbrev sp_law {K : PySem.W.Frag} {mg : Str → Option Value} (T : Tx K mg) : Sp := spEnd K
end
theorem law_sp {K : PySem.W.Frag} {mg : Str → Option Value} (T : Tx K mg) {vs : List V} {H : Hp} {Q : VK} {E : XK} (h : spEnd K vs H Q E) : sp_law T vs H Q E := h
section
variable {K : PySem.W.Frag} {mg : Str → Option Value} {T : Tx K mg} {ρ : DL.Env} {ta tb : TE} {c k : Int} {ns : List Int} {E : XK}
theorem ev_mixed (ha : EvD K ta ρ (.int c)) (hb : EvD K tb ρ (.int k)) (h : 0 ≤ k ∧ k ≤ 1000000) : EvD K (tCall (sp__law_mixed T) [] E (tCons ta (tCons tb tNil))) ρ (.int (mixed c k)) := ev_call (c, k) (ea_cons ha (ea_cons hb ea_nil)) h
theorem ev_cell_at (ha : EvD K ta ρ (.scr (ns.map .int))) (hb : EvD K tb ρ (.int k)) (h : 0 ≤ k) : EvD K (tCall (sp__law_cell_at T) [] E (tCons ta (tCons tb tNil))) ρ (.int (cellAt ns k)) := ev_call (ns, k) (ea_cons ha (ea_cons hb ea_nil)) h
end
local macro_rules | `(tactic| walk_at "dl own") => `(tactic| first
  | ((with_reducible apply Lw.ev_mixed) <;> walk_at "dl ev")
  | ((with_reducible apply Lw.ev_cell_at) <;> walk_at "dl ev")
  | fail)
section
variable {P : Program} {w : World} {K : PySem.W.Frag} {mg : Str → Option Value} {base : Heap}
theorem ok__law_mixed (T : Tx K mg) : FnOk P w K mg base CX0 1 T.a__law_mixed T.d__law_mixed ["_law_cell", "_law_k"] (sp__law_mixed T) := by
  refine fn_r T.F__law_mixed sc__law_mixed (fun _ => rfl) (fun cdv A outer s H E hr =>
      (pss_cons (ps_set (i := 2) sc__law_mixed.nd rfl (by first | exact Or.inl rfl | exact Or.inr rfl) (pe_op op_mod (pe_op op_mulA (pe_op (addK (K := K) rfl) (pe_op (addK (K := K) rfl) (pe_op op_mod (pv 0) pe_int) (pe_op op_mulA pe_int (pv 1))) pe_int) pe_int) pe_int))
      (pss_one (ps_ret (pe_op op_mod (pe_op op_mulA (pv 2) (pe_op (addK (K := K) rfl) (pe_op op_fdivW (pv 2) pe_int) pe_int)) pe_int))))) (fun x hx => ?_)
  obtain ⟨c, k⟩ := x
  obtain ⟨h1, h2⟩ := hx
  dsimp only at h1 h2 ⊢
  walk_at "dl go"
  rfl
theorem ok__law_cell_at (T : Tx K mg) : FnOk P w K mg base CX0 1 T.a__law_cell_at T.d__law_cell_at ["_law_script", "_law_k"] (sp__law_cell_at T) := by
  refine fn_r T.F__law_cell_at sc__law_cell_at (fun _ => rfl) (fun cdv A outer s H E hr =>
      (pss_cons (ps_if (pt_cmpR op_lt (pv 1) (pe_callB (lenK (K := K) rfl) (by rfl) T.z_len (by decide +kernel) (pa_cons (pv 0) pa_nil)) (nomark _)) (pss_one (ps_ret (pe_ix (ixK (K := K) rfl) (pv 0) (pv 1) (fun _ _ => rfl)))) pss_nil)
      (pss_one (ps_ret pe_int)))) (fun x hx => ?_)
  obtain ⟨ns, k⟩ := x
  dsimp only at hx ⊢
  walk_at "dl go"
  · intro h
    have h' := of_decide_eq_true h
    walk_at "dl go"
    unfold cellAt
    rw [if_pos h']
  · intro h
    have h' := of_decide_eq_false h
    walk_at "dl go"
    unfold cellAt
    rw [if_neg h']
end
theorem law_in {K : PySem.W.Frag} (H : Hp) (a : Addr) (ns : List Int) (hl : ns.length ≤ 63) (hS : SqL K H a (ns.map V.int)) (htb : TB H) : spEnd K [.ref a] H (fun v _ => v = .bl true) fun _ _ _ => False :=
  ⟨noT H, ns, ⟨noT_ex H, noT_nt H, htb⟩, .cons (.scr ((noT_n H).sl hS) (RepL.ofInts ns)) .nil, hl, fun _ _ v d _ r e => by
    subst e
    cases r
    rfl⟩

/-! ### lists of numbers in trees -/
def cO (cs : List Int) : O := .ol (cs.map fun c => O.sh (.int c))
theorem cO_map (cs : List Int) : cO cs = .ol ((cs.map D.int).map .sh) := by
  unfold cO
  rw [List.map_map]
  rfl
theorem cO_set (cs : List Int) (j : Nat) (v : Int) : (.ol (((cs.map D.int).set j (.int v)).map .sh) : O) = cO (cs.set j v) := by
  rw [cO_map, List.map_set (f := D.int)]
theorem cO_frz (cs : List Int) : (cO cs).frz = true := by
  rw [cO_map]
  exact frzs_sh _
theorem cO_toD (cs : List Int) : (cO cs).toD = .lst (cs.map .int) := by
  rw [cO_map]
  show D.lst (O.toDs ((cs.map D.int).map .sh)) = _
  rw [toDs_sh]

/-! ### the law's falls -/
def fallQ (c n : Int) : Option (List Int) := if mixed c n % 4 > 0 then none else if mixed c n / 4 % 2 = 0 then some [] else some [c / (n + 1) % 10 ^ 60]
abbrev FS := Option (Addr × Int)
def fQ : FS → Int → Option (List Int)
  | none, _ => none
  | some f, n => fallQ f.2 n
abbrev fN (f : FS) (_ : Int) : FS := f
abbrev fP (_ : FS) : Prop := True
theorem fP_N {f : FS} {n : Int} (h : fP f) : fP (fN f n) := h
def fO {K : PySem.W.Frag} {mg : Str → Option Value} (T : Tx K mg) (clL : List (Str × Addr)) (usL : List V) : FS → O
  | none => .sh .non
  | some f => .cl none (mk_law_lam (cl_law_lam clL) f.1) usL [.sh (.int f.2)]
theorem fO_frz {K : PySem.W.Frag} {mg : Str → Option Value} (T : Tx K mg) (clL : List (Str × Addr)) (usL : List V) (f : FS) : (fO T clL usL f).frz = true := by
  cases f <;> rfl
/-! ### stores with falls (FS, fQ, fN, fO, fP: the law's own) -/
def ntD : Option Int → D
  | none => .non
  | some i => .int i
structure Stt where
  cs : List Int
  ns : List (Option Int)
  a : Int
abbrev S2 := Stt × FS
/-- what comes of the next write -/
abbrev how (x : S2) : Option (List Int) := fQ x.2 x.1.a
def howD : Option (List Int) → D
  | none => .non
  | some ss => .tup (ss.map .int)
abbrev nxt (x : S2) : S2 := (⟨x.1.cs, x.1.ns, x.1.a + 1⟩, fN x.2 x.1.a)
def wrS (x : S2) (at_ v : Int) : S2 := match how x with
  | none => (⟨x.1.cs.set at_.toNat v, x.1.ns, x.1.a + 1⟩, fN x.2 x.1.a)
  | some [] => nxt x
  | some (s :: _) => (⟨x.1.cs.set at_.toNat s, x.1.ns, x.1.a + 1⟩, fN x.2 x.1.a)
def ntS (x : S2) (w n : Int) : S2 := match how x with
  | none => (⟨x.1.cs, x.1.ns.set w.toNat (some n), x.1.a + 1⟩, fN x.2 x.1.a)
  | some [] => nxt x
  | some (_ :: _) => (⟨x.1.cs, x.1.ns.set w.toNat none, x.1.a + 1⟩, fN x.2 x.1.a)
/-- how a deed ends: well, by a fall, refused as the room lacks the cell -/
inductive Out where
  | ok (y : S2)
  | fell (n : Int) (y : S2)
  | lacks (k : Int) (y : S2)
def Out.bind (o : Out) (k : S2 → Out) : Out := match o with
  | .ok y => k y
  | .fell n y => .fell n y
  | .lacks n y => .lacks n y
def Out.st : Out → S2
  | .ok y => y
  | .fell _ y => y
  | .lacks _ y => y
def inR (x : S2) (at_ : Int) : Prop := 0 ≤ at_ ∧ at_ < (x.1.cs.length : Int)
instance (x : S2) (at_ : Int) : Decidable (inR x at_) := inferInstanceAs (Decidable (_ ∧ _))
def wrO (x : S2) (at_ v : Int) : Out := if inR x at_ then (if (how x).isNone then .ok (wrS x at_ v) else .fell x.1.a (wrS x at_ v)) else .lacks at_ x
def rdO (x : S2) (at_ : Int) : Out := if inR x at_ then .ok x else .lacks at_ x
def ntO (x : S2) (w n : Int) : Out := if (how x).isNone then .ok (ntS x w n) else .fell x.1.a (ntS x w n)
abbrev mkO (x : S2) (n : Int) : Out := ntO x (n % 2) n
abbrev bgO (x : S2) : Out := (ntO x 0 0).bind fun y => ntO y 1 0
theorem wrS_len (x : S2) (at_ v : Int) : (wrS x at_ v).1.cs.length = x.1.cs.length := by
  unfold wrS
  split
  · exact List.length_set
  · rfl
  · exact List.length_set
theorem wrS_ns (x : S2) (at_ v : Int) : (wrS x at_ v).1.ns = x.1.ns := by
  unfold wrS
  split <;> rfl
theorem wrS_a (x : S2) (at_ v : Int) : (wrS x at_ v).1.a = x.1.a + 1 := by
  unfold wrS
  split <;> rfl
theorem wrS_f (x : S2) (at_ v : Int) : (wrS x at_ v).2 = fN x.2 x.1.a := by
  unfold wrS
  split <;> rfl
theorem ntS_cs (x : S2) (w n : Int) : (ntS x w n).1.cs = x.1.cs := by
  unfold ntS
  split <;> rfl
theorem ntS_len (x : S2) (w n : Int) : (ntS x w n).1.ns.length = x.1.ns.length := by
  unfold ntS
  split
  · exact List.length_set
  · rfl
  · exact List.length_set
theorem ntS_a (x : S2) (w n : Int) : (ntS x w n).1.a = x.1.a + 1 := by
  unfold ntS
  split <;> rfl
theorem ntS_f (x : S2) (w n : Int) : (ntS x w n).2 = fN x.2 x.1.a := by
  unfold ntS
  split <;> rfl
/-- the state in which a write may be asked for -/
structure Fit (x : S2) : Prop where
  two : x.1.ns.length = 2
  a0 : 0 ≤ x.1.a
  a1 : x.1.a ≤ 900000
  f : fP x.2
theorem ntO_ok {x y : S2} {w n : Int} (h : ntO x w n = .ok y) : y = ntS x w n := by
  unfold ntO at h
  split at h <;> cases h
  rfl
theorem wrO_ok {x y : S2} {a v : Int} (h : wrO x a v = .ok y) : y = wrS x a v := by
  unfold wrO at h
  split at h
  · split at h <;> cases h
    rfl
  · cases h
theorem Fit.nt {x : S2} {w n : Int} (h : Fit x) (ha : x.1.a + 1 ≤ 900000) : Fit (ntS x w n) :=
  ⟨by rw [ntS_len]; exact h.two, by rw [ntS_a]; have := h.a0; omega, by rw [ntS_a]; exact ha, by rw [ntS_f]; exact fP_N h.f⟩
theorem Fit.wr {x : S2} {w n : Int} (h : Fit x) (ha : x.1.a + 1 ≤ 900000) : Fit (wrS x w n) :=
  ⟨by rw [wrS_ns]; exact h.two, by rw [wrS_a]; have := h.a0; omega, by rw [wrS_a]; exact ha, by rw [wrS_f]; exact fP_N h.f⟩
section
variable {K : PySem.W.Frag} {mg : Str → Option Value} (T : Tx K mg) (clL : List (Str × Addr)) (usL : List V)
def stT (x : Stt) (fo : O) : O := .ob T.C_Store ["cells", "notes", "asked", "fall"] [cO x.cs, .ol ((x.ns.map ntD).map .sh), .sh (.int x.a), fo]
def stDD (x : Stt) (fd : D) : D := .obj T.C_Store ["cells", "notes", "asked", "fall"] [.lst (x.cs.map .int), .lst (x.ns.map ntD), .int x.a, fd]
abbrev stF (x : S2) : O := stT T x.1 (fO T clL usL x.2)
theorem stT_frz (x : Stt) {fo : O} (h : fo.frz = true) : (stT T x fo).frz = true := by
  show (O.frz (cO x.cs) && (O.frz (.ol ((x.ns.map ntD).map .sh)) && (true && (fo.frz && true)))) = true
  rw [cO_frz, show O.frz (.ol ((x.ns.map ntD).map .sh)) = O.frzs ((x.ns.map ntD).map .sh) from rfl, frzs_sh, h]
  rfl
theorem stT_toD (x : Stt) (fo : O) : (stT T x fo).toD = stDD T x fo.toD := by
  show D.obj T.C_Store _ [(cO x.cs).toD, D.lst (O.toDs ((x.ns.map ntD).map .sh)), .int x.a, fo.toD] = _
  rw [cO_toD, toDs_sh]
  rfl
abbrev nox {α : Type} : α → Value → Option (List (Str × D)) → List AV → Prop := fun _ _ _ _ => False
def postO (o : Out) (as : S2 → List AV) (d : D) : D → List AV → Prop := fun d' as' => ∃ y, o = .ok y ∧ d' = d ∧ as' = as y
def excO (o : Out) (as : S2 → List AV) : Value → Option (List (Str × D)) → List AV → Prop := fun cls fs as' => (∃ n y, o = .fell n y ∧ cls = .ref T.C_Fallen ∧ fs = some [(("count" : Str), D.int n)] ∧ as' = as y) ∨ ∃ n y, o = .lacks n y ∧ cls = .ref T.C_OutOfRoom ∧ fs = some [(("at" : Str), D.int n)] ∧ as' = as y
theorem excO_as {o : Out} {as : S2 → List AV} {cls : Value} {fs : Option (List (Str × D))} {as' : List AV} (h : excO T o as cls fs as') : ∃ y, as' = as y := by
  rcases h with ⟨_, y, _, _, _, e⟩ | ⟨_, y, _, _, _, e⟩ <;> exact ⟨y, e⟩
theorem excO_bind {o : Out} {k : S2 → Out} {as as2 : S2 → List AV} {cls : Value} {fs : Option (List (Str × D))} {as' : List AV} (h : excO T o as cls fs as') : ∃ y, as' = as y ∧ excO T (o.bind k) as2 cls fs (as2 y) := by
  rcases h with ⟨n, y, rfl, e1, e2, e3⟩ | ⟨n, y, rfl, e1, e2, e3⟩
  · exact ⟨y, e3, .inl ⟨n, y, rfl, e1, e2, rfl⟩⟩
  · exact ⟨y, e3, .inr ⟨n, y, rfl, e1, e2, rfl⟩⟩
theorem excO_map {o : Out} {as as2 : S2 → List AV} {cls : Value} {fs : Option (List (Str × D))} {as' : List AV} (h : excO T o as cls fs as') : ∃ y, as' = as y ∧ excO T o as2 cls fs (as2 y) := by
  rcases h with ⟨n, y, rfl, e1, e2, e3⟩ | ⟨n, y, rfl, e1, e2, e3⟩
  · exact ⟨y, e3, .inl ⟨n, y, rfl, e1, e2, rfl⟩⟩
  · exact ⟨y, e3, .inr ⟨n, y, rfl, e1, e2, rfl⟩⟩
abbrev sp_OutOfRoom___init__ {K : PySem.W.Frag} {mg : Str → Option Value} (T : Tx K mg) : Sp := spXI T.C_OutOfRoom "at" K
abbrev sp_Fallen___init__ {K : PySem.W.Frag} {mg : Str → Option Value} (T : Tx K mg) : Sp := spXI T.C_Fallen "count" K
abbrev sp_Store___init__ {K : PySem.W.Frag} {mg : Str → Option Value} (T : Tx K mg) : Sp := spB K (fun _ : List Int × D => True) (fun x => [.o (.ob T.C_Store [] []), .d (.lst (x.1.map .int)), .d x.2]) (fun x d as => d = .non ∧ as = [.o (stT T ⟨x.1, [some 0, some 0], 0⟩ (.sh x.2)), .d (.lst (x.1.map .int)), .d x.2]) nox
abbrev sp_Store_comes {K : PySem.W.Frag} {mg : Str → Option Value} (T : Tx K mg) (clL : List (Str × Addr)) (usL : List V) : Sp := spB K Fit (fun x => [.o (stF T clL usL x)]) (fun x d as => d = howD (how x) ∧ as = [.o (stF T clL usL (nxt x))]) nox
abbrev sp_Store_write {K : PySem.W.Frag} {mg : Str → Option Value} (T : Tx K mg) (clL : List (Str × Addr)) (usL : List V) : Sp := spB K (fun x : S2 × Int × Int => Fit x.1) (fun x => [.o (stF T clL usL x.1), .d (.int x.2.1), .d (.int x.2.2)]) (fun x => postO (wrO x.1 x.2.1 x.2.2) (fun y => [.o (stF T clL usL y), .d (.int x.2.1), .d (.int x.2.2)]) .non) (fun x => excO T (wrO x.1 x.2.1 x.2.2) (fun y => [.o (stF T clL usL y), .d (.int x.2.1), .d (.int x.2.2)]))
abbrev sp_Store_put_note {K : PySem.W.Frag} {mg : Str → Option Value} (T : Tx K mg) (clL : List (Str × Addr)) (usL : List V) : Sp := spB K (fun x : S2 × Int × Int => Fit x.1 ∧ 0 ≤ x.2.1 ∧ x.2.1 < 2) (fun x => [.o (stF T clL usL x.1), .d (.int x.2.1), .d (.int x.2.2)]) (fun x => postO (ntO x.1 x.2.1 x.2.2) (fun y => [.o (stF T clL usL y), .d (.int x.2.1), .d (.int x.2.2)]) .non) (fun x => excO T (ntO x.1 x.2.1 x.2.2) (fun y => [.o (stF T clL usL y), .d (.int x.2.1), .d (.int x.2.2)]))
abbrev sp_Store_mark {K : PySem.W.Frag} {mg : Str → Option Value} (T : Tx K mg) (clL : List (Str × Addr)) (usL : List V) : Sp := spB K (fun x : S2 × Int => Fit x.1) (fun x => [.o (stF T clL usL x.1), .d (.int x.2)]) (fun x => postO (mkO x.1 x.2) (fun y => [.o (stF T clL usL y), .d (.int x.2)]) .non) (fun x => excO T (mkO x.1 x.2) (fun y => [.o (stF T clL usL y), .d (.int x.2)]))
abbrev sp_Store_begin {K : PySem.W.Frag} {mg : Str → Option Value} (T : Tx K mg) (clL : List (Str × Addr)) (usL : List V) : Sp := spB K (fun x : S2 => Fit x ∧ x.1.a + 1 ≤ 900000) (fun x => [.o (stF T clL usL x)]) (fun x => postO (bgO x) (fun y => [.o (stF T clL usL y)]) .non) (fun x => excO T (bgO x) (fun y => [.o (stF T clL usL y)]))
abbrev sp_Store_noted {K : PySem.W.Frag} {mg : Str → Option Value} (T : Tx K mg) : Sp := spG K (fun x : Stt × D => x.1.ns.length ≤ 50000) (fun x => [stDD T x.1 x.2]) (fun x => .int (maxOr0 (x.1.ns.filterMap id)))
def toldD (x : Stt) : D := .tup [.lst (x.cs.map .int), .lst (x.ns.map ntD), .int x.a]
theorem told_fit (z : Stt) : (toldD z).fit = true := Ft.fit (n := 2) (ft_tup fun e he => by
  simp only [List.mem_cons, List.not_mem_nil, or_false] at he
  rcases he with rfl | rfl | rfl
  · exact ft_ints _
  · refine (ft_lst (n := 0) fun d hd => ?_)
    obtain ⟨o, _, rfl⟩ := List.mem_map.mp hd
    cases o with
    | none => exact ft_non
    | some i => exact ft_int i
  · exact (ft_int _).up (by decide)) (by decide)
theorem notes_D (ns : List (Option Int)) : ((ns.filter fun n => n.isSome).map ntD) = (ns.filterMap id).map D.int := by
  induction ns with
  | nil => rfl
  | cons n ns ih =>
    cases n with
    | none => exact ih
    | some i => exact congrArg (D.int i :: ·) ih
def toldO (x : Stt) : O := .tp [cO x.cs, .ol ((x.ns.map ntD).map .sh), .sh (.int x.a)]
theorem toldO_frz (x : Stt) : (toldO x).frz = true := by
  show (O.frz (cO x.cs) && (O.frz (.ol ((x.ns.map ntD).map .sh)) && (true && true))) = true
  rw [cO_frz, show O.frz (.ol ((x.ns.map ntD).map .sh)) = O.frzs ((x.ns.map ntD).map .sh) from rfl, frzs_sh]
  rfl
theorem toldO_toD (x : Stt) : (toldO x).toD = toldD x := by
  show D.tup [(cO x.cs).toD, D.lst (O.toDs ((x.ns.map ntD).map .sh)), .int x.a] = _
  rw [cO_toD, toDs_sh]
  rfl
theorem scalL_ints (cs : List Int) : O.scalL (cs.map fun c => O.sh (.int c)) = true := by
  induction cs with
  | nil => rfl
  | cons c cs ih =>
    show (true && _) = true
    rw [ih]
    rfl
theorem scalL_nts (ns : List (Option Int)) : O.scalL ((ns.map ntD).map .sh) = true := by
  induction ns with
  | nil => rfl
  | cons c cs ih =>
    show ((ntD c).scal && _) = true
    rw [ih]
    cases c <;> rfl
theorem toldO_scal (x : Stt) : (toldO x).scals = true := by
  show (O.scalL (x.cs.map fun c => O.sh (.int c)) && (O.scalL ((x.ns.map ntD).map .sh) && (true && true))) = true
  rw [scalL_ints, scalL_nts]
  rfl
abbrev sp_Store_told {K : PySem.W.Frag} {mg : Str → Option Value} (T : Tx K mg) : Sp := spN K (fun _ : Stt × D => True) (fun x => [stDD T x.1 x.2]) (fun x => toldO x.1)
/-- read, of a store that is shared for the while; of an own one -/
abbrev sp_Store_read__2 {K : PySem.W.Frag} {mg : Str → Option Value} (T : Tx K mg) (_clL : List (Str × Addr)) (_usL : List V) : Sp := spX K (fun x : Stt × D × Int => 0 ≤ x.2.2 ∧ x.2.2 < (x.1.cs.length : Int)) (fun x => [stDD T x.1 x.2.1, .int x.2.2]) (fun x d => d = .int (x.1.cs.getD x.2.2.toNat 0)) (fun _ _ _ => False)
abbrev sp_Store_read__3 {K : PySem.W.Frag} {mg : Str → Option Value} (T : Tx K mg) (clL : List (Str × Addr)) (usL : List V) : Sp := spB K (fun _ : S2 × Int => True) (fun x => [.o (stF T clL usL x.1), .d (.int x.2)]) (fun x d as => inR x.1 x.2 ∧ d = .int (x.1.1.cs.getD x.2.toNat 0) ∧ as = [.o (stF T clL usL x.1), .d (.int x.2)]) (fun x => excO T (rdO x.1 x.2) (fun y => [.o (stF T clL usL y), .d (.int x.2)]))
abbrev sp_Store_read {K : PySem.W.Frag} {mg : Str → Option Value} (T : Tx K mg) (clL : List (Str × Addr)) (usL : List V) : Sp := spOr (sp_Store_read__2 T clL usL) (sp_Store_read__3 T clL usL)
end

section
variable {K : PySem.W.Frag} {mg : Str → Option Value} (T : Tx K mg)
abbrev sp__law_fall_at {K : PySem.W.Frag} {mg : Str → Option Value} (T : Tx K mg) : Sp := spG K (fun x : Int × Int => 0 ≤ x.2 ∧ x.2 ≤ 1000000) (fun x => [.int x.1, .int x.2]) (fun x => howD (fallQ x.1 x.2))
abbrev sp_law_lam {K : PySem.W.Frag} {mg : Str → Option Value} (T : Tx K mg) : List (Option V) → Sp := fun ws vs H Q E => vs.length = 1 ∧ ws.length = 1 ∧ spCB (spB K (fun x : Int × Int => 0 ≤ x.1 ∧ x.1 ≤ 1000000) (fun x => [.d (.int x.1), .o (.sh (.int x.2))]) (fun x d as => d = howD (fallQ x.2 x.1) ∧ as = [.d (.int x.1), .o (.sh (.int x.2))]) nox) ws vs H Q E
end
section
variable {K : PySem.W.Frag} {mg : Str → Option Value} {T : Tx K mg} {ρ : DL.Env} {ta tb : TE} {c k : Int} {E : XK}
theorem ev_fall_at (ha : EvD K ta ρ (.int c)) (hb : EvD K tb ρ (.int k)) (h : 0 ≤ k ∧ k ≤ 1000000) : EvD K (tCall (sp__law_fall_at T) [] E (tCons ta (tCons tb tNil))) ρ (howD (fallQ c k)) := ev_call (c, k) (ea_cons ha (ea_cons hb ea_nil)) h
end
/-! ### the law's deeds -/
def kF (a : Int) : List D := [.bl false, .bl true, .bl true, .int a]
def kO (k : Int) : List D := [.bl true, .bl true, .bl true, .int k]
def outL : Out → List D
  | .ok _ => []
  | .fell n _ => kF n
  | .lacks k _ => kO k
def deedO (x : S2) (dd : Nat) (at_ v : Int) : Out := match dd with
  | 0 => rdO x at_
  | 1 => wrO x at_ v
  | 2 => mkO x v
  | _ => bgO x
theorem outL_fit (o : Out) : (D.lst (outL o)).fit = true := Ft.fit (n := 1) (ft_lst fun d hd => by
  cases o with
  | ok y => cases hd
  | fell n y =>
    simp only [outL, kF, List.mem_cons, List.not_mem_nil, or_false] at hd
    rcases hd with rfl | rfl | rfl | rfl
    · exact ft_bl _
    · exact ft_bl _
    · exact ft_bl _
    · exact ft_int _
  | lacks n y =>
    simp only [outL, kO, List.mem_cons, List.not_mem_nil, or_false] at hd
    rcases hd with rfl | rfl | rfl | rfl
    · exact ft_bl _
    · exact ft_bl _
    · exact ft_bl _
    · exact ft_int _) (by decide)
structure Ok1 (x : S2) (c : Int) (a1 : Int) : Prop where
  fit : Fit x
  few : x.1.a ≤ a1
  f : ∃ cc, x.2 = some (cc, c)
theorem ntS_c {x : Stt} {cc c' c w n : Int} {ad ad' : Addr} : (ntS (x, some (ad, c)) w n).1 = (ntS (x, some (ad', c)) w n).1 := by
  unfold ntS
  show (match fallQ c x.a with
    | none => _
    | some [] => _
    | some (_ :: _) => _ : S2).1 = (match fallQ c x.a with
    | none => _
    | some [] => _
    | some (_ :: _) => _ : S2).1
  cases fallQ c x.a with
  | none => rfl
  | some l => cases l <;> rfl
section
variable {K : PySem.W.Frag} {mg : Str → Option Value} (T : Tx K mg)
abbrev sp__law_refused {K : PySem.W.Frag} {mg : Str → Option Value} (T : Tx K mg) (clL : List (Str × Addr)) (usL : List V) : Sp := spB K (fun x : S2 × Nat × Int × Int => Fit x.1 ∧ x.1.1.a + 1 ≤ 900000 ∧ x.2.1 ≤ 3) (fun x => [.o (stF T clL usL x.1), .d (.int (x.2.1 : Int)), .d (.int x.2.2.1), .d (.int x.2.2.2)])
  (fun x d as => d = .lst (outL (deedO x.1 x.2.1 x.2.2.1 x.2.2.2)) ∧ as = [.o (stF T clL usL (deedO x.1 x.2.1 x.2.2.1 x.2.2.2).st), .d (.int (x.2.1 : Int)), .d (.int x.2.2.1), .d (.int x.2.2.2)]) nox
abbrev sp__law_noted {K : PySem.W.Frag} {mg : Str → Option Value} (T : Tx K mg) : Sp := spG K (fun x : Stt × Int × Int × Int => x.1.ns.length = 2 ∧ 0 ≤ x.1.a ∧ x.1.a ≤ 900000 ∧ 0 ≤ x.2.1 ∧ x.2.1 < 2) (fun x => [toldD x.1, .int x.2.1, .int x.2.2.1, .int x.2.2.2]) (fun x => toldD (ntS (x.1, some (0, x.2.2.2)) x.2.1 x.2.2.1).1)
abbrev sp__law_begun {K : PySem.W.Frag} {mg : Str → Option Value} (T : Tx K mg) (clL : List (Str × Addr)) (usL : List V) : Sp := spB K (fun x : S2 × Int => Fit x.1 ∧ x.1.1.a + 2 ≤ 900000 ∧ ∃ cc, x.1.2 = some (cc, x.2)) (fun x => [.o (stF T clL usL x.1), .d (toldD x.1.1), .d (.int x.2)])
  (fun x d as => d = toldD (bgO x.1).st.1 ∧ as = [.o (stF T clL usL (bgO x.1).st), .d (toldD x.1.1), .d (.int x.2)]) nox
abbrev sp__law_written {K : PySem.W.Frag} {mg : Str → Option Value} (T : Tx K mg) (clL : List (Str × Addr)) (usL : List V) : Sp := spB K (fun x : S2 × Int × Int × Int => Fit x.1 ∧ x.1.1.a + 2 ≤ 900000 ∧ inR x.1 x.2.1 ∧ x.1.1.cs.length ≤ 1000 ∧ ∃ cc, x.1.2 = some (cc, x.2.2.2)) (fun x => [.o (stF T clL usL x.1), .d (toldD x.1.1), .d (.int x.2.1), .d (.int x.2.2.1), .d (.int x.2.2.2)])
  (fun x d as => d = toldD (wrS x.1 x.2.1 x.2.2.1).1 ∧ as = [.o (stF T clL usL (wrS x.1 x.2.1 x.2.2.1)), .d (toldD x.1.1), .d (.int x.2.1), .d (.int x.2.2.1), .d (.int x.2.2.2)]) nox
/-- a store behind a deed -/
structure Beh (x y : S2) : Prop where
  a0 : x.1.a ≤ y.1.a
  a : y.1.a ≤ x.1.a + 2
  two : y.1.ns.length = 2
  f : y.2 = x.2
  len : y.1.cs.length = x.1.cs.length
abbrev sp__law_deed {K : PySem.W.Frag} {mg : Str → Option Value} (T : Tx K mg) (clL : List (Str × Addr)) (usL : List V) : Sp := spB K (fun x : S2 × Int × Int × Int => Fit x.1 ∧ x.1.1.a + 4 ≤ 900000 ∧ x.1.1.cs.length ≤ 1000 ∧ (∃ cc, x.1.2 = some (cc, x.2.2.1)) ∧ 0 ≤ x.2.2.2 ∧ x.2.2.2 ≤ 1000) (fun x => [.o (stF T clL usL x.1), .d (toldD x.1.1), .d (.int x.2.1), .d (.int x.2.2.1), .d (.int x.2.2.2)])
  (fun x d as => ∃ y, Beh x.1 y ∧ d = toldD y.1 ∧ as = [.o (stF T clL usL y), .d (toldD x.1.1), .d (.int x.2.1), .d (.int x.2.2.1), .d (.int x.2.2.2)]) nox
end
section
variable {P : Program} {w : World} {K : PySem.W.Frag} {mg : Str → Option Value} {base : Heap}
theorem ok__law_fall_at (T : Tx K mg) : FnOk P w K mg base CX0 2 T.a__law_fall_at T.d__law_fall_at ["_law_cell", "_law_count"] (sp__law_fall_at T) := by
  refine fn_r T.F__law_fall_at sc__law_fall_at (fun _ => rfl) (fun cdv A outer s H E hr =>
      (pss_cons (ps_set (i := 2) sc__law_fall_at.nd rfl (by first | exact Or.inl rfl | exact Or.inr rfl) (pe_call (ok__law_mixed T) hr (by rfl) T.g__law_mixed T.F__law_mixed.kp T.b__law_mixed .nil pass0 (pa_cons (pv 0) (pa_cons (pv 1) pa_nil))))
      (pss_cons (ps_if (pt_cmpR op_gt (pe_op op_mod (pv 2) pe_int) pe_int (nomark _)) (pss_one (ps_ret pe_non)) pss_nil)
      (pss_cons (ps_if (pt_cmpR (eqK (K := K) rfl hr.units) (pe_op op_mod (pe_op op_fdivW (pv 2) pe_int) pe_int) pe_int (nomark _)) (pss_one (ps_ret (pe_tup pa_nil))) pss_nil)
      (pss_one (ps_ret (pe_tup (pa_cons (pe_op op_mod (pe_op op_fdivW (pv 0) (pe_op (addK (K := K) rfl) (pv 1) pe_int)) (pe_op op_pow pe_int pe_int)) pa_nil)))))))) (fun x hx => ?_)
  obtain ⟨c, n⟩ := x
  obtain ⟨h1, h2⟩ := hx
  dsimp only at h1 h2 ⊢
  have hb := mixed_b c n
  walk_at "dl go"
  · intro h
    have h := of_decide_eq_true h
    refine xs_ret ev_cn ?_
    unfold fallQ
    rw [if_pos h]
    rfl
  · intro h
    have h := of_decide_eq_false h
    walk_at "dl go"
    · intro h3
      have h3 := of_decide_eq_true h3
      refine xs_ret (ev_tup (ds := []) ea_nil (by decide)) ?_
      unfold fallQ
      rw [if_neg h, if_pos h3]
      rfl
    · intro h3
      have h3 := of_decide_eq_false h3
      refine xs_next ?_
      dsimp only
      refine xs_ret (ev_tup (ds := [.int (c / (n + 1) % 10 ^ 60)]) (ea_cons (ev_IC (i := c / (n + 1)) (j := 10 ^ 60) (ev_IC (i := c) (j := n + 1) (ev_var rfl) (ev_addI (i := n) (j := 1) (ev_var rfl) ev_ci) (divW_c (by omega) (by omega))) (ev_pow (i := 10) (k := 60) ⟨by decide, by decide, by decide⟩) (by decide)) ea_nil) (Nat.le_of_ble_eq_true rfl)) ?_
      unfold fallQ
      rw [if_neg h, if_neg h3]
      rfl
theorem ok_law_lam (T : Tx K mg) (f : Addr) (cl : List (Str × Addr)) (c : Addr) : COk P w K mg base CX0 3 f (mk_law_lam cl c) ["_law_count"] ["_law_falls"] (sp_law_lam T) := by
  refine lok_b ns_law_lam (fun _ _ us hl => match us, hl with | [_], _ => rfl) (fun _ => rfl) (fun A outer s H E hr =>
      (pe_call (ok__law_fall_at T) hr (by rfl) T.g__law_fall_at T.F__law_fall_at.kp T.b__law_fall_at .nil pass0 (pa_cons (pv 1) (pa_cons (pv 0) pa_nil)))) (fun x vs hv hx => ?_)
  obtain ⟨n, c⟩ := x
  dsimp only at hx
  match vs, hv with
  | [v0, v1], _ =>
    refine EvE.imp (EvD.eff (ev_fall_at (c := c) (k := n) (ev_W (ew_var (o := .sh (.int c)) rfl) rfl rfl) (ev_var rfl) hx)) fun d ρ' z => ?_
    obtain ⟨rfl, rfl⟩ := z
    exact ⟨_, ⟨rfl, rfl⟩, rfl, trivial⟩
theorem ok_Store_comes (T : Tx K mg) {clL : List (Str × Addr)} {usL : List V} (hL : NdefX.CellsAt (cl_law_lam clL) ["_law_falls"] (usL.map some) base em) : FnOk P w K mg base CX0 6 T.a_Store_comes T.d_Store_comes ["self"] (sp_Store_comes T clL usL) := by
  refine fn_b T.F_Store_comes sc_Store_comes (fun _ => rfl) (fun cdv A outer s H E hr =>
      (pss_cons (ps_set (i := 1) sc_Store_comes.nd rfl (by first | exact Or.inl rfl | exact Or.inr rfl) (fldK (K := K) rfl (pv 0) rfl))
      (pss_cons (sfldK (K := K) rfl (pv 0) (pe_op (addK (K := K) rfl) (fldK (K := K) rfl (pv 0) rfl) pe_int) rfl)
      (pss_cons (ps_if (pt_cmp (pc_isN (fldK (K := K) rfl (pv 0) rfl)) rfl) (pss_one (ps_ret pe_non)) pss_nil)
      (pss_one (ps_ret (pe_callA (K := K) (mk := mk_law_lam (cl_law_lam clL)) rfl (pv 0) (fun f c => ok_law_lam T f _ c) hL (fun _ => rfl) hr (by decide) pass0 (pa_cons (pv 1) pa_nil)))))))) (fun x vs hv hx => ?_)
  have hx : Fit x := hx
  obtain ⟨x, f⟩ := x
  match vs, hv with
  | [v0], _ =>
    have has : ∀ {y : S2} {r1 : Option SV}, EvD K (tFld K (tVar 0) "asked") [some (.tr K ⟨false, some v0⟩ (stF T clL usL y)), r1] (.int y.1.a) := fun {y r1} => ev_W (ew_fld (j := 2) (ew_var (o := stF T clL usL y) rfl) rfl rfl rfl T.cl_Store T.n_Store_asked) rfl rfl
    refine xs_seq (xs_asg has eg_name ?_)
    dsimp only
    refine xs_seq (xs_setF (ev_addI has ev_ci) (ew_var (o := stF T clL usL (x, f)) rfl) rfl rfl (j := 2) rfl T.cl_Store T.n_Store_asked (by decide) ?_)
    dsimp only
    cases f with
    | none =>
      refine xs_seq (xs_yes (et_B ((ev_isN (EvD.r (ev_W (d := .non) (ew_fld (j := 3) (ew_var (o := stF T clL usL (nxt (x, none))) rfl) rfl rfl rfl T.cl_Store T.n_Store_fall) rfl rfl))).is rfl)) rfl ?_)
      exact xs_retO ev_cn ⟨_, ⟨rfl, rfl⟩, rfl, trivial⟩
    | some f =>
      refine xs_seq (xs_no (b := false) (EvT.thawT 0 (o := stF T clL usL (nxt (x, some f))) rfl (stT_frz T _ (fO_frz T clL usL _)) ?_) rfl ?_)
      · rw [stT_toD]
        exact et_B ((ev_isN (EvD.r (ev_fld (d := (fO T clL usL (some f)).toD) (ev_var (d := stDD T _ _) rfl) T.cl_Store T.n_Store_fall rfl))).is rfl)
      · refine xs_retEO (ev_callA (x := (x.a, f.2)) (cc := f.1) (jf := 3) (ew_var (o := stF T clL usL (nxt (x, some f))) rfl) rfl rfl rfl rfl T.cl_Store T.n_Store_fall (ea_cons (ev_var rfl) ea_nil) ⟨hx.a0, by have h1 : x.a ≤ 900000 := hx.a1; show x.a ≤ 1000000; omega⟩ rfl rfl rfl (fun d os' => d = howD (fallQ f.2 x.a) ∧ os' = [.sh (.int f.2)]) (fun d as hp => ⟨[.sh (.int f.2)], fun k hk => ?_, rfl, hp.1, rfl⟩) (fun _ _ _ z => z)) (fun d ρ' hz => ?_)
        · rw [hp.2]
          have : k = 0 := Nat.lt_one_iff.mp hk
          subst this
          rfl
        · obtain ⟨os', ⟨e1, e2⟩, e3⟩ := hz
          subst e1
          subst e2
          subst e3
          exact ⟨_, ⟨rfl, rfl⟩, rfl, trivial⟩
end
section
variable {P : Program} {w : World} {K : PySem.W.Frag} {mg : Str → Option Value} {base : Heap}
theorem ok_OutOfRoom___init__ (T : Tx K mg) : FnOk P w K mg base CX0 1 T.a_OutOfRoom___init__ T.d_OutOfRoom___init__ ["self", "at"] (sp_OutOfRoom___init__ T) := by
  refine T.F_OutOfRoom___init__.ok sc_OutOfRoom___init__ (fun vs H Q E h => ?_) (fun cdv A outer s H vs Q E hr h => ⟨_,
      (pss_one (ps_ost (pv 0) (pv 1))), ?_⟩)
  · obtain ⟨a, v, rfl, _⟩ := h
    rfl
  · obtain ⟨a, v, rfl, ea, T1, hno, q⟩ := h
    exact ⟨v, rfl, .ref a, rfl, a, T.C_OutOfRoom, rfl, T1, hno, .inl ⟨ea, fun dx hn hd => q dx hn hd⟩⟩
theorem ok_Fallen___init__ (T : Tx K mg) : FnOk P w K mg base CX0 1 T.a_Fallen___init__ T.d_Fallen___init__ ["self", "count"] (sp_Fallen___init__ T) := by
  refine T.F_Fallen___init__.ok sc_Fallen___init__ (fun vs H Q E h => ?_) (fun cdv A outer s H vs Q E hr h => ⟨_,
      (pss_one (ps_ost (pv 0) (pv 1))), ?_⟩)
  · obtain ⟨a, v, rfl, _⟩ := h
    rfl
  · obtain ⟨a, v, rfl, ea, T1, hno, q⟩ := h
    exact ⟨v, rfl, .ref a, rfl, a, T.C_Fallen, rfl, T1, hno, .inl ⟨ea, fun dx hn hd => q dx hn hd⟩⟩
theorem ok_Store___init__ (T : Tx K mg) : FnOk P w K mg base CX0 1 T.a_Store___init__ T.d_Store___init__ ["self", "cells", "fall"] (sp_Store___init__ T) := by
  refine fn_bE T.F_Store___init__ sc_Store___init__ (fun _ => rfl) (fun cdv A outer s H E hr =>
      (pss_cons (sfldK (K := K) rfl (pv 0) (pe_callTy (listK (K := K) rfl) (by rfl) T.z_list (by decide +kernel) (pa_cons (pv 1) pa_nil)) rfl)
      (pss_cons (sfldK (K := K) rfl (pv 0) (pe_lst (pa_cons pe_int (pa_cons pe_int pa_nil))) rfl)
      (pss_cons (sfldK (K := K) rfl (pv 0) pe_int rfl)
      (pss_one (sfldK (K := K) rfl (pv 0) (pv 2) rfl)))))) (fun x vs hv hx => ?_)
  obtain ⟨x, fd⟩ := x
  match vs, hv with
  | [v0, v1, v2], _ =>
    refine xs_seq (xs_addF (o2 := cO x) (EvN.is (EvF.n (ef_listL (EvM.b (EvD.m (ev_var (d := .lst (x.map .int)) rfl))))) (cO_map x).symm) (ew_var rfl) rfl rfl rfl T.cl_Store T.n_Store_cells (by decide) ?_)
    dsimp only
    refine xs_seq (xs_addF (EvF.n (ef_lst (ea_cons ev_ci (ea_cons ev_ci ea_nil)) (Nat.le_of_ble_eq_true rfl))) (ew_var rfl) rfl rfl rfl T.cl_Store T.n_Store_notes (by decide) ?_)
    dsimp only
    refine xs_seq (xs_addF (EvD.n ev_ci) (ew_var rfl) rfl rfl rfl T.cl_Store T.n_Store_asked (by decide) ?_)
    dsimp only
    exact xs_addF (EvD.n (ev_var (d := fd) rfl)) (ew_var rfl) rfl rfl rfl T.cl_Store T.n_Store_fall (by decide) ⟨_, ⟨rfl, rfl⟩, rfl, trivial⟩
theorem ok_Store_write (T : Tx K mg) {clL : List (Str × Addr)} {usL : List V} (hL : NdefX.CellsAt (cl_law_lam clL) ["_law_falls"] (usL.map some) base em) : FnOk P w K mg base (L2.CX P w) 7 T.a_Store_write T.d_Store_write ["self", "at", "sign"] (sp_Store_write T clL usL) := by
  refine fn_bX T.F_Store_write sc_Store_write (fun _ => rfl) (fun cdv A outer s H E hr =>
      (pss_cons (ps_if (PW.pt (pw_or (pt_cmpR op_lt (pv 1) pe_int (nomark _)) (pw_or1 (pt_cmpR op_ge (pv 1) (pe_callB (lenK (K := K) rfl) (by rfl) T.z_len (by decide +kernel) (pa_cons (fldK (K := K) rfl (pv 0) rfl) pa_nil)) (nomark _))))) (pss_one ((ps_raise rfl (takes_of rfl rfl rfl rfl) (pmk_oex T.ox_OutOfRoom T.ix_OutOfRoom T.ti_OutOfRoom (ok_OutOfRoom___init__ T) (hr.mono (by decide)) T.b_OutOfRoom___init__ .nil pass0 (by rfl) T.g_OutOfRoom (pa_cons (pv 1) pa_nil))))) pss_nil)
      (pss_cons (ps_set (i := 3) sc_Store_write.nd rfl (by first | exact Or.inl rfl | exact Or.inr rfl) (pe_methD0 (pv 0) (.cons (by decide) T.cl_Store T.m_Store_comes (ok_Store_comes T hL) T.b_Store_comes .nil) hr pass0))
      (pss_cons (ps_if (pt_cmp (pc_isN (pv 3)) rfl) (pss_cons (ps_asg (pv 2) (pg_sub (fldK (K := K) rfl (pv 0) rfl) (pv 1) (set_A (hu_of hr))))
      (pss_one (ps_retN))) pss_nil)
      (pss_cons (ps_if (pt_cmpR op_gt (pe_callB (lenK (K := K) rfl) (by rfl) T.z_len (by decide +kernel) (pa_cons (pv 3) pa_nil)) pe_int (nomark _)) (pss_one (ps_asg (pe_ix (ixK (K := K) rfl) (pv 3) pe_int (fun _ _ => rfl)) (pg_sub (fldK (K := K) rfl (pv 0) rfl) (pv 1) (set_A (hu_of hr))))) pss_nil)
      (pss_one ((ps_raise rfl (takes_of rfl rfl rfl rfl) (pmk_oex T.ox_Fallen T.ix_Fallen T.ti_Fallen (ok_Fallen___init__ T) (hr.mono (by decide)) T.b_Fallen___init__ .nil pass0 (by rfl) T.g_Fallen (pa_cons (pe_op op_sub (fldK (K := K) rfl (pv 0) rfl) pe_int) pa_nil)))))))))) (fun x vs hv hx E => ?_)
  obtain ⟨x, at_, v⟩ := x
  have hx : Fit x := hx
  match vs, hv with
  | [v0, v1, v2], _ =>
    have hcs : ∀ {y : S2} {r1 r2 r3 : Option SV}, EvW K (tFld K (tVar 0) "cells") [some (.tr K ⟨false, some v0⟩ (stF T clL usL y)), r1, r2, r3] 0 [0] := fun {y r1 r2 r3} => ew_fld (j := 0) (ew_var (o := stF T clL usL y) rfl) rfl rfl rfl T.cl_Store T.n_Store_cells
    have has : ∀ {y : S2} {r1 r2 r3 : Option SV}, EvD K (tFld K (tVar 0) "asked") [some (.tr K ⟨false, some v0⟩ (stF T clL usL y)), r1, r2, r3] (.int y.1.a) := fun {y r1 r2 r3} => ev_W (ew_fld (j := 2) (ew_var (o := stF T clL usL y) rfl) rfl rfl rfl T.cl_Store T.n_Store_asked) rfl rfl
    by_cases hin : inR x at_
    · obtain ⟨h0, h1⟩ := id hin
      refine xs_seq (xs_no (b := false) (et_orF (EvT.is (et_t (ev_Ib (i := at_) (j := 0) (ev_var rfl) ev_ci)) (decide_eq_false (by omega))) (EvT.is (et_t (ev_Ib (i := at_) (j := ((x.1.cs.map fun c => O.sh (.int c)).length : Int)) (ev_var rfl) (ev_lenW hcs rfl rfl))) (decide_eq_false (by rw [List.length_map]; omega)))) rfl ?_)
      refine xs_seq (xs_asgE (ev_methB (x := x) (ar := []) rfl eas_nil (.head _) rfl ⟨rfl, trivial⟩ hx rfl (fun d as hp => by rw [hp.2]; trivial) (fun _ _ _ z => z)) (fun d ρ' hz => ?_))
      obtain ⟨as, ⟨e1, e2⟩, e3⟩ := hz
      subst e1
      subst e2
      subst e3
      have hset : ∀ s : Int, (stF T clL usL (nxt x)).put [0] (.ol (((x.1.cs.map D.int).set at_.toNat (.int s)).map .sh)) = stF T clL usL (⟨x.1.cs.set at_.toNat s, x.1.ns, x.1.a + 1⟩, fN x.2 x.1.a) := fun s => by
        rw [cO_set]
        rfl
      have hix : ixN (x.1.cs.map D.int).length at_ = some at_.toNat := by unfold ixN; rw [if_pos h0, if_pos (by rw [List.length_map]; exact h1)]
      cases hq : how x with
      | none =>
        refine xs_seq (xs_yes (et_B ((ev_isN (ev_var (d := howD none) rfl).r).is rfl)) rfl (xs_seq ?_))
        refine xs_setW (p := [0]) (ds := x.1.cs.map .int) (j := at_.toNat) (d := .int v) (ev_var rfl) (hcs (y := nxt x)) rfl (congrArg some (cO_map _)) (ev_var rfl) hix ?_
        rw [hset]
        refine xs_retNO ⟨_, ⟨wrS x at_ v, ?_, rfl, rfl⟩, ?_, trivial⟩
        · show wrO x at_ v = _
          unfold wrO
          rw [if_pos hin, hq]
          rfl
        · show _ = some (SV.tr K ⟨false, some v0⟩ (stF T clL usL (wrS x at_ v)))
          unfold wrS
          rw [hq]
          rfl
      | some ss =>
        have hout : wrO x at_ v = .fell x.1.a (wrS x at_ v) := by
          unfold wrO
          rw [if_pos hin, hq]
          rfl
        refine xs_seq (xs_no (b := false) (et_B ((ev_isN (ev_var (d := howD (some ss)) rfl).r).is rfl)) rfl ?_)
        have hcount : ∀ {y : S2} {r1 r2 r3 : Option SV}, y.1.a = x.1.a + 1 → EvD K (tOp (rI0 fun i j => .int (i - j)) (tFld K (tVar 0) "asked") (tC (.int 1))) [some (.tr K ⟨false, some v0⟩ (stF T clL usL y)), r1, r2, r3] (.int x.1.a) := fun {y r1 r2 r3} e => EvD.is (ev_I (i := y.1.a) (j := 1) has ev_ci) (by rw [e, Int.add_sub_cancel])
        cases ss with
        | nil =>
          refine xs_seq (xs_no (b := false) (EvT.is (et_t (ev_Ib (i := 0) (j := 0) (ev_lenTA (ds := []) (ev_var (d := howD (some [])) rfl)) ev_ci)) rfl) rfl ?_)
          refine xs_raiseF (hcount (y := nxt x) rfl) T.ox_Fallen T.nx_Fallen rfl ⟨_, .inl ⟨_, _, hout, rfl, rfl, rfl⟩, ?_, trivial⟩
          show _ = some (SV.tr K ⟨false, some v0⟩ (stF T clL usL (wrS x at_ v)))
          unfold wrS
          rw [hq]
          rfl
        | cons s ss =>
          refine xs_seq (xs_yes (EvT.is (et_t (ev_Ib (i := (((s :: ss).map D.int).length : Int)) (j := 0) (ev_lenTA (ds := (s :: ss).map D.int) (ev_var (d := howD (some (s :: ss))) rfl)) ev_ci)) (decide_eq_true (by rw [List.length_map, List.length_cons]; omega))) rfl ?_)
          refine xs_setW (p := [0]) (ds := x.1.cs.map .int) (j := at_.toNat) (d := .int s) (ev_ixt (ds := (s :: ss).map D.int) (ev_var (d := howD (some (s :: ss))) rfl) ev_ci (atI_nat (j := 0) rfl)) (hcs (y := nxt x)) rfl (congrArg some (cO_map _)) (ev_var rfl) hix ?_
          rw [hset]
          refine xs_raiseF (hcount (y := (⟨x.1.cs.set at_.toNat s, x.1.ns, x.1.a + 1⟩, fN x.2 x.1.a)) rfl) T.ox_Fallen T.nx_Fallen rfl ⟨_, .inl ⟨_, _, hout, rfl, rfl, rfl⟩, ?_, trivial⟩
          show _ = some (SV.tr K ⟨false, some v0⟩ (stF T clL usL (wrS x at_ v)))
          unfold wrS
          rw [hq]
          rfl
    · have hout : wrO x at_ v = .lacks at_ x := by
        unfold wrO
        rw [if_neg hin]
      refine xs_seq (xs_yes (b := true) ?_ rfl (xs_raiseF (ev_var rfl) T.ox_OutOfRoom T.nx_OutOfRoom rfl ⟨_, .inr ⟨_, _, hout, rfl, rfl, rfl⟩, rfl, trivial⟩))
      by_cases h0 : at_ < 0
      · exact et_orT (EvT.is (et_t (ev_Ib (i := at_) (j := 0) (ev_var rfl) ev_ci)) (decide_eq_true h0))
      · refine et_orF (EvT.is (et_t (ev_Ib (i := at_) (j := 0) (ev_var rfl) ev_ci)) (decide_eq_false h0)) (EvT.is (et_t (ev_Ib (i := at_) (j := ((x.1.cs.map fun c => O.sh (.int c)).length : Int)) (ev_var rfl) (ev_lenW hcs rfl rfl))) (decide_eq_true ?_))
        rw [List.length_map]
        unfold inR at hin
        omega
theorem ok_Store_put_note (T : Tx K mg) {clL : List (Str × Addr)} {usL : List V} (hL : NdefX.CellsAt (cl_law_lam clL) ["_law_falls"] (usL.map some) base em) : FnOk P w K mg base (L2.CX P w) 7 T.a_Store_put_note T.d_Store_put_note ["self", "which", "number"] (sp_Store_put_note T clL usL) := by
  refine fn_bX T.F_Store_put_note sc_Store_put_note (fun _ => rfl) (fun cdv A outer s H E hr =>
      (pss_cons (ps_set (i := 3) sc_Store_put_note.nd rfl (by first | exact Or.inl rfl | exact Or.inr rfl) (pe_methD0 (pv 0) (.cons (by decide) T.cl_Store T.m_Store_comes (ok_Store_comes T hL) T.b_Store_comes .nil) hr pass0))
      (pss_cons (ps_if (pt_cmp (pc_isN (pv 3)) rfl) (pss_cons (ps_asg (pv 2) (pg_sub (fldK (K := K) rfl (pv 0) rfl) (pv 1) (set_A (hu_of hr))))
      (pss_one (ps_retN))) pss_nil)
      (pss_cons (ps_if (pt_cmpR op_gt (pe_callB (lenK (K := K) rfl) (by rfl) T.z_len (by decide +kernel) (pa_cons (pv 3) pa_nil)) pe_int (nomark _)) (pss_one (ps_asg pe_non (pg_sub (fldK (K := K) rfl (pv 0) rfl) (pv 1) (set_A (hu_of hr))))) pss_nil)
      (pss_one ((ps_raise rfl (takes_of rfl rfl rfl rfl) (pmk_oex T.ox_Fallen T.ix_Fallen T.ti_Fallen (ok_Fallen___init__ T) (hr.mono (by decide)) T.b_Fallen___init__ .nil pass0 (by rfl) T.g_Fallen (pa_cons (pe_op op_sub (fldK (K := K) rfl (pv 0) rfl) pe_int) pa_nil))))))))) (fun x vs hv hx E => ?_)
  obtain ⟨x, at_, v⟩ := x
  obtain ⟨hx, h0, h1⟩ := hx
  have hx : Fit x := hx
  dsimp only at h0 h1
  match vs, hv with
  | [v0, v1, v2], _ =>
    have hcs : ∀ {y : S2} {r1 r2 r3 : Option SV}, EvW K (tFld K (tVar 0) "notes") [some (.tr K ⟨false, some v0⟩ (stF T clL usL y)), r1, r2, r3] 0 [1] := fun {y r1 r2 r3} => ew_fld (j := 1) (ew_var (o := stF T clL usL y) rfl) rfl rfl rfl T.cl_Store T.n_Store_notes
    have has : ∀ {y : S2} {r1 r2 r3 : Option SV}, EvD K (tFld K (tVar 0) "asked") [some (.tr K ⟨false, some v0⟩ (stF T clL usL y)), r1, r2, r3] (.int y.1.a) := fun {y r1 r2 r3} => ev_W (ew_fld (j := 2) (ew_var (o := stF T clL usL y) rfl) rfl rfl rfl T.cl_Store T.n_Store_asked) rfl rfl
    refine xs_seq (xs_asgE (ev_methB (x := x) (ar := []) rfl eas_nil (.head _) rfl ⟨rfl, trivial⟩ hx rfl (fun d as hp => by rw [hp.2]; trivial) (fun _ _ _ z => z)) (fun d ρ' hz => ?_))
    obtain ⟨as, ⟨e1, e2⟩, e3⟩ := hz
    subst e1
    subst e2
    subst e3
    have htwo := hx.two
    have hset : ∀ s : Option Int, (stF T clL usL (nxt x)).put [1] (.ol (((x.1.ns.map ntD).set at_.toNat (ntD s)).map .sh)) = stF T clL usL (⟨x.1.cs, x.1.ns.set at_.toNat s, x.1.a + 1⟩, fN x.2 x.1.a) := fun s => by
      rw [← List.map_set (f := ntD)]
      rfl
    have hix : ixN (x.1.ns.map ntD).length at_ = some at_.toNat := by unfold ixN; rw [if_pos h0, if_pos (by rw [List.length_map]; omega)]
    cases hq : how x with
    | none =>
      refine xs_seq (xs_yes (et_B ((ev_isN (ev_var (d := howD none) rfl).r).is rfl)) rfl (xs_seq ?_))
      refine xs_setW (p := [1]) (ds := x.1.ns.map ntD) (j := at_.toNat) (d := ntD (some v)) (ev_var (d := .int v) rfl) (hcs (y := nxt x)) rfl rfl (ev_var rfl) hix ?_
      rw [hset]
      refine xs_retNO ⟨_, ⟨ntS x at_ v, ?_, rfl, rfl⟩, ?_, trivial⟩
      · show ntO x at_ v = _
        unfold ntO
        rw [hq]
        rfl
      · show _ = some (SV.tr K ⟨false, some v0⟩ (stF T clL usL (ntS x at_ v)))
        unfold ntS
        rw [hq]
        rfl
    | some ss =>
      have hout : ntO x at_ v = .fell x.1.a (ntS x at_ v) := by
        unfold ntO
        rw [hq]
        rfl
      refine xs_seq (xs_no (b := false) (et_B ((ev_isN (ev_var (d := howD (some ss)) rfl).r).is rfl)) rfl ?_)
      have hcount : ∀ {y : S2} {r1 r2 r3 : Option SV}, y.1.a = x.1.a + 1 → EvD K (tOp (rI0 fun i j => .int (i - j)) (tFld K (tVar 0) "asked") (tC (.int 1))) [some (.tr K ⟨false, some v0⟩ (stF T clL usL y)), r1, r2, r3] (.int x.1.a) := fun {y r1 r2 r3} e => EvD.is (ev_I (i := y.1.a) (j := 1) has ev_ci) (by rw [e, Int.add_sub_cancel])
      cases ss with
      | nil =>
        refine xs_seq (xs_no (b := false) (EvT.is (et_t (ev_Ib (i := 0) (j := 0) (ev_lenTA (ds := []) (ev_var (d := howD (some [])) rfl)) ev_ci)) rfl) rfl ?_)
        refine xs_raiseF (hcount (y := nxt x) rfl) T.ox_Fallen T.nx_Fallen rfl ⟨_, .inl ⟨_, _, hout, rfl, rfl, rfl⟩, ?_, trivial⟩
        show _ = some (SV.tr K ⟨false, some v0⟩ (stF T clL usL (ntS x at_ v)))
        unfold ntS
        rw [hq]
        rfl
      | cons s ss =>
        refine xs_seq (xs_yes (EvT.is (et_t (ev_Ib (i := (((s :: ss).map D.int).length : Int)) (j := 0) (ev_lenTA (ds := (s :: ss).map D.int) (ev_var (d := howD (some (s :: ss))) rfl)) ev_ci)) (decide_eq_true (by rw [List.length_map, List.length_cons]; omega))) rfl ?_)
        refine xs_setW (p := [1]) (ds := x.1.ns.map ntD) (j := at_.toNat) (d := ntD none) ev_cn (hcs (y := nxt x)) rfl rfl (ev_var rfl) hix ?_
        rw [hset]
        refine xs_raiseF (hcount (y := (⟨x.1.cs, x.1.ns.set at_.toNat none, x.1.a + 1⟩, fN x.2 x.1.a)) rfl) T.ox_Fallen T.nx_Fallen rfl ⟨_, .inl ⟨_, _, hout, rfl, rfl, rfl⟩, ?_, trivial⟩
        show _ = some (SV.tr K ⟨false, some v0⟩ (stF T clL usL (ntS x at_ v)))
        unfold ntS
        rw [hq]
        rfl
theorem ok_Store_mark (T : Tx K mg) {clL : List (Str × Addr)} {usL : List V} (hL : NdefX.CellsAt (cl_law_lam clL) ["_law_falls"] (usL.map some) base em) : FnOk P w K mg base (L2.CX P w) 8 T.a_Store_mark T.d_Store_mark ["self", "number"] (sp_Store_mark T clL usL) := by
  refine fn_bX T.F_Store_mark sc_Store_mark (fun _ => rfl) (fun cdv A outer s H E hr =>
      (pss_one (ps_expr (pe_methS (pv 0) (.cons (by decide) T.cl_Store T.m_Store_put_note (ok_Store_put_note T hL) T.b_Store_put_note .nil) hr (fun σ => passAt (takes_of rfl rfl rfl rfl) σ) (pa_cons (pe_ix (ixK (K := K) rfl) (pe_callB call_divmod (by rfl) T.z_divmod (by decide +kernel) (pa_cons (pv 1) (pa_cons pe_int pa_nil))) pe_int (fun _ _ => rfl)) (pa_cons (pv 1) pa_nil)))))) (fun x vs hv hx E => ?_)
  obtain ⟨x, v⟩ := x
  have hx : Fit x := hx
  match vs, hv with
  | [v0, v1], _ =>
    refine xs_dropEx (ev_methBX (x := (x, v % 2, v)) (ar := [.inl (.int (v % 2)), .inl (.int v)]) rfl (eas_d (ev_ixt (ds := [.int (v / 2), .int (v % 2)]) (ev_divmod (i := v) (j := 2) (ev_var rfl) ev_ci ⟨by decide, by decide⟩) ev_ci (atI_nat (j := 1) rfl)) (eas_d (ev_var rfl) eas_nil)) (.head _) rfl ⟨rfl, rfl, rfl, trivial⟩ ⟨hx, by show 0 ≤ v % 2; omega, by show v % 2 < 2; omega⟩ rfl (fun d as hp => by obtain ⟨y, _, _, e⟩ := hp; rw [e]; trivial) (fun cls fs as hp => by obtain ⟨y, e⟩ := excO_as T hp; rw [e]; trivial)) rfl (fun d ρ' hz => ?_) (fun ρ' cls fs hz => ?_)
    · obtain ⟨as, ⟨y, e0, e1, e2⟩, e3⟩ := hz
      subst e2
      subst e3
      exact ⟨_, ⟨y, e0, rfl, rfl⟩, rfl, trivial⟩
    · obtain ⟨as, h, e3⟩ := hz
      obtain ⟨y, e, h2⟩ := excO_map T (as2 := fun y => [.o (stF T clL usL y), .d (.int v)]) h
      subst e
      subst e3
      exact ⟨_, h2, rfl, trivial⟩
theorem ok_Store_begin (T : Tx K mg) {clL : List (Str × Addr)} {usL : List V} (hL : NdefX.CellsAt (cl_law_lam clL) ["_law_falls"] (usL.map some) base em) : FnOk P w K mg base (L2.CX P w) 8 T.a_Store_begin T.d_Store_begin ["self"] (sp_Store_begin T clL usL) := by
  refine fn_bX T.F_Store_begin sc_Store_begin (fun _ => rfl) (fun cdv A outer s H E hr =>
      (pss_cons (ps_expr (pe_methS (pv 0) (.cons (by decide) T.cl_Store T.m_Store_put_note (ok_Store_put_note T hL) T.b_Store_put_note .nil) hr (fun σ => passAt (takes_of rfl rfl rfl rfl) σ) (pa_cons pe_int (pa_cons pe_int pa_nil))))
      (pss_one (ps_expr (pe_methS (pv 0) (.cons (by decide) T.cl_Store T.m_Store_put_note (ok_Store_put_note T hL) T.b_Store_put_note .nil) hr (fun σ => passAt (takes_of rfl rfl rfl rfl) σ) (pa_cons pe_int (pa_cons pe_int pa_nil))))))) (fun x vs hv hx E => ?_)
  obtain ⟨hx, ha⟩ := hx
  have hx : Fit x := hx
  match vs, hv with
  | [v0], _ =>
    refine xs_seq (xs_dropEx (ev_methBX (x := (x, 0, 0)) (ar := [.inl (.int 0), .inl (.int 0)]) rfl (eas_d ev_ci (eas_d ev_ci eas_nil)) (.head _) rfl ⟨rfl, rfl, rfl, trivial⟩ ⟨hx, (show (0 : Int) ≤ 0 by decide), (show (0 : Int) < 2 by decide)⟩ rfl (fun d as hp => by obtain ⟨y, _, _, e⟩ := hp; rw [e]; trivial) (fun cls fs as hp => by obtain ⟨y, e⟩ := excO_as T hp; rw [e]; trivial)) rfl (fun d ρ' hz => ?_) (fun ρ' cls fs hz => ?_))
    · obtain ⟨as, ⟨y, e0, e1, e2⟩, e3⟩ := hz
      subst e2
      subst e3
      have e0 : ntO x 0 0 = .ok y := e0
      have hy : y = ntS x 0 0 := ntO_ok e0
      have hfy : Fit y := by
        rw [hy]
        exact hx.nt ha
      have hb : bgO x = ntO y 1 0 := by
        show (ntO x 0 0).bind _ = _
        rw [e0]
        rfl
      refine xs_dropEx (ev_methBX (x := (y, 1, 0)) (ar := [.inl (.int 1), .inl (.int 0)]) rfl (eas_d ev_ci (eas_d ev_ci eas_nil)) (.head _) rfl ⟨rfl, rfl, rfl, trivial⟩ ⟨hfy, (show (0 : Int) ≤ 1 by decide), (show (1 : Int) < 2 by decide)⟩ rfl (fun d as hp => by obtain ⟨y, _, _, e⟩ := hp; rw [e]; trivial) (fun cls fs as hp => by obtain ⟨y, e⟩ := excO_as T hp; rw [e]; trivial)) rfl (fun d ρ' hz => ?_) (fun ρ' cls fs hz => ?_)
      · obtain ⟨as, ⟨z, e4, e5, e6⟩, e7⟩ := hz
        subst e6
        subst e7
        have e4 : ntO y 1 0 = .ok z := e4
        rw [← hb] at e4
        exact ⟨_, ⟨z, e4, rfl, rfl⟩, rfl, trivial⟩
      · obtain ⟨as, h, e3⟩ := hz
        obtain ⟨z, e, h2⟩ := excO_map T (as2 := fun y => [.o (stF T clL usL y)]) h
        subst e
        subst e3
        rw [← hb] at h2
        exact ⟨_, h2, rfl, trivial⟩
    · obtain ⟨as, h, e3⟩ := hz
      obtain ⟨z, e, h2⟩ := excO_bind T (k := fun y => ntO y 1 0) (as2 := fun y => [.o (stF T clL usL y)]) h
      subst e
      subst e3
      exact ⟨_, h2, rfl, trivial⟩
theorem ok_Store_noted (T : Tx K mg) : FnOk P w K mg base CX0 1 T.a_Store_noted T.d_Store_noted ["self"] (sp_Store_noted T) := by
  refine fn_r T.F_Store_noted sc_Store_noted (fun _ => rfl) (fun cdv A outer s H E hr =>
      (pss_one (ps_ret (pe_maxD (K := K) rfl hr.hd (hu65 hr) (by rfl) T.z_max (pe_lc (own := [("note", 1)]) rfl sc_Store_noted.nd (seqK (K := K) rfl (fldK (K := K) rfl (pv 0) rfl)) (blkOk_by (N := ["self", "note"]) (sc := defScope s_Store_noted) (by decide +kernel)) (fun _ _ _ _ _ => (pg_name (i := 1) sc_Store_noted.nd rfl (by first | exact Or.inl rfl | exact Or.inr rfl))) (fun _ _ _ _ _ => pts_one (pt_cmp (pc_notN (pv 1)) rfl)) (fun _ _ _ _ _ => (pv 1))) pe_int)))) (fun x hx => ?_)
  obtain ⟨x, fd⟩ := x
  dsimp only at hx ⊢
  refine xs_ret (ev_maxD (ns := x.ns.filterMap id) (EvF.b (EvF.is (ef_lc x.ns ntD (fun n => n.isSome) (fun n => ntD n) rfl (ei_seqL (ev_fld (d := .lst (x.ns.map ntD)) (ev_var (d := stDD T x fd) rfl) T.cl_Store T.n_Store_notes rfl)) hx (fun k n hk => ⟨_, egc_name (by decide), EvT.is (et_B (ev_notN (EvD.r (ev_var (d := ntD n) rfl)))) (by cases n <;> rfl), fun _ => ev_var rfl⟩)) ?_))) rfl
  clear hx
  induction x.ns with
  | nil => rfl
  | cons n ns ih =>
    cases n with
    | none => exact ih
    | some i => exact congrArg (D.int i :: ·) ih
theorem ok_Store_told (T : Tx K mg) : FnOk P w K mg base CX0 1 T.a_Store_told T.d_Store_told ["self"] (sp_Store_told T) := by
  refine fn_n T.F_Store_told sc_Store_told (fun _ => rfl) (fun cdv A outer s H E hr =>
      (pss_one (ps_ret (pe_tup (pa_cons (pe_callTy (listK (K := K) rfl) (by rfl) T.z_list (by decide +kernel) (pa_cons (fldK (K := K) rfl (pv 0) rfl) pa_nil)) (pa_cons (pe_callTy (listK (K := K) rfl) (by rfl) T.z_list (by decide +kernel) (pa_cons (fldK (K := K) rfl (pv 0) rfl) pa_nil)) (pa_cons (fldK (K := K) rfl (pv 0) rfl) pa_nil))))))) (fun x hx => ?_)
  obtain ⟨x, fd⟩ := x
  have hf : ∀ {ρ : DL.Env} {f : Str} {d : D}, ρ[0]? = some (some (.sh (stDD T x fd))) → NoAttr K T.C_Store f → ((["cells", "notes", "asked", "fall"] : List Str).zip [D.lst (x.cs.map .int), .lst (x.ns.map ntD), .int x.a, fd]).lookup f = some d → EvD K (tFld K (tVar 0) f) ρ d := fun h n l => ev_fld (ev_var h) T.cl_Store n l
  exact xs_retN' (en_tup (enl_cons (EvN.is (EvF.n (ef_listL (EvM.b (EvD.m (hf (d := .lst (x.cs.map .int)) rfl T.n_Store_cells rfl))))) (cO_map _).symm) (enl_cons (EvF.n (ef_listL (EvM.b (EvD.m (hf (d := .lst (x.ns.map ntD)) rfl T.n_Store_notes rfl))))) (enl_cons (EvD.n (hf rfl T.n_Store_asked rfl)) enl_nil))) (Nat.le_of_ble_eq_true rfl)) rfl
end

section
variable {P : Program} {w : World} {K : PySem.W.Frag} {mg : Str → Option Value} {base : Heap}
theorem ok_Store_read__2 (T : Tx K mg) {clL : List (Str × Addr)} {usL : List V} (hL : NdefX.CellsAt (cl_law_lam clL) ["_law_falls"] (usL.map some) base em) : FnOk P w K mg base (L2.CX P w) 3 T.a_Store_read T.d_Store_read ["self", "at"] (sp_Store_read__2 T clL usL) := by
  refine fn_x T.F_Store_read sc_Store_read (fun _ => rfl) (fun cdv A outer s H E hr =>
      (pss_cons (ps_if (PW.pt (pw_or (pt_cmpR op_lt (pv 1) pe_int (nomark _)) (pw_or1 (pt_cmpR op_ge (pv 1) (pe_callB (lenK (K := K) rfl) (by rfl) T.z_len (by decide +kernel) (pa_cons (fldK (K := K) rfl (pv 0) rfl) pa_nil)) (nomark _))))) (pss_one ((ps_raise rfl (takes_of rfl rfl rfl rfl) (pmk_oex T.ox_OutOfRoom T.ix_OutOfRoom T.ti_OutOfRoom (ok_OutOfRoom___init__ T) hr T.b_OutOfRoom___init__ .nil pass0 (by rfl) T.g_OutOfRoom (pa_cons (pv 1) pa_nil))))) pss_nil)
      (pss_one (ps_ret (pe_ix (ixK (K := K) rfl) (fldK (K := K) rfl (pv 0) rfl) (pv 1) (fun _ _ => rfl)))))) (fun x hx E => ?_)
  obtain ⟨x, fd, at_⟩ := x
  obtain ⟨h0, h1⟩ := hx
  dsimp only at h0 h1 ⊢
  have hc : EvD K (tFld K (tVar 0) "cells") (entry ["self", "at"] [stDD T x fd, .int at_]) (.lst (x.cs.map .int)) := ev_fld (ev_var (d := stDD T x fd) rfl) T.cl_Store T.n_Store_cells rfl
  refine xs_seq (xs_no (b := false) (et_orF (EvT.is (et_t (ev_Ib (i := at_) (j := 0) (ev_var rfl) ev_ci)) (decide_eq_false (by omega))) (EvT.is (et_t (ev_Ib (i := at_) (j := (x.cs.length : Int)) (ev_var rfl) (ev_lenM (f := D.int) (xs := x.cs) (EvM.b (EvD.m hc))))) (decide_eq_false (by omega)))) rfl ?_)
  exact xs_ret (ev_ixl (ds := x.cs.map D.int) (EvM.b (EvD.m hc)) (ev_var rfl) (atI_int h0 h1)) rfl
theorem ok_Store_read__3 (T : Tx K mg) {clL : List (Str × Addr)} {usL : List V} (hL : NdefX.CellsAt (cl_law_lam clL) ["_law_falls"] (usL.map some) base em) : FnOk P w K mg base (L2.CX P w) 3 T.a_Store_read T.d_Store_read ["self", "at"] (sp_Store_read__3 T clL usL) := by
  refine fn_bX T.F_Store_read sc_Store_read (fun _ => rfl) (fun cdv A outer s H E hr =>
      (pss_cons (ps_if (PW.pt (pw_or (pt_cmpR op_lt (pv 1) pe_int (nomark _)) (pw_or1 (pt_cmpR op_ge (pv 1) (pe_callB (lenK (K := K) rfl) (by rfl) T.z_len (by decide +kernel) (pa_cons (fldK (K := K) rfl (pv 0) rfl) pa_nil)) (nomark _))))) (pss_one ((ps_raise rfl (takes_of rfl rfl rfl rfl) (pmk_oex T.ox_OutOfRoom T.ix_OutOfRoom T.ti_OutOfRoom (ok_OutOfRoom___init__ T) hr T.b_OutOfRoom___init__ .nil pass0 (by rfl) T.g_OutOfRoom (pa_cons (pv 1) pa_nil))))) pss_nil)
      (pss_one (ps_ret (pe_ix (ixK (K := K) rfl) (fldK (K := K) rfl (pv 0) rfl) (pv 1) (fun _ _ => rfl)))))) (fun x vs hv hx E => ?_)
  obtain ⟨x, at_⟩ := x
  match vs, hv with
  | [v0, v1], _ =>
    have hcs : ∀ {r1 : Option SV}, EvW K (tFld K (tVar 0) "cells") [some (.tr K ⟨false, some v0⟩ (stF T clL usL x)), r1] 0 [0] := fun {r1} => ew_fld (j := 0) (ew_var (o := stF T clL usL x) rfl) rfl rfl rfl T.cl_Store T.n_Store_cells
    by_cases hin : inR x at_
    · obtain ⟨h0, h1⟩ := id hin
      refine xs_seq (xs_no (b := false) (et_orF (EvT.is (et_t (ev_Ib (i := at_) (j := 0) (ev_var rfl) ev_ci)) (decide_eq_false (by omega))) (EvT.is (et_t (ev_Ib (i := at_) (j := ((x.1.cs.map fun c => O.sh (.int c)).length : Int)) (ev_var rfl) (ev_lenW hcs rfl rfl))) (decide_eq_false (by rw [List.length_map]; omega)))) rfl ?_)
      exact xs_retO (ev_ixl (ds := x.1.cs.map D.int) (EvM.b (em_W hcs rfl (congrArg some (cO_map _)))) (ev_var rfl) (atI_int h0 h1)) ⟨_, ⟨hin, rfl, rfl⟩, rfl, trivial⟩
    · have hout : rdO x at_ = .lacks at_ x := by
        unfold rdO
        rw [if_neg hin]
      refine xs_seq (xs_yes (b := true) ?_ rfl (xs_raiseF (ev_var rfl) T.ox_OutOfRoom T.nx_OutOfRoom rfl ⟨_, .inr ⟨_, _, hout, rfl, rfl, rfl⟩, rfl, trivial⟩))
      by_cases h0 : at_ < 0
      · exact et_orT (EvT.is (et_t (ev_Ib (i := at_) (j := 0) (ev_var rfl) ev_ci)) (decide_eq_true h0))
      · refine et_orF (EvT.is (et_t (ev_Ib (i := at_) (j := 0) (ev_var rfl) ev_ci)) (decide_eq_false h0)) (EvT.is (et_t (ev_Ib (i := at_) (j := ((x.1.cs.map fun c => O.sh (.int c)).length : Int)) (ev_var rfl) (ev_lenW hcs rfl rfl))) (decide_eq_true ?_))
        rw [List.length_map]
        unfold inR at hin
        omega
theorem ok_Store_read (T : Tx K mg) {clL : List (Str × Addr)} {usL : List V} (hL : NdefX.CellsAt (cl_law_lam clL) ["_law_falls"] (usL.map some) base em) : FnOk P w K mg base (L2.CX P w) 3 T.a_Store_read T.d_Store_read ["self", "at"] (sp_Store_read T clL usL) := by
  exact FnOk.or (ok_Store_read__2 T hL) (ok_Store_read__3 T hL)
theorem ok__law_refused (T : Tx K mg) {clL : List (Str × Addr)} {usL : List V} (hL : NdefX.CellsAt (cl_law_lam clL) ["_law_falls"] (usL.map some) base em) : FnOk P w K mg base CX0 9 T.a__law_refused T.d__law_refused ["_law_store", "_law_deed_here", "_law_at", "_law_sign"] (sp__law_refused T clL usL) := by
  refine fn_b T.F__law_refused sc__law_refused (fun _ => rfl) (fun cdv A outer s H E hr =>
      (pss_cons (ps_set (i := 4) sc__law_refused.nd rfl (by first | exact Or.inl rfl | exact Or.inr rfl) (pe_lst pa_nil))
      (pss_cons (tryNK (K := K) rfl rfl rfl takes0 (fun W pn xe tk _ => (pss_cons (ps_if (pt_cmpR (eqK (K := K) rfl hr.units) (pv 1) pe_int (nomark _)) (pss_one (ps_expr (pe_methS (pv 0) (.cons (by decide) T.cl_Store T.m_Store_read (ok_Store_read T hL) T.b_Store_read .nil) hr (fun σ => passAt tk σ) (pa_cons (pv 2) pa_nil)))) pss_nil)
      (pss_cons (ps_if (pt_cmpR (eqK (K := K) rfl hr.units) (pv 1) pe_int (nomark _)) (pss_one (ps_expr (pe_methS (pv 0) (.cons (by decide) T.cl_Store T.m_Store_write (ok_Store_write T hL) T.b_Store_write .nil) hr (fun σ => passAt tk σ) (pa_cons (pv 2) (pa_cons (pv 3) pa_nil))))) pss_nil)
      (pss_cons (ps_if (pt_cmpR (eqK (K := K) rfl hr.units) (pv 1) pe_int (nomark _)) (pss_one (ps_expr (pe_methS (pv 0) (.cons (by decide) T.cl_Store T.m_Store_mark (ok_Store_mark T hL) T.b_Store_mark .nil) hr (fun σ => passAt tk σ) (pa_cons (pv 3) pa_nil)))) pss_nil)
      (pss_one (ps_if (pt_cmpR (eqK (K := K) rfl hr.units) (pv 1) pe_int (nomark _)) (pss_one (ps_expr (pe_methS0 (pv 0) (.cons (by decide) T.cl_Store T.m_Store_begin (ok_Store_begin T hL) T.b_Store_begin .nil) hr (fun σ => passAt tk σ)))) pss_nil)))))) (.cons (.named (i := 5) ⟨rfl, by decide, .inl T.g_Fallen⟩ sc__law_refused.nd rfl rfl (fun a oe cls d pn hz hf => (pss_one (ps_set (i := 4) sc__law_refused.nd rfl (by first | exact Or.inl rfl | exact Or.inr rfl) (pe_lst (pa_cons (pe_callB (isGK (K := K) rfl hz hf) (by rfl) T.z_isinstance (by decide +kernel) (pa_cons (pv 5) (pa_cons (pe_glob (v := .ref T.C_OutOfRoom) (by rfl) T.g_OutOfRoom rfl) pa_nil))) (pa_cons (pe_callB (isGK (K := K) rfl hz hf) (by rfl) T.z_isinstance (by decide +kernel) (pa_cons (pv 5) (pa_cons (pe_glob (v := .ref T.C_RoomError) (by rfl) T.g_RoomError rfl) pa_nil))) (pa_cons (pe_callB (isGK (K := K) rfl hz hf) (by rfl) T.z_isinstance (by decide +kernel) (pa_cons (pv 5) (pa_cons (pe_bltn (v := .ty "ValueError") (by rfl) T.z_ValueError (by decide +kernel) rfl) pa_nil))) (pa_cons (pe_xf T.xf_Fallen T.nx_Fallen hz hf (pv 5)) pa_nil))))))))) (.cons (.named (i := 5) ⟨rfl, by decide, .inl T.g_OutOfRoom⟩ sc__law_refused.nd rfl rfl (fun a oe cls d pn hz hf => (pss_one (ps_set (i := 4) sc__law_refused.nd rfl (by first | exact Or.inl rfl | exact Or.inr rfl) (pe_lst (pa_cons pe_bl (pa_cons (pe_callB (isGK (K := K) rfl hz hf) (by rfl) T.z_isinstance (by decide +kernel) (pa_cons (pv 5) (pa_cons (pe_glob (v := .ref T.C_RoomError) (by rfl) T.g_RoomError rfl) pa_nil))) (pa_cons (pe_callB (isGK (K := K) rfl hz hf) (by rfl) T.z_isinstance (by decide +kernel) (pa_cons (pv 5) (pa_cons (pe_bltn (v := .ty "ValueError") (by rfl) T.z_ValueError (by decide +kernel) rfl) pa_nil))) (pa_cons (pe_xf T.xf_OutOfRoom T.nx_OutOfRoom hz hf (pv 5)) pa_nil))))))))) .nil)))
      (pss_one (ps_ret (pv 4)))))) (fun x vs hv hx => ?_)
  obtain ⟨x, dd, at_, v⟩ := x
  obtain ⟨hx, ha, hd⟩ := hx
  have hx : Fit x := hx
  dsimp only at ha hd
  match vs, hv with
  | [v0, v1, v2, v3], _ =>
    refine xs_seq (xs_asgF (ef_lst ea_nil (by decide)) ?_)
    dsimp only
    have no : ∀ {ρ : DL.Env} (i : Int), ρ[1]? = some (some (.sh (.int (dd : Int)))) → (dd : Int) ≠ i → EvT K (tTest (tOp (rEqD K) (tVar 1) (tC (.int i)))) ρ false := fun i h ne => EvT.is (et_t (ev_eqI (ev_var h) ev_ci)) (decide_eq_false ne)
    have yes : ∀ {ρ : DL.Env} (i : Int), ρ[1]? = some (some (.sh (.int (dd : Int)))) → (dd : Int) = i → EvT K (tTest (tOp (rEqD K) (tVar 1) (tC (.int i)))) ρ true := fun i h e => EvT.is (et_t (ev_eqI (ev_var h) ev_ci)) (decide_eq_true e)
    have fin : ∀ {y : S2} {ds : List D} {r5 : Option SV}, (deedO x dd at_ v).st = y → outL (deedO x dd at_ v) = ds → ExS K (tRet (tVar 4)) [some (.tr K ⟨false, some v0⟩ (stF T clL usL y)), some (.sh (.int (dd : Int))), some (.sh (.int at_)), some (.sh (.int v)), some (.ol ds), r5] (endB K (fun (x : S2 × Nat × Int × Int) d as => d = .lst (outL (deedO x.1 x.2.1 x.2.2.1 x.2.2.2)) ∧ as = [.o (stF T clL usL (deedO x.1 x.2.1 x.2.2.1 x.2.2.2).st), .d (.int (x.2.1 : Int)), .d (.int x.2.2.1), .d (.int x.2.2.2)]) (x, dd, at_, v) [v0, v1, v2, v3]) := fun {y ds r5} e1 e2 => by
      subst e1
      subst e2
      exact xs_fz 4 rfl (xs_retO (ev_var rfl) ⟨_, ⟨rfl, rfl⟩, rfl, trivial⟩)
    refine xs_seq (xs_tryN (fun ρ cls fs => ∃ y : S2, ρ = [some (.tr K ⟨false, some v0⟩ (stF T clL usL y)), some (.sh (.int (dd : Int))), some (.sh (.int at_)), some (.sh (.int v)), some (.ol []), none] ∧ ((∃ n, deedO x dd at_ v = .fell n y ∧ cls = .ref T.C_Fallen ∧ fs = some [(("count" : Str), D.int n)]) ∨ ∃ n, deedO x dd at_ v = .lacks n y ∧ cls = .ref T.C_OutOfRoom ∧ fs = some [(("at" : Str), D.int n)])) (fun W => ?_) ?_)
    · have exc : ∀ {as2 : S2 → List AV} {cls : Value} {fs : Option (List (Str × D))} {as' : List AV}, excO T (deedO x dd at_ v) as2 cls fs as' → ∃ y : S2, as' = as2 y ∧ ((∃ n, deedO x dd at_ v = .fell n y ∧ cls = .ref T.C_Fallen ∧ fs = some [(("count" : Str), D.int n)]) ∨ ∃ n, deedO x dd at_ v = .lacks n y ∧ cls = .ref T.C_OutOfRoom ∧ fs = some [(("at" : Str), D.int n)]) := fun {as2 cls fs as'} h => by
        rcases h with ⟨n, y, e1, e2, e3, rfl⟩ | ⟨n, y, e1, e2, e3, rfl⟩
        · exact ⟨y, rfl, .inl ⟨n, e1, e2, e3⟩⟩
        · exact ⟨y, rfl, .inr ⟨n, e1, e2, e3⟩⟩
      rcases (show dd = 0 ∨ dd = 1 ∨ dd = 2 ∨ dd = 3 by omega) with rfl | rfl | rfl | rfl
      ·
        refine xs_seq (xs_yes (yes 0 rfl rfl) rfl (xs_dropEx (ev_methBXw (x := (x, at_)) (ar := [.inl (.int at_)]) rfl (eas_d (ev_var rfl) eas_nil) (.head _) (fun _ _ _ _ h => Or.inr h) rfl ⟨rfl, rfl, trivial⟩ trivial rfl (fun d as hp => by rw [hp.2.2]; trivial) (fun cls fs as hp => by obtain ⟨y, e⟩ := excO_as T hp; rw [e]; trivial)) rfl (fun d ρ' hz => ?_) (fun ρ' cls fs hz => ?_)))
        · obtain ⟨as, ⟨e0, e1, e2⟩, e3⟩ := hz
          subst e2
          subst e3
          have e4 : deedO x 0 at_ v = .ok x := by
            show rdO x at_ = _
            unfold rdO
            exact if_pos e0
          refine xs_seq (xs_no (no 1 rfl (by decide)) rfl (xs_seq (xs_no (no 2 rfl (by decide)) rfl (xs_no (no 3 rfl (by decide)) rfl ?_))))
          exact fin (by rw [e4]; rfl) (by rw [e4]; rfl)
        · obtain ⟨as, h, e3⟩ := hz
          obtain ⟨y, e4, h2⟩ := exc h
          subst e4
          subst e3
          exact ⟨y, rfl, h2⟩
      ·
        refine xs_seq (xs_no (no 0 rfl (by decide)) rfl (xs_seq (xs_yes (yes 1 rfl rfl) rfl (xs_dropEx (ev_methBX (x := (x, at_, v)) (ar := [.inl (.int at_), .inl (.int v)]) rfl (eas_d (ev_var rfl) (eas_d (ev_var rfl) eas_nil)) (.head _) rfl ⟨rfl, rfl, rfl, trivial⟩ hx rfl (fun d as hp => by obtain ⟨y, _, _, e⟩ := hp; rw [e]; trivial) (fun cls fs as hp => by obtain ⟨y, e⟩ := excO_as T hp; rw [e]; trivial)) rfl (fun d ρ' hz => ?_) (fun ρ' cls fs hz => ?_)))))
        · obtain ⟨as, ⟨y, e0, e1, e2⟩, e3⟩ := hz
          subst e2
          subst e3
          have e4 : deedO x 1 at_ v = .ok y := e0
          refine xs_seq (xs_no (no 2 rfl (by decide)) rfl (xs_no (no 3 rfl (by decide)) rfl ?_))
          exact fin (by rw [e4]; rfl) (by rw [e4]; rfl)
        · obtain ⟨as, h, e3⟩ := hz
          obtain ⟨y, e4, h2⟩ := exc h
          subst e4
          subst e3
          exact ⟨y, rfl, h2⟩
      ·
        refine xs_seq (xs_no (no 0 rfl (by decide)) rfl (xs_seq (xs_no (no 1 rfl (by decide)) rfl (xs_seq (xs_yes (yes 2 rfl rfl) rfl (xs_dropEx (ev_methBX (x := (x, v)) (ar := [.inl (.int v)]) rfl (eas_d (ev_var rfl) eas_nil) (.head _) rfl ⟨rfl, rfl, trivial⟩ hx rfl (fun d as hp => by obtain ⟨y, _, _, e⟩ := hp; rw [e]; trivial) (fun cls fs as hp => by obtain ⟨y, e⟩ := excO_as T hp; rw [e]; trivial)) rfl (fun d ρ' hz => ?_) (fun ρ' cls fs hz => ?_)))))))
        · obtain ⟨as, ⟨y, e0, e1, e2⟩, e3⟩ := hz
          subst e2
          subst e3
          have e4 : deedO x 2 at_ v = .ok y := e0
          refine xs_no (no 3 rfl (by decide)) rfl ?_
          exact fin (by rw [e4]; rfl) (by rw [e4]; rfl)
        · obtain ⟨as, h, e3⟩ := hz
          obtain ⟨y, e4, h2⟩ := exc h
          subst e4
          subst e3
          exact ⟨y, rfl, h2⟩
      ·
        refine xs_seq (xs_no (no 0 rfl (by decide)) rfl (xs_seq (xs_no (no 1 rfl (by decide)) rfl (xs_seq (xs_no (no 2 rfl (by decide)) rfl (xs_yes (yes 3 rfl rfl) rfl (xs_dropEx (ev_methBX (x := x) (ar := []) rfl eas_nil (.head _) rfl ⟨rfl, trivial⟩ ⟨hx, ha⟩ rfl (fun d as hp => by obtain ⟨y, _, _, e⟩ := hp; rw [e]; trivial) (fun cls fs as hp => by obtain ⟨y, e⟩ := excO_as T hp; rw [e]; trivial)) rfl (fun d ρ' hz => ?_) (fun ρ' cls fs hz => ?_))))))))
        · obtain ⟨as, ⟨y, e0, e1, e2⟩, e3⟩ := hz
          subst e2
          subst e3
          have e4 : deedO x 3 at_ v = .ok y := e0
          exact fin (by rw [e4]; rfl) (by rw [e4]; rfl)
        · obtain ⟨as, h, e3⟩ := hz
          obtain ⟨y, e4, h2⟩ := exc h
          subst e4
          subst e3
          exact ⟨y, rfl, h2⟩
    · rintro ρ' cls fs ⟨y, rfl, ⟨n, e1, rfl, rfl⟩ | ⟨n, e1, rfl, rfl⟩⟩
      · refine ⟨true, T.e_Fallen_Fallen, fun _ => ⟨fun fs' e a q => ?_, fun e => nomatch e⟩, fun e => nomatch e⟩
        cases e
        refine xs_asgF (ds := kF n) (ef_lst (ea_cons (ev_isGF rfl T.ec_Fallen (fun u h => h) T.kit_Fallen_OutOfRoom) (ea_cons (ev_isGF rfl T.ec_Fallen (fun u h => h) T.kit_Fallen_RoomError) (ea_cons (ev_isGF rfl T.ec_Fallen (fun u h => h) T.kit_Fallen_ValueError) (ea_cons (ev_xf rfl rfl) ea_nil)))) (Nat.le_of_ble_eq_true rfl)) ?_
        exact fin (by rw [e1]; rfl) (by rw [e1]; rfl)
      · refine ⟨false, T.e_OutOfRoom_Fallen, (by intro e; cases e), fun _ => ⟨true, T.e_OutOfRoom_OutOfRoom, fun _ => ⟨fun fs' e a q => ?_, fun e => nomatch e⟩, fun e => nomatch e⟩⟩
        cases e
        refine xs_asgF (ds := kO n) (ef_lst (ea_cons ev_cb (ea_cons (ev_isGF rfl T.ec_OutOfRoom (fun u h => h) T.kit_OutOfRoom_RoomError) (ea_cons (ev_isGF rfl T.ec_OutOfRoom (fun u h => h) T.kit_OutOfRoom_ValueError) (ea_cons (ev_xf rfl rfl) ea_nil)))) (Nat.le_of_ble_eq_true rfl)) ?_
        exact fin (by rw [e1]; rfl) (by rw [e1]; rfl)
theorem ok__law_noted (T : Tx K mg) : FnOk P w K mg base CX0 3 T.a__law_noted T.d__law_noted ["_law_stand", "_law_which", "_law_number", "_law_cell"] (sp__law_noted T) := by
  refine fn_r T.F__law_noted sc__law_noted (fun _ => rfl) (fun cdv A outer s H E hr =>
      (pss_cons (ps_asg (pv 0) (gtupK (n := 3) (K := K) rfl rfl (pgs_cons (pg_name (i := 4) sc__law_noted.nd rfl (by first | exact Or.inl rfl | exact Or.inr rfl)) (pgs_cons (pg_name (i := 5) sc__law_noted.nd rfl (by first | exact Or.inl rfl | exact Or.inr rfl)) (pgs_cons (pg_name (i := 6) sc__law_noted.nd rfl (by first | exact Or.inl rfl | exact Or.inr rfl)) pgs_nil)))))
      (pss_cons (ps_set (i := 7) sc__law_noted.nd rfl (by first | exact Or.inl rfl | exact Or.inr rfl) (pe_call (ok__law_fall_at T) hr (by rfl) T.g__law_fall_at T.F__law_fall_at.kp T.b__law_fall_at .nil pass0 (pa_cons (pv 3) (pa_cons (pv 6) pa_nil))))
      (pss_cons (ps_set (i := 5) sc__law_noted.nd rfl (by first | exact Or.inl rfl | exact Or.inr rfl) (pe_callTy (listK (K := K) rfl) (by rfl) T.z_list (by decide +kernel) (pa_cons (pv 5) pa_nil)))
      (pss_cons (ps_if (pt_cmp (pc_isN (pv 7)) rfl) (pss_one (ps_asg (pv 2) (pg_sub (pv 5) (pv 1) (set_A (hu_of hr))))) (pss_one (ps_if (pt_cmpR (neK (K := K) rfl hr.units) (pv 7) (pe_tup pa_nil) (nomark _)) (pss_one (ps_asg pe_non (pg_sub (pv 5) (pv 1) (set_A (hu_of hr))))) pss_nil)))
      (pss_one (ps_ret (pe_tup (pa_cons (pv 4) (pa_cons (pv 5) (pa_cons (pe_op (addK (K := K) rfl) (pv 6) pe_int) pa_nil))))))))))) (fun x hx => ?_)
  obtain ⟨x, which, n, c⟩ := x
  obtain ⟨h2, h0, h1, h3, h4⟩ := hx
  dsimp only at h2 h0 h1 h3 h4 ⊢
  refine xs_seq (xs_asg (ev_var (d := toldD x) rfl) (eg_tup (ds := [.lst (x.cs.map .int), .lst (x.ns.map ntD), .int x.a]) (egs_cons eg_name (egs_cons eg_name (egs_cons eg_name egs_nil))) rfl) ?_)
  dsimp only
  refine xs_seq (xs_asg (ev_fall_at (c := c) (k := x.a) (ev_var rfl) (ev_var rfl) ⟨h0, by omega⟩) eg_name ?_)
  dsimp only
  refine xs_seq (xs_asgF (ds := x.ns.map ntD) (ef_listL (EvM.b (EvD.m (ev_var (d := .lst (x.ns.map ntD)) rfl)))) ?_)
  dsimp only
  have hix : ixN (x.ns.map ntD).length which = some which.toNat := by unfold ixN; rw [if_pos h3, if_pos (by rw [List.length_map]; omega)]
  have fin : ∀ {ns : List (Option Int)} {r1 r2 r3 r5 r7 : Option SV}, (ntS (x, some (0, c)) which n).1 = ⟨x.cs, ns, x.a + 1⟩ → ExS K (tRet (tTup (tCons (tVar 4) (tCons (tVar 5) (tCons (tOp (rAddA K) (tVar 6) (tC (.int 1))) tNil))))) [r1, r2, r3, r5, some (.sh (.lst (x.cs.map .int))), some (.ol (ns.map ntD)), some (.sh (.int x.a)), r7] { nx := fun _ => (D.non = toldD (ntS (x, some (0, c)) which n).1), rt := fun d => d = toldD (ntS (x, some (0, c)) which n).1 } := fun {ns r1 r2 r3 r5 r7} e => by
    refine xs_fz 5 rfl (xs_ret (ev_tup (ea_cons (ev_var rfl) (ea_cons (ev_var rfl) (ea_cons (ev_addI (ev_var rfl) ev_ci) ea_nil))) (Nat.le_of_ble_eq_true rfl)) ?_)
    rw [e]
    rfl
  cases hq : fallQ c x.a with
  | none =>
    refine xs_seq (xs_yes (et_B ((ev_isN (ev_var (d := howD none) rfl).r).is rfl)) rfl ?_)
    refine xs_setO (k := which) (j := which.toNat) (d := ntD (some n)) rfl (ev_var (d := .int n) rfl) (ev_var rfl) hix ?_
    rw [← List.map_set (f := ntD)]
    refine fin ?_
    unfold ntS
    show (match fallQ c x.a with
      | none => _
      | some [] => _
      | some (_ :: _) => _ : S2).1 = _
    rw [hq]
  | some ss =>
    refine xs_seq (xs_no2 (b := false) (et_B ((ev_isN (ev_var (d := howD (some ss)) rfl).r).is rfl)) rfl ?_)
    have hfit : (D.tup (ss.map .int)).fit = true := Ft.fit (n := 1) (ft_tints ss) (by decide)
    cases ss with
    | nil =>
      refine xs_no (b := false) (EvT.is (et_t (ev_ne (d := .tup []) (e := .tup []) (ev_var (d := howD (some [])) rfl).r (ev_tup (ds := []) ea_nil (by decide)).r hfit hfit)) rfl) rfl ?_
      refine fin (ns := x.ns) ?_
      unfold ntS
      show (match fallQ c x.a with
        | none => _
        | some [] => _
        | some (_ :: _) => _ : S2).1 = _
      rw [hq]
    | cons s ss =>
      refine xs_yes (b := true) (EvT.is (et_t (ev_ne (d := .tup ((s :: ss).map .int)) (e := .tup []) (ev_var (d := howD (some (s :: ss))) rfl).r (ev_tup (ds := []) ea_nil (by decide)).r hfit rfl)) rfl) rfl ?_
      refine xs_setO (k := which) (j := which.toNat) (d := ntD none) rfl ev_cn (ev_var rfl) hix ?_
      rw [← List.map_set (f := ntD)]
      refine fin ?_
      unfold ntS
      show (match fallQ c x.a with
        | none => _
        | some [] => _
        | some (_ :: _) => _ : S2).1 = _
      rw [hq]
theorem ok__law_begun (T : Tx K mg) {clL : List (Str × Addr)} {usL : List V} (hL : NdefX.CellsAt (cl_law_lam clL) ["_law_falls"] (usL.map some) base em) : FnOk P w K mg base CX0 10 T.a__law_begun T.d__law_begun ["_law_store", "_law_stand", "_law_cell"] (sp__law_begun T clL usL) := by
  refine fn_b T.F__law_begun sc__law_begun (fun _ => rfl) (fun cdv A outer s H E hr =>
      (pss_cons (ps_set (i := 3) sc__law_begun.nd rfl (by first | exact Or.inl rfl | exact Or.inr rfl) (pe_call (ok__law_noted T) (hr.mono (by decide)) (by rfl) T.g__law_noted T.F__law_noted.kp T.b__law_noted .nil pass0 (pa_cons (pv 1) (pa_cons pe_int (pa_cons pe_int (pa_cons (pv 2) pa_nil))))))
      (pss_cons (ps_set (i := 4) sc__law_begun.nd rfl (by first | exact Or.inl rfl | exact Or.inr rfl) (pe_lst (pa_cons pe_bl (pa_cons pe_bl (pa_cons pe_bl (pa_cons (pe_ix (ixK (K := K) rfl) (pv 1) pe_int (fun _ _ => rfl)) pa_nil))))))
      (pss_cons (ps_if (pt_cmp (pc_isN (pe_call (ok__law_fall_at T) (hr.mono (by decide)) (by rfl) T.g__law_fall_at T.F__law_fall_at.kp T.b__law_fall_at .nil pass0 (pa_cons (pv 2) (pa_cons (pe_ix (ixK (K := K) rfl) (pv 1) pe_int (fun _ _ => rfl)) pa_nil)))) rfl) (pss_cons (ps_set (i := 4) sc__law_begun.nd rfl (by first | exact Or.inl rfl | exact Or.inr rfl) (pe_lst (pa_cons pe_bl (pa_cons pe_bl (pa_cons pe_bl (pa_cons (pe_ix (ixK (K := K) rfl) (pv 3) pe_int (fun _ _ => rfl)) pa_nil))))))
      (pss_cons (ps_if (pt_cmp (pc_isN (pe_call (ok__law_fall_at T) (hr.mono (by decide)) (by rfl) T.g__law_fall_at T.F__law_fall_at.kp T.b__law_fall_at .nil pass0 (pa_cons (pv 2) (pa_cons (pe_ix (ixK (K := K) rfl) (pv 3) pe_int (fun _ _ => rfl)) pa_nil)))) rfl) (pss_one (ps_set (i := 4) sc__law_begun.nd rfl (by first | exact Or.inl rfl | exact Or.inr rfl) (pe_lst pa_nil))) pss_nil)
      (pss_one (ps_set (i := 3) sc__law_begun.nd rfl (by first | exact Or.inl rfl | exact Or.inr rfl) (pe_call (ok__law_noted T) (hr.mono (by decide)) (by rfl) T.g__law_noted T.F__law_noted.kp T.b__law_noted .nil pass0 (pa_cons (pv 3) (pa_cons pe_int (pa_cons pe_int (pa_cons (pv 2) pa_nil))))))))) pss_nil)
      (pss_cons (ps_if (pt_cmpR (neK (K := K) rfl hr.units) (pe_call (ok__law_refused T hL) hr (by rfl) T.g__law_refused T.F__law_refused.kp T.b__law_refused .nil pass0 (pa_cons (pv 0) (pa_cons pe_int (pa_cons pe_int (pa_cons pe_int pa_nil))))) (pv 4) (nomark _)) (pss_one (ps_ret pe_non)) pss_nil)
      (pss_one (ps_ret (pv 3)))))))) (fun x vs hv hx => ?_)
  obtain ⟨x, c⟩ := x
  obtain ⟨hx, ha, cc, hcc⟩ := hx
  have hx : Fit x := hx
  dsimp only at ha hcc
  have hnt : ∀ (y : S2) (w n : Int), y.2 = some (cc, c) → (ntS (y.1, some (0, c)) w n).1 = (ntS y w n).1 := fun y w n e => by
    obtain ⟨y1, y2⟩ := y
    have e : y2 = some (cc, c) := e
    subst e
    exact ntS_c (c' := 0) (cc := 0)
  have ha0 := hx.a0
  match vs, hv with
  | [v0, v1, v2], _ =>
    have hix : ∀ {ρ : DL.Env} {x : Stt} {i : Nat}, ρ[i]? = some (some (.sh (toldD x))) → EvD K (tOp (rIx K) (tVar i) (tC (.int 2))) ρ (.int x.a) := fun {ρ x i} h => ev_ixt (ds := [.lst (x.cs.map .int), .lst (x.ns.map ntD), .int x.a]) (ev_var (d := toldD x) h) ev_ci (atI_nat (j := 2) rfl)
    refine xs_seq (xs_asg (d := toldD (ntS x 0 0).1) (EvD.is (ev_call (x.1, 0, 0, c) (ea_cons (ev_var rfl) (ea_cons ev_ci (ea_cons ev_ci (ea_cons (ev_var rfl) ea_nil)))) ⟨hx.two, ha0, hx.a1, (show (0 : Int) ≤ 0 by decide), (show (0 : Int) < 2 by decide)⟩) (congrArg toldD (hnt x 0 0 hcc))) eg_name ?_)
    dsimp only
    refine xs_seq (xs_asgF (ds := kF x.1.a) (ef_lst (ea_cons ev_cb (ea_cons ev_cb (ea_cons ev_cb (ea_cons (hix (x := x.1) rfl) ea_nil)))) (Nat.le_of_ble_eq_true rfl)) ?_)
    dsimp only
    refine xs_cut (fun ρ => ρ = [some (.tr K ⟨false, some v0⟩ (stF T clL usL x)), some (.sh (toldD x.1)), some (.sh (.int c)), some (.sh (toldD (bgO x).st.1)), some (.ol (outL (bgO x)))]) ?_ ?_
    · have hq0 : how x = fallQ c x.1.a := by
        show fQ x.2 x.1.a = _
        rw [hcc]
        rfl
      refine xs_if (et_B (ev_isN (ev_fall_at (c := c) (k := x.1.a) (ev_var rfl) (hix (x := x.1) rfl) ⟨ha0, by have := hx.a1; omega⟩).r)) (fun h => ?_) (fun h => xs_next ?_)
      · have hn : how x = none := by
          rw [hq0]
          cases q : fallQ c x.1.a with
          | none => rfl
          | some ss => rw [q] at h; cases h
        have hb : bgO x = ntO (ntS x 0 0) 1 0 := by
          show (ntO x 0 0).bind _ = _
          unfold ntO
          rw [hn]
          rfl
        have hya : (ntS x 0 0).1.a = x.1.a + 1 := ntS_a x 0 0
        have hyf : (ntS x 0 0).2 = some (cc, c) := by rw [ntS_f]; exact hcc
        have hq1 : how (ntS x 0 0) = fallQ c (x.1.a + 1) := by
          show fQ (ntS x 0 0).2 (ntS x 0 0).1.a = _
          rw [hyf, hya]
          rfl
        rw [hb]
        have hy := hx.nt (w := 0) (n := 0) (by omega)
        generalize ntS x 0 0 = y at hya hyf hq1 hy ⊢
        refine xs_seq (xs_asgF (ds := kF (x.1.a + 1)) (EvF.is (ef_lst (ds := kF y.1.a) (ea_cons ev_cb (ea_cons ev_cb (ea_cons ev_cb (ea_cons (hix (x := y.1) rfl) ea_nil)))) (Nat.le_of_ble_eq_true rfl)) (by rw [hya])) ?_)
        dsimp only
        refine xs_cut (fun ρ => ρ = [some (.tr K ⟨false, some v0⟩ (stF T clL usL x)), some (.sh (toldD x.1)), some (.sh (.int c)), some (.sh (toldD y.1)), some (.ol (outL (ntO y 1 0)))]) ?_ ?_
        · refine xs_if (et_B (ev_isN (ev_fall_at (c := c) (k := y.1.a) (ev_var rfl) (hix (x := y.1) rfl) ⟨by omega, by omega⟩).r)) (fun h => xs_asgF (ef_lst ea_nil (by decide)) ?_) (fun h => xs_next ?_)
          · have : outL (ntO y 1 0) = [] := by
              unfold ntO
              rw [hq1, ← hya]
              cases q : fallQ c y.1.a with
              | none => rfl
              | some ss => rw [q] at h; cases h
            rw [this]
            rfl
          · have : outL (ntO y 1 0) = kF (x.1.a + 1) := by
              unfold ntO
              rw [hq1, ← hya]
              cases q : fallQ c y.1.a with
              | some ss => rfl
              | none => rw [q] at h; cases h
            rw [this]
            rfl
        · rintro ρ rfl
          refine xs_asg (d := toldD (ntS y 1 0).1) (EvD.is (ev_call (y.1, 1, 0, c) (ea_cons (ev_var rfl) (ea_cons ev_ci (ea_cons ev_ci (ea_cons (ev_var rfl) ea_nil)))) ⟨hy.two, hy.a0, hy.a1, (show (0 : Int) ≤ 1 by decide), (show (1 : Int) < 2 by decide)⟩) (congrArg toldD (hnt y 1 0 hyf))) eg_name ?_
          have : (ntO y 1 0).st = ntS y 1 0 := by
            unfold ntO
            split <;> rfl
          rw [this]
          rfl
      · have hn : (how x).isNone = false := by
          rw [hq0]
          cases q : fallQ c x.1.a with
          | some ss => rfl
          | none => rw [q] at h; cases h
        have hb : bgO x = .fell x.1.a (ntS x 0 0) := by
          show (ntO x 0 0).bind _ = _
          unfold ntO
          rw [hn]
          rfl
        rw [hb]
        rfl
    · rintro ρ rfl
      refine xs_seq (xs_ifE (ete_t (Y := fun b ρ' => b = false ∧ ρ' = [some (.tr K ⟨false, some v0⟩ (stF T clL usL (bgO x).st)), some (.sh (toldD x.1)), some (.sh (.int c)), some (.sh (toldD (bgO x).st.1)), some (.ol (outL (bgO x)))]) (eve_ne (Y := fun e ρ' => e = .bl false ∧ ρ' = [some (.tr K ⟨false, some v0⟩ (stF T clL usL (bgO x).st)), some (.sh (toldD x.1)), some (.sh (.int c)), some (.sh (toldD (bgO x).st.1)), some (.ol (outL (bgO x)))])
        (ev_callB (x := (x, 3, 0, 0)) (ar := [.inr (0, ⟨false, some v0⟩), .inl (.int 3), .inl (.int 0), .inl (.int 0)]) (eas_s rfl (eas_d ev_ci (eas_d ev_ci (eas_d ev_ci eas_nil)))) ⟨rfl, rfl, rfl, rfl, trivial⟩ ⟨hx, by show x.1.a + 1 ≤ 900000; omega, Nat.le_refl 3⟩ rfl (fun d as hp => by rw [hp.2]; trivial) (fun _ _ _ z => z)) (fun d ρ' hz => ?_)) (fun d ρ' hz => ⟨false, hz.1, rfl, hz.2⟩)) (fun ρ' hz => nomatch hz.1) (fun ρ' hz => xs_next ?_))
      · obtain ⟨as, ⟨e1, e2⟩, e3⟩ := hz
        subst e1
        subst e2
        subst e3
        refine ⟨.lst (outL (bgO x)), EvM.r (em_var rfl), outL_fit _, outL_fit _, ?_, rfl⟩
        show D.bl (!PyData.eqv (D.lst (outL (bgO x))).pd _) = _
        rw [D.eqv_refl]
        rfl
      · obtain ⟨_, e⟩ := hz
        subst e
        exact xs_retO (ev_var rfl) ⟨_, ⟨rfl, rfl⟩, rfl, trivial⟩
theorem ok__law_written (T : Tx K mg) {clL : List (Str × Addr)} {usL : List V} (hL : NdefX.CellsAt (cl_law_lam clL) ["_law_falls"] (usL.map some) base em) : FnOk P w K mg base CX0 10 T.a__law_written T.d__law_written ["_law_store", "_law_stand", "_law_at", "_law_sign", "_law_cell"] (sp__law_written T clL usL) := by
  refine fn_b T.F__law_written sc__law_written (fun _ => rfl) (fun cdv A outer s H E hr =>
      (pss_cons (ps_asg (pv 1) (gtupK (n := 3) (K := K) rfl rfl (pgs_cons (pg_name (i := 5) sc__law_written.nd rfl (by first | exact Or.inl rfl | exact Or.inr rfl)) (pgs_cons (pg_name (i := 6) sc__law_written.nd rfl (by first | exact Or.inl rfl | exact Or.inr rfl)) (pgs_cons (pg_name (i := 7) sc__law_written.nd rfl (by first | exact Or.inl rfl | exact Or.inr rfl)) pgs_nil)))))
      (pss_cons (ps_set (i := 8) sc__law_written.nd rfl (by first | exact Or.inl rfl | exact Or.inr rfl) (pe_call (ok__law_fall_at T) (hr.mono (by decide)) (by rfl) T.g__law_fall_at T.F__law_fall_at.kp T.b__law_fall_at .nil pass0 (pa_cons (pv 4) (pa_cons (pv 7) pa_nil))))
      (pss_cons (ps_set (i := 9) sc__law_written.nd rfl (by first | exact Or.inl rfl | exact Or.inr rfl) (pe_lst (pa_cons pe_bl (pa_cons pe_bl (pa_cons pe_bl (pa_cons (pv 7) pa_nil))))))
      (pss_cons (ps_if (pt_cmp (pc_isN (pv 8)) rfl) (pss_cons (ps_set (i := 9) sc__law_written.nd rfl (by first | exact Or.inl rfl | exact Or.inr rfl) (pe_lst pa_nil))
      (pss_one (ps_set (i := 5) sc__law_written.nd rfl (by first | exact Or.inl rfl | exact Or.inr rfl) (pe_op (addK (K := K) rfl) (pe_op (addK (K := K) rfl) (pe_slice (slK (K := K) rfl) (pv 5) po_none (po_some (pv 2))) (pe_lst (pa_cons (pv 3) pa_nil))) (pe_slice (slK (K := K) rfl) (pv 5) (po_some (pe_op (addK (K := K) rfl) (pv 2) pe_int)) po_none))))) (pss_one (ps_if (pt_cmpR (neK (K := K) rfl hr.units) (pv 8) (pe_tup pa_nil) (nomark _)) (pss_one (ps_set (i := 5) sc__law_written.nd rfl (by first | exact Or.inl rfl | exact Or.inr rfl) (pe_op (addK (K := K) rfl) (pe_op (addK (K := K) rfl) (pe_slice (slK (K := K) rfl) (pv 5) po_none (po_some (pv 2))) (pe_lst (pa_cons (pe_ix (ixK (K := K) rfl) (pv 8) pe_int (fun _ _ => rfl)) pa_nil))) (pe_slice (slK (K := K) rfl) (pv 5) (po_some (pe_op (addK (K := K) rfl) (pv 2) pe_int)) po_none)))) pss_nil)))
      (pss_cons (ps_if (pt_cmpR (neK (K := K) rfl hr.units) (pe_call (ok__law_refused T hL) hr (by rfl) T.g__law_refused T.F__law_refused.kp T.b__law_refused .nil pass0 (pa_cons (pv 0) (pa_cons pe_int (pa_cons (pv 2) (pa_cons (pv 3) pa_nil))))) (pv 9) (nomark _)) (pss_one (ps_ret pe_non)) pss_nil)
      (pss_one (ps_ret (pe_tup (pa_cons (pv 5) (pa_cons (pv 6) (pa_cons (pe_op (addK (K := K) rfl) (pv 7) pe_int) pa_nil)))))))))))) (fun x vs hv hx => ?_)
  obtain ⟨x, at_, v, c⟩ := x
  obtain ⟨hx, ha, hin, hcl, cc, hcc⟩ := hx
  have hx : Fit x := hx
  have hin : inR x at_ := hin
  dsimp only at ha hcc hcl
  have ha0 := hx.a0
  obtain ⟨h0, h1⟩ := id hin
  have hq0 : how x = fallQ c x.1.a := by
    show fQ x.2 x.1.a = _
    rw [hcc]
    rfl
  obtain ⟨n, rfl⟩ := Int.eq_ofNat_of_zero_le h0
  match vs, hv with
  | [v0, v1, v2, v3, v4], _ =>
    refine xs_seq (xs_asg (ev_var (d := toldD x.1) rfl) (eg_tup (ds := [.lst (x.1.cs.map .int), .lst (x.1.ns.map ntD), .int x.1.a]) (egs_cons eg_name (egs_cons eg_name (egs_cons eg_name egs_nil))) rfl) ?_)
    dsimp only
    refine xs_seq (xs_asg (ev_fall_at (c := c) (k := x.1.a) (ev_var rfl) (ev_var rfl) ⟨ha0, by have := hx.a1; omega⟩) eg_name ?_)
    dsimp only
    refine xs_seq (xs_asgF (ds := kF x.1.a) (ef_lst (ea_cons ev_cb (ea_cons ev_cb (ea_cons ev_cb (ea_cons (ev_var rfl) ea_nil)))) (Nat.le_of_ble_eq_true rfl)) ?_)
    dsimp only
    have hcat : ∀ s : Int, ((x.1.cs.map D.int).take n ++ [D.int s] ++ (x.1.cs.map D.int).drop (n + 1)) = (x.1.cs.set n s).map D.int := fun s => by
      rw [List.set_eq_take_append_cons_drop, if_pos (by omega), List.map_append, List.map_cons, List.map_take, List.map_drop, List.append_assoc]
      rfl
    have hnew : ∀ {ρ : DL.Env} {te : TE} (s : Int), ρ[5]? = some (some (.sh (.lst (x.1.cs.map .int)))) → ρ[2]? = some (some (.sh (.int (n : Int)))) → EvD K te ρ (.int s) → EvF K (tOp (rAddA K) (tOp (rAddA K) (tSl (rSlA' K) (tVar 5) tNoPart (tPart (tVar 2))) (tLst (tCons te tNil))) (tSl (rSlA' K) (tVar 5) (tPart (tOp (rAddA K) (tVar 2) (tC (.int 1)))) tNoPart)) ρ ((x.1.cs.set n s).map D.int) := fun {ρ te} s h5 h2 hs =>
      EvF.is (ef_addL (ds := (x.1.cs.map D.int).take n ++ [D.int s]) (es := (x.1.cs.map D.int).drop (n + 1)) (EvF.m (ef_addL (ds := (x.1.cs.map D.int).take n) (es := [D.int s]) (EvF.m (EvF.is (ef_slL (ds := x.1.cs.map D.int) (EvM.b (EvD.m (ev_var h5))) eo_none (eo_some (ev_var h2))) (by rw [cutD_map, cut_to, List.map_take]))) (EvF.m (ef_lst (ea_cons hs ea_nil) (Nat.le_of_ble_eq_true rfl))) (by rw [List.length_take, List.length_map, List.length_singleton]; omega))) (EvF.m (EvF.is (ef_slL (ds := x.1.cs.map D.int) (EvM.b (EvD.m (ev_var h5))) (eo_some (ev_addI (ev_var h2) ev_ci)) eo_none) (by rw [cutD_map, show ((n : Int) + 1) = ((n + 1 : Nat) : Int) by omega, cut_from, List.map_drop]))) (by rw [List.length_append, List.length_take, List.length_drop, List.length_map, List.length_singleton]; omega)) (hcat s)
    have hwo : wrO x (n : Int) v = if (how x).isNone then .ok (wrS x n v) else .fell x.1.a (wrS x n v) := by
      unfold wrO
      rw [if_pos hin]
    refine xs_cut (fun ρ => ∃ r8, ρ = [some (.tr K ⟨false, some v0⟩ (stF T clL usL x)), some (.sh (toldD x.1)), some (.sh (.int (n : Int))), some (.sh (.int v)), some (.sh (.int c)), some (.sh (.lst ((wrS x n v).1.cs.map .int))), some (.sh (.lst (x.1.ns.map ntD))), some (.sh (.int x.1.a)), r8, some (.ol (outL (wrO x (n : Int) v)))]) ?_ ?_
    · rw [hwo]
      cases hq : fallQ c x.1.a with
      | none =>
        refine xs_yes (et_B ((ev_isN (ev_var (d := howD none) rfl).r).is rfl)) rfl ?_
        refine xs_seq (xs_asgF (ef_lst ea_nil (by decide)) ?_)
        dsimp only
        refine xs_asg (EvF.v (hnew v rfl rfl (ev_var rfl))) eg_name ⟨some (.sh (howD none)), ?_⟩
        unfold wrS
        rw [hq0, hq]
        rfl
      | some ss =>
        refine xs_no2 (b := false) (et_B ((ev_isN (ev_var (d := howD (some ss)) rfl).r).is rfl)) rfl ?_
        have hfit : (D.tup (ss.map .int)).fit = true := Ft.fit (n := 1) (ft_tints ss) (by decide)
        cases ss with
        | nil =>
          refine xs_no (b := false) (EvT.is (et_t (ev_ne (d := .tup []) (e := .tup []) (ev_var (d := howD (some [])) rfl).r (ev_tup (ds := []) ea_nil (by decide)).r hfit hfit)) rfl) rfl ⟨some (.sh (howD (some []))), ?_⟩
          unfold wrS
          rw [hq0, hq]
          rfl
        | cons s ss =>
          refine xs_yes (b := true) (EvT.is (et_t (ev_ne (d := .tup ((s :: ss).map .int)) (e := .tup []) (ev_var (d := howD (some (s :: ss))) rfl).r (ev_tup (ds := []) ea_nil (by decide)).r hfit rfl)) rfl) rfl ?_
          refine xs_asg (EvF.v (hnew s rfl rfl (ev_ixt (ds := (s :: ss).map D.int) (ev_var (d := howD (some (s :: ss))) rfl) ev_ci (atI_nat (j := 0) rfl)))) eg_name ⟨some (.sh (howD (some (s :: ss)))), ?_⟩
          unfold wrS
          rw [hq0, hq]
          rfl
    · rintro ρ ⟨r8, rfl⟩
      have hst : (deedO x 1 (n : Int) v).st = wrS x n v := by
        show (wrO x n v).st = _
        rw [hwo]
        split <;> rfl
      refine xs_seq (xs_ifE (ete_t (Y := fun b ρ' => b = false ∧ ρ' = [some (.tr K ⟨false, some v0⟩ (stF T clL usL (wrS x n v))), some (.sh (toldD x.1)), some (.sh (.int (n : Int))), some (.sh (.int v)), some (.sh (.int c)), some (.sh (.lst ((wrS x n v).1.cs.map .int))), some (.sh (.lst (x.1.ns.map ntD))), some (.sh (.int x.1.a)), r8, some (.ol (outL (wrO x (n : Int) v)))]) (eve_ne (Y := fun e ρ' => e = .bl false ∧ ρ' = [some (.tr K ⟨false, some v0⟩ (stF T clL usL (wrS x n v))), some (.sh (toldD x.1)), some (.sh (.int (n : Int))), some (.sh (.int v)), some (.sh (.int c)), some (.sh (.lst ((wrS x n v).1.cs.map .int))), some (.sh (.lst (x.1.ns.map ntD))), some (.sh (.int x.1.a)), r8, some (.ol (outL (wrO x (n : Int) v)))])
        (ev_callB (x := (x, 1, (n : Int), v)) (ar := [.inr (0, ⟨false, some v0⟩), .inl (.int 1), .inl (.int (n : Int)), .inl (.int v)]) (eas_s rfl (eas_d ev_ci (eas_d (ev_var rfl) (eas_d (ev_var rfl) eas_nil)))) ⟨rfl, rfl, rfl, rfl, trivial⟩ ⟨hx, by show x.1.a + 1 ≤ 900000; omega, (show 1 ≤ 3 by decide)⟩ rfl (fun d as hp => by rw [hp.2]; trivial) (fun _ _ _ z => z)) (fun d ρ' hz => ?_)) (fun d ρ' hz => ⟨false, hz.1, rfl, hz.2⟩)) (fun ρ' hz => nomatch hz.1) (fun ρ' hz => xs_next ?_))
      · obtain ⟨as, ⟨e1, e2⟩, e3⟩ := hz
        subst e1
        subst e2
        subst e3
        refine ⟨.lst (outL (wrO x n v)), EvM.r (em_var rfl), outL_fit _, outL_fit _, ?_, ?_⟩
        · show D.bl (!PyData.eqv (D.lst (outL (wrO x n v))).pd _) = _
          rw [D.eqv_refl]
          rfl
        · dsimp only
          rw [hst]
          rfl
      · obtain ⟨_, e⟩ := hz
        subst e
        refine xs_retO (d := toldD (wrS x n v).1) (EvD.is (ev_tup (ds := [.lst ((wrS x n v).1.cs.map .int), .lst (x.1.ns.map ntD), .int (x.1.a + 1)]) (ea_cons (ev_var rfl) (ea_cons (ev_var rfl) (ea_cons (ev_addI (ev_var rfl) ev_ci) ea_nil))) (Nat.le_of_ble_eq_true rfl)) ?_) ⟨_, ⟨rfl, rfl⟩, rfl, trivial⟩
        unfold toldD
        rw [wrS_ns, wrS_a]
theorem ete_refused {T : Tx K mg} {clL : List (Str × Addr)} {usL : List V} {ρ : DL.Env} {v0 : V} {x : S2} {dd : Nat} {at_ v : Int} {j : Nat} {ta tb tc : TE} {E : XK} (h0 : ρ[0]? = some (some (.tr K ⟨false, some v0⟩ (stF T clL usL x)))) (ha : EvD K ta ρ (.int (dd : Int))) (hb : EvD K tb ρ (.int at_)) (hc : EvD K tc ρ (.int v)) (hx : Fit x) (hd : dd ≤ 3) (h1 : x.1.a + 1 ≤ 900000)
    (hj : ρ[j + 1]? = some (some (.ol (outL (deedO x dd at_ v))))) : EvTE K (tTest (tOp (rNeD K) (tCall (sp__law_refused T clL usL) [] E (tCons (tVar 0) (tCons ta (tCons tb (tCons tc tNil))))) (tVar (j + 1)))) ρ (fun b ρ' => b = false ∧ ρ' = ρ.set 0 (some (.tr K ⟨false, some v0⟩ (stF T clL usL (deedO x dd at_ v).st)))) :=
  ete_t (eve_ne (Y := fun e ρ' => e = .bl false ∧ ρ' = ρ.set 0 (some (.tr K ⟨false, some v0⟩ (stF T clL usL (deedO x dd at_ v).st)))) (ev_callB (x := (x, dd, at_, v)) (ar := [.inr (0, ⟨false, some v0⟩), .inl (.int (dd : Int)), .inl (.int at_), .inl (.int v)]) (eas_s h0 (eas_d ha (eas_d hb (eas_d hc eas_nil)))) ⟨h0, rfl, rfl, rfl, trivial⟩ ⟨hx, h1, hd⟩ rfl (fun d as hp => by rw [hp.2]; trivial) (fun _ _ _ z => z)) (fun d ρ' hz => by
    obtain ⟨as, ⟨e1, e2⟩, e3⟩ := hz
    subst e1
    subst e2
    subst e3
    refine ⟨.lst (outL (deedO x dd at_ v)), EvM.r (em_var ?_), outL_fit _, outL_fit _, ?_, rfl⟩
    · show (ρ.set 0 _)[j + 1]? = _
      rw [List.getElem?_set_ne (Nat.succ_ne_zero j).symm]
      exact hj
    · show D.bl (!PyData.eqv (D.lst (outL (deedO x dd at_ v))).pd _) = _
      rw [D.eqv_refl]
      rfl)) fun d ρ' hz => ⟨false, hz.1, rfl, hz.2⟩
theorem Beh.refl {x : S2} (h : x.1.ns.length = 2) : Beh x x := ⟨Int.le_refl _, by omega, h, rfl, rfl⟩
theorem Beh.nt {x y : S2} (w n : Int) (h : Beh x y) (ha : y.1.a ≤ x.1.a + 1) : Beh x (ntS y w n) := ⟨by rw [ntS_a]; have := h.a0; omega, by rw [ntS_a]; omega, by rw [ntS_len]; exact h.two, by rw [ntS_f]; exact h.f, by rw [ntS_cs]; exact h.len⟩
theorem Beh.wr {x : S2} (h : x.1.ns.length = 2) (a v : Int) : Beh x (wrS x a v) := ⟨by rw [wrS_a]; omega, by rw [wrS_a]; omega, by rw [wrS_ns]; exact h, wrS_f x a v, wrS_len x a v⟩
theorem ntO_st (x : S2) (w n : Int) : (ntO x w n).st = ntS x w n := by
  unfold ntO
  split <;> rfl
theorem Beh.bg {x : S2} (h : x.1.ns.length = 2) : Beh x (bgO x).st := by
  have h1 : Beh x (ntS x 0 0) := (Beh.refl h).nt 0 0 (by omega)
  show Beh x ((ntO x 0 0).bind fun y => ntO y 1 0).st
  unfold ntO
  split
  · show Beh x (ntO (ntS x 0 0) 1 0).st
    rw [ntO_st]
    exact h1.nt 1 0 (by rw [ntS_a]; exact Int.le_refl _)
  · exact h1
theorem ok__law_deed (T : Tx K mg) {clL : List (Str × Addr)} {usL : List V} (hL : NdefX.CellsAt (cl_law_lam clL) ["_law_falls"] (usL.map some) base em) : FnOk P w K mg base CX0 11 T.a__law_deed T.d__law_deed ["_law_store", "_law_stand", "_law_cell", "_law_falls", "_law_k"] (sp__law_deed T clL usL) := by
  refine fn_b T.F__law_deed sc__law_deed (fun _ => rfl) (fun cdv A outer s H E hr =>
      (pss_cons (ps_set (i := 5) sc__law_deed.nd rfl (by first | exact Or.inl rfl | exact Or.inr rfl) (pe_call (ok__law_mixed T) (hr.mono (by decide)) (by rfl) T.g__law_mixed T.F__law_mixed.kp T.b__law_mixed .nil pass0 (pa_cons (pv 2) (pa_cons (pv 4) pa_nil))))
      (pss_cons (ps_set (i := 6) sc__law_deed.nd rfl (by first | exact Or.inl rfl | exact Or.inr rfl) (pe_callB (lenK (K := K) rfl) (by rfl) T.z_len (by decide +kernel) (pa_cons (pe_ix (ixK (K := K) rfl) (pv 1) pe_int (fun _ _ => rfl)) pa_nil)))
      (pss_cons (ps_set (i := 7) sc__law_deed.nd rfl (by first | exact Or.inl rfl | exact Or.inr rfl) (pe_op (addK (K := K) rfl) (pe_op op_sub (pe_op op_mod (pv 2) (pe_op op_sub (pe_op op_mulA pe_int (pe_op op_pow pe_int pe_int)) pe_int)) (pe_op op_pow pe_int pe_int)) pe_int))
      (pss_cons (ps_set (i := 8) sc__law_deed.nd rfl (by first | exact Or.inl rfl | exact Or.inr rfl) (pe_op op_mod (pe_op op_fdivW (pv 5) pe_int) (pe_callB (call_max2 rfl) (by rfl) T.z_max (by decide +kernel) (pa_cons pe_int (pa_cons (pv 6) pa_nil)))))
      (pss_cons (ps_if (PW.pt (pw_or (pt_cmpR (eqK (K := K) rfl hr.units) (pe_op op_mod (pv 5) pe_int) pe_int (nomark _)) (pw_or1 (pt_cmpR (eqK (K := K) rfl hr.units) (pv 6) pe_int (nomark _))))) (pss_cons (ps_set (i := 8) sc__law_deed.nd rfl (by first | exact Or.inl rfl | exact Or.inr rfl) (pe_ix (ixK (K := K) rfl) (pe_lst (pa_cons (pv 6) (pa_cons (pe_un un_neg pe_int) (pa_cons (pe_op (addK (K := K) rfl) (pv 6) (pe_op op_mod (pv 2) (pe_op op_pow pe_int pe_int))) (pa_cons (pe_op op_sub (pe_un un_neg pe_int) (pe_op op_mod (pv 2) (pe_op op_pow pe_int pe_int))) pa_nil))))) (pe_op op_mod (pe_op op_fdivW (pv 5) pe_int) pe_int) (fun _ _ => rfl)))
      (pss_cons (ps_set (i := 9) sc__law_deed.nd rfl (by first | exact Or.inl rfl | exact Or.inr rfl) (pe_lst (pa_cons pe_bl (pa_cons pe_bl (pa_cons pe_bl (pa_cons (pv 8) pa_nil))))))
      (pss_cons (ps_if (pt_cmpR (neK (K := K) rfl hr.units) (pe_call (ok__law_refused T hL) (hr.mono (by decide)) (by rfl) T.g__law_refused T.F__law_refused.kp T.b__law_refused .nil pass0 (pa_cons (pv 0) (pa_cons (pe_op op_mod (pe_op op_fdivW (pv 5) pe_int) pe_int) (pa_cons (pv 8) (pa_cons (pv 7) pa_nil))))) (pv 9) (nomark _)) (pss_one (ps_ret pe_non)) pss_nil)
      (pss_one (ps_ret (pv 1)))))) pss_nil)
      (pss_cons (ps_if (pt_cmpR op_lt (pe_op op_mod (pv 5) pe_int) pe_int (nomark _)) (pss_one (ps_ret (pe_call (ok__law_written T hL) hr (by rfl) T.g__law_written T.F__law_written.kp T.b__law_written .nil pass0 (pa_cons (pv 0) (pa_cons (pv 1) (pa_cons (pv 8) (pa_cons (pv 7) (pa_cons (pv 3) pa_nil)))))))) pss_nil)
      (pss_cons (ps_if (pt_cmpR (eqK (K := K) rfl hr.units) (pe_op op_mod (pv 5) pe_int) pe_int (nomark _)) (pss_one (ps_ret (pe_call (ok__law_begun T hL) hr (by rfl) T.g__law_begun T.F__law_begun.kp T.b__law_begun .nil pass0 (pa_cons (pv 0) (pa_cons (pv 1) (pa_cons (pv 3) pa_nil)))))) pss_nil)
      (pss_cons (ps_if (PW.pt (pw_and (pt_cmpR (eqK (K := K) rfl hr.units) (pe_op op_mod (pv 5) pe_int) pe_int (nomark _)) (pw_and1 (pt_cmpR (neK (K := K) rfl hr.units) (pe_methD (pv 0) (.cons (by decide) T.cl_Store T.m_Store_read (ok_Store_read T hL) T.b_Store_read .nil) hr passX0 (pa_cons (pv 8) pa_nil)) (pe_ix (ixK (K := K) rfl) (pe_ix (ixK (K := K) rfl) (pv 1) pe_int (fun _ _ => rfl)) (pv 8) (fun _ _ => rfl)) (nomark _))))) (pss_one (ps_ret pe_non)) pss_nil)
      (pss_cons (ps_if (pt_cmpR op_gt (pe_op op_mod (pv 5) pe_int) pe_int (nomark _)) (pss_cons (ps_set (i := 10) sc__law_deed.nd rfl (by first | exact Or.inl rfl | exact Or.inr rfl) (pe_op op_mod (pv 2) (pe_op op_pow pe_int pe_int)))
      (pss_cons (ps_set (i := 11) sc__law_deed.nd rfl (by first | exact Or.inl rfl | exact Or.inr rfl) (pe_call (ok__law_noted T) (hr.mono (by decide)) (by rfl) T.g__law_noted T.F__law_noted.kp T.b__law_noted .nil pass0 (pa_cons (pv 1) (pa_cons (pe_op op_mod (pv 10) pe_int) (pa_cons (pv 10) (pa_cons (pv 3) pa_nil))))))
      (pss_cons (ps_set (i := 9) sc__law_deed.nd rfl (by first | exact Or.inl rfl | exact Or.inr rfl) (pe_lst (pa_cons pe_bl (pa_cons pe_bl (pa_cons pe_bl (pa_cons (pe_ix (ixK (K := K) rfl) (pv 1) pe_int (fun _ _ => rfl)) pa_nil))))))
      (pss_cons (ps_if (pt_cmp (pc_isN (pe_call (ok__law_fall_at T) (hr.mono (by decide)) (by rfl) T.g__law_fall_at T.F__law_fall_at.kp T.b__law_fall_at .nil pass0 (pa_cons (pv 3) (pa_cons (pe_ix (ixK (K := K) rfl) (pv 1) pe_int (fun _ _ => rfl)) pa_nil)))) rfl) (pss_one (ps_set (i := 9) sc__law_deed.nd rfl (by first | exact Or.inl rfl | exact Or.inr rfl) (pe_lst pa_nil))) pss_nil)
      (pss_cons (ps_if (pt_cmpR (neK (K := K) rfl hr.units) (pe_call (ok__law_refused T hL) (hr.mono (by decide)) (by rfl) T.g__law_refused T.F__law_refused.kp T.b__law_refused .nil pass0 (pa_cons (pv 0) (pa_cons pe_int (pa_cons pe_int (pa_cons (pv 10) pa_nil))))) (pv 9) (nomark _)) (pss_one (ps_ret pe_non)) pss_nil)
      (pss_one (ps_ret (pv 11)))))))) pss_nil)
      (pss_one (ps_ret (pv 1))))))))))))) (fun x vs hv hx => ?_)
  obtain ⟨x, cell, c, k⟩ := x
  obtain ⟨hx, ha, hcl, ⟨cc, hcc⟩, hk0, hk1⟩ := hx
  have hx : Fit x := hx
  dsimp only at ha hcl hcc hk0 hk1
  have ha0 := hx.a0
  have htwo := hx.two
  have hq0 : how x = fallQ c x.1.a := by
    show fQ x.2 x.1.a = _
    rw [hcc]
    rfl
  have hnt : ∀ (w n : Int), (ntS (x.1, some (0, c)) w n).1 = (ntS x w n).1 := fun w n => by
    obtain ⟨y1, y2⟩ := x
    have e : y2 = some (cc, c) := hcc
    subst e
    exact ntS_c (c' := 0) (cc := 0)
  match vs, hv with
  | [v0, v1, v2, v3, v4], _ =>
    have hcells : ∀ {ρ : DL.Env}, ρ[1]? = some (some (.sh (toldD x.1))) → EvD K (tOp (rIx K) (tVar 1) (tC (.int 0))) ρ (.lst (x.1.cs.map .int)) := fun {ρ} h => ev_ixt (ds := [.lst (x.1.cs.map .int), .lst (x.1.ns.map ntD), .int x.1.a]) (ev_var (d := toldD x.1) h) ev_ci (atI_nat (j := 0) rfl)
    refine xs_seq (xs_asg (ev_mixed (c := cell) (k := k) (ev_var rfl) (ev_var rfl) ⟨hk0, by omega⟩) eg_name ?_)
    dsimp only
    have hb := mixed_b cell k
    generalize mixed cell k = dr at hb ⊢
    refine xs_seq (xs_asg (ev_lenM (f := D.int) (xs := x.1.cs) (EvM.b (EvD.m (hcells rfl)))) eg_name ?_)
    dsimp only
    refine xs_seq (xs_asg (d := .int (cell % (2 * 10 ^ 60 - 1) - 10 ^ 60 + 1)) (ev_addI (i := cell % (2 * 10 ^ 60 - 1) - 10 ^ 60) (j := 1) (ev_I (i := cell % (2 * 10 ^ 60 - 1)) (j := 10 ^ 60) (ev_IC (i := cell) (j := 2 * 10 ^ 60 - 1) (ev_var rfl) (ev_I (i := 2 * 10 ^ 60) (j := 1) (ev_mulI (i := 2) (j := 10 ^ 60) ev_ci (ev_pow (i := 10) (k := 60) ⟨by decide, by decide, by decide⟩) (DL.mulW_l (by decide) (by decide))) ev_ci) (by decide)) (ev_pow (i := 10) (k := 60) ⟨by decide, by decide, by decide⟩)) ev_ci) eg_name ?_)
    dsimp only
    generalize cell % (2 * 10 ^ 60 - 1) - 10 ^ 60 + 1 = sg
    refine xs_seq (xs_asg (d := .int (dr / 64 % max 1 (x.1.cs.length : Int))) (ev_IC (i := dr / 64) (j := max 1 (x.1.cs.length : Int)) (ev_IC (i := dr) (j := 64) (ev_var rfl) ev_ci ⟨by decide, by decide⟩) (ev_max2 (i := 1) (j := (x.1.cs.length : Int)) ev_ci (ev_var rfl)) (by omega)) eg_name ?_)
    dsimp only
    have hm0 := Int.emod_nonneg (dr / 64) (show max 1 (x.1.cs.length : Int) ≠ 0 by omega)
    have hm1 := Int.emod_lt_of_pos (dr / 64) (show 0 < max 1 (x.1.cs.length : Int) by omega)
    generalize dr / 64 % max 1 (x.1.cs.length : Int) = at_ at hm0 hm1 ⊢
    have hdr : ∀ {ρ : DL.Env} (n : Int), 0 < n ∧ n < 100 → ρ[5]? = some (some (.sh (.int dr))) → EvD K (tOp (rI (fun _ j => 0 < j) fun i j => .int (i % j)) (tVar 5) (tC (.int n))) ρ (.int (dr % n)) := fun {ρ} n hn h => ev_IC (i := dr) (j := n) (ev_var h) ev_ci hn.1
    by_cases hc : dr % 8 = 0 ∨ x.1.cs.length = 0
    · refine xs_seq (xs_yes (b := true) (EvT.is (et_or' (et_t (ev_eqI (i := dr % 8) (j := 0) (hdr 8 (by decide) rfl) ev_ci)) (et_t (ev_eqI (i := (x.1.cs.length : Int)) (j := 0) (ev_var rfl) ev_ci))) (by simp only [Bool.or_eq_true, decide_eq_true_eq]; omega)) rfl ?_)
      have h40 := Int.emod_nonneg cell (show (10 : Int) ^ 40 ≠ 0 by decide)
      obtain ⟨a, hout, hat⟩ : ∃ a : Int, ¬ inR x a ∧ atI [D.int (x.1.cs.length : Int), .int (-1), .int ((x.1.cs.length : Int) + cell % 10 ^ 40), .int (-1 - cell % 10 ^ 40)] (dr / 8 % 4) = some (.int a) := by
        rcases (show dr / 8 % 4 = 0 ∨ dr / 8 % 4 = 1 ∨ dr / 8 % 4 = 2 ∨ dr / 8 % 4 = 3 by omega) with h | h | h | h <;> rw [h]
        · exact ⟨_, by unfold inR; omega, atI_nat (j := 0) rfl⟩
        · exact ⟨_, by unfold inR; omega, atI_nat (j := 1) rfl⟩
        · exact ⟨_, by unfold inR; omega, atI_nat (j := 2) rfl⟩
        · exact ⟨_, by unfold inR; omega, atI_nat (j := 3) rfl⟩
      have hp40 : ∀ {ρ : DL.Env}, ρ[2]? = some (some (.sh (.int cell))) → EvD K (tOp (rI (fun _ j => 0 < j) fun i j => .int (i % j)) (tVar 2) (tOp (rI CPow fun i j => .int (i ^ j.toNat)) (tC (.int 10)) (tC (.int 40)))) ρ (.int (cell % 10 ^ 40)) := fun {ρ} h => ev_IC (i := cell) (j := 10 ^ 40) (ev_var h) (ev_pow (i := 10) (k := 40) ⟨by decide, by decide, by decide⟩) (by decide)
      refine xs_seq (xs_asg (ev_ixl (ds := [D.int (x.1.cs.length : Int), .int (-1), .int ((x.1.cs.length : Int) + cell % 10 ^ 40), .int (-1 - cell % 10 ^ 40)]) (i := dr / 8 % 4) (EvM.b (EvF.m (ef_lst (ea_cons (ev_var rfl) (ea_cons (ev_U (i := 1) ev_ci) (ea_cons (ev_addI (ev_var rfl) (hp40 rfl)) (ea_cons (ev_I (i := -1) (j := cell % 10 ^ 40) (ev_U (i := 1) ev_ci) (hp40 rfl)) ea_nil)))) (Nat.le_of_ble_eq_true rfl)))) (ev_IC (i := dr / 8) (j := 4) (ev_IC (i := dr) (j := 8) (ev_var rfl) ev_ci ⟨by decide, by decide⟩) ev_ci (by decide)) hat) eg_name ?_)
      dsimp only
      refine xs_seq (xs_asgF (ds := kO a) (ef_lst (ea_cons ev_cb (ea_cons ev_cb (ea_cons ev_cb (ea_cons (ev_var rfl) ea_nil)))) (Nat.le_of_ble_eq_true rfl)) ?_)
      dsimp only
      have hdd : deedO x (dr / 32 % 2).toNat a sg = .lacks a x := by
        rcases (show dr / 32 % 2 = 0 ∨ dr / 32 % 2 = 1 by omega) with h | h <;> rw [h]
        · show rdO x a = _
          unfold rdO
          exact if_neg hout
        · show wrO x a sg = _
          unfold wrO
          exact if_neg hout
      refine xs_seq (xs_ifE (ete_refused (x := x) (dd := (dr / 32 % 2).toNat) (at_ := a) (v := sg) (j := 8) rfl (EvD.is (ev_IC (i := dr / 32) (j := 2) (ev_IC (i := dr) (j := 32) (ev_var rfl) ev_ci ⟨by decide, by decide⟩) ev_ci (by decide)) (by rw [Int.toNat_of_nonneg (by omega)])) (ev_var rfl) (ev_var rfl) hx (by omega) (by omega) (by rw [hdd]; rfl)) (fun ρ' hz => nomatch hz.1) (fun ρ' hz => xs_next ?_))
      obtain ⟨_, e⟩ := hz
      subst e
      rw [hdd]
      exact xs_retO (ev_var (d := toldD x.1) rfl) ⟨_, ⟨x, Beh.refl htwo, rfl, rfl⟩, rfl, trivial⟩
    · have hin : inR x at_ := by unfold inR; omega
      refine xs_seq (xs_no (b := false) (EvT.is (et_or' (et_t (ev_eqI (i := dr % 8) (j := 0) (hdr 8 (by decide) rfl) ev_ci)) (et_t (ev_eqI (i := (x.1.cs.length : Int)) (j := 0) (ev_var rfl) ev_ci))) (by simp only [Bool.or_eq_false_iff, decide_eq_false_iff_not]; omega)) rfl ?_)
      refine xs_seq (xs_if (et_t (ev_Ib (i := dr % 8) (j := 4) (hdr 8 (by decide) rfl) ev_ci)) (fun h => ?_) (fun h4 => xs_next ?_))
      · refine xs_retEO (ev_callB (x := (x, at_, sg, c)) (ar := [.inr (0, ⟨false, some v0⟩), .inl (toldD x.1), .inl (.int at_), .inl (.int sg), .inl (.int c)]) (eas_s rfl (eas_d (ev_var rfl) (eas_d (ev_var rfl) (eas_d (ev_var rfl) (eas_d (ev_var rfl) eas_nil))))) ⟨rfl, rfl, rfl, rfl, rfl, trivial⟩ ⟨hx, by show x.1.a + 2 ≤ 900000; omega, hin, hcl, cc, hcc⟩ rfl (fun d as hp => by rw [hp.2]; trivial) (fun _ _ _ z => z)) (fun d ρ' hz => ?_)
        obtain ⟨as, ⟨e1, e2⟩, e3⟩ := hz
        subst e1
        subst e2
        subst e3
        exact ⟨_, ⟨wrS x at_ sg, Beh.wr htwo at_ sg, rfl, rfl⟩, rfl, trivial⟩
      refine xs_seq (xs_if (et_t (ev_eqI (i := dr % 8) (j := 4) (hdr 8 (by decide) rfl) ev_ci)) (fun h => ?_) (fun h5 => xs_next ?_))
      · refine xs_retEO (ev_callB (x := (x, c)) (ar := [.inr (0, ⟨false, some v0⟩), .inl (toldD x.1), .inl (.int c)]) (eas_s rfl (eas_d (ev_var rfl) (eas_d (ev_var rfl) eas_nil))) ⟨rfl, rfl, rfl, trivial⟩ ⟨hx, by show x.1.a + 2 ≤ 900000; omega, cc, hcc⟩ rfl (fun d as hp => by rw [hp.2]; trivial) (fun _ _ _ z => z)) (fun d ρ' hz => ?_)
        obtain ⟨as, ⟨e1, e2⟩, e3⟩ := hz
        subst e1
        subst e2
        subst e3
        exact ⟨_, ⟨(bgO x).st, Beh.bg htwo, rfl, rfl⟩, rfl, trivial⟩
      refine xs_seq (xs_no (b := false) ?_ rfl ?_)
      · by_cases h6 : dr % 8 = 5
        · refine et_andT (EvT.is (et_t (ev_eqI (i := dr % 8) (j := 5) (hdr 8 (by decide) rfl) ev_ci)) (decide_eq_true h6)) (EvT.thawT 0 (o := stF T clL usL x) rfl (stT_frz T _ (fO_frz T clL usL _)) ?_)
          rw [stT_toD]
          refine EvT.is (et_t (ev_neI (i := x.1.cs.getD at_.toNat 0) (j := x.1.cs.getD at_.toNat 0) (ev_methDw (pre := fun x : Stt × D × Int => 0 ≤ x.2.2 ∧ x.2.2 < (x.1.cs.length : Int)) (arg := fun x => [stDD T x.1 x.2.1, .int x.2.2]) (x := (x.1, (fO T clL usL x.2).toD, at_)) (res := fun x => D.int (x.1.cs.getD x.2.2.toNat 0)) (ev_var (d := stDD T x.1 (fO T clL usL x.2).toD) rfl) (ea_cons (ev_var rfl) ea_nil) (.head _) (fun vs H Q E h => ?_) rfl rfl ⟨hm0, by have := hin.2; exact this⟩) (ev_ixl (ds := x.1.cs.map D.int) (EvM.b (EvD.m (hcells rfl))) (ev_var rfl) (atI_int hm0 hin.2)))) (by simp)
          obtain ⟨Hs, y, e1, e2, e3, e4⟩ := h
          exact Or.inl ⟨Hs, y, e1, e2, e3, e4, fun _ _ _ _ _ _ _ z => z.elim⟩
        · exact et_andF (EvT.is (et_t (ev_eqI (i := dr % 8) (j := 5) (hdr 8 (by decide) rfl) ev_ci)) (decide_eq_false h6))
      refine xs_seq (xs_if (et_t (ev_Ib (i := dr % 8) (j := 5) (g := fun i j => decide (i > j)) (hdr 8 (by decide) rfl) ev_ci)) (fun h => ?_) (fun h7 => xs_next ?_))
      · refine xs_seq (xs_asg (d := .int (cell % 10 ^ 40)) (ev_IC (i := cell) (j := 10 ^ 40) (ev_var rfl) (ev_pow (i := 10) (k := 40) ⟨by decide, by decide, by decide⟩) (by decide)) eg_name ?_)
        dsimp only
        have h40 := Int.emod_nonneg cell (show (10 : Int) ^ 40 ≠ 0 by decide)
        generalize cell % 10 ^ 40 = n at h40 ⊢
        refine xs_seq (xs_asg (d := toldD (ntS x (n % 2) n).1) (EvD.is (ev_call (x.1, n % 2, n, c) (ea_cons (ev_var rfl) (ea_cons (ev_IC (i := n) (j := 2) (ev_var rfl) ev_ci (by decide)) (ea_cons (ev_var rfl) (ea_cons (ev_var rfl) ea_nil)))) ⟨htwo, ha0, hx.a1, by show 0 ≤ n % 2; omega, by show n % 2 < 2; omega⟩) (congrArg toldD (hnt (n % 2) n))) eg_name ?_)
        dsimp only
        have hix : ∀ {ρ : DL.Env}, ρ[1]? = some (some (.sh (toldD x.1))) → EvD K (tOp (rIx K) (tVar 1) (tC (.int 2))) ρ (.int x.1.a) := fun {ρ} h => ev_ixt (ds := [.lst (x.1.cs.map .int), .lst (x.1.ns.map ntD), .int x.1.a]) (ev_var (d := toldD x.1) h) ev_ci (atI_nat (j := 2) rfl)
        refine xs_seq (xs_asgF (ds := kF x.1.a) (ef_lst (ea_cons ev_cb (ea_cons ev_cb (ea_cons ev_cb (ea_cons (hix rfl) ea_nil)))) (Nat.le_of_ble_eq_true rfl)) ?_)
        dsimp only
        refine xs_cut (fun ρ => ρ = [some (.tr K ⟨false, some v0⟩ (stF T clL usL x)), some (.sh (toldD x.1)), some (.sh (.int cell)), some (.sh (.int c)), some (.sh (.int k)), some (.sh (.int dr)), some (.sh (.int (x.1.cs.length : Int))), some (.sh (.int sg)), some (.sh (.int at_)), some (.ol (outL (mkO x n))), some (.sh (.int n)), some (.sh (toldD (ntS x (n % 2) n).1))]) ?_ ?_
        · refine xs_if (et_B (ev_isN (ev_fall_at (c := c) (k := x.1.a) (ev_var rfl) (hix rfl) ⟨ha0, by have := hx.a1; omega⟩).r)) (fun h => xs_asgF (ef_lst ea_nil (by decide)) ?_) (fun h => xs_next ?_)
          · have : outL (mkO x n) = [] := by
              show outL (ntO x (n % 2) n) = []
              unfold ntO
              rw [hq0]
              cases q : fallQ c x.1.a with
              | none => rfl
              | some ss => rw [q] at h; cases h
            rw [this]
            rfl
          · have : outL (mkO x n) = kF x.1.a := by
              show outL (ntO x (n % 2) n) = _
              unfold ntO
              rw [hq0]
              cases q : fallQ c x.1.a with
              | some ss => rfl
              | none => rw [q] at h; cases h
            rw [this]
            rfl
        · rintro ρ rfl
          refine xs_seq (xs_ifE (ete_refused (x := x) (dd := 2) (at_ := 0) (v := n) (j := 8) rfl ev_ci ev_ci (ev_var rfl) hx (by decide) (by omega) rfl) (fun ρ' hz => nomatch hz.1) (fun ρ' hz => xs_next ?_))
          obtain ⟨_, e⟩ := hz
          subst e
          have hst : (deedO x 2 0 n).st = ntS x (n % 2) n := ntO_st x (n % 2) n
          rw [hst]
          exact xs_retO (ev_var (d := toldD (ntS x (n % 2) n).1) rfl) ⟨_, ⟨ntS x (n % 2) n, (Beh.refl htwo).nt _ _ (by omega), rfl, rfl⟩, rfl, trivial⟩
      · exact xs_retO (ev_var (d := toldD x.1) rfl) ⟨_, ⟨x, Beh.refl htwo, rfl, rfl⟩, rfl, trivial⟩
theorem ok_law (T : Tx K mg) (hTB_law : LamX.TabB base mg T.cc_law T.P_law) : FnOk P w K mg base CX0 12 T.a_law T.d_law ["_law_script"] (sp_law T) := by
  refine fn_rC T.F_law sc_law (fun _ => rfl) (fun A outer s H E cl0 hcl hr =>
      (pss_cons (ps_set (i := 1) sc_law.nd rfl (by first | exact Or.inl rfl | exact Or.inr rfl) (pe_call (ok__law_cell_at T) (hr.mono (by decide)) (by rfl) T.g__law_cell_at T.F__law_cell_at.kp T.b__law_cell_at .nil pass0 (pa_cons (pv 0) (pa_cons pe_int pa_nil))))
      (pss_cons (ps_set (i := 2) sc_law.nd rfl (by first | exact Or.inl rfl | exact Or.inr rfl) (pe_call (ok__law_cell_at T) (hr.mono (by decide)) (by rfl) T.g__law_cell_at T.F__law_cell_at.kp T.b__law_cell_at .nil pass0 (pa_cons (pv 0) (pa_cons pe_int pa_nil))))
      (pss_cons (ps_set (i := 3) sc_law.nd rfl (by first | exact Or.inl rfl | exact Or.inr rfl) (pe_lst (pa_cons pe_int (pa_cons (pe_un un_neg pe_int) (pa_cons (pe_op op_pow pe_int pe_int) (pa_cons (pe_un un_neg (pe_op op_pow pe_int pe_int)) pa_nil))))))
      (pss_cons (ps_setLc (i := 4) (own := [("_law_k", 9)]) rfl sc_law.nd rfl rfl (sw_true rfl rfl rfl (by decide +kernel)) (pi_range1 (by rfl) T.z_range (pa_cons (pe_op op_mod (pv 1) pe_int) pa_nil)) (blkOk_by (N := ["_law_script", "_law_cell", "_law_falls", "_law_sizes", "_law_cells", "_law_handed", "_law_store", "_law_quiet", "_law_stand", "_law_k", "_law_told", "_law_note"]) (sc := defScope s_law) (by decide +kernel)) (fun _ _ _ _ _ => (pg_name (i := 9) sc_law.nd rfl (by first | exact Or.inl rfl | exact Or.inr rfl))) (fun _ _ _ _ _ => pts_nil) (fun _ _ _ _ _ => (pe_op op_mulA (pe_call (ok__law_mixed T) (hr.mono (by decide)) (by rfl) T.g__law_mixed T.F__law_mixed.kp T.b__law_mixed .nil pass0 (pa_cons (pv 1) (pa_cons (pv 9) pa_nil))) (pe_ix (ixK (K := K) rfl) (pv 3) (pe_op op_mod (pv 9) pe_int) (fun _ _ => rfl)))))
      (pss_cons (ps_set (i := 5) sc_law.nd rfl (by first | exact Or.inl rfl | exact Or.inr rfl) (pe_callTy (listK (K := K) rfl) (by rfl) T.z_list (by decide +kernel) (pa_cons (pv 4) pa_nil)))
      (pss_cons (ps_set (i := 6) sc_law.nd rfl (by first | exact Or.inl rfl | exact Or.inr rfl) (pe_make T.mk_Store (ok_Store___init__ T) (hr.mono (by decide)) (by rfl) T.g_Store T.b_Store___init__ .nil pass0 (pa_cons (pv 5) (pa_cons (pe_lam (L := s_law_lam) (fr := ["_law_falls"]) rfl nb_law_lam hcl hTB_law rfl T.tm_law T.tu_law rfl rfl) pa_nil))))
      (pss_cons (ps_expr (bmK (K := K) rfl PySem.F.plainAttrs_list PySem.F.slot_list_append PySem.F.type_list_append mt_append (pv 5) (pa_cons pe_int pa_nil)))
      (pss_cons (ps_set (i := 7) sc_law.nd rfl (by first | exact Or.inl rfl | exact Or.inr rfl) (pe_make T.mk_Store (ok_Store___init__ T) (hr.mono (by decide)) (by rfl) T.g_Store T.b_Store___init__2 T.v_Store___init__2 pass0 (pa_cons (pv 4) pa_nil)))
      (pss_cons (ps_if (pt_cmpR (neK (K := K) rfl hr.units) (pv 4) (pe_lst pa_nil) (nomark _)) (pss_one (ps_expr (pe_methU (js := [2]) (pv 7) (fun _ => rfl) rfl rfl (capsL (L := s_law_lam) (fr := ["_law_falls"]) nb_law_lam rfl hcl) (fun base1 us up hL => (.cons (by decide) T.cl_Store T.m_Store_write (ok_Store_write T hL) T.b_Store_write .nil)) hr passX0 (pa_cons pe_int (pa_cons pe_int pa_nil))))) pss_nil)
      (pss_cons (ps_set (i := 8) sc_law.nd rfl (by first | exact Or.inl rfl | exact Or.inr rfl) (pe_tup (pa_cons (pv 4) (pa_cons (pe_lst (pa_cons pe_int (pa_cons pe_int pa_nil))) (pa_cons pe_int pa_nil)))))
      (pss_cons (ps_for PassesOwn.never rfl (pi_range2 (by rfl) T.z_range (pa_cons pe_int (pa_cons (pe_callB (call_min2 rfl) (by rfl) T.z_min (by decide +kernel) (pa_cons (pe_callB (lenK (K := K) rfl) (by rfl) T.z_len (by decide +kernel) (pa_cons (pv 0) pa_nil)) (pa_cons pe_int pa_nil))) pa_nil))) (pg_name (i := 9) sc_law.nd rfl (by first | exact Or.inl rfl | exact Or.inr rfl)) (pss_cons (ps_set (i := 8) sc_law.nd rfl (by first | exact Or.inl rfl | exact Or.inr rfl) (pe_callUc (js := [2]) (fun _ => rfl) rfl rfl (capsL (L := s_law_lam) (fr := ["_law_falls"]) nb_law_lam rfl hcl) (fun base1 us up hL => ok__law_deed T hL) hr (by rfl) T.g__law_deed T.F__law_deed.kp T.b__law_deed pass0 (pa_cons (pv 6) (pa_cons (pv 8) (pa_cons (pe_ix (ixK (K := K) rfl) (pv 0) (pv 9) (fun _ _ => rfl)) (pa_cons (pv 2) (pa_cons (pv 9) pa_nil)))))))
      (pss_cons (ps_if (pt_cmp (pc_isN (pv 8)) rfl) (pss_one (ps_ret pe_bl)) pss_nil)
      (pss_cons (ps_set (i := 10) sc_law.nd rfl (by first | exact Or.inl rfl | exact Or.inr rfl) (pe_methD0 (pv 6) (.cons (by decide) T.cl_Store T.m_Store_told (ok_Store_told T) T.b_Store_told .nil) hr pass0))
      (pss_cons (ps_if (PW.pt (pw_or (pt_not (pt_val (pe_callB (isiK (K := K) rfl) (by rfl) T.z_isinstance (by decide +kernel) (pa_cons (pv 10) (pa_cons (pe_bltn (v := .ty "tuple") (by rfl) T.z_tuple (by decide +kernel) rfl) pa_nil))))) (pw_or1 (pt_cmpR (neK (K := K) rfl hr.units) (pv 10) (pe_tup (pa_cons (pe_ix (ixK (K := K) rfl) (pv 8) pe_int (fun _ _ => rfl)) (pa_cons (pe_ix (ixK (K := K) rfl) (pv 8) pe_int (fun _ _ => rfl)) (pa_cons (pe_ix (ixK (K := K) rfl) (pv 8) pe_int (fun _ _ => rfl)) pa_nil)))) (nomark _))))) (pss_one (ps_ret pe_bl)) pss_nil)
      (pss_cons (ps_if (pt_cmpR (neK (K := K) rfl hr.units) (pe_methD0 (pv 6) (.cons (by decide) T.cl_Store T.m_Store_noted (ok_Store_noted T) T.b_Store_noted .nil) hr pass0) (pe_maxD (K := K) rfl hr.hd (hu65 hr) (by rfl) T.z_max (pe_lc (own := [("_law_note", 11)]) rfl sc_law.nd (seqK (K := K) rfl (pe_ix (ixK (K := K) rfl) (pv 8) pe_int (fun _ _ => rfl))) (blkOk_by (N := ["_law_script", "_law_cell", "_law_falls", "_law_sizes", "_law_cells", "_law_handed", "_law_store", "_law_quiet", "_law_stand", "_law_k", "_law_told", "_law_note"]) (sc := defScope s_law) (by decide +kernel)) (fun _ _ _ _ _ => (pg_name (i := 11) sc_law.nd rfl (by first | exact Or.inl rfl | exact Or.inr rfl))) (fun _ _ _ _ _ => pts_one (pt_cmp (pc_notN (pv 11)) rfl)) (fun _ _ _ _ _ => (pv 11))) pe_int) (nomark _)) (pss_one (ps_ret pe_bl)) pss_nil)
      (pss_cons (ps_expr (bmK (K := K) rfl PySem.F.plainAttrs_list PySem.F.slot_list_append PySem.F.type_list_append mt_append (pe_ix (ixK (K := K) rfl) (pv 10) pe_int (fun _ _ => rfl)) (pa_cons pe_int pa_nil)))
      (pss_one (ps_expr (bmK (K := K) rfl PySem.F.plainAttrs_list PySem.F.slot_list_append PySem.F.type_list_append mt_append (pe_ix (ixK (K := K) rfl) (pv 10) pe_int (fun _ _ => rfl)) (pa_cons pe_int pa_nil)))))))))))
      (pss_one (ps_ret (pe_cmpR (eqK (K := K) rfl hr.units) (pe_methD0 (pv 7) (.cons (by decide) T.cl_Store T.m_Store_told (ok_Store_told T) T.b_Store_told .nil) hr pass0) (pe_tup (pa_cons (pe_op (addK (K := K) rfl) (pe_op op_mulA (pe_lst (pa_cons pe_int pa_nil)) (pe_callB (lenK (K := K) rfl) (by rfl) T.z_len (by decide +kernel) (pa_cons (pe_slice (slK (K := K) rfl) (pv 4) po_none (po_some pe_int)) pa_nil))) (pe_slice (slK (K := K) rfl) (pv 4) (po_some pe_int) po_none)) (pa_cons (pe_lst (pa_cons pe_int (pa_cons pe_int pa_nil))) (pa_cons (pe_callB (lenK (K := K) rfl) (by rfl) T.z_len (by decide +kernel) (pa_cons (pe_slice (slK (K := K) rfl) (pv 4) po_none (po_some pe_int)) pa_nil)) pa_nil)))) (nomark _)))))))))))))))) (fun cl0 x hx => ?_)
  have hx : x.length ≤ 63 := hx
  refine xs_seq (xs_asg (ev_cell_at (ns := x) (k := 0) (ev_var rfl) ev_ci (by decide)) eg_name ?_)
  dsimp only
  refine xs_seq (xs_asg (ev_cell_at (ns := x) (k := 1) (ev_var rfl) ev_ci (by decide)) eg_name ?_)
  dsimp only
  generalize cellAt x 0 = c0
  generalize cellAt x 1 = f
  have hp : ∀ (k : Nat), k ≤ 60 → CPow 10 (k : Int) := fun k hk => ⟨by omega, by omega, by omega⟩
  refine xs_seq (xs_asg (d := .lst (([1, -1, 10 ^ 25, -10 ^ 50] : List Int).map .int)) (EvF.v (ef_lst (ea_cons ev_ci (ea_cons (ev_U (i := 1) ev_ci) (ea_cons (ev_pow (i := 10) (k := 25) ⟨by decide, by decide, by decide⟩) (ea_cons (ev_U (i := 10 ^ 50) (ev_pow (i := 10) (k := 50) ⟨by decide, by decide, by decide⟩)) ea_nil)))) (Nat.le_of_ble_eq_true rfl))) eg_name ?_)
  dsimp only
  have hm0 := Int.emod_nonneg c0 (show (12 : Int) ≠ 0 by decide)
  have hm1 := Int.emod_lt_of_pos c0 (show (0 : Int) < 12 by decide)
  obtain ⟨cs, hcs⟩ : ∃ cs, cs = (span 0 (c0 % 12)).map fun k => mixed c0 k * ([1, -1, 10 ^ 25, -10 ^ 50] : List Int).getD (k % 4).toNat 0 := ⟨_, rfl⟩
  have hcl : cs.length ≤ 12 := by rw [hcs, List.length_map]; have := span_length 0 (c0 % 12); omega
  refine xs_seq (xs_asg (d := .lst (cs.map .int)) (EvF.v (EvF.is (ef_lcR (a := 0) (n := c0 % 12) (w := fun k => .int (mixed c0 k * ([1, -1, 10 ^ 25, -10 ^ 50] : List Int).getD (k % 4).toNat 0)) (ei_r1 (n := c0 % 12) (ea_cons (ev_IC (i := c0) (j := 12) (ev_var rfl) ev_ci (by decide)) ea_nil) (by omega)) rfl (by omega) (fun k h1 h2 => ⟨_, egc_name (by decide), ev_mulI (i := mixed c0 k) (ev_mixed (ev_var rfl) (ev_var rfl) ⟨by omega, by omega⟩) (ev_ixl (ds := ([1, -1, 10 ^ 25, -10 ^ 50] : List Int).map .int) (i := k % 4) (EvM.b (EvD.m (ev_var rfl))) (ev_IC (i := k) (j := 4) (ev_var rfl) ev_ci (by decide)) (atI_int (by omega) (by show k % 4 < 4; omega))) (by have := mixed_b c0 k; exact DL.mulW_l (by omega) (by omega))⟩)) (by rw [hcs, List.map_map]; rfl))) eg_name ?_)
  dsimp only
  clear hcs
  refine xs_seq (xs_asgF (ds := cs.map .int) (ef_listL (EvM.b (EvD.m (ev_var (d := .lst (cs.map .int)) rfl)))) ?_)
  dsimp only
  refine xs_seq (xs_asgNx (P := fun o => ∃ cc, o = stT T ⟨cs, [some 0, some 0], 0⟩ (.sh (.clo (mk_law_lam (cl_law_lam cl0) cc) [] []))) (EvNx.thawL 5 rfl ?_ ?_) ?_)
  · refine fun B Hs H σ r Q q => en_makeX (P := fun ds => ∃ cc, ds = [.lst (cs.map .int), .clo (mk_law_lam (cl_law_lam cl0) cc) [] []]) (x := fun ds => (cs, ds.getD 1 .non)) (o := fun ds => stT T ⟨cs, [some 0, some 0], 0⟩ (.sh (ds.getD 1 .non))) (dds := []) (C := T.C_Store) (fun B Hs H σ r Q q => eax_cons (ev_var (d := .lst (cs.map .int)) rfl) (eax_lam (fun _ => rfl)) B Hs H σ r Q fun Hs' H' vs ds g x p => q Hs' H' vs ds g x (by
        obtain ⟨ds', rfl, cc, rfl⟩ := p
        exact ⟨cc, rfl⟩)) (fun _ => .nil) (fun ds p => by
        obtain ⟨cc, rfl⟩ := p
        rfl) (fun _ _ => trivial) (fun ds p d as hp => by
        obtain ⟨cc, rfl⟩ := p
        exact ⟨hp.1, _, hp.2, fun a ha => by
          simp only [List.mem_cons, List.not_mem_nil, or_false] at ha
          rcases ha with rfl | rfl <;> rfl⟩) (fun _ _ _ _ _ z => z) B Hs H σ r Q fun Hs' H' v o S g ow c p => q Hs' H' v o S g ow c (by
        obtain ⟨ds, ⟨cc, rfl⟩, rfl⟩ := p
        exact ⟨cc, rfl⟩)
  · rintro o ⟨cc, rfl⟩
    show (O.thinL (cs.map fun c => O.sh (.int c)) && (true && (true && (true && true)))) = true
    have : ∀ cs : List Int, O.thinL (cs.map fun c => O.sh (.int c)) = true := fun cs => by
      induction cs with
      | nil => rfl
      | cons c cs ih =>
        show (true && _) = true
        rw [ih]
        rfl
    rw [this]
    rfl
  rintro o ⟨cc, rfl⟩
  dsimp only
  refine xs_seq (xs_app rfl ev_ci (by rw [List.length_map]; omega) ?_)
  dsimp only
  generalize hh : cs.map D.int ++ [D.int 1] = hd
  clear hh
  refine xs_seq (xs_asgN (o := stT T ⟨cs, [some 0, some 0], 0⟩ (.sh .non)) (en_make (x := (cs, D.non)) (ds := [.lst (cs.map .int)]) (dds := [.non]) (ea_cons (ev_var rfl) ea_nil) (fun _ => .cons .non .nil) rfl trivial (fun d as hp => ⟨hp.1, _, hp.2, fun a ha => by
    simp only [List.mem_cons, List.not_mem_nil, or_false] at ha
    rcases ha with rfl | rfl <;> rfl⟩) (fun _ _ _ z => z)) ?_)
  dsimp only
  refine xs_cut (fun ρ => ρ = [some (.sh (.scr (x.map .int))), some (.sh (.int c0)), some (.sh (.int f)), some (.sh (.lst (([1, -1, 10 ^ 25, -10 ^ 50] : List Int).map .int))), some (.sh (.lst (cs.map .int))), some (.ol hd), some (.tr K ⟨true, none⟩ (stT T ⟨cs, [some 0, some 0], 0⟩ (.sh (.clo (mk_law_lam (cl_law_lam cl0) cc) [] [])))), some (.tr K ⟨true, none⟩ (stT T ⟨cs.set 0 5, [some 0, some 0], ((cs.take 1).length : Int)⟩ (.sh .non))), none, none, none, none]) ?_ ?_
  · cases cs with
    | nil =>
      exact xs_no (b := false) (et_t (EvD.is (ev_ne (d := .lst []) (e := .lst []) (ev_var (d := .lst []) rfl).r (EvM.r (EvF.m (ef_lst (ds := []) ea_nil (by decide)))) rfl rfl) rfl)) rfl rfl
    | cons c cs =>
      have hfit : (D.lst ((c :: cs).map .int)).fit = true := Ft.fit (n := 1) (ft_ints _) (by decide)
      refine xs_yes (b := true) (et_t (EvD.is (ev_ne (d := .lst ((c :: cs).map .int)) (e := .lst []) (ev_var (d := .lst ((c :: cs).map .int)) rfl).r (EvM.r (EvF.m (ef_lst (ds := []) ea_nil (by decide)))) hfit rfl) rfl)) rfl ?_
      refine xs_dropE (ev_methUP (pre := fun x : S2 × Int × Int => Fit x.1) (arg := fun us x => [.o (stF T cl0 us x.1), .d (.int x.2.1), .d (.int x.2.2)]) (post := fun us x => postO (wrO x.1 x.2.1 x.2.2) (fun y => [.o (stF T cl0 us y), .d (.int x.2.1), .d (.int x.2.2)]) .non) (exc := fun us x => excO T (wrO x.1 x.2.1 x.2.2) (fun y => [.o (stF T cl0 us y), .d (.int x.2.1), .d (.int x.2.2)])) (x := ((⟨c :: cs, [some 0, some 0], 0⟩, none), 0, 5)) (ar := [.inl (.int 0), .inl (.int 5)]) (os := [.sh (.int f)]) rfl (eas_d ev_ci (eas_d ev_ci eas_nil)) [(2, .inl (.int f))] rfl ⟨⟨rfl, rfl⟩, trivial⟩ (fun us => .head _) rfl (fun us => ⟨rfl, rfl, rfl, trivial⟩) ⟨rfl, Int.le_refl 0, (show (0 : Int) ≤ 900000 by decide), trivial⟩ rfl (fun d as => as = [.o (stT T ⟨5 :: cs, [some 0, some 0], 1⟩ (.sh .non)), .d (.int 0), .d (.int 5)]) (fun us d as hp => ?_) (fun us cls fs as hp => ?_)) (fun d ρ' hz => ?_)
      · obtain ⟨y, e1, e2, e3⟩ := hp
        have hin : inR ((⟨c :: cs, [some 0, some 0], 0⟩, none) : S2) 0 := ⟨Int.le_refl 0, by show (0 : Int) < ((c :: cs).length : Int); rw [List.length_cons]; omega⟩
        have e1 : wrO ((⟨c :: cs, [some 0, some 0], 0⟩, none) : S2) 0 5 = .ok y := e1
        unfold wrO at e1
        rw [if_pos hin] at e1
        cases e1
        rw [e3]
        exact ⟨trivial, rfl⟩
      · have hin : inR ((⟨c :: cs, [some 0, some 0], 0⟩, none) : S2) 0 := ⟨Int.le_refl 0, by show (0 : Int) < ((c :: cs).length : Int); rw [List.length_cons]; omega⟩
        have h1 : wrO ((⟨c :: cs, [some 0, some 0], 0⟩, none) : S2) 0 5 = .ok (wrS ((⟨c :: cs, [some 0, some 0], 0⟩, none) : S2) 0 5) := by
          unfold wrO
          rw [if_pos hin]
          rfl
        rcases hp with ⟨n, y, e1, _⟩ | ⟨n, y, e1, _⟩
        · have e1 := h1.symm.trans e1
          cases e1
        · have e1 := h1.symm.trans e1
          cases e1
      · obtain ⟨as, e1, e2⟩ := hz
        subst e1
        subst e2
        rfl
  rintro ρ0 rfl
  refine xs_seq (xs_asg (d := toldD ⟨cs, [some 0, some 0], 0⟩) (ev_tup (ds := [.lst (cs.map .int), .lst [.int 0, .int 0], .int 0]) (ea_cons (ev_var rfl) (ea_cons (EvF.v (ef_lst (ea_cons ev_ci (ea_cons ev_ci ea_nil)) (Nat.le_of_ble_eq_true rfl))) (ea_cons ev_ci ea_nil))) (Nat.le_of_ble_eq_true rfl)) eg_name ?_)
  dsimp only
  refine xs_seq (xs_for (ds := rng 2 (min (x.length : Int) 42 - 2).toNat) (ei_r2 (lo := 2) (hi := min (x.length : Int) 42) (ea_cons ev_ci (ea_cons (ev_min2 (i := (x.length : Int)) (j := 42) (ev_lenM (f := D.int) (xs := x) (EvD.s (ev_var rfl))) ev_ci) ea_nil)) ⟨by decide, by decide, by omega, by omega⟩)
    (fun j ρ => ∃ (y : Stt) (r9 r10 r11 : Option SV), y.ns.length = 2 ∧ 0 ≤ y.a ∧ y.a ≤ 2 * (j : Int) ∧ y.cs.length = cs.length ∧ ρ = [some (.sh (.scr (x.map .int))), some (.sh (.int c0)), some (.sh (.int f)), some (.sh (.lst (([1, -1, 10 ^ 25, -10 ^ 50] : List Int).map .int))), some (.sh (.lst (cs.map .int))), some (.ol hd), some (.tr K ⟨true, none⟩ (stT T y (.sh (.clo (mk_law_lam (cl_law_lam cl0) cc) [] [])))), some (.tr K ⟨true, none⟩ (stT T ⟨cs.set 0 5, [some 0, some 0], ((cs.take 1).length : Int)⟩ (.sh .non))), some (.sh (toldD y)), r9, r10, r11])
    ⟨⟨cs, [some 0, some 0], 0⟩, none, none, none, rfl, Int.le_refl 0, Int.le_refl 0, rfl, rfl⟩ ?_ ?_)
  · rintro j d ρ1 hj ⟨y, r9, r10, r11, hy2, hy0, hya, hyl, rfl⟩
    obtain ⟨hjl, rfl⟩ := rng_get hj
    refine ⟨_, eg_name, ?_⟩
    have hjx : (2 + (j : Int)) < (x.length : Int) := by omega
    refine xs_seq (xs_asgE (ev_callUD (x := ((y, some (cc, f)), x.getD (2 + (j : Int)).toNat 0, f, 2 + (j : Int))) (i := 6) (nw := ⟨true, none⟩) (q := [3]) (ds := [toldD y, .int (x.getD (2 + (j : Int)).toNat 0), .int f, .int (2 + (j : Int))]) (os := [.sh (.int f)]) (o := stT T y (.sh (.clo (mk_law_lam (cl_law_lam cl0) cc) [] []))) (F := mk_law_lam (cl_law_lam cl0) cc)
      (eas_s rfl (eas_d (ev_var rfl) (eas_d (ev_ixl (ds := x.map .int) (i := 2 + (j : Int)) (EvD.s (ev_var rfl)) (ev_var rfl) (atI_int (by omega) (by omega))) (eas_d (ev_var rfl) (eas_d (ev_var rfl) eas_nil))))) rfl rfl [(2, .inl (.int f))] rfl ⟨⟨rfl, rfl⟩, trivial⟩ rfl (fun us => rfl) ⟨⟨hy2, hy0, by show y.a ≤ 900000; omega, trivial⟩, by show y.a + 4 ≤ 900000; omega, by show y.cs.length ≤ 1000; omega, ⟨cc, rfl⟩, by show 0 ≤ 2 + (j : Int); omega, by show 2 + (j : Int) ≤ 1000; omega⟩
      (fun d o' os' => ∃ z : Stt, z.ns.length = 2 ∧ 0 ≤ z.a ∧ z.a ≤ y.a + 2 ∧ z.cs.length = cs.length ∧ d = toldD z ∧ o' = stT T z (.sh (.clo (mk_law_lam (cl_law_lam cl0) cc) [] [])) ∧ os' = [.sh (.int f)]) (fun us d as hp => ?_) (fun _ _ _ _ z => z)) (fun d ρ' hz => ?_))
    · obtain ⟨z, hb, e1, e2⟩ := hp
      obtain ⟨z1, z2⟩ := z
      have e3 : z2 = some (cc, f) := hb.f
      subst e3
      exact ⟨_, [.sh (.int f)], e2, rfl, rfl, z1, hb.two, by have h1 : y.a ≤ z1.a := hb.a0; omega, hb.a, hb.len.trans hyl, e1, rfl, rfl⟩
    · obtain ⟨o', os', ⟨z, hz2, hz0, hza, hzl, rfl, rfl, rfl⟩, e3⟩ := hz
      subst e3
      refine xs_seq (xs_no (b := false) (et_B ((ev_isN (ev_var (d := toldD z) rfl).r).is rfl)) rfl ?_)
      have hclo : (O.sh (.clo (mk_law_lam (cl_law_lam cl0) cc) [] [])).frz = true := rfl
      refine xs_seq (xs_asgN (o := toldO z) (EvN.thawT 6 (o := stT T z (.sh (.clo (mk_law_lam (cl_law_lam cl0) cc) [] []))) rfl (stT_frz T z hclo) ?_ (toldO_scal z)) ?_)
      · rw [stT_toD]
        exact en_methD (x := (z, D.clo (mk_law_lam (cl_law_lam cl0) cc) [] [])) (ev_var (d := stDD T z _) rfl) ea_nil (.head _) rfl rfl trivial
      have hst : ∀ {ρ : DL.Env} {i : Int} {d : D}, ρ[8]? = some (some (.sh (toldD z))) → atI [.lst (z.cs.map .int), .lst (z.ns.map ntD), .int z.a] i = some d → EvD K (tOp (rIx K) (tVar 8) (tC (.int i))) ρ d := fun {ρ i d} h q => ev_ixt (ds := [.lst (z.cs.map .int), .lst (z.ns.map ntD), .int z.a]) (ev_var (d := toldD z) h) ev_ci q
      refine xs_seq (xs_no (b := false) (EvT.thawT 10 (o := toldO z) rfl (toldO_frz z) ?_) rfl ?_)
      · rw [toldO_toD]
        exact et_orF (et_not (et_t (isi_tup_tuple (ds := [.lst (z.cs.map .int), .lst (z.ns.map ntD), .int z.a]) (ev_var (d := toldD z) rfl).r))) (et_t (ev_neX (d := toldD z) (ev_var rfl).r (ev_tup (ds := [.lst (z.cs.map .int), .lst (z.ns.map ntD), .int z.a]) (ea_cons (hst rfl (atI_nat (j := 0) rfl)) (ea_cons (hst rfl (atI_nat (j := 1) rfl)) (ea_cons (hst rfl (atI_nat (j := 2) rfl)) ea_nil))) (Nat.le_of_ble_eq_true rfl)).r (told_fit z)))
      refine xs_seq (xs_no (b := false) (EvT.thawT 6 (o := stT T z (.sh (.clo (mk_law_lam (cl_law_lam cl0) cc) [] []))) rfl (stT_frz T z hclo) ?_) rfl ?_)
      · rw [stT_toD]
        exact EvT.is (et_t (ev_neI (i := maxOr0 (z.ns.filterMap id)) (j := maxOr0 (z.ns.filterMap id)) (ev_methD (x := (z, D.clo (mk_law_lam (cl_law_lam cl0) cc) [] [])) (ev_var (d := stDD T z _) rfl) ea_nil (.head _) rfl rfl (by show z.ns.length ≤ 50000; omega))
          (ev_maxD (ns := z.ns.filterMap id) (EvF.b (EvF.is (ef_lc z.ns ntD (fun n => n.isSome) (fun n => ntD n) rfl (ei_seqL (hst (d := .lst (z.ns.map ntD)) rfl (atI_nat (j := 1) rfl))) (by omega) (fun k n hk => ⟨_, egc_name (by decide), EvT.is (et_B (ev_notN (EvD.r (ev_var (d := ntD n) rfl)))) (by cases n <;> rfl), fun _ => ev_var rfl⟩)) (notes_D z.ns)))))) (by simp)
      refine xs_seq (xs_appW (i := 10) (p := [0]) (o := toldO z) (xs := z.cs.map fun c => O.sh (.int c)) (ew_ixT (ew_var rfl) rfl rfl ev_ci (j := 0) rfl (Nat.le_of_ble_eq_true rfl)) rfl rfl ev_ci (by rw [List.length_map]; omega) ?_)
      dsimp only
      refine xs_appW (i := 10) (p := [1]) (xs := (z.ns.map ntD).map .sh) (ew_ixT (ew_var rfl) rfl rfl ev_ci (j := 1) rfl (Nat.le_of_ble_eq_true rfl)) rfl rfl ev_ci (by rw [List.length_map, List.length_map]; omega) ?_
      exact ⟨z, _, _, _, hz2, hz0, by omega, hzl, rfl⟩
  · rintro ρ1 ⟨y, r9, r10, r11, hy2, hy0, hya, hyl, rfl⟩
    refine xs_ret (EvD.thawT 7 (o := stT T ⟨cs.set 0 5, [some 0, some 0], ((cs.take 1).length : Int)⟩ (.sh .non)) rfl (stT_frz T _ rfl) ?_ rfl) rfl
    rw [stT_toD]
    have hsl : ∀ {ρ : DL.Env}, ρ[4]? = some (some (.sh (.lst (cs.map .int)))) → EvF K (tSl (rSlA' K) (tVar 4) tNoPart (tPart (tC (.int 1)))) ρ ((cs.take 1).map .int) := fun {ρ} h => EvF.is (ef_slL (ds := cs.map .int) (EvM.b (EvD.m (ev_var h))) eo_none (eo_some ev_ci)) (by rw [cutD_map]; exact congrArg _ (cut_to cs 1))
    refine ev_eqX (d := toldD ⟨cs.set 0 5, [some 0, some 0], ((cs.take 1).length : Int)⟩) (EvD.is (EvN.v (en_methD (x := ((⟨cs.set 0 5, [some 0, some 0], ((cs.take 1).length : Int)⟩ : Stt), D.non)) (ev_var (d := stDD T _ .non) rfl) ea_nil (.head _) rfl rfl trivial) (toldO_frz _)) (toldO_toD _)).r ?_ (told_fit _)
    refine (ev_tup (ds := [.lst ((cs.set 0 5).map .int), .lst [.int 0, .int 0], .int ((cs.take 1).length : Int)]) (ea_cons (EvF.v (EvF.is (ef_addL (ds := (List.replicate ((cs.take 1).length : Int).toNat [D.int 5]).flatten) (es := (cs.drop 1).map .int) (EvF.m (ef_mulL (ds := [.int 5]) (k := ((cs.take 1).length : Int)) (EvF.m (ef_lst (ea_cons ev_ci ea_nil) (Nat.le_of_ble_eq_true rfl))) (ev_lenM (f := D.int) (xs := cs.take 1) (EvF.b (hsl rfl))) ?_ ?_ ?_)) (EvF.m (EvF.is (ef_slL (ds := cs.map .int) (EvM.b (EvD.m (ev_var rfl))) (eo_some ev_ci) eo_none) (by rw [cutD_map]; exact congrArg _ (cut_from cs 1)))) ?_) ?_)) (ea_cons (EvF.v (ef_lst (ea_cons ev_ci (ea_cons ev_ci ea_nil)) (Nat.le_of_ble_eq_true rfl))) (ea_cons (ev_lenM (f := D.int) (xs := cs.take 1) (EvF.b (hsl rfl))) ea_nil))) (Nat.le_of_ble_eq_true rfl)).r
    all_goals have h1 : (cs.take 1).length ≤ 1 := by rw [List.length_take]; omega
    · omega
    · omega
    · rw [List.length_singleton]; omega
    · cases cs with
      | nil => exact Nat.le_of_ble_eq_true rfl
      | cons c cs =>
        show 1 + ((c :: cs).drop 1 |>.map D.int).length ≤ 100000
        rw [List.length_map, List.length_drop]
        omega
    · cases cs with
      | nil => rfl
      | cons c cs => rfl
end
omit [DL.TbC] in
theorem all_fin {l : PySem.W.OpenLaw} {w : World} {K : PySem.W.Frag} {h : Heap} {mg : Str → Option Value} {fa : Addr} (X : K.In h) (G : h.Ns mainGlobals mg) (hfa : mg "law" = some (.ref fa)) {ts : List Addr} (tabs : ∀ P ∈ ts, h.get? P = some (PySem.W.tabObj #[]))
    {od__law_cell_at an__law_cell_at : Option Addr} {sl__law_cell_at : Array (Option Value)} {oc__law_cell_at kV__law_cell_at dc__law_cell_at pm__law_cell_at cd__law_cell_at ct__law_cell_at : Value} {f__law_cell_at : Addr}
    {od_Store___init__ an_Store___init__ : Option Addr} {sl_Store___init__ : Array (Option Value)} {oc_Store___init__ kV_Store___init__ dc_Store___init__ pm_Store___init__ cd_Store___init__ ct_Store___init__ : Value} {f_Store___init__ : Addr} {dt_Store___init__ : Addr} {do_Store___init__ : Obj} {dn_Store___init__ : Nat}
    {od__law_mixed an__law_mixed : Option Addr} {sl__law_mixed : Array (Option Value)} {oc__law_mixed kV__law_mixed dc__law_mixed pm__law_mixed cd__law_mixed ct__law_mixed : Value} {f__law_mixed : Addr}
    {od__law_fall_at an__law_fall_at : Option Addr} {sl__law_fall_at : Array (Option Value)} {oc__law_fall_at kV__law_fall_at dc__law_fall_at pm__law_fall_at cd__law_fall_at ct__law_fall_at : Value} {f__law_fall_at : Addr}
    {od_Store_comes an_Store_comes : Option Addr} {sl_Store_comes : Array (Option Value)} {oc_Store_comes kV_Store_comes dc_Store_comes pm_Store_comes cd_Store_comes ct_Store_comes : Value} {f_Store_comes : Addr}
    {od_Fallen___init__ an_Fallen___init__ : Option Addr} {sl_Fallen___init__ : Array (Option Value)} {oc_Fallen___init__ kV_Fallen___init__ dc_Fallen___init__ pm_Fallen___init__ cd_Fallen___init__ ct_Fallen___init__ : Value} {f_Fallen___init__ : Addr}
    {od_OutOfRoom___init__ an_OutOfRoom___init__ : Option Addr} {sl_OutOfRoom___init__ : Array (Option Value)} {oc_OutOfRoom___init__ kV_OutOfRoom___init__ dc_OutOfRoom___init__ pm_OutOfRoom___init__ cd_OutOfRoom___init__ ct_OutOfRoom___init__ : Value} {f_OutOfRoom___init__ : Addr}
    {od_Store_write an_Store_write : Option Addr} {sl_Store_write : Array (Option Value)} {oc_Store_write kV_Store_write dc_Store_write pm_Store_write cd_Store_write ct_Store_write : Value} {f_Store_write : Addr}
    {od_Store_read an_Store_read : Option Addr} {sl_Store_read : Array (Option Value)} {oc_Store_read kV_Store_read dc_Store_read pm_Store_read cd_Store_read ct_Store_read : Value} {f_Store_read : Addr}
    {od_Store_put_note an_Store_put_note : Option Addr} {sl_Store_put_note : Array (Option Value)} {oc_Store_put_note kV_Store_put_note dc_Store_put_note pm_Store_put_note cd_Store_put_note ct_Store_put_note : Value} {f_Store_put_note : Addr}
    {od_Store_mark an_Store_mark : Option Addr} {sl_Store_mark : Array (Option Value)} {oc_Store_mark kV_Store_mark dc_Store_mark pm_Store_mark cd_Store_mark ct_Store_mark : Value} {f_Store_mark : Addr}
    {od_Store_begin an_Store_begin : Option Addr} {sl_Store_begin : Array (Option Value)} {oc_Store_begin kV_Store_begin dc_Store_begin pm_Store_begin cd_Store_begin ct_Store_begin : Value} {f_Store_begin : Addr}
    {od__law_refused an__law_refused : Option Addr} {sl__law_refused : Array (Option Value)} {oc__law_refused kV__law_refused dc__law_refused pm__law_refused cd__law_refused ct__law_refused : Value} {f__law_refused : Addr}
    {od__law_written an__law_written : Option Addr} {sl__law_written : Array (Option Value)} {oc__law_written kV__law_written dc__law_written pm__law_written cd__law_written ct__law_written : Value} {f__law_written : Addr}
    {od__law_noted an__law_noted : Option Addr} {sl__law_noted : Array (Option Value)} {oc__law_noted kV__law_noted dc__law_noted pm__law_noted cd__law_noted ct__law_noted : Value} {f__law_noted : Addr}
    {od__law_begun an__law_begun : Option Addr} {sl__law_begun : Array (Option Value)} {oc__law_begun kV__law_begun dc__law_begun pm__law_begun cd__law_begun ct__law_begun : Value} {f__law_begun : Addr}
    {od__law_deed an__law_deed : Option Addr} {sl__law_deed : Array (Option Value)} {oc__law_deed kV__law_deed dc__law_deed pm__law_deed cd__law_deed ct__law_deed : Value} {f__law_deed : Addr}
    {od_Store_told an_Store_told : Option Addr} {sl_Store_told : Array (Option Value)} {oc_Store_told kV_Store_told dc_Store_told pm_Store_told cd_Store_told ct_Store_told : Value} {f_Store_told : Addr}
    {od_Store_noted an_Store_noted : Option Addr} {sl_Store_noted : Array (Option Value)} {oc_Store_noted kV_Store_noted dc_Store_noted pm_Store_noted cd_Store_noted ct_Store_noted : Value} {f_Store_noted : Addr}
    {od_law an_law : Option Addr} {sl_law : Array (Option Value)} {oc_law kV_law dc_law pm_law ct_law : Value} {f_law : Addr} {cc_law P_law : Addr}
    {C_Store C_RoomError C_OutOfRoom C_Fallen : Addr}
    (hg_Store : PySem.W.nsIn K mainGlobals "Store" = some (some (.ref C_Store)))
    (pg_Store : PySem.W.plainGet K C_Store Str.empty = true)
    (hd_Store : PySem.W.hasDictIn K C_Store = true)
    (po_Store : PySem.W.plainOver K C_Store = true)
    (sa_Store : PySem.W.findIn K (.ref C_Store) "__setattr__" = some (some (.builtin "object.__setattr__")))
    (mk_Store : PySem.W.makesIn K C_Store = true)
    (in_Store : PySem.W.findIn K (.ref C_Store) "__init__" = some (some (.ref f_Store___init__)))
    (if_Store : PySem.W.isFn K (.ref f_Store___init__) = true)
    (kc_Store : PySem.W.keepIn K (.ref C_Store) = true)
    (n_Store_cells : PySem.W.findIn K (.ref C_Store) "cells" = some none)
    (n_Store_notes : PySem.W.findIn K (.ref C_Store) "notes" = some none)
    (n_Store_asked : PySem.W.findIn K (.ref C_Store) "asked" = some none)
    (n_Store_fall : PySem.W.findIn K (.ref C_Store) "fall" = some none)
    (hg_RoomError : PySem.W.nsIn K mainGlobals "RoomError" = some (some (.ref C_RoomError)))
    (hg_OutOfRoom : PySem.W.nsIn K mainGlobals "OutOfRoom" = some (some (.ref C_OutOfRoom)))
    (hg_Fallen : PySem.W.nsIn K mainGlobals "Fallen" = some (some (.ref C_Fallen)))
    (ob_OutOfRoom : DL.oexB K C_OutOfRoom = true)
    (os_OutOfRoom : PySem.W.findIn K (.ref C_OutOfRoom) "__setattr__" = some (some (.builtin "object.__setattr__")))
    (oe_OutOfRoom : PySem.W.subIn K (.ref C_OutOfRoom) (.type "BaseException") = some true)
    (ot_OutOfRoom : PySem.W.typeIn K (.ref C_OutOfRoom) = some (.type "type"))
    (okp_OutOfRoom : PySem.W.keepIn K (.ref C_OutOfRoom) = true)
    (xa_OutOfRoom : PySem.W.findIn K (.ref C_OutOfRoom) "__getattribute__" = some (some (.builtin "BaseException.__getattribute__")))
    (xg_OutOfRoom : PySem.W.findIn K (.ref C_OutOfRoom) "__getattr__" = some none)
    (xb_OutOfRoom : PySem.W.subIn K (.ref C_OutOfRoom) (.type "BaseException") = some true)
    (xd_OutOfRoom : PySem.W.hasDictIn K C_OutOfRoom = true)
    (hnx_OutOfRoom : PySem.W.findIn K (.ref C_OutOfRoom) "at" = some none)
    (hix_OutOfRoom : PySem.W.findIn K (.ref C_OutOfRoom) "__init__" = some (some (.ref f_OutOfRoom___init__)))
    (hti_OutOfRoom : PySem.W.typeIn K (.ref f_OutOfRoom___init__) = some (.type "function"))
    (ob_Fallen : DL.oexB K C_Fallen = true)
    (os_Fallen : PySem.W.findIn K (.ref C_Fallen) "__setattr__" = some (some (.builtin "object.__setattr__")))
    (oe_Fallen : PySem.W.subIn K (.ref C_Fallen) (.type "BaseException") = some true)
    (ot_Fallen : PySem.W.typeIn K (.ref C_Fallen) = some (.type "type"))
    (okp_Fallen : PySem.W.keepIn K (.ref C_Fallen) = true)
    (xa_Fallen : PySem.W.findIn K (.ref C_Fallen) "__getattribute__" = some (some (.builtin "BaseException.__getattribute__")))
    (xg_Fallen : PySem.W.findIn K (.ref C_Fallen) "__getattr__" = some none)
    (xb_Fallen : PySem.W.subIn K (.ref C_Fallen) (.type "BaseException") = some true)
    (xd_Fallen : PySem.W.hasDictIn K C_Fallen = true)
    (hnx_Fallen : PySem.W.findIn K (.ref C_Fallen) "count" = some none)
    (hix_Fallen : PySem.W.findIn K (.ref C_Fallen) "__init__" = some (some (.ref f_Fallen___init__)))
    (hti_Fallen : PySem.W.typeIn K (.ref f_Fallen___init__) = some (.type "function"))
    (ec_OutOfRoom_0 : PySem.W.findIn K (.ref C_OutOfRoom) "__getattribute__" = some (some (.builtin "BaseException.__getattribute__")))
    (ec_OutOfRoom_1 : PySem.W.findIn K (.ref C_OutOfRoom) "__getattr__" = some none)
    (ec_OutOfRoom_2 : PySem.W.subIn K (.ref C_OutOfRoom) (.type "BaseException") = some true)
    (ec_OutOfRoom_3 : PySem.W.hasDictIn K C_OutOfRoom = true)
    (ec_OutOfRoom_4 : PySem.W.findIn K (.ref C_OutOfRoom) "__class__" = some (some (.builtin "object.__class__")))
    (ec_OutOfRoom_5 : PySem.W.specialIn K (.builtin "object.__class__") "__get__" = some (some (.builtin "getset_descriptor.__get__")))
    (ec_OutOfRoom_6 : PySem.W.takesIn K (.builtin "object.__class__") = some true)
    (ec_OutOfRoom_7 : PySem.W.mroIn K C_OutOfRoom (.type "object") = some true)
    (ec_Fallen_0 : PySem.W.findIn K (.ref C_Fallen) "__getattribute__" = some (some (.builtin "BaseException.__getattribute__")))
    (ec_Fallen_1 : PySem.W.findIn K (.ref C_Fallen) "__getattr__" = some none)
    (ec_Fallen_2 : PySem.W.subIn K (.ref C_Fallen) (.type "BaseException") = some true)
    (ec_Fallen_3 : PySem.W.hasDictIn K C_Fallen = true)
    (ec_Fallen_4 : PySem.W.findIn K (.ref C_Fallen) "__class__" = some (some (.builtin "object.__class__")))
    (ec_Fallen_5 : PySem.W.specialIn K (.builtin "object.__class__") "__get__" = some (some (.builtin "getset_descriptor.__get__")))
    (ec_Fallen_6 : PySem.W.takesIn K (.builtin "object.__class__") = some true)
    (ec_Fallen_7 : PySem.W.mroIn K C_Fallen (.type "object") = some true)
    (e_Fallen_Fallen_0 : PySem.W.subIn K (.ref C_Fallen) (.type "BaseException") = some true)
    (e_Fallen_Fallen_1 : PySem.W.hasDictIn K C_Fallen = true)
    (e_Fallen_Fallen_2 : PySem.W.typeIn K (.ref C_Fallen) = some (.type "type"))
    (e_Fallen_Fallen_3 : PySem.W.subIn K (.ref C_Fallen) (.ref C_Fallen) = some true)
    (e_OutOfRoom_Fallen_0 : PySem.W.subIn K (.ref C_Fallen) (.type "BaseException") = some true)
    (e_OutOfRoom_Fallen_1 : PySem.W.hasDictIn K C_Fallen = true)
    (e_OutOfRoom_Fallen_2 : PySem.W.typeIn K (.ref C_Fallen) = some (.type "type"))
    (e_OutOfRoom_Fallen_3 : PySem.W.subIn K (.ref C_OutOfRoom) (.ref C_Fallen) = some false)
    (e_OutOfRoom_OutOfRoom_0 : PySem.W.subIn K (.ref C_OutOfRoom) (.type "BaseException") = some true)
    (e_OutOfRoom_OutOfRoom_1 : PySem.W.hasDictIn K C_OutOfRoom = true)
    (e_OutOfRoom_OutOfRoom_2 : PySem.W.typeIn K (.ref C_OutOfRoom) = some (.type "type"))
    (e_OutOfRoom_OutOfRoom_3 : PySem.W.subIn K (.ref C_OutOfRoom) (.ref C_OutOfRoom) = some true)
    (hkit_Fallen_OutOfRoom : PySem.W.kitOne K (.ref C_Fallen) (.ref C_OutOfRoom) = some false)
    (hkit_Fallen_RoomError : PySem.W.kitOne K (.ref C_Fallen) (.ref C_RoomError) = some true)
    (hkit_Fallen_ValueError : PySem.W.kitOne K (.ref C_Fallen) (.type "ValueError") = some true)
    (hkit_OutOfRoom_RoomError : PySem.W.kitOne K (.ref C_OutOfRoom) (.ref C_RoomError) = some true)
    (hkit_OutOfRoom_ValueError : PySem.W.kitOne K (.ref C_OutOfRoom) (.type "ValueError") = some true)
    (ma_Store_begin : PySem.W.findIn K (.ref C_Store) "begin" = some (some (.ref f_Store_begin)))
    (mf_Store_begin : PySem.W.isFn K (.ref f_Store_begin) = true)
    (mk_Store_begin : PySem.W.keepIn K (.ref f_Store_begin) = true)
    (ma_Store_comes : PySem.W.findIn K (.ref C_Store) "comes" = some (some (.ref f_Store_comes)))
    (mf_Store_comes : PySem.W.isFn K (.ref f_Store_comes) = true)
    (mk_Store_comes : PySem.W.keepIn K (.ref f_Store_comes) = true)
    (ma_Store_mark : PySem.W.findIn K (.ref C_Store) "mark" = some (some (.ref f_Store_mark)))
    (mf_Store_mark : PySem.W.isFn K (.ref f_Store_mark) = true)
    (mk_Store_mark : PySem.W.keepIn K (.ref f_Store_mark) = true)
    (ma_Store_noted : PySem.W.findIn K (.ref C_Store) "noted" = some (some (.ref f_Store_noted)))
    (mf_Store_noted : PySem.W.isFn K (.ref f_Store_noted) = true)
    (mk_Store_noted : PySem.W.keepIn K (.ref f_Store_noted) = true)
    (ma_Store_put_note : PySem.W.findIn K (.ref C_Store) "put_note" = some (some (.ref f_Store_put_note)))
    (mf_Store_put_note : PySem.W.isFn K (.ref f_Store_put_note) = true)
    (mk_Store_put_note : PySem.W.keepIn K (.ref f_Store_put_note) = true)
    (ma_Store_read : PySem.W.findIn K (.ref C_Store) "read" = some (some (.ref f_Store_read)))
    (mf_Store_read : PySem.W.isFn K (.ref f_Store_read) = true)
    (mk_Store_read : PySem.W.keepIn K (.ref f_Store_read) = true)
    (ma_Store_told : PySem.W.findIn K (.ref C_Store) "told" = some (some (.ref f_Store_told)))
    (mf_Store_told : PySem.W.isFn K (.ref f_Store_told) = true)
    (mk_Store_told : PySem.W.keepIn K (.ref f_Store_told) = true)
    (ma_Store_write : PySem.W.findIn K (.ref C_Store) "write" = some (some (.ref f_Store_write)))
    (mf_Store_write : PySem.W.isFn K (.ref f_Store_write) = true)
    (mk_Store_write : PySem.W.keepIn K (.ref f_Store_write) = true)
    (a__law_cell_at : PySem.W.nsIn K mainGlobals "_law_cell_at" = some (some (.ref f__law_cell_at)))
    (l__law_cell_at : K.lookup f__law_cell_at = some ⟨oc__law_cell_at, od__law_cell_at, .func (PySem.W.fnOf "_law_cell_at" "_law_cell_at" (defArgs s__law_cell_at) (defBody s__law_cell_at) (defScope s__law_cell_at) .none kV__law_cell_at dc__law_cell_at pm__law_cell_at an__law_cell_at cd__law_cell_at ct__law_cell_at), sl__law_cell_at⟩)
    (c__law_cell_at : PySem.W.codeIn K cd__law_cell_at "_law_cell_at" = true)
    (k__law_cell_at : PySem.W.keepIn K (.ref f__law_cell_at) = true)
    (l_Store___init__ : K.lookup f_Store___init__ = some ⟨oc_Store___init__, od_Store___init__, .func (PySem.W.fnOf "__init__" "Store.__init__" (defArgs s_Store___init__) (defBody s_Store___init__) (defScope s_Store___init__) (.ref dt_Store___init__) kV_Store___init__ dc_Store___init__ pm_Store___init__ an_Store___init__ cd_Store___init__ ct_Store___init__), sl_Store___init__⟩)
    (dl_Store___init__ : K.lookup dt_Store___init__ = some do_Store___init__)
    (dd_Store___init__ : do_Store___init__.data = .seq (List.toArray [.none]) dn_Store___init__)
    (c_Store___init__ : PySem.W.codeIn K cd_Store___init__ "Store.__init__" = true)
    (k_Store___init__ : PySem.W.keepIn K (.ref f_Store___init__) = true)
    (a__law_mixed : PySem.W.nsIn K mainGlobals "_law_mixed" = some (some (.ref f__law_mixed)))
    (l__law_mixed : K.lookup f__law_mixed = some ⟨oc__law_mixed, od__law_mixed, .func (PySem.W.fnOf "_law_mixed" "_law_mixed" (defArgs s__law_mixed) (defBody s__law_mixed) (defScope s__law_mixed) .none kV__law_mixed dc__law_mixed pm__law_mixed an__law_mixed cd__law_mixed ct__law_mixed), sl__law_mixed⟩)
    (c__law_mixed : PySem.W.codeIn K cd__law_mixed "_law_mixed" = true)
    (k__law_mixed : PySem.W.keepIn K (.ref f__law_mixed) = true)
    (a__law_fall_at : PySem.W.nsIn K mainGlobals "_law_fall_at" = some (some (.ref f__law_fall_at)))
    (l__law_fall_at : K.lookup f__law_fall_at = some ⟨oc__law_fall_at, od__law_fall_at, .func (PySem.W.fnOf "_law_fall_at" "_law_fall_at" (defArgs s__law_fall_at) (defBody s__law_fall_at) (defScope s__law_fall_at) .none kV__law_fall_at dc__law_fall_at pm__law_fall_at an__law_fall_at cd__law_fall_at ct__law_fall_at), sl__law_fall_at⟩)
    (c__law_fall_at : PySem.W.codeIn K cd__law_fall_at "_law_fall_at" = true)
    (k__law_fall_at : PySem.W.keepIn K (.ref f__law_fall_at) = true)
    (l_Store_comes : K.lookup f_Store_comes = some ⟨oc_Store_comes, od_Store_comes, .func (PySem.W.fnOf "comes" "Store.comes" (defArgs s_Store_comes) (defBody s_Store_comes) (defScope s_Store_comes) .none kV_Store_comes dc_Store_comes pm_Store_comes an_Store_comes cd_Store_comes ct_Store_comes), sl_Store_comes⟩)
    (c_Store_comes : PySem.W.codeIn K cd_Store_comes "Store.comes" = true)
    (k_Store_comes : PySem.W.keepIn K (.ref f_Store_comes) = true)
    (l_Fallen___init__ : K.lookup f_Fallen___init__ = some ⟨oc_Fallen___init__, od_Fallen___init__, .func (PySem.W.fnOf "__init__" "Fallen.__init__" (defArgs s_Fallen___init__) (defBody s_Fallen___init__) (defScope s_Fallen___init__) .none kV_Fallen___init__ dc_Fallen___init__ pm_Fallen___init__ an_Fallen___init__ cd_Fallen___init__ ct_Fallen___init__), sl_Fallen___init__⟩)
    (c_Fallen___init__ : PySem.W.codeIn K cd_Fallen___init__ "Fallen.__init__" = true)
    (k_Fallen___init__ : PySem.W.keepIn K (.ref f_Fallen___init__) = true)
    (l_OutOfRoom___init__ : K.lookup f_OutOfRoom___init__ = some ⟨oc_OutOfRoom___init__, od_OutOfRoom___init__, .func (PySem.W.fnOf "__init__" "OutOfRoom.__init__" (defArgs s_OutOfRoom___init__) (defBody s_OutOfRoom___init__) (defScope s_OutOfRoom___init__) .none kV_OutOfRoom___init__ dc_OutOfRoom___init__ pm_OutOfRoom___init__ an_OutOfRoom___init__ cd_OutOfRoom___init__ ct_OutOfRoom___init__), sl_OutOfRoom___init__⟩)
    (c_OutOfRoom___init__ : PySem.W.codeIn K cd_OutOfRoom___init__ "OutOfRoom.__init__" = true)
    (k_OutOfRoom___init__ : PySem.W.keepIn K (.ref f_OutOfRoom___init__) = true)
    (l_Store_write : K.lookup f_Store_write = some ⟨oc_Store_write, od_Store_write, .func (PySem.W.fnOf "write" "Store.write" (defArgs s_Store_write) (defBody s_Store_write) (defScope s_Store_write) .none kV_Store_write dc_Store_write pm_Store_write an_Store_write cd_Store_write ct_Store_write), sl_Store_write⟩)
    (c_Store_write : PySem.W.codeIn K cd_Store_write "Store.write" = true)
    (k_Store_write : PySem.W.keepIn K (.ref f_Store_write) = true)
    (l_Store_read : K.lookup f_Store_read = some ⟨oc_Store_read, od_Store_read, .func (PySem.W.fnOf "read" "Store.read" (defArgs s_Store_read) (defBody s_Store_read) (defScope s_Store_read) .none kV_Store_read dc_Store_read pm_Store_read an_Store_read cd_Store_read ct_Store_read), sl_Store_read⟩)
    (c_Store_read : PySem.W.codeIn K cd_Store_read "Store.read" = true)
    (k_Store_read : PySem.W.keepIn K (.ref f_Store_read) = true)
    (l_Store_put_note : K.lookup f_Store_put_note = some ⟨oc_Store_put_note, od_Store_put_note, .func (PySem.W.fnOf "put_note" "Store.put_note" (defArgs s_Store_put_note) (defBody s_Store_put_note) (defScope s_Store_put_note) .none kV_Store_put_note dc_Store_put_note pm_Store_put_note an_Store_put_note cd_Store_put_note ct_Store_put_note), sl_Store_put_note⟩)
    (c_Store_put_note : PySem.W.codeIn K cd_Store_put_note "Store.put_note" = true)
    (k_Store_put_note : PySem.W.keepIn K (.ref f_Store_put_note) = true)
    (l_Store_mark : K.lookup f_Store_mark = some ⟨oc_Store_mark, od_Store_mark, .func (PySem.W.fnOf "mark" "Store.mark" (defArgs s_Store_mark) (defBody s_Store_mark) (defScope s_Store_mark) .none kV_Store_mark dc_Store_mark pm_Store_mark an_Store_mark cd_Store_mark ct_Store_mark), sl_Store_mark⟩)
    (c_Store_mark : PySem.W.codeIn K cd_Store_mark "Store.mark" = true)
    (k_Store_mark : PySem.W.keepIn K (.ref f_Store_mark) = true)
    (l_Store_begin : K.lookup f_Store_begin = some ⟨oc_Store_begin, od_Store_begin, .func (PySem.W.fnOf "begin" "Store.begin" (defArgs s_Store_begin) (defBody s_Store_begin) (defScope s_Store_begin) .none kV_Store_begin dc_Store_begin pm_Store_begin an_Store_begin cd_Store_begin ct_Store_begin), sl_Store_begin⟩)
    (c_Store_begin : PySem.W.codeIn K cd_Store_begin "Store.begin" = true)
    (k_Store_begin : PySem.W.keepIn K (.ref f_Store_begin) = true)
    (a__law_refused : PySem.W.nsIn K mainGlobals "_law_refused" = some (some (.ref f__law_refused)))
    (l__law_refused : K.lookup f__law_refused = some ⟨oc__law_refused, od__law_refused, .func (PySem.W.fnOf "_law_refused" "_law_refused" (defArgs s__law_refused) (defBody s__law_refused) (defScope s__law_refused) .none kV__law_refused dc__law_refused pm__law_refused an__law_refused cd__law_refused ct__law_refused), sl__law_refused⟩)
    (c__law_refused : PySem.W.codeIn K cd__law_refused "_law_refused" = true)
    (k__law_refused : PySem.W.keepIn K (.ref f__law_refused) = true)
    (a__law_written : PySem.W.nsIn K mainGlobals "_law_written" = some (some (.ref f__law_written)))
    (l__law_written : K.lookup f__law_written = some ⟨oc__law_written, od__law_written, .func (PySem.W.fnOf "_law_written" "_law_written" (defArgs s__law_written) (defBody s__law_written) (defScope s__law_written) .none kV__law_written dc__law_written pm__law_written an__law_written cd__law_written ct__law_written), sl__law_written⟩)
    (c__law_written : PySem.W.codeIn K cd__law_written "_law_written" = true)
    (k__law_written : PySem.W.keepIn K (.ref f__law_written) = true)
    (a__law_noted : PySem.W.nsIn K mainGlobals "_law_noted" = some (some (.ref f__law_noted)))
    (l__law_noted : K.lookup f__law_noted = some ⟨oc__law_noted, od__law_noted, .func (PySem.W.fnOf "_law_noted" "_law_noted" (defArgs s__law_noted) (defBody s__law_noted) (defScope s__law_noted) .none kV__law_noted dc__law_noted pm__law_noted an__law_noted cd__law_noted ct__law_noted), sl__law_noted⟩)
    (c__law_noted : PySem.W.codeIn K cd__law_noted "_law_noted" = true)
    (k__law_noted : PySem.W.keepIn K (.ref f__law_noted) = true)
    (a__law_begun : PySem.W.nsIn K mainGlobals "_law_begun" = some (some (.ref f__law_begun)))
    (l__law_begun : K.lookup f__law_begun = some ⟨oc__law_begun, od__law_begun, .func (PySem.W.fnOf "_law_begun" "_law_begun" (defArgs s__law_begun) (defBody s__law_begun) (defScope s__law_begun) .none kV__law_begun dc__law_begun pm__law_begun an__law_begun cd__law_begun ct__law_begun), sl__law_begun⟩)
    (c__law_begun : PySem.W.codeIn K cd__law_begun "_law_begun" = true)
    (k__law_begun : PySem.W.keepIn K (.ref f__law_begun) = true)
    (a__law_deed : PySem.W.nsIn K mainGlobals "_law_deed" = some (some (.ref f__law_deed)))
    (l__law_deed : K.lookup f__law_deed = some ⟨oc__law_deed, od__law_deed, .func (PySem.W.fnOf "_law_deed" "_law_deed" (defArgs s__law_deed) (defBody s__law_deed) (defScope s__law_deed) .none kV__law_deed dc__law_deed pm__law_deed an__law_deed cd__law_deed ct__law_deed), sl__law_deed⟩)
    (c__law_deed : PySem.W.codeIn K cd__law_deed "_law_deed" = true)
    (k__law_deed : PySem.W.keepIn K (.ref f__law_deed) = true)
    (l_Store_told : K.lookup f_Store_told = some ⟨oc_Store_told, od_Store_told, .func (PySem.W.fnOf "told" "Store.told" (defArgs s_Store_told) (defBody s_Store_told) (defScope s_Store_told) .none kV_Store_told dc_Store_told pm_Store_told an_Store_told cd_Store_told ct_Store_told), sl_Store_told⟩)
    (c_Store_told : PySem.W.codeIn K cd_Store_told "Store.told" = true)
    (k_Store_told : PySem.W.keepIn K (.ref f_Store_told) = true)
    (l_Store_noted : K.lookup f_Store_noted = some ⟨oc_Store_noted, od_Store_noted, .func (PySem.W.fnOf "noted" "Store.noted" (defArgs s_Store_noted) (defBody s_Store_noted) (defScope s_Store_noted) .none kV_Store_noted dc_Store_noted pm_Store_noted an_Store_noted cd_Store_noted ct_Store_noted), sl_Store_noted⟩)
    (c_Store_noted : PySem.W.codeIn K cd_Store_noted "Store.noted" = true)
    (k_Store_noted : PySem.W.keepIn K (.ref f_Store_noted) = true)
    (a_law : PySem.W.nsIn K mainGlobals "law" = some (some (.ref f_law)))
    (l_law : K.lookup f_law = some ⟨oc_law, od_law, .func (PySem.W.fnOf "law" "law" (defArgs s_law) (defBody s_law) (defScope s_law) .none kV_law dc_law pm_law an_law (.ref cc_law) ct_law), sl_law⟩)
    (c_law : PySem.W.codeIn K (.ref cc_law) "law" = true)
    (np_law : K.lookup P_law = none)
    (ch_law : PySem.W.codeHdIn K cc_law P_law = true)
    (k_law : PySem.W.keepIn K (.ref f_law) = true)
    (z_ValueError : PySem.W.nsIn K mainGlobals "ValueError" = some none)
    (z_divmod : PySem.W.nsIn K mainGlobals "divmod" = some none)
    (z_isinstance : PySem.W.nsIn K mainGlobals "isinstance" = some none)
    (z_len : PySem.W.nsIn K mainGlobals "len" = some none)
    (z_list : PySem.W.nsIn K mainGlobals "list" = some none)
    (z_max : PySem.W.nsIn K mainGlobals "max" = some none)
    (z_min : PySem.W.nsIn K mainGlobals "min" = some none)
    (z_range : PySem.W.nsIn K mainGlobals "range" = some none)
    (z_tuple : PySem.W.nsIn K mainGlobals "tuple" = some none)
    (in_law : P_law ∈ ts)
    : LamX.LawAtS l w K CX0 12 63 "_law_script" mg fa h := by
  have e := hfa.symm.trans (PySem.W.mg_of X G a_law)
  cases e
  letI : DL.TbC := ⟨[(P_law, fun _ _ => q_law_lam)]⟩
  have F__law_cell_at := fun_mk (st := s__law_cell_at) l__law_cell_at c__law_cell_at k__law_cell_at
  have b__law_cell_at := F__law_cell_at.binds (ps := ["_law_script", "_law_k"]) fun _ _ _ _ _ _ us hl => match us, hl with | [_, _], _ => rfl
  have F_Store___init__ := fune_mk (st := s_Store___init__) (dvs := [.non]) l_Store___init__ c_Store___init__ k_Store___init__ dl_Store___init__ dd_Store___init__ (.cons rfl .nil) (by decide)
  obtain ⟨ds_Store___init__, v_Store___init__, b_Store___init__⟩ := F_Store___init__.binds1 (ps := ["self", "cells", "fall"]) 3 1 (by decide) rfl fun _ _ _ _ _ _ _ us its hl hi => match us, hl, its, hi with | [_, _, _], _, [_], _ => ⟨_, rfl, rfl⟩
  cases v_Store___init__
  obtain ⟨ds_Store___init__2, v_Store___init__2, b_Store___init__2⟩ := F_Store___init__.binds1 (ps := ["self", "cells", "fall"]) 2 0 (by decide) rfl fun _ _ _ _ _ _ _ us its hl hi => match us, hl, its, hi with | [_, _], _, [_], _ => ⟨_, rfl, rfl⟩
  have F__law_mixed := fun_mk (st := s__law_mixed) l__law_mixed c__law_mixed k__law_mixed
  have b__law_mixed := F__law_mixed.binds (ps := ["_law_cell", "_law_k"]) fun _ _ _ _ _ _ us hl => match us, hl with | [_, _], _ => rfl
  have F__law_fall_at := fun_mk (st := s__law_fall_at) l__law_fall_at c__law_fall_at k__law_fall_at
  have b__law_fall_at := F__law_fall_at.binds (ps := ["_law_cell", "_law_count"]) fun _ _ _ _ _ _ us hl => match us, hl with | [_, _], _ => rfl
  have F_Store_comes := fun_mk (st := s_Store_comes) l_Store_comes c_Store_comes k_Store_comes
  have b_Store_comes := F_Store_comes.binds (ps := ["self"]) fun _ _ _ _ _ _ us hl => match us, hl with | [_], _ => rfl
  have F_Fallen___init__ := fun_mk (st := s_Fallen___init__) l_Fallen___init__ c_Fallen___init__ k_Fallen___init__
  have b_Fallen___init__ := F_Fallen___init__.binds (ps := ["self", "count"]) fun _ _ _ _ _ _ us hl => match us, hl with | [_, _], _ => rfl
  have F_OutOfRoom___init__ := fun_mk (st := s_OutOfRoom___init__) l_OutOfRoom___init__ c_OutOfRoom___init__ k_OutOfRoom___init__
  have b_OutOfRoom___init__ := F_OutOfRoom___init__.binds (ps := ["self", "at"]) fun _ _ _ _ _ _ us hl => match us, hl with | [_, _], _ => rfl
  have F_Store_write := fun_mk (st := s_Store_write) l_Store_write c_Store_write k_Store_write
  have b_Store_write := F_Store_write.binds (ps := ["self", "at", "sign"]) fun _ _ _ _ _ _ us hl => match us, hl with | [_, _, _], _ => rfl
  have F_Store_read := fun_mk (st := s_Store_read) l_Store_read c_Store_read k_Store_read
  have b_Store_read := F_Store_read.binds (ps := ["self", "at"]) fun _ _ _ _ _ _ us hl => match us, hl with | [_, _], _ => rfl
  have F_Store_put_note := fun_mk (st := s_Store_put_note) l_Store_put_note c_Store_put_note k_Store_put_note
  have b_Store_put_note := F_Store_put_note.binds (ps := ["self", "which", "number"]) fun _ _ _ _ _ _ us hl => match us, hl with | [_, _, _], _ => rfl
  have F_Store_mark := fun_mk (st := s_Store_mark) l_Store_mark c_Store_mark k_Store_mark
  have b_Store_mark := F_Store_mark.binds (ps := ["self", "number"]) fun _ _ _ _ _ _ us hl => match us, hl with | [_, _], _ => rfl
  have F_Store_begin := fun_mk (st := s_Store_begin) l_Store_begin c_Store_begin k_Store_begin
  have b_Store_begin := F_Store_begin.binds (ps := ["self"]) fun _ _ _ _ _ _ us hl => match us, hl with | [_], _ => rfl
  have F__law_refused := fun_mk (st := s__law_refused) l__law_refused c__law_refused k__law_refused
  have b__law_refused := F__law_refused.binds (ps := ["_law_store", "_law_deed_here", "_law_at", "_law_sign"]) fun _ _ _ _ _ _ us hl => match us, hl with | [_, _, _, _], _ => rfl
  have F__law_written := fun_mk (st := s__law_written) l__law_written c__law_written k__law_written
  have b__law_written := F__law_written.binds (ps := ["_law_store", "_law_stand", "_law_at", "_law_sign", "_law_cell"]) fun _ _ _ _ _ _ us hl => match us, hl with | [_, _, _, _, _], _ => rfl
  have F__law_noted := fun_mk (st := s__law_noted) l__law_noted c__law_noted k__law_noted
  have b__law_noted := F__law_noted.binds (ps := ["_law_stand", "_law_which", "_law_number", "_law_cell"]) fun _ _ _ _ _ _ us hl => match us, hl with | [_, _, _, _], _ => rfl
  have F__law_begun := fun_mk (st := s__law_begun) l__law_begun c__law_begun k__law_begun
  have b__law_begun := F__law_begun.binds (ps := ["_law_store", "_law_stand", "_law_cell"]) fun _ _ _ _ _ _ us hl => match us, hl with | [_, _, _], _ => rfl
  have F__law_deed := fun_mk (st := s__law_deed) l__law_deed c__law_deed k__law_deed
  have b__law_deed := F__law_deed.binds (ps := ["_law_store", "_law_stand", "_law_cell", "_law_falls", "_law_k"]) fun _ _ _ _ _ _ us hl => match us, hl with | [_, _, _, _, _], _ => rfl
  have F_Store_told := fun_mk (st := s_Store_told) l_Store_told c_Store_told k_Store_told
  have b_Store_told := F_Store_told.binds (ps := ["self"]) fun _ _ _ _ _ _ us hl => match us, hl with | [_], _ => rfl
  have F_Store_noted := fun_mk (st := s_Store_noted) l_Store_noted c_Store_noted k_Store_noted
  have b_Store_noted := F_Store_noted.binds (ps := ["self"]) fun _ _ _ _ _ _ us hl => match us, hl with | [_], _ => rfl
  have F_law := funC_mk (st := s_law) l_law c_law k_law
  have b_law := F_law.fun.binds (ps := ["_law_script"]) fun _ _ _ _ _ _ us hl => match us, hl with | [_], _ => rfl
  have tu_law : ∀ p ∈ DL.TbC.T, p.1 = P_law → p.2 = fun _ _ => q_law_lam := fun p hp e => by
    obtain rfl := List.mem_singleton.mp hp
    rfl
  let T : Tx K mg := {
    a__law_cell_at := f__law_cell_at, d__law_cell_at := _, F__law_cell_at := F__law_cell_at, b__law_cell_at := b__law_cell_at,  g__law_cell_at := PySem.W.mg_of X G a__law_cell_at,
    a_Store___init__ := f_Store___init__, d_Store___init__ := _, F_Store___init__ := F_Store___init__, b_Store___init__ := b_Store___init__,  ds_Store___init__2 := ds_Store___init__2, v_Store___init__2 := v_Store___init__2, b_Store___init__2 := b_Store___init__2,
    a__law_mixed := f__law_mixed, d__law_mixed := _, F__law_mixed := F__law_mixed, b__law_mixed := b__law_mixed,  g__law_mixed := PySem.W.mg_of X G a__law_mixed,
    a__law_fall_at := f__law_fall_at, d__law_fall_at := _, F__law_fall_at := F__law_fall_at, b__law_fall_at := b__law_fall_at,  g__law_fall_at := PySem.W.mg_of X G a__law_fall_at,
    a_Store_comes := f_Store_comes, d_Store_comes := _, F_Store_comes := F_Store_comes, b_Store_comes := b_Store_comes, 
    a_Fallen___init__ := f_Fallen___init__, d_Fallen___init__ := _, F_Fallen___init__ := F_Fallen___init__, b_Fallen___init__ := b_Fallen___init__, 
    a_OutOfRoom___init__ := f_OutOfRoom___init__, d_OutOfRoom___init__ := _, F_OutOfRoom___init__ := F_OutOfRoom___init__, b_OutOfRoom___init__ := b_OutOfRoom___init__, 
    a_Store_write := f_Store_write, d_Store_write := _, F_Store_write := F_Store_write, b_Store_write := b_Store_write, 
    a_Store_read := f_Store_read, d_Store_read := _, F_Store_read := F_Store_read, b_Store_read := b_Store_read, 
    a_Store_put_note := f_Store_put_note, d_Store_put_note := _, F_Store_put_note := F_Store_put_note, b_Store_put_note := b_Store_put_note, 
    a_Store_mark := f_Store_mark, d_Store_mark := _, F_Store_mark := F_Store_mark, b_Store_mark := b_Store_mark, 
    a_Store_begin := f_Store_begin, d_Store_begin := _, F_Store_begin := F_Store_begin, b_Store_begin := b_Store_begin, 
    a__law_refused := f__law_refused, d__law_refused := _, F__law_refused := F__law_refused, b__law_refused := b__law_refused,  g__law_refused := PySem.W.mg_of X G a__law_refused,
    a__law_written := f__law_written, d__law_written := _, F__law_written := F__law_written, b__law_written := b__law_written,  g__law_written := PySem.W.mg_of X G a__law_written,
    a__law_noted := f__law_noted, d__law_noted := _, F__law_noted := F__law_noted, b__law_noted := b__law_noted,  g__law_noted := PySem.W.mg_of X G a__law_noted,
    a__law_begun := f__law_begun, d__law_begun := _, F__law_begun := F__law_begun, b__law_begun := b__law_begun,  g__law_begun := PySem.W.mg_of X G a__law_begun,
    a__law_deed := f__law_deed, d__law_deed := _, F__law_deed := F__law_deed, b__law_deed := b__law_deed,  g__law_deed := PySem.W.mg_of X G a__law_deed,
    a_Store_told := f_Store_told, d_Store_told := _, F_Store_told := F_Store_told, b_Store_told := b_Store_told, 
    a_Store_noted := f_Store_noted, d_Store_noted := _, F_Store_noted := F_Store_noted, b_Store_noted := b_Store_noted, 
    a_law := fa, d_law := _, F_law := F_law, b_law := b_law, cc_law := cc_law, P_law := P_law, tm_law := (show (P_law, _) ∈ ([(P_law, fun _ _ => q_law_lam)] : List NdefX.NTab) from .head _), tu_law := tu_law,  g_law := PySem.W.mg_of X G a_law,
    C_Store := C_Store,
    g_Store := PySem.W.mg_of X G hg_Store,
    cl_Store := ⟨pg_Store, hd_Store, po_Store, sa_Store⟩,
    mk_Store := ⟨mk_Store, in_Store, if_Store, kc_Store⟩,
    n_Store_cells := n_Store_cells,
    n_Store_notes := n_Store_notes,
    n_Store_asked := n_Store_asked,
    n_Store_fall := n_Store_fall,
    C_RoomError := C_RoomError,
    C_OutOfRoom := C_OutOfRoom,
    C_Fallen := C_Fallen,
    g_RoomError := PySem.W.mg_of X G hg_RoomError,
    g_OutOfRoom := PySem.W.mg_of X G hg_OutOfRoom,
    g_Fallen := PySem.W.mg_of X G hg_Fallen,
    ox_OutOfRoom := DL.oex_of ob_OutOfRoom os_OutOfRoom oe_OutOfRoom ot_OutOfRoom okp_OutOfRoom,
    xf_OutOfRoom := ⟨xa_OutOfRoom, xg_OutOfRoom, xb_OutOfRoom, xd_OutOfRoom⟩,
    nx_OutOfRoom := hnx_OutOfRoom,
    ix_OutOfRoom := hix_OutOfRoom,
    ti_OutOfRoom := hti_OutOfRoom,
    ox_Fallen := DL.oex_of ob_Fallen os_Fallen oe_Fallen ot_Fallen okp_Fallen,
    xf_Fallen := ⟨xa_Fallen, xg_Fallen, xb_Fallen, xd_Fallen⟩,
    nx_Fallen := hnx_Fallen,
    ix_Fallen := hix_Fallen,
    ti_Fallen := hti_Fallen,
    ec_OutOfRoom := ⟨ec_OutOfRoom_0, ec_OutOfRoom_1, ec_OutOfRoom_2, ec_OutOfRoom_3, ec_OutOfRoom_4, ec_OutOfRoom_5, ec_OutOfRoom_6, ec_OutOfRoom_7⟩,
    ec_Fallen := ⟨ec_Fallen_0, ec_Fallen_1, ec_Fallen_2, ec_Fallen_3, ec_Fallen_4, ec_Fallen_5, ec_Fallen_6, ec_Fallen_7⟩,
    e_Fallen_Fallen := PySem.W.exm_ref e_Fallen_Fallen_0 e_Fallen_Fallen_1 e_Fallen_Fallen_2 e_Fallen_Fallen_3,
    e_OutOfRoom_Fallen := PySem.W.exm_ref e_OutOfRoom_Fallen_0 e_OutOfRoom_Fallen_1 e_OutOfRoom_Fallen_2 e_OutOfRoom_Fallen_3,
    e_OutOfRoom_OutOfRoom := PySem.W.exm_ref e_OutOfRoom_OutOfRoom_0 e_OutOfRoom_OutOfRoom_1 e_OutOfRoom_OutOfRoom_2 e_OutOfRoom_OutOfRoom_3,
    kit_Fallen_OutOfRoom := hkit_Fallen_OutOfRoom,
    kit_Fallen_RoomError := hkit_Fallen_RoomError,
    kit_Fallen_ValueError := hkit_Fallen_ValueError,
    kit_OutOfRoom_RoomError := hkit_OutOfRoom_RoomError,
    kit_OutOfRoom_ValueError := hkit_OutOfRoom_ValueError,
    m_Store_begin := ⟨ma_Store_begin, mf_Store_begin, mk_Store_begin⟩,
    m_Store_comes := ⟨ma_Store_comes, mf_Store_comes, mk_Store_comes⟩,
    m_Store_mark := ⟨ma_Store_mark, mf_Store_mark, mk_Store_mark⟩,
    m_Store_noted := ⟨ma_Store_noted, mf_Store_noted, mk_Store_noted⟩,
    m_Store_put_note := ⟨ma_Store_put_note, mf_Store_put_note, mk_Store_put_note⟩,
    m_Store_read := ⟨ma_Store_read, mf_Store_read, mk_Store_read⟩,
    m_Store_told := ⟨ma_Store_told, mf_Store_told, mk_Store_told⟩,
    m_Store_write := ⟨ma_Store_write, mf_Store_write, mk_Store_write⟩,
    z_ValueError := PySem.W.mg_none_of X G z_ValueError,
    z_divmod := PySem.W.mg_none_of X G z_divmod,
    z_isinstance := PySem.W.mg_none_of X G z_isinstance,
    z_len := PySem.W.mg_none_of X G z_len,
    z_list := PySem.W.mg_none_of X G z_list,
    z_max := PySem.W.mg_none_of X G z_max,
    z_min := PySem.W.mg_none_of X G z_min,
    z_range := PySem.W.mg_none_of X G z_range,
    z_tuple := PySem.W.mg_none_of X G z_tuple }
  refine ⟨T.d_law, [(cc_law, P_law)], spEnd K, List.forall_mem_cons.mpr ⟨tabs _ in_law, fun _ h => nomatch h⟩, List.forall_mem_cons.mpr ⟨np_law, fun _ h => nomatch h⟩, List.forall_mem_cons.mpr ⟨PySem.W.codeHd_of_K X ch_law, fun _ h => nomatch h⟩, fun s v => .of_eq rfl, fun H a ns hl _ ht hS => law_in H a ns hl hS ?_, fun base KB nb hB => (ok_law T (hB (cc_law, P_law) (.head _))).imp fun vs H Q E h => law_sp T h⟩
  exact List.forall_mem_cons.mpr ⟨NdefX.TabN.nil (ht (cc_law, P_law) (.head _)), fun _ h => nomatch h⟩
end Lw
open PySem PySem.W PyProof.Rows
set_option maxRecDepth 100000 in
set_option maxHeartbeats 0 in
theorem PySem.Challenge.cw_oneroom_k01_a_store_holds : PySem.Challenge.rw_oneroom_k01_a_store.Holds := by
  w_on; o_law; k_head; (case hw => w_witness2)
  k_fill
  refine LamX.walk_ofTs (l := PySem.Challenge.rw_oneroom_k01_a_store) (n := 63) (k := 12) (x := "_law_script") (CX := fun w => L2.CX0) rfl (by decide) rfl ⟨rfl, by decide, by decide⟩ (fun w h Y => PySem.W.km_in_of Y) ?F (fun _ _ _ _ _ h => h)
  case F =>
    intro w mg fa h Y KX G hmg
    have tabs := PySem.W.km_tabs_of Y
    refine' Lw.all_fin (l := PySem.Challenge.rw_oneroom_k01_a_store) (w := w) KX G hmg tabs ?hg_Store ?pg_Store ?hd_Store ?po_Store ?sa_Store ?mk_Store ?in_Store ?if_Store ?kc_Store ?n_Store_cells ?n_Store_notes ?n_Store_asked ?n_Store_fall ?hg_RoomError ?hg_OutOfRoom ?hg_Fallen ?ob_OutOfRoom ?os_OutOfRoom ?oe_OutOfRoom ?ot_OutOfRoom ?okp_OutOfRoom ?xa_OutOfRoom ?xg_OutOfRoom ?xb_OutOfRoom ?xd_OutOfRoom ?hnx_OutOfRoom ?hix_OutOfRoom ?hti_OutOfRoom ?ob_Fallen ?os_Fallen ?oe_Fallen ?ot_Fallen ?okp_Fallen ?xa_Fallen ?xg_Fallen ?xb_Fallen ?xd_Fallen ?hnx_Fallen ?hix_Fallen ?hti_Fallen ?ec_OutOfRoom_0 ?ec_OutOfRoom_1 ?ec_OutOfRoom_2 ?ec_OutOfRoom_3 ?ec_OutOfRoom_4 ?ec_OutOfRoom_5 ?ec_OutOfRoom_6 ?ec_OutOfRoom_7 ?ec_Fallen_0 ?ec_Fallen_1 ?ec_Fallen_2 ?ec_Fallen_3 ?ec_Fallen_4 ?ec_Fallen_5 ?ec_Fallen_6 ?ec_Fallen_7 ?e_Fallen_Fallen_0 ?e_Fallen_Fallen_1 ?e_Fallen_Fallen_2 ?e_Fallen_Fallen_3 ?e_OutOfRoom_Fallen_0 ?e_OutOfRoom_Fallen_1 ?e_OutOfRoom_Fallen_2 ?e_OutOfRoom_Fallen_3 ?e_OutOfRoom_OutOfRoom_0 ?e_OutOfRoom_OutOfRoom_1 ?e_OutOfRoom_OutOfRoom_2 ?e_OutOfRoom_OutOfRoom_3 ?hkit_Fallen_OutOfRoom ?hkit_Fallen_RoomError ?hkit_Fallen_ValueError ?hkit_OutOfRoom_RoomError ?hkit_OutOfRoom_ValueError ?ma_Store_begin ?mf_Store_begin ?mk_Store_begin ?ma_Store_comes ?mf_Store_comes ?mk_Store_comes ?ma_Store_mark ?mf_Store_mark ?mk_Store_mark ?ma_Store_noted ?mf_Store_noted ?mk_Store_noted ?ma_Store_put_note ?mf_Store_put_note ?mk_Store_put_note ?ma_Store_read ?mf_Store_read ?mk_Store_read ?ma_Store_told ?mf_Store_told ?mk_Store_told ?ma_Store_write ?mf_Store_write ?mk_Store_write ?a__law_cell_at ?l__law_cell_at ?c__law_cell_at ?k__law_cell_at ?l_Store___init__ ?dl_Store___init__ ?dd_Store___init__ ?c_Store___init__ ?k_Store___init__ ?a__law_mixed ?l__law_mixed ?c__law_mixed ?k__law_mixed ?a__law_fall_at ?l__law_fall_at ?c__law_fall_at ?k__law_fall_at ?l_Store_comes ?c_Store_comes ?k_Store_comes ?l_Fallen___init__ ?c_Fallen___init__ ?k_Fallen___init__ ?l_OutOfRoom___init__ ?c_OutOfRoom___init__ ?k_OutOfRoom___init__ ?l_Store_write ?c_Store_write ?k_Store_write ?l_Store_read ?c_Store_read ?k_Store_read ?l_Store_put_note ?c_Store_put_note ?k_Store_put_note ?l_Store_mark ?c_Store_mark ?k_Store_mark ?l_Store_begin ?c_Store_begin ?k_Store_begin ?a__law_refused ?l__law_refused ?c__law_refused ?k__law_refused ?a__law_written ?l__law_written ?c__law_written ?k__law_written ?a__law_noted ?l__law_noted ?c__law_noted ?k__law_noted ?a__law_begun ?l__law_begun ?c__law_begun ?k__law_begun ?a__law_deed ?l__law_deed ?c__law_deed ?k__law_deed ?l_Store_told ?c_Store_told ?k_Store_told ?l_Store_noted ?c_Store_noted ?k_Store_noted ?a_law ?l_law ?c_law ?np_law ?ch_law ?k_law ?z_ValueError ?z_divmod ?z_isinstance ?z_len ?z_list ?z_max ?z_min ?z_range ?z_tuple ?in_law
    (case in_law => exact .head _); (case hg_Store => k_is); (case pg_Store => k_is); (case hd_Store => k_is); (case po_Store => k_is); (case sa_Store => k_is); (case mk_Store => k_is); (case in_Store => k_is); (case if_Store => k_is); (case kc_Store => k_is); (case n_Store_cells => k_is); (case n_Store_notes => k_is); (case n_Store_asked => k_is); (case n_Store_fall => k_is); (case hg_RoomError => k_is); (case hg_OutOfRoom => k_is); (case hg_Fallen => k_is); (case ob_OutOfRoom => kernel_rfl); (case os_OutOfRoom => k_is); (case oe_OutOfRoom => k_is); (case ot_OutOfRoom => k_is); (case okp_OutOfRoom => k_is); (case xa_OutOfRoom => k_is); (case xg_OutOfRoom => k_is); (case xb_OutOfRoom => k_is); (case xd_OutOfRoom => k_is); (case hnx_OutOfRoom => k_is); (case hix_OutOfRoom => k_is); (case hti_OutOfRoom => k_is); (case ob_Fallen => kernel_rfl); (case os_Fallen => k_is); (case oe_Fallen => k_is); (case ot_Fallen => k_is); (case okp_Fallen => k_is); (case xa_Fallen => k_is); (case xg_Fallen => k_is); (case xb_Fallen => k_is); (case xd_Fallen => k_is); (case hnx_Fallen => k_is); (case hix_Fallen => k_is); (case hti_Fallen => k_is); (case ec_OutOfRoom_0 => k_is); (case ec_OutOfRoom_1 => k_is); (case ec_OutOfRoom_2 => k_is); (case ec_OutOfRoom_3 => k_is); (case ec_OutOfRoom_4 => k_is); (case ec_OutOfRoom_5 => k_is); (case ec_OutOfRoom_6 => k_is); (case ec_OutOfRoom_7 => k_is); (case ec_Fallen_0 => k_is); (case ec_Fallen_1 => k_is); (case ec_Fallen_2 => k_is); (case ec_Fallen_3 => k_is); (case ec_Fallen_4 => k_is); (case ec_Fallen_5 => k_is); (case ec_Fallen_6 => k_is); (case ec_Fallen_7 => k_is); (case e_Fallen_Fallen_0 => k_is); (case e_Fallen_Fallen_1 => k_is); (case e_Fallen_Fallen_2 => k_is); (case e_Fallen_Fallen_3 => k_is); (case e_OutOfRoom_Fallen_0 => k_is); (case e_OutOfRoom_Fallen_1 => k_is); (case e_OutOfRoom_Fallen_2 => k_is); (case e_OutOfRoom_Fallen_3 => k_is); (case e_OutOfRoom_OutOfRoom_0 => k_is); (case e_OutOfRoom_OutOfRoom_1 => k_is); (case e_OutOfRoom_OutOfRoom_2 => k_is); (case e_OutOfRoom_OutOfRoom_3 => k_is); (case hkit_Fallen_OutOfRoom => kit_is); (case hkit_Fallen_RoomError => kit_is); (case hkit_Fallen_ValueError => kit_is); (case hkit_OutOfRoom_RoomError => kit_is); (case hkit_OutOfRoom_ValueError => kit_is); (case ma_Store_begin => k_is); (case mf_Store_begin => k_is); (case mk_Store_begin => k_is); (case ma_Store_comes => k_is); (case mf_Store_comes => k_is); (case mk_Store_comes => k_is); (case ma_Store_mark => k_is); (case mf_Store_mark => k_is); (case mk_Store_mark => k_is); (case ma_Store_noted => k_is); (case mf_Store_noted => k_is); (case mk_Store_noted => k_is); (case ma_Store_put_note => k_is); (case mf_Store_put_note => k_is); (case mk_Store_put_note => k_is); (case ma_Store_read => k_is); (case mf_Store_read => k_is); (case mk_Store_read => k_is); (case ma_Store_told => k_is); (case mf_Store_told => k_is); (case mk_Store_told => k_is); (case ma_Store_write => k_is); (case mf_Store_write => k_is); (case mk_Store_write => k_is); (case a__law_cell_at => k_is); (case l__law_cell_at => k_is); (case c__law_cell_at => k_is); (case k__law_cell_at => k_is); (case l_Store___init__ => k_is); (case dl_Store___init__ => k_is); (case dd_Store___init__ => exact rfl); (case c_Store___init__ => k_is); (case k_Store___init__ => k_is); (case a__law_mixed => k_is); (case l__law_mixed => k_is); (case c__law_mixed => k_is); (case k__law_mixed => k_is); (case a__law_fall_at => k_is); (case l__law_fall_at => k_is); (case c__law_fall_at => k_is); (case k__law_fall_at => k_is); (case l_Store_comes => k_is); (case c_Store_comes => k_is); (case k_Store_comes => k_is); (case l_Fallen___init__ => k_is); (case c_Fallen___init__ => k_is); (case k_Fallen___init__ => k_is); (case l_OutOfRoom___init__ => k_is); (case c_OutOfRoom___init__ => k_is); (case k_OutOfRoom___init__ => k_is); (case l_Store_write => k_is); (case c_Store_write => k_is); (case k_Store_write => k_is); (case l_Store_read => k_is); (case c_Store_read => k_is); (case k_Store_read => k_is); (case l_Store_put_note => k_is); (case c_Store_put_note => k_is); (case k_Store_put_note => k_is); (case l_Store_mark => k_is); (case c_Store_mark => k_is); (case k_Store_mark => k_is); (case l_Store_begin => k_is); (case c_Store_begin => k_is); (case k_Store_begin => k_is); (case a__law_refused => k_is); (case l__law_refused => k_is); (case c__law_refused => k_is); (case k__law_refused => k_is); (case a__law_written => k_is); (case l__law_written => k_is); (case c__law_written => k_is); (case k__law_written => k_is); (case a__law_noted => k_is); (case l__law_noted => k_is); (case c__law_noted => k_is); (case k__law_noted => k_is); (case a__law_begun => k_is); (case l__law_begun => k_is); (case c__law_begun => k_is); (case k__law_begun => k_is); (case a__law_deed => k_is); (case l__law_deed => k_is); (case c__law_deed => k_is); (case k__law_deed => k_is); (case l_Store_told => k_is); (case c_Store_told => k_is); (case k_Store_told => k_is); (case l_Store_noted => k_is); (case c_Store_noted => k_is); (case k_Store_noted => k_is); (case a_law => k_is); (case l_law => k_is); (case c_law => k_is); (case np_law => kernel_rfl); (case ch_law => kernel_rfl); (case k_law => k_is); (case z_ValueError => k_is); (case z_divmod => k_is); (case z_isinstance => k_is); (case z_len => k_is); (case z_list => k_is); (case z_max => k_is); (case z_min => k_is); (case z_range => k_is); (case z_tuple => k_is)

