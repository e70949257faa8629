import PyProof.Rows.All
import Wide.All
import OpenK.AllK
import Wide.FinOn
import HandS.ForMost
import HandS.Wide
import HandS.TupAny
import HandS.IsInst
import HandS.Conv
import HandS.Deep
import HandS.ClsMeth
import PyProof.ListRange
import PyProof.WalksMore
import HandS.Exc
import HandS.Style
import HandS.Sort
import HandS.Small
import HandS.More
import HandS.ExcOwn
import HandS.ExcIs
import HandS.TryOnly
import HandS.WordsExc
import HandS.Lambda
import KE.GoesEnum
import HandS.Flt
import KE.KRevIter
import KE.GoesRev
import HandS.Zip
import HandS.Rev
import PyProof.CollectIter
import HandS.Nested
import HandS.SortInts
import HandS.SortKw
import KE.SortKeyHeap
import HandS.Defaults
import HandS.EndTab
import KE.KNestM
import PySem.Challenge.RW_oneroom_k36_rows_found
set_option Elab.async false
set_option linter.all false
set_option maxRecDepth 100000
set_option maxHeartbeats 4000000
/-! DCore: a deep-data calculus over the hand layer. -/
namespace DL
open PySem L2

/-! ### deep data -/
inductive D where
  | non
  | bl (b : Bool)
  | int (i : Int)
  | str (s : Str)
  | ty (n : String)
  | fn (a : Addr)
  | lst (xs : List D)
  | scr (xs : List D)
  | tup (xs : List D)
  | obj (C : Addr) (ns : List Str) (xs : List D)
  | clo (F : NdefX.NF) (us : List V) (xs : List D)

def Ex (H H' : Hp) : Prop := ∀ a o, H a = some o → H' a = some o
theorem Ex.refl (H : Hp) : Ex H H := fun _ _ h => h
theorem Ex.trans {H H1 H2 : Hp} (a : Ex H H1) (b : Ex H1 H2) : Ex H H2 := fun x o h => b x o (a x o h)
theorem Ex.new {H : Hp} {p : Addr} {o : HO} (h : H p = none) : Ex H (upd H p o) := fun a u e => by
  rw [upd_ne (ne_of_none e h)]
  exact e
theorem Ex.rd {H H' : Hp} {a : Addr} {u : HO} (e : Ex H H') (h : Rd H a u) : Rd H' a u := by
  rcases h with h | ⟨o, h⟩
  · exact Or.inl (e a _ h)
  · exact Or.inr ⟨o, e a _ h⟩
theorem Ex.sl {K : PySem.W.Frag} {H H' : Hp} {a : Addr} {xs : List V} (e : Ex H H') (h : SqL K H a xs) : SqL K H' a xs := by
  rcases h with h | h
  · exact Or.inl (e.rd h)
  · exact Or.inr h
theorem Ex.st {K : PySem.W.Frag} {H H' : Hp} {a : Addr} {xs : List V} (e : Ex H H') (h : SqT K H a xs) : SqT K H' a xs := by
  rcases h with h | h
  · exact Or.inl (e.rd h)
  · exact Or.inr h

mutual
inductive Rep (K : PySem.W.Frag) (H : Hp) : V → D → Prop
  | non : Rep K H .non .non
  | bl (b : Bool) : Rep K H (.bl b) (.bl b)
  | int (i : Int) : Rep K H (.int i) (.int i)
  | str (x : Str) : Rep K H (.str x) (.str x)
  | ty (n : String) : Rep K H (.ty n) (.ty n)
  | fn (a : Addr) : Rep K H (.ref a) (.fn a)
  | lst {a : Addr} {vs : List V} {ds : List D} : H a = some (.lst vs) → RepL K H vs ds → Rep K H (.ref a) (.lst ds)
  | scr {a : Addr} {vs : List V} {ds : List D} : SqL K H a vs → RepL K H vs ds → Rep K H (.ref a) (.scr ds)
  | tup {a : Addr} {vs : List V} {ds : List D} : H a = some (.tup vs) → RepL K H vs ds → Rep K H (.ref a) (.tup ds)
  | obj {a C dx : Addr} {ns : List Str} {vs : List V} {ds : List D} : H a = some (.ins C dx (ns.zip vs)) → RepL K H vs ds → Rep K H (.ref a) (.obj C ns ds)
  | clo {f : Addr} {F : NdefX.NF} {us : List V} {ds : List D} : H f = some (NdefX.FnO f F) → H F.c = some (LamX.CodeO F.c F.qual) → RepL K H us ds → Rep K H (.ref f) (.clo F us ds)
inductive RepL (K : PySem.W.Frag) (H : Hp) : List V → List D → Prop
  | nil : RepL K H [] []
  | cons {v : V} {vs : List V} {d : D} {ds : List D} : Rep K H v d → RepL K H vs ds → RepL K H (v :: vs) (d :: ds)
end

section
variable {K : PySem.W.Frag} {H H' : Hp}
mutual
theorem Rep.mono (e : Ex H H') : ∀ {v : V} {d : D}, Rep K H v d → Rep K H' v d
  | _, _, .non => .non
  | _, _, .bl b => .bl b
  | _, _, .int i => .int i
  | _, _, .str x => .str x
  | _, _, .ty n => .ty n
  | _, _, .fn a => .fn a
  | _, _, .lst h r => .lst (e _ _ h) (RepL.mono e r)
  | _, _, .scr h r => .scr (e.sl h) (RepL.mono e r)
  | _, _, .tup h r => .tup (e _ _ h) (RepL.mono e r)
  | _, _, .obj h r => .obj (e _ _ h) (RepL.mono e r)
  | _, _, .clo h k r => .clo (e _ _ h) (e _ _ k) (RepL.mono e r)
theorem RepL.mono (e : Ex H H') : ∀ {vs : List V} {ds : List D}, RepL K H vs ds → RepL K H' vs ds
  | _, _, .nil => .nil
  | _, _, .cons h r => .cons (Rep.mono e h) (RepL.mono e r)
end
theorem RepL.length : ∀ {vs : List V} {ds : List D}, RepL K H vs ds → vs.length = ds.length
  | _, _, .nil => rfl
  | _, _, .cons _ r => by rw [List.length_cons, List.length_cons, RepL.length r]
theorem RepL.get : ∀ {vs : List V} {ds : List D} {i : Nat} {v : V}, RepL K H vs ds → vs[i]? = some v → ∃ d, ds[i]? = some d ∧ Rep K H v d
  | _, _, _, _, .nil, e => by simp at e
  | _, _, 0, _, .cons h _, e => by
    have e' := Option.some.inj e
    subst e'
    exact ⟨_, rfl, h⟩
  | _, _, i + 1, v, .cons _ r, e => RepL.get (i := i) (v := v) r e
theorem RepL.at : ∀ {vs : List V} {ds : List D} {i : Nat} {d : D}, RepL K H vs ds → ds[i]? = some d → ∃ v, vs[i]? = some v ∧ Rep K H v d
  | _, _, _, _, .nil, e => by simp at e
  | _, _, 0, _, .cons h _, e => by
    have e' := Option.some.inj e
    subst e'
    exact ⟨_, rfl, h⟩
  | _, _, i + 1, d, .cons _ r, e => RepL.at (i := i) (d := d) r e
theorem RepL.append : ∀ {vs ws : List V} {ds es : List D}, RepL K H vs ds → RepL K H ws es → RepL K H (vs ++ ws) (ds ++ es)
  | _, _, _, _, .nil, q => q
  | _, _, _, _, .cons h r, q => .cons h (RepL.append r q)
theorem RepL.take : ∀ {vs : List V} {ds : List D} (n : Nat), RepL K H vs ds → RepL K H (vs.take n) (ds.take n)
  | _, _, 0, _ => .nil
  | _, _, _ + 1, .nil => .nil
  | _, _, n + 1, .cons h r => .cons h (RepL.take n r)
theorem RepL.drop : ∀ {vs : List V} {ds : List D} (n : Nat), RepL K H vs ds → RepL K H (vs.drop n) (ds.drop n)
  | _, _, 0, r => r
  | _, _, _ + 1, .nil => .nil
  | _, _, n + 1, .cons _ r => RepL.drop n r
theorem RepL.set {v : V} {d : D} (h : Rep K H v d) : ∀ {vs : List V} {ds : List D} (i : Nat), RepL K H vs ds → RepL K H (vs.set i v) (ds.set i d)
  | _, _, _, .nil => .nil
  | _, _, 0, .cons _ r => .cons h r
  | _, _, i + 1, .cons q r => .cons q (RepL.set h i r)
theorem RepL.erase : ∀ {vs : List V} {ds : List D} (i : Nat), RepL K H vs ds → RepL K H (vs.eraseIdx i) (ds.eraseIdx i)
  | _, _, _, .nil => .nil
  | _, _, 0, .cons _ r => r
  | _, _, i + 1, .cons q r => .cons q (RepL.erase i r)
theorem RepL.rev {vs : List V} {ds : List D} (h : RepL K H vs ds) : RepL K H vs.reverse ds.reverse := by
  induction vs generalizing ds with
  | nil => cases h; exact .nil
  | cons v vs ih =>
    cases h with
    | cons a b =>
      rw [List.reverse_cons, List.reverse_cons]
      exact (ih b).append (.cons a .nil)
theorem RepL.rep {vs : List V} {ds : List D} (h : RepL K H vs ds) : ∀ n : Nat, RepL K H (List.replicate n vs).flatten (List.replicate n ds).flatten
  | 0 => .nil
  | n + 1 => by
    rw [List.replicate_succ, List.replicate_succ, List.flatten_cons, List.flatten_cons]
    exact h.append (RepL.rep h n)
theorem RepL.ints : ∀ {vs : List V} {ns : List Int}, RepL K H vs (ns.map D.int) → vs = ns.map V.int
  | [], [], _ => rfl
  | [], _ :: _, h => by cases h
  | v :: vs, [], h => by cases h
  | v :: vs, n :: ns, h => by
    cases h with
    | cons a b =>
      cases a
      rw [RepL.ints b] <;> rfl
theorem RepL.ofInts : ∀ (ns : List Int), RepL K H (ns.map V.int) (ns.map D.int)
  | [] => .nil
  | n :: ns => .cons (.int n) (RepL.ofInts ns)
theorem RepL.bls : ∀ {vs : List V} {bs : List Bool}, RepL K H vs (bs.map D.bl) → vs = bs.map V.bl
  | [], [], _ => rfl
  | [], _ :: _, h => by cases h
  | v :: vs, [], h => by cases h
  | v :: vs, n :: ns, h => by
    cases h with
    | cons a b =>
      cases a
      rw [RepL.bls b] <;> rfl
theorem RepL.strs : ∀ {vs : List V} {bs : List Str}, RepL K H vs (bs.map D.str) → vs = bs.map V.str
  | [], [], _ => rfl
  | [], _ :: _, h => by cases h
  | v :: vs, [], h => by cases h
  | v :: vs, n :: ns, h => by
    cases h with
    | cons a b =>
      cases a
      rw [RepL.strs b] <;> rfl
end

/-- scalars: what needs no heap -/
def D.scal : D → Bool
  | .non => true | .bl _ => true | .int _ => true | .str _ => true | .ty _ => true | .fn _ => true
  | _ => false
theorem Rep.scal {K : PySem.W.Frag} {H H' : Hp} {v : V} {d : D} (h : Rep K H v d) (s : d.scal = true) : Rep K H' v d := by
  cases h with
  | non => exact .non
  | bl b => exact .bl b
  | int i => exact .int i
  | str x => exact .str x
  | ty n => exact .ty n
  | fn a => exact .fn a
  | lst _ _ => cases s
  | scr _ _ => cases s
  | tup _ _ => cases s
  | obj _ _ => cases s
  | clo _ _ _ => cases s
theorem RepL.scal {K : PySem.W.Frag} {H H' : Hp} : ∀ {vs : List V} {ds : List D}, RepL K H vs ds → ds.all D.scal = true → RepL K H' vs ds
  | _, _, .nil, _ => .nil
  | _, _, .cons h r, s => by
    rw [List.all_cons, Bool.and_eq_true] at s
    exact .cons (h.scal s.1) (RepL.scal r s.2)

/-! ### tables of code objects: they alone may grow -/
class TbC where
  T : List NdefX.NTab
/-- what a region may hold -/
def _root_.L2.HO.pln : HO → Bool
  | .tbl _ => false
  | .ext _ => false
  | _ => true
theorem pln_tbl {o : HO} (h : o.pln = true) : ∀ ps, o ≠ .tbl ps := fun ps z => by
  subst z
  cases h
theorem pln_code {o : HO} {c : Addr} {q : Str} (h : o.pln = true) : o ≠ LamX.CodeO c q := fun z => by
  subst z
  cases h
theorem pln_fn {o : HO} {f : Addr} {F : NdefX.NF} (h : o.pln = true) : o ≠ NdefX.FnO f F := fun z => by
  subst z
  cases h
def PlR (R : Hp) : Prop := ∀ a o, R a = some o → o.pln = true
/-- all but tables stay -/
def ExN (H H' : Hp) : Prop := ∀ a o, H a = some o → (∀ ps, o ≠ .tbl ps) → H' a = some o
theorem ExN.refl (H : Hp) : ExN H H := fun _ _ h _ => h
theorem Ex.n {H H' : Hp} (e : Ex H H') : ExN H H' := fun a o h _ => e a o h
theorem ExN.trans {H H1 H2 : Hp} (a : ExN H H1) (b : ExN H1 H2) : ExN H H2 := fun x o h n => b x o (a x o h n) n
theorem ExN.pl {H H' : Hp} {a : Addr} {o : HO} (e : ExN H H') (h : H a = some o) (n : o.pln = true := by rfl) : H' a = some o := e a o h (pln_tbl n)
theorem ExN.rd {H H' : Hp} {a : Addr} {u : HO} (e : ExN H H') (h : Rd H a u) (n : u.pln = true := by rfl) : Rd H' a u := by
  rcases h with h | ⟨o, h⟩
  · exact Or.inl (e.pl h n)
  · exact Or.inr ⟨o, e.pl h rfl⟩
theorem ExN.sl {K : PySem.W.Frag} {H H' : Hp} {a : Addr} {xs : List V} (e : ExN H H') (h : SqL K H a xs) : SqL K H' a xs := by
  rcases h with h | h
  · exact Or.inl (e.rd h)
  · exact Or.inr h
theorem ExN.st {K : PySem.W.Frag} {H H' : Hp} {a : Addr} {xs : List V} (e : ExN H H') (h : SqT K H a xs) : SqT K H' a xs := by
  rcases h with h | h
  · exact Or.inl (e.rd h)
  · exact Or.inr h
mutual
theorem Rep.monoN {K : PySem.W.Frag} {H H' : Hp} (e : ExN H H') : ∀ {v : V} {d : D}, Rep K H v d → Rep K H' v d
  | _, _, .non => .non
  | _, _, .bl b => .bl b
  | _, _, .int i => .int i
  | _, _, .str x => .str x
  | _, _, .ty n => .ty n
  | _, _, .fn a => .fn a
  | _, _, .lst h r => .lst (e.pl h) (RepL.monoN e r)
  | _, _, .scr h r => .scr (e.sl h) (RepL.monoN e r)
  | _, _, .tup h r => .tup (e.pl h) (RepL.monoN e r)
  | _, _, .obj h r => .obj (e.pl h) (RepL.monoN e r)
  | _, _, .clo h k r => .clo (e _ _ h NdefX.fnO_ne) (e _ _ k LamX.codeO_ne) (RepL.monoN e r)
theorem RepL.monoN {K : PySem.W.Frag} {H H' : Hp} (e : ExN H H') : ∀ {vs : List V} {ds : List D}, RepL K H vs ds → RepL K H' vs ds
  | _, _, .nil => .nil
  | _, _, .cons h r => .cons (Rep.monoN e h) (RepL.monoN e r)
end
/-- the tables tell codes of the right names -/
def TB [TbC] (H : Hp) : Prop := NdefX.TabsN TbC.T H
/-- no table is shared -/
def NT (Hs : Hp) : Prop := ∀ a ps, Hs a ≠ some (.tbl ps)
def Pn (H : Hp) (a : Addr) : Prop := ∃ o, H a = some o ∧ o.pln = true
theorem Pn.ne {H : Hp} {a : Addr} (h : Pn H a) : H a ≠ none := by
  obtain ⟨o, e, _⟩ := h
  rw [e]
  exact fun z => nomatch z
theorem Pn.of {H : Hp} {a : Addr} {o : HO} (e : H a = some o) (n : o.pln = true := by rfl) : Pn H a := ⟨o, e, n⟩
variable [TbC]
/-- H' is H but for plain objects, that were none, or plain -/
theorem TB.ch {H H' : Hp} (t : TB H) (c : ∀ a, H' a = H a ∨ H a = none ∨ Pn H a) : TB H' := by
  have keep : ∀ a o, H a = some o → o.pln = false → H' a = some o := fun a o e n => by
    rcases c a with z | z | ⟨u, z, z2⟩
    · rw [z]; exact e
    · rw [z] at e; cases e
    · rw [z] at e
      cases e
      rw [z2] at n
      cases n
  intro p hp
  obtain ⟨ps, h1, h2, h3⟩ := t p hp
  refine ⟨ps, keep _ _ h1 rfl, h2, fun pos cv hc => ?_⟩
  obtain ⟨c0, e1, e2⟩ := h3 pos cv hc
  exact ⟨c0, e1, keep _ _ e2 rfl⟩
/-! ### growth: Hs is what is shared for good, H the heap, Hf what must be kept -/
structure Gr (Hs Hf H Hs' H' : Hp) : Prop where
  fr : ExN Hf H'
  sh : Ex Hs Hs'
  lv : Ex Hs' H'
  nw : ∀ a, Pn H a → Hs' a = Hs a
  dm : ∀ a, H a ≠ none → H' a ≠ none
  fd : ∀ a, Hf a ≠ none → H' a ≠ none
  dp : ∀ a, Pn H a → Pn H' a
  nt : NT Hs → NT Hs'
  tb : TB H → TB H'
theorem Gr.refl {Hs H : Hp} (e : Ex Hs H) : Gr Hs H H Hs H := ⟨ExN.refl H, Ex.refl Hs, e, fun _ _ => rfl, fun _ h => h, fun _ h => h, fun _ h => h, id, id⟩
theorem Gr.trans {Hs Hf H Hs1 H1 Hs2 H2 : Hp} (a : Gr Hs Hf H Hs1 H1) (b : Gr Hs1 H1 H1 Hs2 H2) : Gr Hs Hf H Hs2 H2 :=
  ⟨a.fr.trans b.fr, a.sh.trans b.sh, b.lv, fun x h => (b.nw x (a.dp x h)).trans (a.nw x h), fun x h => b.dm x (a.dm x h), fun x h => b.dm x (a.fd x h), fun x h => b.dp x (a.dp x h), fun t => b.nt (a.nt t), fun t => b.tb (a.tb t)⟩
/-- what is new now was new before -/
theorem Gr.new0 {Hs Hf H Hs' H' : Hp} (g : Gr Hs Hf H Hs' H') {a : Addr} (n : H' a = none) : H a = none ∧ Hf a = none := by
  constructor
  · cases z : H a with
    | none => rfl
    | some o => exact absurd n (g.dm a (by rw [z]; exact fun y => nomatch y))
  · cases z : Hf a with
    | none => rfl
    | some o => exact absurd n (g.fd a (by rw [z]; exact fun y => nomatch y))
theorem upd_ch {H : Hp} {p : Addr} {o : HO} (h : H p = none ∨ Pn H p) (a : Addr) : upd H p o a = H a ∨ H a = none ∨ Pn H a := by
  by_cases q : a = p
  · subst q
    exact .inr h
  · exact .inl (upd_ne q)
theorem upd_dm {H : Hp} {p : Addr} {o : HO} {a : Addr} (x : H a ≠ none) : upd H p o a ≠ none := by
  by_cases q : a = p
  · rw [q, upd_same]
    exact fun z => nomatch z
  · rw [upd_ne q]
    exact x
theorem upd_new {H : Hp} {p : Addr} {o : HO} (h : H p = none) {a : Addr} (x : Pn H a) : Pn (upd H p o) a := by
  obtain ⟨u, e, n⟩ := x
  exact ⟨u, by rw [upd_ne (ne_of_none e h)]; exact e, n⟩
/-- what is not plain -/
def npl (H : Hp) : Hp := fun a => match H a with
  | some o => if o.pln = true then none else some o
  | none => none
theorem npl_pn {H : Hp} (a : Addr) : ¬ Pn (npl H) a := fun ⟨o, e, n⟩ => by
  unfold npl at e
  split at e
  · split at e
    · cases e
    · rename_i z
      cases e
      exact z n
  · cases e
theorem npl_of {H : Hp} {a : Addr} {o : HO} (e : H a = some o) (n : o.pln = false) : npl H a = some o := by
  unfold npl
  rw [e]
  exact if_neg (by rw [n]; decide)
theorem npl_le {H : Hp} {a : Addr} (h : npl H a ≠ none) : H a ≠ none := fun z => h (by
  unfold npl
  rw [z])
theorem npl_no {H : Hp} {a : Addr} {o : HO} (e : H a = some o) (n : o.pln = true) : npl H a = none := by
  unfold npl
  rw [e]
  exact if_pos n
theorem TB.npl {H : Hp} (t : TB H) : TB (npl H) := fun p hp => by
  obtain ⟨ps, h1, h2, h3⟩ := t p hp
  refine ⟨ps, npl_of h1 rfl, h2, fun pos cv hc => ?_⟩
  obtain ⟨c0, e1, e2⟩ := h3 pos cv hc
  exact ⟨c0, e1, npl_of e2 rfl⟩
/-- each object is as before, or plain -/
def Ch (H H' : Hp) : Prop := ∀ a, H' a = H a ∨ Pn H' a
theorem Ch.refl (H : Hp) : Ch H H := fun _ => .inl rfl
theorem Ch.upd {H : Hp} {p : Addr} {o : HO} (n : o.pln = true := by rfl) : Ch H (upd H p o) := fun a => by
  by_cases q : a = p
  · subst q
    exact .inr ⟨o, upd_same, n⟩
  · exact .inl (upd_ne q)
theorem Ch.pn {H H' : Hp} (c : Ch H H') (a : Addr) (h : Pn H a) : Pn H' a := by
  rcases c a with z | z
  · obtain ⟨o, e, n⟩ := h
    exact ⟨o, z.trans e, n⟩
  · exact z
theorem NT.upd {Hs : Hp} {p : Addr} {o : HO} (h : NT Hs) (n : o.pln = true) : NT (upd Hs p o) := fun a ps z => by
  by_cases q : a = p
  · rw [q, upd_same] at z
    cases z
    cases n
  · rw [upd_ne q] at z
    exact h a ps z
/-- a new object that is shared at once -/
theorem Gr.new {Hs H : Hp} {p : Addr} {o : HO} (e : Ex Hs H) (h : H p = none) (pl : o.pln = true := by rfl) : Gr Hs H H (upd Hs p o) (upd H p o) := by
  have hs : Hs p = none := by
    cases q : Hs p with
    | none => rfl
    | some u =>
      rw [e p u q] at h
      cases h
  refine ⟨(Ex.new h).n, Ex.new hs, fun a u x => ?_, fun a x => upd_ne (fun q => x.ne (by rw [q]; exact h)), fun a x => upd_dm x, fun a x => upd_dm x, fun a x => upd_new h x, fun t => t.upd pl, fun t => t.ch (upd_ch (.inl h))⟩
  by_cases q : a = p
  · rw [q, upd_same] at x ⊢
    exact x
  · rw [upd_ne q] at x ⊢
    exact e a u x
/-- a new object that nobody else knows -/
theorem Gr.newO {Hs H : Hp} {p : Addr} {o : HO} (e : Ex Hs H) (h : H p = none) : Gr Hs H H Hs (upd H p o) :=
  ⟨(Ex.new h).n, Ex.refl Hs, e.trans (Ex.new h), fun a x => rfl, fun a x => upd_dm x, fun a x => upd_dm x, fun a x => upd_new h x, id, fun t => t.ch (upd_ch (.inl h))⟩
/-- an object that was new is shared from now on -/
theorem Gr.share {Hs H Hs' H' : Hp} {p : Addr} {o : HO} (g : Gr Hs H H Hs' H') (n : H p = none) (ns : Hs' p = none) (h : H' p = some o) (pl : o.pln = true := by rfl) : Gr Hs H H (upd Hs' p o) H' := by
  refine ⟨g.fr, g.sh.trans (Ex.new ns), fun a u x => ?_, fun a x => ?_, g.dm, g.fd, g.dp, fun t => (g.nt t).upd pl, g.tb⟩
  · by_cases q : a = p
    · rw [q, upd_same] at x
      cases x
      rw [q]
      exact h
    · rw [upd_ne q] at x
      exact g.lv a u x
  · rw [upd_ne (fun q => x.ne (by rw [q]; exact n))]
    exact g.nw a x

/-! ### what a frame's slots hold -/
inductive SV where
  | sh (d : D)
  | ol (ds : List D)
  | ow (nw : Bool) (Φ : Hp → V → Hp → Prop) (pl : ∀ Hs v R, Φ Hs v R → PlR R)
/-- made in this frame -/
def SV.nw : SV → Bool
  | .sh _ => true
  | .ol _ => true
  | .ow b _ _ => b

/-- what slot i holds; R is its own region -/
def Holds (K : PySem.W.Frag) (Hs : Hp) (R : Hp) (v : V) : SV → Prop
  | .sh d => Rep K Hs v d ∧ ∀ a, R a = none
  | .ol ds => ∃ (p : Addr) (vs : List V), v = .ref p ∧ R = (fun a => if a = p then some (.lst vs) else none) ∧ RepL K Hs vs ds
  | .ow _ Φ _ => ∀ Hs1, Ex Hs Hs1 → Φ Hs1 v R

abbrev Env := List (Option SV)
structure Base where
  s : Hp
  f : Hp
  h : Hp
  t : NT s ∧ TB h

structure RS (K : PySem.W.Frag) (B : Base) (Hs H : Hp) (σ : St) (ρ : Env) : Prop where
  gr : Gr B.s B.f B.h Hs H
  len : σ.length = ρ.length
  reg : ∃ R : Nat → Hp, (∀ i sv, ρ[i]? = some (some sv) → ∃ v, σ[i]? = some (some v) ∧ Holds K Hs (R i) v sv) ∧
    (∀ i a o, R i a = some o → H a = some o ∧ Hs a = none ∧ B.f a = none ∧ o.pln = true) ∧ (∀ i j a, R i a ≠ none → R j a ≠ none → i = j) ∧
    ∀ i sv a, ρ[i]? = some (some sv) → sv.nw = true → R i a ≠ none → B.h a = none

section
variable {K : PySem.W.Frag} {B : Base} {Hs H Hs' H' : Hp} {σ : St} {ρ : Env}
theorem Holds.mono {R : Hp} {v : V} {sv : SV} (e : Ex Hs Hs') (h : Holds K Hs R v sv) : Holds K Hs' R v sv := by
  cases sv with
  | sh d => exact ⟨h.1.mono e, h.2⟩
  | ol ds =>
    obtain ⟨p, vs, e1, e2, r⟩ := h
    exact ⟨p, vs, e1, e2, r.mono e⟩
  | ow _ Φ _ => exact fun Hs1 x => h Hs1 (e.trans x)
theorem Holds.pl {R : Hp} {v : V} {sv : SV} (h : Holds K Hs R v sv) : PlR R := by
  cases sv with
  | sh d =>
    intro a o e
    rw [h.2 a] at e
    cases e
  | ol ds =>
    obtain ⟨p, vs, e1, e2, r⟩ := h
    intro a o e
    rw [e2] at e
    have e : (if a = p then some (HO.lst vs) else none) = some o := e
    split at e
    · cases e
      rfl
    · cases e
  | ow _ Φ pl => exact pl Hs v R (h Hs (Ex.refl Hs))
theorem RS.tb (r : RS K B Hs H σ ρ) : NT Hs ∧ TB H := ⟨r.gr.nt B.t.1, r.gr.tb B.t.2⟩
theorem RS.ex (r : RS K B Hs H σ ρ) : Ex Hs H := r.gr.lv
theorem RS.get (r : RS K B Hs H σ ρ) {i : Nat} {d : D} (h : ρ[i]? = some (some (.sh d))) : ∃ v, σ[i]? = some (some v) ∧ Rep K Hs v d := by
  obtain ⟨R, h1, _⟩ := r.reg
  obtain ⟨v, e, q⟩ := h1 i _ h
  exact ⟨v, e, q.1⟩
theorem RS.grow (r : RS K B Hs H σ ρ) (g : Gr Hs H H Hs' H') : RS K B Hs' H' σ ρ := by
  obtain ⟨R, h1, h2, h3, h4⟩ := r.reg
  refine ⟨r.gr.trans g, r.len, R, fun i sv e => ?_, fun i a o e => ?_, h3, h4⟩
  · obtain ⟨v, e1, q⟩ := h1 i sv e
    exact ⟨v, e1, q.mono g.sh⟩
  · obtain ⟨e1, e2, e3⟩ := h2 i a o e
    refine ⟨g.fr.pl e1 e3.2, ?_, e3⟩
    rw [g.nw a (.of e1 e3.2)]
    exact e2
/-- a slot gets a shared value -/
theorem RS.set (r : RS K B Hs H σ ρ) (i : Nat) {v : V} {d : D} (h : Rep K Hs v d) : RS K B Hs H (σ.set i (some v)) (ρ.set i (some (.sh d))) := by
  obtain ⟨R, h1, h2, h3, h4⟩ := r.reg
  refine ⟨r.gr, by rw [List.length_set, List.length_set, r.len], fun j => if j = i then (fun _ => none) else R j, fun j sv e => ?_, fun j a o e => ?_, fun j k a e1 e2 => ?_, fun j ds a e1 e0 e2 => ?_⟩
  · by_cases q : j = i
    · subst q
      have hl : j < ρ.length := by
        have := (List.getElem?_eq_some_iff.mp e).1
        rwa [List.length_set] at this
      rw [List.getElem?_set_self hl] at e
      cases e
      refine ⟨v, List.getElem?_set_self (by rw [r.len]; exact hl), h, fun a => ?_⟩
      simp
    · rw [List.getElem?_set_ne (Ne.symm q)] at e ⊢
      dsimp only
      rw [if_neg q]
      exact h1 j sv e
  · dsimp only at e
    by_cases q : j = i
    · rw [if_pos q] at e
      cases e
    · rw [if_neg q] at e
      exact h2 j a o e
  · dsimp only at e1 e2
    by_cases q : j = i
    · rw [if_pos q] at e1
      exact absurd rfl e1
    · rw [if_neg q] at e1
      by_cases q' : k = i
      · rw [if_pos q'] at e2
        exact absurd rfl e2
      · rw [if_neg q'] at e2
        exact h3 j k a e1 e2
  · dsimp only at e2
    by_cases q : j = i
    · rw [if_pos q] at e2
      exact absurd rfl e2
    · rw [if_neg q] at e2
      rw [List.getElem?_set_ne (Ne.symm q)] at e1
      exact h4 j ds a e1 e0 e2
/-- a slot gets what is its own: a region of new objects -/
theorem RS.setR (r : RS K B Hs H σ ρ) (g : Gr Hs H H Hs' H') (i : Nat) {v : V} {sv : SV} {T : Hp} (hT : ∀ a o, T a = some o → H a = none ∧ H' a = some o ∧ Hs' a = none) (h : Holds K Hs' T v sv) :
    RS K B Hs' H' (σ.set i (some v)) (ρ.set i (some sv)) := by
  have r' := r.grow g
  obtain ⟨R, h1, h2, h3, h4⟩ := r.reg
  have nT : ∀ j a, R j a ≠ none → T a = none := fun j a x => by
    cases q : T a with
    | none => rfl
    | some o =>
      cases q' : R j a with
      | none => exact absurd q' x
      | some u =>
        have z := (h2 j a u q').1
        rw [(hT a o q).1] at z
        cases z
  refine ⟨r'.gr, by rw [List.length_set, List.length_set, r.len], fun j => if j = i then T else R j, fun j sv' e => ?_, fun j a o e => ?_, fun j k a e1 e2 => ?_, fun j ds a e1 e0 e2 => ?_⟩
  · by_cases q : j = i
    · subst q
      have hl : j < ρ.length := by
        have := (List.getElem?_eq_some_iff.mp e).1
        rwa [List.length_set] at this
      rw [List.getElem?_set_self hl] at e
      cases e
      refine ⟨v, List.getElem?_set_self (by rw [r.len]; exact hl), ?_⟩
      dsimp only
      rw [if_pos rfl]
      exact h
    · rw [List.getElem?_set_ne (Ne.symm q)] at e ⊢
      dsimp only
      rw [if_neg q]
      obtain ⟨v', e1, q1⟩ := h1 j sv' e
      exact ⟨v', e1, q1.mono g.sh⟩
  · dsimp only at e
    by_cases q : j = i
    · rw [if_pos q] at e
      obtain ⟨e1, e2, e3⟩ := hT a o e
      exact ⟨e2, e3, (r.gr.new0 e1).2, h.pl a o e⟩
    · rw [if_neg q] at e
      obtain ⟨e1, e2, e3⟩ := h2 j a o e
      refine ⟨g.fr.pl e1 e3.2, ?_, e3⟩
      rw [g.nw a (.of e1 e3.2)]
      exact e2
  · dsimp only at e1 e2
    by_cases q : j = i
    · rw [if_pos q] at e1
      by_cases q' : k = i
      · rw [q, q']
      · rw [if_neg q'] at e2
        exact absurd (nT k a e2) e1
    · rw [if_neg q] at e1
      by_cases q' : k = i
      · rw [if_pos q'] at e2
        exact absurd (nT j a e1) e2
      · rw [if_neg q'] at e2
        exact h3 j k a e1 e2
  · dsimp only at e2
    by_cases q : j = i
    · rw [if_pos q] at e2
      cases z : T a with
      | none => exact absurd z e2
      | some o =>
        cases y : B.h a with
        | none => rfl
        | some u => exact absurd (hT a o z).1 (r.gr.dm a (by rw [y]; exact fun z => nomatch z))
    · rw [if_neg q] at e2
      rw [List.getElem?_set_ne (Ne.symm q)] at e1
      exact h4 j ds a e1 e0 e2
/-- a slot gets a new list that is its own -/
theorem RS.setO (r : RS K B Hs H σ ρ) (g : Gr Hs H H Hs' H') (i : Nat) {p : Addr} {vs : List V} {ds : List D} (hn : H p = none) (hp : H' p = some (.lst vs)) (hs : Hs' p = none) (h : RepL K Hs' vs ds) :
    RS K B Hs' H' (σ.set i (some (.ref p))) (ρ.set i (some (.ol ds))) := by
  refine r.setR g i (T := fun a => if a = p then some (.lst vs) else none) (fun a o e => ?_) ⟨p, vs, rfl, rfl, h⟩
  by_cases q : a = p
  · rw [if_pos q] at e
    cases e
    subst q
    exact ⟨hn, hp, hs⟩
  · rw [if_neg q] at e
    cases e
/-- the slots' own regions are R -/
def Reg (K : PySem.W.Frag) (B : Base) (Hs H : Hp) (σ : St) (ρ : Env) (R : Nat → Hp) : Prop :=
  (∀ i sv, ρ[i]? = some (some sv) → ∃ v, σ[i]? = some (some v) ∧ Holds K Hs (R i) v sv) ∧
    (∀ i a o, R i a = some o → H a = some o ∧ Hs a = none ∧ B.f a = none ∧ o.pln = true) ∧ (∀ i j a, R i a ≠ none → R j a ≠ none → i = j) ∧
    ∀ i sv a, ρ[i]? = some (some sv) → sv.nw = true → R i a ≠ none → B.h a = none
def Fresh (B : Base) (Hs : Hp) (R : Nat → Hp) (a : Addr) : Prop := (∀ j, R j a = none) ∧ Hs a = none ∧ B.f a = none ∧ B.h a = none
theorem Reg.grow {R : Nat → Hp} (rg : Reg K B Hs H σ ρ R) (g : Gr Hs H H Hs' H') : Reg K B Hs' H' σ ρ R := by
  obtain ⟨h1, h2, h3, h4⟩ := rg
  refine ⟨fun i sv e => ?_, fun i a o e => ?_, h3, h4⟩
  · obtain ⟨v, e1, q⟩ := h1 i sv e
    exact ⟨v, e1, q.mono g.sh⟩
  · obtain ⟨e1, e2, e3⟩ := h2 i a o e
    refine ⟨g.fr.pl e1 e3.2, ?_, e3⟩
    rw [g.nw a (.of e1 e3.2)]
    exact e2
theorem RS.fresh (r : RS K B Hs H σ ρ) {R : Nat → Hp} (rg : Reg K B Hs H σ ρ R) {a : Addr} (n : H a = none) : Fresh B Hs R a := by
  refine ⟨fun j => ?_, ?_, ?_, ?_⟩
  · cases z : R j a with
    | none => rfl
    | some o =>
      rw [(rg.2.1 j a o z).1] at n
      cases n
  · cases z : Hs a with
    | none => rfl
    | some o =>
      rw [r.ex a o z] at n
      cases n
  · exact (r.gr.new0 n).2
  · cases z : B.h a with
    | none => rfl
    | some o => exact absurd n (r.gr.dm a (by rw [z]; exact fun y => nomatch y))
theorem Fresh.grow {R : Nat → Hp} {a : Addr} (f : Fresh B Hs R a) (n : Hs' a = none) : Fresh B Hs' R a := ⟨f.1, n, f.2.2⟩
/-- a slot's own region is changed (new objects may come to it) -/
theorem RS.mutR (r : RS K B Hs H σ ρ) {R : Nat → Hp} (rg : Reg K B Hs H σ ρ R) (i : Nat) {sv sv' : SV} (hi : ρ[i]? = some (some sv)) (nsh : sv'.nw = true → sv.nw = true)
    {v : V} (hv : σ[i]? = some (some v)) {T : Hp} (t1 : Holds K Hs T v sv') (t2 : ∀ a o, T a = some o → H' a = some o ∧ (R i a ≠ none ∨ Fresh B Hs R a))
    (t3 : ∀ a o, R i a = none → H a = some o → H' a = some o) (t4 : ∀ a, H a ≠ none → H' a ≠ none) (t5 : Ch H H' := by first | exact DL.Ch.upd | exact DL.Ch.refl _) : RS K B Hs H' σ (ρ.set i (some sv')) := by
  obtain ⟨h1, h2, h3, h4⟩ := rg
  have hl : i < ρ.length := (List.getElem?_eq_some_iff.mp hi).1
  have keep : ∀ a o, Hs a = some o → H' a = some o := fun a o e => t3 a o (by
    cases q : R i a with
    | none => rfl
    | some u =>
      rw [(h2 i a u q).2.1] at e
      cases e) (r.ex a o e)
  have nT : ∀ j a, j ≠ i → R j a ≠ none → T a = none := fun j a nj x => by
    cases q : T a with
    | none => rfl
    | some o =>
      rcases (t2 a o q).2 with z | z
      · exact absurd (h3 j i a x z) nj
      · exact absurd (z.1 j) x
  refine ⟨⟨fun a o e n => t3 a o ?_ (r.gr.fr a o e n), r.gr.sh, keep, r.gr.nw, fun a x => t4 a (r.gr.dm a x), fun a x => t4 a (r.gr.fd a x), fun a x => t5.pn a (r.gr.dp a x), r.gr.nt, fun t => (r.gr.tb t).ch fun a => ?_⟩, by rw [List.length_set, r.len], fun j => if j = i then T else R j, fun j sv2 e => ?_, fun j a o e => ?_, fun j l a e1 e2 => ?_, fun j ds a e1 e0 e2 => ?_⟩
  · cases q : R i a with
    | none => rfl
    | some u =>
      rw [(h2 i a u q).2.2.1] at e
      cases e
  · cases q : R i a with
    | some u => exact .inr (.inr ⟨u, (h2 i a u q).1, (h2 i a u q).2.2.2⟩)
    | none =>
      cases z : H a with
      | none => exact .inr (.inl rfl)
      | some u => exact .inl (t3 a u q z)
  · by_cases q : j = i
    · subst q
      rw [List.getElem?_set_self hl] at e
      cases e
      refine ⟨v, hv, ?_⟩
      dsimp only
      rw [if_pos rfl]
      exact t1
    · rw [List.getElem?_set_ne (Ne.symm q)] at e
      dsimp only
      rw [if_neg q]
      obtain ⟨v', e1, q1⟩ := h1 j sv2 e
      exact ⟨v', e1, q1⟩
  · dsimp only at e
    by_cases q : j = i
    · rw [if_pos q] at e
      obtain ⟨e1, e2⟩ := t2 a o e
      refine ⟨e1, ?_, ?_, t1.pl a o e⟩
      · cases z : Hs a with
        | none => rfl
        | some u =>
          rcases e2 with e2 | e2
          · cases q' : R i a with
            | none => exact absurd q' e2
            | some w =>
              rw [(h2 i a w q').2.1] at z
              cases z
          · rw [e2.2.1] at z
            cases z
      · cases z : B.f a with
        | none => rfl
        | some u =>
          rcases e2 with e2 | e2
          · cases q' : R i a with
            | none => exact absurd q' e2
            | some w =>
              rw [(h2 i a w q').2.2.1] at z
              cases z
          · rw [e2.2.2.1] at z
            cases z
    · rw [if_neg q] at e
      obtain ⟨e1, e2, e3⟩ := h2 j a o e
      refine ⟨t3 a o ?_ e1, e2, e3⟩
      cases z : R i a with
      | none => rfl
      | some u => exact absurd (h3 j i a (by rw [e]; exact fun z => nomatch z) (by rw [z]; exact fun z => nomatch z)) q
  · dsimp only at e1 e2
    by_cases q : j = i
    · rw [if_pos q] at e1
      by_cases q' : l = i
      · rw [q, q']
      · rw [if_neg q'] at e2
        exact absurd (nT l a q' e2) e1
    · rw [if_neg q] at e1
      by_cases q' : l = i
      · rw [if_pos q'] at e2
        exact absurd (nT j a q e1) e2
      · rw [if_neg q'] at e2
        exact h3 j l a e1 e2
  · dsimp only at e2
    by_cases q : j = i
    · subst q
      rw [if_pos rfl] at e2
      rw [List.getElem?_set_self hl] at e1
      have e3 : sv' = ds := Option.some.inj (Option.some.inj e1)
      have e4 : sv.nw = true := nsh (by rw [e3]; exact e0)
      cases z : T a with
      | none => exact absurd z e2
      | some o =>
        rcases (t2 a o z).2 with y | y
        · exact h4 j sv a hi e4 y
        · exact y.2.2.2
    · rw [if_neg q] at e2
      rw [List.getElem?_set_ne (Ne.symm q)] at e1
      exact h4 j ds a e1 e0 e2
theorem RS.mut (r : RS K B Hs H σ ρ) (i : Nat) {sv sv' : SV} (hi : ρ[i]? = some (some sv)) (nsh : sv'.nw = true → sv.nw = true)
    (k : ∀ v R, σ[i]? = some (some v) → Holds K Hs R v sv → (∀ a o, R a = some o → H a = some o ∧ Hs a = none) → ∃ T : Hp, Holds K Hs T v sv' ∧ (∀ a o, T a = some o → H' a = some o ∧ (R a ≠ none ∨ H a = none)) ∧
      (∀ a o, R a = none → H a = some o → H' a = some o) ∧ ∀ a, H a ≠ none → H' a ≠ none) (t5 : Ch H H' := by first | exact DL.Ch.upd | exact DL.Ch.refl _) : RS K B Hs H' σ (ρ.set i (some sv')) := by
  obtain ⟨R, h1, h2, h3, h4⟩ := id r.reg
  obtain ⟨v, hv, hh⟩ := h1 i sv hi
  obtain ⟨T, t1, t2, t3, t4⟩ := k v (R i) hv hh fun a o e => ⟨(h2 i a o e).1, (h2 i a o e).2.1⟩
  exact r.mutR ⟨h1, h2, h3, h4⟩ i hi nsh hv t1 (fun a o e => ⟨(t2 a o e).1, (t2 a o e).2.imp id fun z => r.fresh ⟨h1, h2, h3, h4⟩ z⟩) t3 t4 t5
/-- an own list is changed in place -/
theorem RS.mutL (r : RS K B Hs H σ ρ) (i : Nat) {ds : List D} (hi : ρ[i]? = some (some (.ol ds))) :
    ∃ p vs, σ[i]? = some (some (.ref p)) ∧ H p = some (.lst vs) ∧ RepL K Hs vs ds ∧ ∀ ws es, RepL K Hs ws es → RS K B Hs (upd H p (.lst ws)) σ (ρ.set i (some (.ol es))) := by
  obtain ⟨R, h1, h2, h3, h4⟩ := id r.reg
  obtain ⟨v, hv, p, vs, e1, e2, q⟩ := h1 i _ hi
  subst e1
  have hp : R i p = some (.lst vs) := by rw [e2]; exact if_pos rfl
  refine ⟨p, vs, hv, (h2 i p _ hp).1, q, fun ws es h => r.mut i hi (fun _ => rfl) fun v' R' hv' hh hR => ?_⟩
  obtain ⟨p', vs', e3, e4, _⟩ := hh
  rw [hv] at hv'
  have e5 := Option.some.inj (Option.some.inj hv')
  rw [e3] at e5
  cases e5
  subst e3
  refine ⟨fun a => if a = p then some (.lst ws) else none, ⟨p, ws, rfl, rfl, h⟩, fun a o e => ?_, fun a o e e' => ?_, fun a x => ?_⟩
  · dsimp only at e
    by_cases z : a = p
    · rw [if_pos z] at e
      cases e
      subst z
      refine ⟨upd_same, .inl ?_⟩
      rw [e4]
      show (if a = a then some (HO.lst vs') else none) ≠ none
      rw [if_pos rfl]
      exact fun z => nomatch z
    · rw [if_neg z] at e
      cases e
  · have z : a ≠ p := fun z => by
      subst z
      rw [e4] at e
      have e'' : (if a = a then some (HO.lst vs') else none) = none := e
      rw [if_pos rfl] at e''
      cases e''
    rw [upd_ne z]
    exact e'
  · by_cases z : a = p
    · rw [z, upd_same]
      exact fun z => nomatch z
    · rw [upd_ne z]
      exact x
/-- two heaps as one -/
def jn (R S : Hp) : Hp := fun a => match R a with
  | some o => some o
  | none => S a
theorem jn_l {R S : Hp} {a : Addr} {o : HO} (h : R a = some o) : jn R S a = some o := by unfold jn; rw [h]
theorem jn_r {R S : Hp} {a : Addr} (h : R a = none) : jn R S a = S a := by unfold jn; rw [h]
/-- what is a slot's own is shared from now on -/
theorem RS.fzR (r : RS K B Hs H σ ρ) (i : Nat) {sv : SV} (hi : ρ[i]? = some (some sv)) (hn : sv.nw = true ∨ ∀ a, ¬ Pn B.h a) {d : D} (k : ∀ v R, Holds K Hs R v sv → (∀ a o, R a = some o → Hs a = none) → Rep K (jn R Hs) v d) :
    ∃ Hs2, Ex Hs Hs2 ∧ Ex Hs2 H ∧ RS K B Hs2 H σ (ρ.set i (some (.sh d))) := by
  obtain ⟨R, h1, h2, h3, h4⟩ := r.reg
  obtain ⟨v, hv, hh⟩ := h1 i _ hi
  have q := k v (R i) hh fun a o e => (h2 i a o e).2.1
  have exs : Ex Hs (jn (R i) Hs) := fun a o e => by
    rw [jn_r]
    · exact e
    · cases z : R i a with
      | none => rfl
      | some u =>
        rw [(h2 i a u z).2.1] at e
        cases e
  have lv : Ex (jn (R i) Hs) H := fun a o e => by
    cases z : R i a with
    | some u =>
      rw [jn_l z] at e
      exact (h2 i a o (z.trans e)).1
    | none =>
      rw [jn_r z] at e
      exact r.ex a o e
  have hl : i < ρ.length := (List.getElem?_eq_some_iff.mp hi).1
  refine ⟨jn (R i) Hs, exs, lv, ⟨r.gr.fr, r.gr.sh.trans exs, lv, fun a x => ?_, r.gr.dm, r.gr.fd, r.gr.dp, fun t a ps e => ?_, r.gr.tb⟩, by rw [List.length_set, r.len], fun j => if j = i then (fun _ => none) else R j, fun j sv e => ?_, fun j a o e => ?_, fun j k a e1 e2 => ?_, fun j ds a e1 e0 e2 => ?_⟩
  · cases z : R i a with
    | some u =>
      rcases hn with hn | hn
      · exact absurd (h4 i _ a hi hn (by rw [z]; exact fun y => nomatch y)) x.ne
      · exact absurd x (hn a)
    | none =>
      rw [jn_r z]
      exact r.gr.nw a x
  · cases z : R i a with
    | some u =>
      rw [jn_l z] at e
      cases e
      have w := (h2 i a _ z).2.2.2
      cases w
    | none =>
      rw [jn_r z] at e
      exact r.gr.nt t a ps e
  · by_cases y : j = i
    · subst y
      rw [List.getElem?_set_self hl] at e
      cases e
      refine ⟨v, hv, q, fun a => ?_⟩
      dsimp only
      rw [if_pos rfl]
    · rw [List.getElem?_set_ne (Ne.symm y)] at e
      obtain ⟨v', e3, q'⟩ := h1 j sv e
      dsimp only
      rw [if_neg y]
      exact ⟨v', e3, q'.mono exs⟩
  · dsimp only at e
    by_cases y : j = i
    · rw [if_pos y] at e
      cases e
    · rw [if_neg y] at e
      obtain ⟨e3, e4, e5⟩ := h2 j a o e
      refine ⟨e3, ?_, e5⟩
      rw [jn_r]
      · exact e4
      · cases z : R i a with
        | none => rfl
        | some u => exact absurd (h3 j i a (by rw [e]; exact fun z => nomatch z) (by rw [z]; exact fun z => nomatch z)) y
  · dsimp only at e1 e2
    by_cases y : j = i
    · rw [if_pos y] at e1
      exact absurd rfl e1
    · rw [if_neg y] at e1
      by_cases y' : k = i
      · rw [if_pos y'] at e2
        exact absurd rfl e2
      · rw [if_neg y'] at e2
        exact h3 j k a e1 e2
  · dsimp only at e2
    by_cases y : j = i
    · rw [if_pos y] at e2
      exact absurd rfl e2
    · rw [if_neg y] at e2
      rw [List.getElem?_set_ne (Ne.symm y)] at e1
      exact h4 j ds a e1 e0 e2
/-- an own list is shared from now on -/
theorem RS.fz (r : RS K B Hs H σ ρ) (i : Nat) {ds : List D} (hi : ρ[i]? = some (some (.ol ds))) : ∃ Hs2, Ex Hs Hs2 ∧ Ex Hs2 H ∧ RS K B Hs2 H σ (ρ.set i (some (.sh (.lst ds)))) :=
  r.fzR i hi (.inl rfl) fun v R hh n => by
    obtain ⟨p, vs, rfl, e2, q⟩ := hh
    have hp : R p = some (.lst vs) := by rw [e2]; exact if_pos rfl
    refine .lst (jn_l hp) (q.mono fun a o e => ?_)
    rw [jn_r]
    · exact e
    · cases z : R a with
      | none => rfl
      | some u =>
        rw [n a u z] at e
        cases e
end
end DL

/-! DOwn: trees of objects that nobody else knows: lists, instances, dicts of numbers; what is done with them. -/
namespace DL
open PySem L2
variable [TbC]

inductive O where
  | sh (d : D)
  | ol (xs : List O)
  | ob (C : Addr) (ns : List Str) (xs : List O)
  | dg (Φ : List (Key × V) → Prop) (n : Nat)
/-- a dict of numbers, told by its keys -/
abbrev O.dk (P : Int → Bool) (n : Nat) : O := .dg (fun kvs => ∀ i : Int, (valV kvs (Sum.inl i : Key)).isSome = P i) n
/-- a dict from numbers to numbers -/
abbrev O.dv (f : Int → Option Int) (n : Nat) : O := .dg (fun kvs => ∀ i : Int, valV kvs (Sum.inl i : Key) = (f i).map V.int) n

def em : Hp := fun _ => none

mutual
inductive Own (K : PySem.W.Frag) (Hs : Hp) : V → O → Hp → Prop
  | sh {v : V} {d : D} : Rep K Hs v d → Own K Hs v (.sh d) em
  | ol {p : Addr} {vs : List V} {xs : List O} {R : Hp} : R p = none → OwnL K Hs vs xs R → Own K Hs (.ref p) (.ol xs) (upd R p (.lst vs))
  | ob {p C dx : Addr} {ns : List Str} {vs : List V} {xs : List O} {R : Hp} : R p = none → ns.length = xs.length → OwnL K Hs vs xs R → Own K Hs (.ref p) (.ob C ns xs) (upd R p (.ins C dx (ns.zip vs)))
  | dg {p : Addr} {Φ : List (Key × V) → Prop} {n : Nat} {kvs : List (Key × V)} : kvs.length ≤ n ∧ Φ kvs → Own K Hs (.ref p) (.dg Φ n) (upd em p (.dK kvs))
inductive OwnL (K : PySem.W.Frag) (Hs : Hp) : List V → List O → Hp → Prop
  | nil : OwnL K Hs [] [] em
  | cons {v : V} {o : O} {vs : List V} {os : List O} {R S : Hp} : Own K Hs v o R → OwnL K Hs vs os S → (∀ a, R a ≠ none → S a = none) → OwnL K Hs (v :: vs) (o :: os) (jn R S)
end

section
variable {K : PySem.W.Frag} {Hs Hs' : Hp}
mutual
theorem Own.mono (e : Ex Hs Hs') : ∀ {v : V} {o : O} {R : Hp}, Own K Hs v o R → Own K Hs' v o R
  | _, _, _, .sh h => .sh (h.mono e)
  | _, _, _, .ol n h => .ol n (OwnL.mono e h)
  | _, _, _, .ob n l h => .ob n l (OwnL.mono e h)
  | _, _, _, .dg h => .dg h
theorem OwnL.mono (e : Ex Hs Hs') : ∀ {vs : List V} {os : List O} {R : Hp}, OwnL K Hs vs os R → OwnL K Hs' vs os R
  | _, _, _, .nil => .nil
  | _, _, _, .cons h r d => .cons (Own.mono e h) (OwnL.mono e r) d
end
theorem OwnL.length : ∀ {vs : List V} {os : List O} {R : Hp}, OwnL K Hs vs os R → vs.length = os.length
  | _, _, _, .nil => rfl
  | _, _, _, .cons _ r _ => by rw [List.length_cons, List.length_cons, r.length]
theorem jn_em (R : Hp) : jn em R = R := funext fun a => rfl
theorem jn_em' (R : Hp) : jn R em = R := funext fun a => by
  unfold jn em
  cases R a <;> rfl
theorem jn_none {R S : Hp} {a : Addr} : jn R S a = none ↔ R a = none ∧ S a = none := by
  unfold jn
  cases h : R a with
  | some o => simp
  | none => simp
theorem PlR.em : PlR em := fun a o e => nomatch e
theorem PlR.upd {R : Hp} {p : Addr} {u : HO} (h : PlR R) (n : u.pln = true := by rfl) : PlR (upd R p u) := fun a o e => by
  by_cases q : a = p
  · rw [q, upd_same] at e
    cases e
    exact n
  · rw [upd_ne q] at e
    exact h a o e
theorem PlR.jn {R S : Hp} (h : PlR R) (k : PlR S) : PlR (jn R S) := fun a o e => by
  cases z : R a with
  | some u =>
    rw [jn_l z] at e
    cases e
    exact h a o z
  | none =>
    rw [jn_r z] at e
    exact k a o e
mutual
theorem Own.pl : ∀ {v : V} {o : O} {R : Hp}, Own K Hs v o R → PlR R
  | _, _, _, .sh _ => PlR.em
  | _, _, _, .ol n h => (OwnL.pl h).upd
  | _, _, _, .ob n l h => (OwnL.pl h).upd
  | _, _, _, .dg h => PlR.em.upd
theorem OwnL.pl : ∀ {vs : List V} {os : List O} {R : Hp}, OwnL K Hs vs os R → PlR R
  | _, _, _, .nil => PlR.em
  | _, _, _, .cons h r d => (Own.pl h).jn (OwnL.pl r)
end
theorem ownL_sh {vs : List V} {ds : List D} (h : RepL K Hs vs ds) : OwnL K Hs vs (ds.map .sh) em := by
  induction vs generalizing ds with
  | nil => cases h; exact .nil
  | cons v vs ih =>
    cases h with
    | cons a b =>
      have := OwnL.cons (Own.sh a) (ih b) (fun x hx => absurd rfl hx)
      rw [jn_em] at this
      exact this
theorem OwnL.reps : ∀ {vs : List V} {ds : List D} {R : Hp}, OwnL K Hs vs (ds.map .sh) R → RepL K Hs vs ds ∧ R = em
  | vs, [], R, h => by cases h; exact ⟨.nil, rfl⟩
  | vs, d :: ds, R, h => by
    cases h with
    | cons a b c =>
      cases a with
      | sh q =>
        obtain ⟨r, e⟩ := OwnL.reps (ds := ds) b
        subst e
        exact ⟨.cons q r, jn_em _⟩
/-- a list's item with its part of the region -/
theorem OwnL.split : ∀ {vs : List V} {os : List O} {R : Hp} {j : Nat} {o : O}, OwnL K Hs vs os R → os[j]? = some o → ∃ v S T, vs[j]? = some v ∧ Own K Hs v o S ∧ (∀ a, S a ≠ none → T a = none) ∧ (∀ a, R a = jn S T a) ∧
    ∀ {G : Hp}, Ex Hs G → ∀ {v' : V} {o' : O} {S' : Hp}, Own K G v' o' S' → (∀ a, S' a ≠ none → T a = none) → OwnL K G (vs.set j v') (os.set j o') (jn S' T)
  | _, _, _, j, o, .nil, e => by simp at e
  | _, _, _, 0, o, .cons (v := v) (R := R1) (S := R2) h r d, e => by
    have e' := Option.some.inj e
    subst e'
    exact ⟨v, R1, R2, rfl, h, d, fun a => rfl, fun {G} eg {v' o' S'} h' d' => .cons h' (r.mono eg) d'⟩
  | _, _, _, j + 1, o, .cons (v := v) (R := R1) (S := R2) h r d, e => by
    obtain ⟨u, S, T, e1, h1, d1, e2, k⟩ := OwnL.split (j := j) (o := o) r e
    refine ⟨u, S, jn R1 T, e1, h1, fun a ha => ?_, fun a => ?_, fun {G} eg {v' o' S'} h' d' => ?_⟩
    · have hS : R2 a ≠ none := by
        rw [e2]
        intro z
        exact ha (jn_none.mp z).1
      refine jn_none.mpr ⟨?_, d1 a ha⟩
      cases z : R1 a with
      | none => rfl
      | some o => exact absurd (d a (by rw [z]; exact fun y => nomatch y)) hS
    · show jn R1 R2 a = jn S (jn R1 T) a
      cases z : R1 a with
      | some o =>
        have hS : S a = none := by
          cases y : S a with
          | none => rfl
          | some u =>
            have := d a (by rw [z]; exact fun y => nomatch y)
            rw [e2, jn_l y] at this
            cases this
        rw [jn_l z, jn_r hS, jn_l z]
      | none =>
        rw [jn_r z, e2]
        cases y : S a with
        | some u => rw [jn_l y, jn_l y]
        | none => rw [jn_r y, jn_r y, jn_r z]
    · have q := k eg (v' := v') (o' := o') (S' := S') h' (fun a ha => (jn_none.mp (d' a ha)).2)
      have c := OwnL.cons (h.mono eg) q (fun a ha => by
        refine jn_none.mpr ⟨?_, ?_⟩
        · cases y : S' a with
          | none => rfl
          | some u => exact absurd (jn_none.mp (d' a (by rw [y]; exact fun z => nomatch z))).1 ha
        · have := d a ha
          rw [e2] at this
          exact (jn_none.mp this).2)
      have e3 : jn S' (jn R1 T) = jn R1 (jn S' T) := funext fun a => by
        cases z : R1 a with
        | some o =>
          have hS : S' a = none := by
            cases y : S' a with
            | none => rfl
            | some u =>
              have := (jn_none.mp (d' a (by rw [y]; exact fun z => nomatch z))).1
              rw [z] at this
              cases this
          rw [jn_r hS, jn_l z, jn_l z]
        | none =>
          rw [jn_r z]
          cases y : S' a with
          | some u => rw [jn_l y, jn_l y]
          | none => rw [jn_r y, jn_r y, jn_r z]
      rw [e3]
      exact c
theorem OwnL.snoc {v : V} {o : O} {S : Hp} (h : Own K Hs v o S) : ∀ {vs : List V} {os : List O} {R : Hp}, OwnL K Hs vs os R → (∀ a, S a ≠ none → R a = none) → OwnL K Hs (vs ++ [v]) (os ++ [o]) (jn S R)
  | _, _, _, .nil, d => by
    exact .cons h .nil (fun _ _ => rfl)
  | _, _, _, .cons (R := R1) (S := R2) h1 r d1, d => by
    have q := OwnL.snoc h r fun a ha => (jn_none.mp (d a ha)).2
    have c := OwnL.cons h1 q fun a ha => jn_none.mpr ⟨by
      cases y : S a with
      | none => rfl
      | some u => exact absurd (jn_none.mp (d a (by rw [y]; exact fun z => nomatch z))).1 ha, d1 a ha⟩
    have e3 : jn S (jn R1 R2) = jn R1 (jn S R2) := funext fun a => by
      cases z : R1 a with
      | some o =>
        have hS : S a = none := by
          cases y : S a with
          | none => rfl
          | some u =>
            have := (jn_none.mp (d a (by rw [y]; exact fun z => nomatch z))).1
            rw [z] at this
            cases this
        rw [jn_r hS, jn_l z, jn_l z]
      | none =>
        rw [jn_r z]
        cases y : S a with
        | some u => rw [jn_l y, jn_l y]
        | none => rw [jn_r y, jn_r y, jn_r z]
    rw [e3]
    exact c

/-! ### paths -/
def O.kids : O → List O
  | .sh _ => []
  | .ol xs => xs
  | .ob _ _ xs => xs
  | .dg _ _ => []
def O.wk : O → List O → O
  | .sh d, _ => .sh d
  | .ol _, ys => .ol ys
  | .ob C ns _, ys => .ob C ns ys
  | .dg P n, _ => .dg P n
def O.at_ : O → List Nat → Option O
  | o, [] => some o
  | o, j :: p => (o.kids[j]?).bind fun x => x.at_ p
def O.put : O → List Nat → O → O
  | _, [], o' => o'
  | o, j :: p, o' => match o.kids[j]? with
    | none => o
    | some x => o.wk (o.kids.set j (x.put p o'))
/-- the value at a path -/
inductive VAt (H : Hp) : V → List Nat → V → Prop
  | nil {v : V} : VAt H v [] v
  | lst {a : Addr} {vs : List V} {j : Nat} {u w : V} {p : List Nat} : H a = some (.lst vs) → vs[j]? = some u → VAt H u p w → VAt H (.ref a) (j :: p) w
  | ins {a C dx : Addr} {fs : List (Str × V)} {f : Str} {j : Nat} {u w : V} {p : List Nat} : H a = some (.ins C dx fs) → fs[j]? = some (f, u) → VAt H u p w → VAt H (.ref a) (j :: p) w
theorem VAt.mono {H H' : Hp} (e : Ex H H') : ∀ {v : V} {p : List Nat} {w : V}, VAt H v p w → VAt H' v p w
  | _, _, _, .nil => .nil
  | _, _, _, .lst h g r => .lst (e _ _ h) g (VAt.mono e r)
  | _, _, _, .ins h g r => .ins (e _ _ h) g (VAt.mono e r)
theorem VAt.monoN {H H' : Hp} (e : ExN H H') : ∀ {v : V} {p : List Nat} {w : V}, VAt H v p w → VAt H' v p w
  | _, _, _, .nil => .nil
  | _, _, _, .lst h g r => .lst (e.pl h) g (VAt.monoN e r)
  | _, _, _, .ins h g r => .ins (e.pl h) g (VAt.monoN e r)
theorem VAt.app {H : Hp} {q : List Nat} {u : V} : ∀ {v : V} {p : List Nat} {w : V}, VAt H v p w → VAt H w q u → VAt H v (p ++ q) u
  | _, _, _, .nil, r => r
  | _, _, _, .lst h g r, s => .lst h g (VAt.app r s)
  | _, _, _, .ins h g r, s => .ins h g (VAt.app r s)
theorem VAt.det {H : Hp} : ∀ {v : V} {p : List Nat} {w u : V}, VAt H v p w → VAt H v p u → w = u
  | _, _, _, _, .nil, .nil => rfl
  | _, _, _, _, .lst h g r, .lst h' g' r' => by
    rw [h] at h'
    cases h'
    rw [g] at g'
    cases g'
    exact VAt.det r r'
  | _, _, _, _, .ins h g r, .ins h' g' r' => by
    rw [h] at h'
    cases h'
    rw [g] at g'
    cases g'
    exact VAt.det r r'
  | _, _, _, _, .lst h g r, .ins h' g' r' => by rw [h] at h'; cases h'
  | _, _, _, _, .ins h g r, .lst h' g' r' => by rw [h] at h'; cases h'
theorem zip_get {ns : List Str} {vs : List V} {j : Nat} {u : V} (hl : ns.length = vs.length) (h : vs[j]? = some u) : ∃ f, (ns.zip vs)[j]? = some (f, u) := by
  have hj := (List.getElem?_eq_some_iff.mp h).1
  refine ⟨ns[j]'(by omega), ?_⟩
  rw [List.getElem?_zip_eq_some]
  exact ⟨List.getElem?_eq_getElem _, h⟩
theorem zip_set {ns : List Str} {vs : List V} {j : Nat} {u : V} : vs[j]? = some u → ns.zip (vs.set j u) = ns.zip vs := fun h => by
  have e : vs.set j u = vs := by
    apply List.ext_getElem?
    intro i
    by_cases q : i = j
    · subst q
      rw [List.getElem?_set_self (List.getElem?_eq_some_iff.mp h).1, h]
    · rw [List.getElem?_set_ne (Ne.symm q)]
  rw [e]
/-- what lies at a path, and what may be put there in its stead (its address stays) -/
theorem Own.part : ∀ {p : List Nat} {v : V} {o o1 : O} {R : Hp}, Own K Hs v o R → o.at_ p = some o1 → ∃ v1 S T, VAt R v p v1 ∧ Own K Hs v1 o1 S ∧ (∀ a, S a ≠ none → T a = none) ∧ (∀ a, R a = jn S T a) ∧
    ∀ {G : Hp}, Ex Hs G → ∀ {o' : O} {S' : Hp}, Own K G v1 o' S' → (∀ a, S' a ≠ none → T a = none) → Own K G v (o.put p o') (jn S' T)
  | [], v, o, o1, R, h, e => by
    have e' := Option.some.inj e
    subst e'
    exact ⟨v, R, em, .nil, h, fun _ _ => rfl, fun a => by rw [jn_em'], fun {G} eg {o' S'} h' _ => by
      rw [jn_em']
      exact h'⟩
  | j :: p, v, o, o1, R, h, e => by
    obtain ⟨x, hx, e⟩ := Option.bind_eq_some_iff.mp e
    have shape : ∃ (q : Addr) (vs : List V) (xs : List O) (R1 : Hp) (mk : List V → HO), v = .ref q ∧ o.kids = xs ∧ R1 q = none ∧ OwnL K Hs vs xs R1 ∧ R = upd R1 q (mk vs) ∧
        (∀ (G : Hp) (vs' : List V) (xs' : List O) (R' : Hp), R' q = none → xs'.length = xs.length → OwnL K G vs' xs' R' → Own K G (.ref q) (o.wk xs') (upd R' q (mk vs'))) ∧
        (∀ (G : Hp) (vs' : List V) (u w : V), vs'.length = vs.length → G q = some (mk vs') → vs'[j]? = some u → VAt G u p w → VAt G (.ref q) (j :: p) w) := by
      cases h with
      | sh _ => simp [O.kids] at hx
      | dg _ => simp [O.kids] at hx
      | @ol q vs xs R1 hn hl =>
        exact ⟨q, vs, xs, R1, fun vs => .lst vs, rfl, rfl, hn, hl, rfl, fun G vs' xs' R' hn' _ hl' => .ol hn' hl', fun G vs' u w _ hg hu r => .lst hg hu r⟩
      | @ob q C dx ns vs xs R1 hn hlen hl =>
        refine ⟨q, vs, xs, R1, fun vs => .ins C dx (ns.zip vs), rfl, rfl, hn, hl, rfl, fun G vs' xs' R' hn' hlen' hl' => .ob hn' (by omega) hl', fun G vs' u w hlen' hg hu r => ?_⟩
        obtain ⟨f, hf⟩ := zip_get (ns := ns) (by rw [hlen', hl.length]; exact hlen) hu
        exact .ins hg hf r
    obtain ⟨q, vs, xs, R1, mk, rfl, ek, hn, hl, rfl, build, step⟩ := shape
    rw [ek] at hx
    obtain ⟨u, S1, T1, hu, ho, d1, e1, k1⟩ := hl.split hx
    obtain ⟨v1, S, T, va, h1, d2, e2, k2⟩ := Own.part (p := p) ho e
    have qS1 : S1 q = none ∧ T1 q = none := jn_none.mp (by rw [← e1]; exact hn)
    have qST : S q = none ∧ T q = none := jn_none.mp (by rw [← e2]; exact qS1.1)
    refine ⟨v1, S, upd (jn T T1) q (mk vs), ?_, h1, fun a ha => ?_, fun a => ?_, fun {G} eg {o' S'} h' d' => ?_⟩
    · refine step _ vs u v1 rfl upd_same hu (va.mono fun a o ea => ?_)
      have na : a ≠ q := fun z => by rw [z, qS1.1] at ea; cases ea
      rw [upd_ne na, e1, jn_l ea]
    · have na : a ≠ q := fun z => by rw [z] at ha; exact ha qST.1
      rw [upd_ne na]
      refine jn_none.mpr ⟨d2 a ha, d1 a ?_⟩
      rw [e2]
      intro z
      exact ha (jn_none.mp z).1
    · by_cases na : a = q
      · subst na
        rw [upd_same, jn_r qST.1, upd_same]
      · rw [upd_ne na, e1]
        cases y : S a with
        | some o =>
          have y1 : S1 a = some o := by rw [e2, jn_l y]
          rw [jn_l y1, jn_l y]
        | none =>
          rw [jn_r y, upd_ne na]
          cases z : T a with
          | some o =>
            have y1 : S1 a = some o := by rw [e2, jn_r y, z]
            rw [jn_l y1, jn_l z]
          | none =>
            have y1 : S1 a = none := by rw [e2, jn_r y, z]
            rw [jn_r y1, jn_r z]
    · have c2 := k2 eg h' fun a ha => by
        have := d' a ha
        by_cases na : a = q
        · subst na
          exact qST.2
        · rw [upd_ne na] at this
          exact (jn_none.mp this).1
      have c1 := k1 eg c2 fun a ha => by
        by_cases hS' : S' a = none
        · have hT : T a ≠ none := fun z => ha (jn_none.mpr ⟨hS', z⟩)
          refine d1 a ?_
          rw [e2]
          intro z
          exact hT (jn_none.mp z).2
        · have := d' a hS'
          by_cases na : a = q
          · subst na
            exact qS1.2
          · rw [upd_ne na] at this
            exact (jn_none.mp this).2
      have hq' : S' q = none := by
        cases y : S' q with
        | none => rfl
        | some w =>
          have := d' q (by rw [y]; exact fun z => nomatch z)
          rw [upd_same] at this
          cases this
      have eput : o.put (j :: p) o' = o.wk (xs.set j (x.put p o')) := by
        show (match o.kids[j]? with
          | none => o
          | some x => o.wk (o.kids.set j (x.put p o'))) = _
        rw [ek, hx]
      rw [eput]
      have b := build G (vs.set j u) (xs.set j (x.put p o')) (jn (jn S' T) T1) (jn_none.mpr ⟨jn_none.mpr ⟨hq', qST.2⟩, qS1.2⟩) (by rw [List.length_set]) c1
      have ev : vs.set j u = vs := by
        apply List.ext_getElem?
        intro i
        by_cases qi : i = j
        · subst qi
          rw [List.getElem?_set_self (List.getElem?_eq_some_iff.mp hu).1, hu]
        · rw [List.getElem?_set_ne (Ne.symm qi)]
      rw [ev] at b
      have er : jn S' (upd (jn T T1) q (mk vs)) = upd (jn (jn S' T) T1) q (mk vs) := funext fun a => by
        by_cases na : a = q
        · subst na
          rw [jn_r hq', upd_same, upd_same]
        · rw [upd_ne na]
          cases y : S' a with
          | some w => rw [jn_l y, jn_l (show jn S' T a = some w by rw [jn_l y])]
          | none =>
            rw [jn_r y, upd_ne na]
            cases z : T a with
            | some w => rw [jn_l z, jn_l (show jn S' T a = some w by rw [jn_r y, z])]
            | none => rw [jn_r z, jn_r (show jn S' T a = none from jn_none.mpr ⟨y, z⟩)]
      rw [er]
      exact b
end
end DL

/-! DRules: what readings do on deep data. -/
namespace DL
open PySem L2
variable [TbC]

theorem SqT_of {K : PySem.W.Frag} {H : Hp} {a : Addr} {vs : List V} (h : H a = some (.tup vs)) : SqT K H a vs := .of h
/-! ### judgements -/
/-- te gives d -/
def EvD (K : PySem.W.Frag) (te : TE) (ρ : Env) (d : D) : Prop := ∀ B Hs H σ, RS K B Hs H σ ρ → ∀ Q : VK, (∀ Hs' H' v, Gr Hs H H Hs' H' → Rep K Hs' v d → Q v H') → te σ H Q
/-- te gives a new list that nobody else knows -/
def EvF (K : PySem.W.Frag) (te : TE) (ρ : Env) (ds : List D) : Prop := ∀ B Hs H σ, RS K B Hs H σ ρ → ∀ Q : VK, (∀ Hs' H' p vs, Gr Hs H H Hs' H' → H p = none → Hs' p = none → H' p = some (.lst vs) → RepL K Hs' vs ds → Q (.ref p) H') → te σ H Q
/-- te gives a list that may be read now -/
def EvB (K : PySem.W.Frag) (te : TE) (ρ : Env) (ds : List D) : Prop := ∀ B Hs H σ, RS K B Hs H σ ρ → ∀ Q : VK, (∀ Hs' H' p vs, Gr Hs H H Hs' H' → SqL K H' p vs → RepL K Hs' vs ds → Q (.ref p) H') → te σ H Q
/-- .. a list that is tracked (not the script) -/
def EvM (K : PySem.W.Frag) (te : TE) (ρ : Env) (ds : List D) : Prop := ∀ B Hs H σ, RS K B Hs H σ ρ → ∀ Q : VK, (∀ Hs' H' p vs, Gr Hs H H Hs' H' → H' p = some (.lst vs) → RepL K Hs' vs ds → Q (.ref p) H') → te σ H Q
/-- te gives what may be read now as d -/
def EvR (K : PySem.W.Frag) (te : TE) (ρ : Env) (d : D) : Prop := ∀ B Hs H σ, RS K B Hs H σ ρ → ∀ Q : VK, (∀ Hs' H' v, Gr Hs H H Hs' H' → Rep K H' v d → Q v H') → te σ H Q
/-- a test -/
def EvT (K : PySem.W.Frag) (tt : TT) (ρ : Env) (b : Bool) : Prop := ∀ B Hs H σ, RS K B Hs H σ ρ → ∀ Q : Bool → Hp → Prop, (∀ Hs' H', Gr Hs H H Hs' H' → Q b H') → tt σ H Q
/-- arguments -/
def EvA (K : PySem.W.Frag) (ta : TA) (ρ : Env) (ds : List D) : Prop := ∀ B Hs H σ, RS K B Hs H σ ρ → ∀ Q : List V → Hp → Prop, (∀ Hs' H' vs, Gr Hs H H Hs' H' → RepL K Hs' vs ds → Q vs H') → ta σ H Q
/-- a part of a slice -/
def EvO (K : PySem.W.Frag) (to : TO) (ρ : Env) (o : Option Int) : Prop := ∀ B Hs H σ, RS K B Hs H σ ρ → ∀ Q : Option Int → Hp → Prop, (∀ Hs' H', Gr Hs H H Hs' H' → Q o H') → to σ H Q
/-- what an iterator yields -/
def ItD (K : PySem.W.Frag) (J : It) (Hs1 : Hp) (ds : List D) : Prop := ∀ i Hs2 H2, Ex Hs1 Hs2 → Ex Hs2 H2 →
  (∀ d, ds[i]? = some d → J.go i H2 ∧ ∀ x H3, J.yld i H2 x H3 → ∃ Hs3, Gr Hs2 H2 H2 Hs3 H3 ∧ Rep K Hs3 x d) ∧ (i = ds.length → J.stop i H2)
def EvI (K : PySem.W.Frag) (wi : TI) (ρ : Env) (ds : List D) : Prop := ∀ B Hs H σ, RS K B Hs H σ ρ → ∀ R : It → Hp → Prop, (∀ J Hs1 H1, Gr Hs H H Hs1 H1 → ItD K J Hs1 ds → R J H1) → wi σ H R
/-- a target takes d -/
def EvG (K : PySem.W.Frag) (g : TG) (d : D) (ρ ρ' : Env) : Prop := ∀ B Hs H σ x, RS K B Hs H σ ρ → Rep K Hs x d → ∀ Q : St → Hp → Prop, (∀ Hs' H' σ', Gr Hs H H Hs' H' → RS K B Hs' H' σ' ρ' → Q σ' H') → g x σ H Q
def EvGs (K : PySem.W.Frag) (g : TGs) (ds : List D) (ρ ρ' : Env) : Prop := ∀ B Hs H σ xs, RS K B Hs H σ ρ → RepL K Hs xs ds → ∀ Q : St → Hp → Prop, (∀ Hs' H' σ', Gr Hs H H Hs' H' → RS K B Hs' H' σ' ρ' → Q σ' H') → g xs σ H Q

section
variable {K : PySem.W.Frag} {ρ : Env} {te ta tb tx : TE} {d e : D} {ds es : List D} {tt tu : TT}

theorem EvD.is (h : EvD K te ρ d) (q : d = e) : EvD K te ρ e := q ▸ h
theorem EvF.is (h : EvF K te ρ ds) (q : ds = es) : EvF K te ρ es := q ▸ h
theorem EvT.is {a b : Bool} (h : EvT K tt ρ a) (q : a = b) : EvT K tt ρ b := q ▸ h
theorem EvD.r (h : EvD K te ρ d) : EvR K te ρ d := fun B Hs H σ r Q q => h B Hs H σ r Q fun Hs' H' v g x => q Hs' H' v g (x.mono g.lv)
theorem EvF.m (h : EvF K te ρ ds) : EvM K te ρ ds := fun B Hs H σ r Q q => h B Hs H σ r Q fun Hs' H' p vs g _ _ e x => q Hs' H' p vs g e x
theorem EvM.b (h : EvM K te ρ ds) : EvB K te ρ ds := fun B Hs H σ r Q q => h B Hs H σ r Q fun Hs' H' p vs g e x => q Hs' H' p vs g (.of e) x
theorem EvF.b (h : EvF K te ρ ds) : EvB K te ρ ds := h.m.b
theorem EvF.v (h : EvF K te ρ ds) : EvD K te ρ (.lst ds) := fun B Hs H σ r Q q => h B Hs H σ r Q fun Hs' H' p vs g n ns e x =>
  q (upd Hs' p (.lst vs)) H' (.ref p) (g.share n ns e) (.lst upd_same (x.mono (Ex.new ns)))
theorem EvD.m (h : EvD K te ρ (.lst ds)) : EvM K te ρ ds := fun B Hs H σ r Q q => h B Hs H σ r Q fun Hs' H' v g x => by
  cases x with
  | lst hs hr => exact q Hs' H' _ _ g (g.lv _ _ hs) hr
theorem EvD.s (h : EvD K te ρ (.scr ds)) : EvB K te ρ ds := fun B Hs H σ r Q q => h B Hs H σ r Q fun Hs' H' v g x => by
  cases x with
  | scr hs hr => exact q Hs' H' _ _ g (g.lv.sl hs) hr
theorem EvM.r (h : EvM K te ρ ds) : EvR K te ρ (.lst ds) := fun B Hs H σ r Q q => h B Hs H σ r Q fun Hs' H' p vs g e x => q Hs' H' (.ref p) g (.lst e (x.mono g.lv))

/-! ### names and constants -/
theorem ev_var {i : Nat} (h : ρ[i]? = some (some (.sh d))) : EvD K (tVar i) ρ d := fun B Hs H σ r Q q => by
  obtain ⟨v, e, x⟩ := r.get h
  exact ⟨v, e, q Hs H v (Gr.refl r.ex) x⟩
theorem em_var {i : Nat} (h : ρ[i]? = some (some (.ol ds))) : EvM K (tVar i) ρ ds := fun B Hs H σ r Q q => by
  obtain ⟨p, vs, e, hp, x, _⟩ := r.mutL i h
  exact ⟨.ref p, e, q Hs H p vs (Gr.refl r.ex) hp x⟩
theorem ev_ci {i : Int} : EvD K (tC (.int i)) ρ (.int i) := fun B Hs H σ r Q q => q Hs H _ (Gr.refl r.ex) (.int i)
theorem ev_cs {s : Str} : EvD K (tC (.str s)) ρ (.str s) := fun B Hs H σ r Q q => q Hs H _ (Gr.refl r.ex) (.str s)
theorem ev_cb {b : Bool} : EvD K (tC (.bl b)) ρ (.bl b) := fun B Hs H σ r Q q => q Hs H _ (Gr.refl r.ex) (.bl b)
theorem ev_cn : EvD K (tC .non) ρ .non := fun B Hs H σ r Q q => q Hs H _ (Gr.refl r.ex) .non
theorem ev_cf {a : Addr} : EvD K (tC (.ref a)) ρ (.fn a) := fun B Hs H σ r Q q => q Hs H _ (Gr.refl r.ex) (.fn a)
theorem ev_ct {n : String} : EvD K (tC (.ty n)) ρ (.ty n) := fun B Hs H σ r Q q => q Hs H _ (Gr.refl r.ex) (.ty n)

/-! ### operators on ints -/
theorem ev_I {g : Int → Int → Int} {i j : Int} (ha : EvD K ta ρ (.int i)) (hb : EvD K tb ρ (.int j)) : EvD K (tOp (rI0 fun i j => .int (g i j)) ta tb) ρ (.int (g i j)) := fun B Hs H σ r Q q =>
  ha B Hs H σ r _ fun Hs1 H1 x g1 x1 => hb B Hs1 H1 σ (r.grow g1) _ fun Hs2 H2 y g2 y2 => by
    cases x1
    cases y2
    exact ⟨i, j, rfl, rfl, q Hs2 H2 _ (g1.trans g2) (.int _)⟩
theorem ev_Ib {g : Int → Int → Bool} {i j : Int} (ha : EvD K ta ρ (.int i)) (hb : EvD K tb ρ (.int j)) : EvD K (tOp (rI0 fun i j => .bl (g i j)) ta tb) ρ (.bl (g i j)) := fun B Hs H σ r Q q =>
  ha B Hs H σ r _ fun Hs1 H1 x g1 x1 => hb B Hs1 H1 σ (r.grow g1) _ fun Hs2 H2 y g2 y2 => by
    cases x1
    cases y2
    exact ⟨i, j, rfl, rfl, q Hs2 H2 _ (g1.trans g2) (.bl _)⟩
theorem ev_IC {C : Int → Int → Prop} {g : Int → Int → Int} {i j : Int} (ha : EvD K ta ρ (.int i)) (hb : EvD K tb ρ (.int j)) (hc : C i j) : EvD K (tOp (rI C fun i j => .int (g i j)) ta tb) ρ (.int (g i j)) := fun B Hs H σ r Q q =>
  ha B Hs H σ r _ fun Hs1 H1 x g1 x1 => hb B Hs1 H1 σ (r.grow g1) _ fun Hs2 H2 y g2 y2 => by
    cases x1
    cases y2
    exact ⟨i, j, rfl, rfl, hc, q Hs2 H2 _ (g1.trans g2) (.int _)⟩
theorem ev_U {g : Int → Int} {i : Int} (ha : EvD K ta ρ (.int i)) : EvD K (tUn (rU fun i => .int (g i)) ta) ρ (.int (g i)) := fun B Hs H σ r Q q =>
  ha B Hs H σ r _ fun Hs1 H1 x g1 x1 => by
    cases x1
    exact ⟨i, rfl, q Hs1 H1 _ g1 (.int _)⟩

/-! ### == of data -/
mutual
def D.pd : D → PyData
  | .non => .none | .bl b => .bool b | .int i => .int i | .str s => .str s
  | .lst xs => .list (D.pds xs) | .scr xs => .list (D.pds xs) | .tup xs => .tuple (D.pds xs)
  | .ty _ => .none | .fn _ => .none | .obj _ _ _ => .none | .clo _ _ _ => .none
def D.pds : List D → List PyData
  | [] => []
  | x :: xs => D.pd x :: D.pds xs
end
mutual
/-- data that == compares as data -/
def D.pl : D → Bool
  | .non => true | .bl _ => true | .int _ => true | .str _ => true
  | .lst xs => D.pls xs | .scr xs => D.pls xs | .tup xs => D.pls xs
  | .ty _ => false | .fn _ => false | .obj _ _ _ => false | .clo _ _ _ => false
def D.pls : List D → Bool
  | [] => true
  | x :: xs => D.pl x && D.pls xs
end
mutual
theorem Rep.dp {H : Hp} : ∀ {v : V} {d : D}, Rep K H v d → d.pl = true → Dp K H v d.pd
  | _, _, .non, _ => .non
  | _, _, .bl b, _ => .bl b
  | _, _, .int i, _ => .int i
  | _, _, .str x, _ => .str x
  | _, _, .ty n, s => by cases s
  | _, _, .fn a, s => by cases s
  | _, _, .lst h r, s => by
    unfold D.pd
    exact .lst (.of h) (RepL.dp r (by unfold D.pl at s; exact s))
  | _, _, .scr h r, s => by
    unfold D.pd
    exact .lst h (RepL.dp r (by unfold D.pl at s; exact s))
  | _, _, .tup h r, s => by
    unfold D.pd
    exact .tup (.of h) (RepL.dp r (by unfold D.pl at s; exact s))
  | _, _, .obj h r, s => by cases s
  | _, _, .clo h k r, s => by cases s
theorem RepL.dp {H : Hp} : ∀ {vs : List V} {ds : List D}, RepL K H vs ds → D.pls ds = true → DpAll K H vs (D.pds ds)
  | _, _, .nil, _ => by
    unfold D.pds
    exact .nil
  | _, _, .cons h r, s => by
    unfold D.pls at s
    rw [Bool.and_eq_true] at s
    unfold D.pds
    exact .cons (Rep.dp h s.1) (RepL.dp r s.2)
end
/-- fit to be compared -/
def D.fit (d : D) : Bool := d.pl && SeqAt.shaped d.pd
theorem ev_eq (ha : EvR K ta ρ d) (hb : EvR K tb ρ e) (fd : d.fit = true) (fe : e.fit = true) : EvD K (tOp (rEqD K) ta tb) ρ (.bl (PyData.eqv d.pd e.pd)) := fun B Hs H σ r Q q =>
  ha B Hs H σ r _ fun Hs1 H1 x g1 x1 => hb B Hs1 H1 σ (r.grow g1) _ fun Hs2 H2 y g2 y2 => by
    unfold D.fit at fd fe
    rw [Bool.and_eq_true] at fd fe
    exact ⟨_, _, (x1.monoN g2.fr).dp fd.1, y2.dp fe.1, fd.2, fe.2, q Hs2 H2 _ (g1.trans g2) (.bl _)⟩
theorem ev_ne (ha : EvR K ta ρ d) (hb : EvR K tb ρ e) (fd : d.fit = true) (fe : e.fit = true) : EvD K (tOp (rNeD K) ta tb) ρ (.bl (!PyData.eqv d.pd e.pd)) := fun B Hs H σ r Q q =>
  ha B Hs H σ r _ fun Hs1 H1 x g1 x1 => hb B Hs1 H1 σ (r.grow g1) _ fun Hs2 H2 y g2 y2 => by
    unfold D.fit at fd fe
    rw [Bool.and_eq_true] at fd fe
    exact ⟨_, _, (x1.monoN g2.fr).dp fd.1, y2.dp fe.1, fd.2, fe.2, q Hs2 H2 _ (g1.trans g2) (.bl _)⟩
theorem ev_eqI {i j : Int} (ha : EvD K ta ρ (.int i)) (hb : EvD K tb ρ (.int j)) : EvD K (tOp (rEqD K) ta tb) ρ (.bl (decide (i = j))) :=
  (ev_eq ha.r hb.r rfl rfl).is (by
    show D.bl (i == j) = _
    rw [Bool.beq_eq_decide_eq])
theorem ev_neI {i j : Int} (ha : EvD K ta ρ (.int i)) (hb : EvD K tb ρ (.int j)) : EvD K (tOp (rNeD K) ta tb) ρ (.bl (!decide (i = j))) :=
  (ev_ne ha.r hb.r rfl rfl).is (by
    show D.bl (!(i == j)) = _
    rw [Bool.beq_eq_decide_eq])
theorem ev_eqB {i j : Bool} (ha : EvD K ta ρ (.bl i)) (hb : EvD K tb ρ (.bl j)) : EvD K (tOp (rEqD K) ta tb) ρ (.bl (decide (i = j))) :=
  (ev_eq ha.r hb.r rfl rfl).is (by
    show D.bl (i == j) = _
    rw [Bool.beq_eq_decide_eq])
theorem ev_neB {i j : Bool} (ha : EvD K ta ρ (.bl i)) (hb : EvD K tb ρ (.bl j)) : EvD K (tOp (rNeD K) ta tb) ρ (.bl (!decide (i = j))) :=
  (ev_ne ha.r hb.r rfl rfl).is (by
    show D.bl (!(i == j)) = _
    rw [Bool.beq_eq_decide_eq])

/-- a kind of data: == of its codes is =. n: how deep -/
structure Cod {α : Type} [DecidableEq α] (n : Nat) (f : α → D) : Prop where
  pl : ∀ x, (f x).pl = true
  lay : ∀ x, (f x).pd.canLay0 = true
  dp : ∀ x, (f x).pd.depth ≤ n
  eq : ∀ x y, PyData.eqv (f x).pd (f y).pd = decide (x = y)
section
variable {α β γ δ : Type} [DecidableEq α] [DecidableEq β] [DecidableEq γ] [DecidableEq δ] {n m k l : Nat} {f : α → D} {g : β → D} {h : γ → D} {u : δ → D}
theorem Cod.fit (c : Cod n f) (hn : n ≤ 64) (x : α) : (f x).fit = true := by
  unfold D.fit SeqAt.shaped
  have h2 : decide ((f x).pd.depth ≤ 64) = true := decide_eq_true (Nat.le_trans (c.dp x) hn)
  rw [c.pl, c.lay, h2]
  rfl
theorem cod_int : Cod 0 D.int := ⟨fun _ => rfl, fun _ => rfl, fun _ => Nat.le_refl _, fun x y => by
  show (x == y) = _
  rw [Bool.beq_eq_decide_eq]⟩
theorem cod_bl : Cod 0 D.bl := ⟨fun _ => rfl, fun _ => rfl, fun _ => Nat.le_refl _, fun x y => by
  show (x == y) = _
  rw [Bool.beq_eq_decide_eq]⟩
theorem Cod.pls (c : Cod n f) : ∀ xs : List α, D.pls (xs.map f) = true
  | [] => rfl
  | x :: xs => by
    show (D.pl (f x) && D.pls (xs.map f)) = true
    rw [c.pl, Cod.pls c xs]
    rfl
theorem Cod.lays (c : Cod n f) : ∀ xs : List α, PyData.canLayAll0 (D.pds (xs.map f)) = true
  | [] => rfl
  | x :: xs => by
    have h1 := c.lay x
    have h2 := Cod.lays c xs
    show PyData.canLayAll0 (D.pd (f x) :: D.pds (xs.map f)) = true
    simp only [PyData.canLayAll0, h1, h2, Bool.and_self]
theorem Cod.dps (c : Cod n f) : ∀ xs : List α, PyData.depthAll (D.pds (xs.map f)) ≤ n
  | [] => Nat.zero_le _
  | x :: xs => by
    have h1 := c.dp x
    have h2 := Cod.dps c xs
    show PyData.depthAll (D.pd (f x) :: D.pds (xs.map f)) ≤ n
    simp only [PyData.depthAll]
    omega
theorem Cod.eqs (c : Cod n f) : ∀ xs ys : List α, PyData.eqvAll (D.pds (xs.map f)) (D.pds (ys.map f)) = decide (xs = ys)
  | [], [] => by simp [D.pds, PyData.eqvAll]
  | [], y :: ys => by simp [D.pds, PyData.eqvAll]
  | x :: xs, [] => by simp [D.pds, PyData.eqvAll]
  | x :: xs, y :: ys => by
    have h1 := c.eq x y
    have h2 := Cod.eqs c xs ys
    show (PyData.eqv (f x).pd (f y).pd && PyData.eqvAll (D.pds (xs.map f)) (D.pds (ys.map f))) = _
    rw [h1, h2]
    by_cases e1 : x = y <;> by_cases e2 : xs = ys <;> simp [e1, e2]
theorem Cod.lst (c : Cod n f) : Cod (n + 1) (fun xs : List α => D.lst (xs.map f)) := ⟨fun xs => c.pls xs, fun xs => c.lays xs, fun xs => by
  have h := c.dps xs
  show PyData.depthAll (D.pds (xs.map f)) + 1 ≤ n + 1
  omega, fun xs ys => c.eqs xs ys⟩
theorem Cod.tps (c : Cod n f) : Cod (n + 1) (fun xs : List α => D.tup (xs.map f)) := ⟨fun xs => c.pls xs, fun xs => c.lays xs, fun xs => by
  have h := c.dps xs
  show PyData.depthAll (D.pds (xs.map f)) + 1 ≤ n + 1
  omega, fun xs ys => c.eqs xs ys⟩
theorem Cod.tup2 (a : Cod n f) (b : Cod m g) : Cod (max n m + 1) (fun x : α × β => D.tup [f x.1, g x.2]) := ⟨fun x => by simp [D.pl, D.pls, a.pl, b.pl], fun x => by simp [D.pd, D.pds, PyData.canLay0, PyData.canLayAll0, a.lay, b.lay],
  fun x => by
    have h1 := a.dp x.1
    have h2 := b.dp x.2
    simp only [D.pd, D.pds, PyData.depth, PyData.depthAll]
    omega, fun x y => by
    simp only [D.pd, D.pds, PyData.eqv, PyData.eqvAll, a.eq, b.eq]
    obtain ⟨x1, x2⟩ := x
    obtain ⟨y1, y2⟩ := y
    by_cases e1 : x1 = y1 <;> by_cases e2 : x2 = y2 <;> simp [e1, e2]⟩
theorem Cod.tup3 (a : Cod n f) (b : Cod m g) (c : Cod k h) : Cod (max n (max m k) + 1) (fun x : α × β × γ => D.tup [f x.1, g x.2.1, h x.2.2]) := ⟨fun x => by simp [D.pl, D.pls, a.pl, b.pl, c.pl], fun x => by simp [D.pd, D.pds, PyData.canLay0, PyData.canLayAll0, a.lay, b.lay, c.lay],
  fun x => by
    have h1 := a.dp x.1
    have h2 := b.dp x.2.1
    have h3 := c.dp x.2.2
    simp only [D.pd, D.pds, PyData.depth, PyData.depthAll]
    omega, fun x y => by
    simp only [D.pd, D.pds, PyData.eqv, PyData.eqvAll, a.eq, b.eq, c.eq]
    obtain ⟨x1, x2, x3⟩ := x
    obtain ⟨y1, y2, y3⟩ := y
    by_cases e1 : x1 = y1 <;> by_cases e2 : x2 = y2 <;> by_cases e3 : x3 = y3 <;> simp [e1, e2, e3]⟩
end
theorem ev_eqC {α : Type} [DecidableEq α] {n : Nat} {f : α → D} (c : Cod n f) (hn : n ≤ 64) {x y : α} (ha : EvR K ta ρ (f x)) (hb : EvR K tb ρ (f y)) : EvD K (tOp (rEqD K) ta tb) ρ (.bl (decide (x = y))) :=
  (ev_eq ha hb (c.fit hn x) (c.fit hn y)).is (by rw [c.eq])
theorem ev_neC {α : Type} [DecidableEq α] {n : Nat} {f : α → D} (c : Cod n f) (hn : n ≤ 64) {x y : α} (ha : EvR K ta ρ (f x)) (hb : EvR K tb ρ (f y)) : EvD K (tOp (rNeD K) ta tb) ρ (.bl (!decide (x = y))) :=
  (ev_ne ha hb (c.fit hn x) (c.fit hn y)).is (by rw [c.eq])
theorem ev_eqL {xs ys : List Int} (ha : EvR K ta ρ (.lst (xs.map .int))) (hb : EvR K tb ρ (.lst (ys.map .int))) : EvD K (tOp (rEqD K) ta tb) ρ (.bl (decide (xs = ys))) := ev_eqC cod_int.lst (by decide) ha hb
theorem ev_neL {xs ys : List Int} (ha : EvR K ta ρ (.lst (xs.map .int))) (hb : EvR K tb ρ (.lst (ys.map .int))) : EvD K (tOp (rNeD K) ta tb) ρ (.bl (!decide (xs = ys))) := ev_neC cod_int.lst (by decide) ha hb
/-- xs == [], xs != [] -/
theorem ev_eqN {xs : List D} (ha : EvR K ta ρ (.lst xs)) (hb : EvR K tb ρ (.lst [])) (fx : (D.lst xs).fit = true) : EvD K (tOp (rEqD K) ta tb) ρ (.bl xs.isEmpty) := (ev_eq ha hb fx rfl).is (by
  cases xs <;> rfl)
theorem ev_neN {xs : List D} (ha : EvR K ta ρ (.lst xs)) (hb : EvR K tb ρ (.lst [])) (fx : (D.lst xs).fit = true) : EvD K (tOp (rNeD K) ta tb) ρ (.bl (!xs.isEmpty)) := (ev_ne ha hb fx rfl).is (by
  cases xs <;> rfl)
def D.isN : D → Bool
  | .non => true
  | _ => false
/-! ### tests -/
theorem et_B {b : Bool} (h : EvD K te ρ (.bl b)) : EvT K (tB te) ρ b := fun B Hs H σ r Q q => h B Hs H σ r _ fun Hs' H' v g x => by
  cases x
  exact ⟨b, rfl, q Hs' H' g⟩
theorem et_t {b : Bool} (h : EvD K te ρ (.bl b)) : EvT K (tTest te) ρ b := fun B Hs H σ r Q q => h B Hs H σ r _ fun Hs' H' v g x => by
  cases x
  exact ⟨b, rfl, q Hs' H' g⟩
theorem et_and {a b : Bool} (h1 : EvT K tt ρ a) (h2 : a = true → EvT K tu ρ b) : EvT K (tAnd tt tu) ρ (a && b) := fun B Hs H σ r Q q => h1 B Hs H σ r _ fun Hs1 H1 g1 => by
  cases a with
  | true =>
    show tu σ H1 Q
    exact h2 rfl B Hs1 H1 σ (r.grow g1) Q fun Hs2 H2 g2 => q Hs2 H2 (g1.trans g2)
  | false =>
    show Q false H1
    exact q Hs1 H1 g1
theorem et_or {a b : Bool} (h1 : EvT K tt ρ a) (h2 : a = false → EvT K tu ρ b) : EvT K (tOr tt tu) ρ (a || b) := fun B Hs H σ r Q q => h1 B Hs H σ r _ fun Hs1 H1 g1 => by
  cases a with
  | true =>
    show Q true H1
    exact q Hs1 H1 g1
  | false =>
    show tu σ H1 Q
    exact h2 rfl B Hs1 H1 σ (r.grow g1) Q fun Hs2 H2 g2 => q Hs2 H2 (g1.trans g2)
theorem et_not {a : Bool} (h1 : EvT K tt ρ a) : EvT K (tNot tt) ρ (!a) := fun B Hs H σ r Q q => h1 B Hs H σ r _ q
theorem et_and' {a b : Bool} (h1 : EvT K tt ρ a) (h2 : EvT K tu ρ b) : EvT K (tAnd tt tu) ρ (a && b) := et_and h1 fun _ => h2
theorem et_or' {a b : Bool} (h1 : EvT K tt ρ a) (h2 : EvT K tu ρ b) : EvT K (tOr tt tu) ρ (a || b) := et_or h1 fun _ => h2
theorem et_yes : EvT K tYes ρ true := fun B Hs H σ r Q q => q Hs H (Gr.refl r.ex)
theorem ev_and {a b : Bool} (h1 : EvD K ta ρ (.bl a)) (h2 : a = true → EvD K tb ρ (.bl b)) : EvD K (tAndV ta tb) ρ (.bl (a && b)) := fun B Hs H σ r Q q => h1 B Hs H σ r _ fun Hs1 H1 v g1 x => by
  cases x
  refine ⟨a, rfl, ?_⟩
  cases a with
  | true =>
    show tb σ H1 Q
    exact h2 rfl B Hs1 H1 σ (r.grow g1) Q fun Hs2 H2 w g2 => q Hs2 H2 w (g1.trans g2)
  | false =>
    show Q (.bl false) H1
    exact q Hs1 H1 _ g1 (.bl _)
theorem ev_or {a b : Bool} (h1 : EvD K ta ρ (.bl a)) (h2 : a = false → EvD K tb ρ (.bl b)) : EvD K (tOrV ta tb) ρ (.bl (a || b)) := fun B Hs H σ r Q q => h1 B Hs H σ r _ fun Hs1 H1 v g1 x => by
  cases x
  refine ⟨a, rfl, ?_⟩
  cases a with
  | true =>
    show Q (.bl true) H1
    exact q Hs1 H1 _ g1 (.bl _)
  | false =>
    show tb σ H1 Q
    exact h2 rfl B Hs1 H1 σ (r.grow g1) Q fun Hs2 H2 w g2 => q Hs2 H2 w (g1.trans g2)
theorem ev_and' {a b : Bool} (h1 : EvD K ta ρ (.bl a)) (h2 : EvD K tb ρ (.bl b)) : EvD K (tAndV ta tb) ρ (.bl (a && b)) := ev_and h1 fun _ => h2
theorem ev_or' {a b : Bool} (h1 : EvD K ta ρ (.bl a)) (h2 : EvD K tb ρ (.bl b)) : EvD K (tOrV ta tb) ρ (.bl (a || b)) := ev_or h1 fun _ => h2
theorem ev_not {a : Bool} (h1 : EvD K ta ρ (.bl a)) : EvD K (tNotV ta) ρ (.bl (!a)) := fun B Hs H σ r Q q => h1 B Hs H σ r _ fun Hs1 H1 v g1 x => by
  cases x
  exact ⟨a, rfl, q Hs1 H1 _ g1 (.bl _)⟩
theorem ev_if {b : Bool} (h : EvT K tt ρ b) (h1 : b = true → EvD K ta ρ d) (h2 : b = false → EvD K tb ρ d) : EvD K (tIf tt ta tb) ρ d := fun B Hs H σ r Q q => h B Hs H σ r _ fun Hs1 H1 g1 => by
  cases b with
  | true =>
    show ta σ H1 Q
    exact h1 rfl B Hs1 H1 σ (r.grow g1) Q fun Hs2 H2 v g2 => q Hs2 H2 v (g1.trans g2)
  | false =>
    show tb σ H1 Q
    exact h2 rfl B Hs1 H1 σ (r.grow g1) Q fun Hs2 H2 v g2 => q Hs2 H2 v (g1.trans g2)
/-- a < b < c -/
theorem ev_chain {g h : Int → Int → Bool} {i j k : Int} {tc : TE} (ha : EvD K ta ρ (.int i)) (hb : EvD K tb ρ (.int j)) (hc : EvD K tc ρ (.int k)) :
    EvD K (tChain (rI0 fun i j => .bl (g i j)) (rI0 fun i j => .bl (h i j)) ta tb tc) ρ (.bl (g i j && h j k)) := fun B Hs H σ r Q q =>
  ha B Hs H σ r _ fun Hs1 H1 x g1 x1 => hb B Hs1 H1 σ (r.grow g1) _ fun Hs2 H2 y g2 y2 => by
    cases x1
    cases y2
    refine ⟨i, j, rfl, rfl, g i j, rfl, ?_⟩
    cases e : g i j with
    | true =>
      show tc σ H2 _
      refine hc B Hs2 H2 σ ((r.grow g1).grow g2) _ fun Hs3 H3 z g3 z3 => ?_
      cases z3
      rw [e, Bool.true_and] at q
      exact ⟨j, k, rfl, rfl, q Hs3 H3 _ ((g1.trans g2).trans g3) (.bl _)⟩
    | false =>
      show Q (.bl false) H2
      rw [e, Bool.false_and] at q
      exact q Hs2 H2 _ (g1.trans g2) (.bl _)
/-- is None -/
theorem ev_isN (ha : EvR K ta ρ d) : EvD K (tIsN ta) ρ (.bl d.isN) := fun B Hs H σ r Q q => ha B Hs H σ r _ fun Hs1 H1 v g x => by
  have e : decide (v = V.non) = d.isN := by
    cases x <;> rfl
  show Q (.bl (decide (v = V.non))) H1
  rw [e]
  exact q Hs1 H1 _ g (.bl _)
theorem ev_notN (ha : EvR K ta ρ d) : EvD K (tNotN ta) ρ (.bl (!d.isN)) := fun B Hs H σ r Q q => ha B Hs H σ r _ fun Hs1 H1 v g x => by
  have e : (!decide (v = V.non)) = (!d.isN) := by
    cases x <;> rfl
  show Q (.bl (!decide (v = V.non))) H1
  rw [e]
  exact q Hs1 H1 _ g (.bl _)

/-! ### arguments, displays -/
theorem ea_nil : EvA K tNil ρ [] := fun B Hs H σ r Q q => q Hs H _ (Gr.refl r.ex) .nil
theorem ea_cons {tr : TA} (h : EvD K ta ρ d) (hr : EvA K tr ρ ds) : EvA K (tCons ta tr) ρ (d :: ds) := fun B Hs H σ r Q q =>
  h B Hs H σ r _ fun Hs1 H1 v g1 x => hr B Hs1 H1 σ (r.grow g1) _ fun Hs2 H2 vs g2 xs => q Hs2 H2 _ (g1.trans g2) (.cons (x.mono g2.sh) xs)
theorem sz_of {n : Nat} (h : n ≤ 100000) : n ≤ sizeLine := Nat.le_trans h (by decide)
theorem sz_lt {n : Nat} (h : n < 100000) : n < sizeLine := Nat.lt_of_lt_of_le h (by decide)
theorem ev_tup {ta : TA} (h : EvA K ta ρ ds) (hl : ds.length ≤ 100000) : EvD K (tTup ta) ρ (.tup ds) := fun B Hs H σ r Q q =>
  h B Hs H σ r _ fun Hs1 H1 vs g xs => ⟨by rw [xs.length]; exact sz_of hl, fun p hp => by
    have g2 := Gr.new (o := .tup vs) g.lv hp
    have n : Hs1 p = none := by
      cases q : Hs1 p with
      | none => rfl
      | some u =>
        rw [g.lv p u q] at hp
        cases hp
    exact q _ _ _ (g.trans g2) (.tup upd_same (xs.mono (Ex.new n)))⟩
theorem gr_none {Hs H Hs' H' : Hp} (g : Gr Hs H H Hs' H') {p : Addr} (h : H' p = none) : H p = none ∧ Hs' p = none := by
  constructor
  · exact (g.new0 h).1
  · cases q : Hs' p with
    | none => rfl
    | some u =>
      rw [g.lv p u q] at h
      cases h
theorem ef_lst {ta : TA} (h : EvA K ta ρ ds) (hl : ds.length ≤ 100000) : EvF K (tLst ta) ρ ds := fun B Hs H σ r Q q =>
  h B Hs H σ r _ fun Hs1 H1 vs g xs => ⟨by rw [xs.length]; exact sz_of hl, fun p hp => by
    obtain ⟨n1, n2⟩ := gr_none g hp
    exact q Hs1 _ p vs (g.trans (Gr.newO g.lv hp)) n1 n2 upd_same xs⟩

/-! ### lists read -/
theorem ev_ixL {i : Int} (ha : EvB K ta ρ ds) (hb : EvD K tb ρ (.int i)) (h : atI ds i = some d) : EvD K (tOp (rIxL K) ta tb) ρ d := fun B Hs H σ r Q q =>
  ha B Hs H σ r _ fun Hs1 H1 p vs g1 hp xs => hb B Hs1 H1 σ (r.grow g1) _ fun Hs2 H2 y g2 y2 => by
    cases y2
    unfold atI at h
    obtain ⟨j, e1, e2⟩ := Option.bind_eq_some_iff.mp h
    obtain ⟨v, e3, x⟩ := xs.at e2
    refine ⟨p, vs, i, v, rfl, rfl, g2.fr.sl hp, ?_, q Hs2 H2 v (g1.trans g2) (x.mono g2.sh)⟩
    unfold atI
    rw [xs.length, e1]
    exact e3
theorem ev_ixT {i : Int} (ha : EvD K ta ρ (.tup ds)) (hb : EvD K tb ρ (.int i)) (h : atI ds i = some d) : EvD K (tOp (rIxT K) ta tb) ρ d := fun B Hs H σ r Q q =>
  ha B Hs H σ r _ fun Hs1 H1 x g1 x1 => hb B Hs1 H1 σ (r.grow g1) _ fun Hs2 H2 y g2 y2 => by
    cases y2
    cases x1 with
    | @tup p vs _ hp' xs =>
      have hp := SqT_of (K := K) hp'
      unfold atI at h
      obtain ⟨j, e1, e2⟩ := Option.bind_eq_some_iff.mp h
      obtain ⟨v, e3, x⟩ := xs.at e2
      refine ⟨p, vs, i, v, rfl, rfl, (g1.lv.n.trans g2.fr).st hp, ?_, q Hs2 H2 v (g1.trans g2) (x.mono g2.sh)⟩
      unfold atI
      rw [xs.length, e1]
      exact e3
/-- x[i] of a list or a tuple or a text, by the rule of all three -/
theorem ev_ixl {i : Int} (ha : EvB K ta ρ ds) (hb : EvD K tb ρ (.int i)) (h : atI ds i = some d) : EvD K (tOp (rIx K) ta tb) ρ d := fun B Hs H σ r Q q =>
  ha B Hs H σ r _ fun Hs1 H1 p vs g1 hp xs => hb B Hs1 H1 σ (r.grow g1) _ fun Hs2 H2 y g2 y2 => by
    cases y2
    unfold atI at h
    obtain ⟨j, e1, e2⟩ := Option.bind_eq_some_iff.mp h
    obtain ⟨v, e3, x⟩ := xs.at e2
    refine .inl ⟨p, vs, i, v, rfl, rfl, g2.fr.sl hp, ?_, q Hs2 H2 v (g1.trans g2) (x.mono g2.sh)⟩
    unfold atI
    rw [xs.length, e1]
    exact e3
theorem ev_ixt {i : Int} (ha : EvD K ta ρ (.tup ds)) (hb : EvD K tb ρ (.int i)) (h : atI ds i = some d) : EvD K (tOp (rIx K) ta tb) ρ d := fun B Hs H σ r Q q =>
  ha B Hs H σ r _ fun Hs1 H1 x g1 x1 => hb B Hs1 H1 σ (r.grow g1) _ fun Hs2 H2 y g2 y2 => by
    cases y2
    cases x1 with
    | @tup p vs _ hp' xs =>
      have hp := SqT_of (K := K) hp'
      unfold atI at h
      obtain ⟨j, e1, e2⟩ := Option.bind_eq_some_iff.mp h
      obtain ⟨v, e3, x⟩ := xs.at e2
      refine .inr (.inl ⟨p, vs, i, v, rfl, rfl, (g1.lv.n.trans g2.fr).st hp, ?_, q Hs2 H2 v (g1.trans g2) (x.mono g2.sh)⟩)
      unfold atI
      rw [xs.length, e1]
      exact e3
theorem eo_none : EvO K tNoPart ρ none := fun B Hs H σ r Q q => q Hs H (Gr.refl r.ex)
theorem eo_some {i : Int} (h : EvD K te ρ (.int i)) : EvO K (tPart te) ρ (some i) := fun B Hs H σ r Q q => h B Hs H σ r _ fun Hs' H' v g x => by
  cases x
  exact ⟨i, rfl, q Hs' H' g⟩
def cutD (xs : List D) (lo hi : Option Int) : List D := (xs.drop (HT.sIx xs.length 0 lo)).take (HT.sIx xs.length xs.length hi - HT.sIx xs.length 0 lo)
theorem RepL.cut {H : Hp} {vs : List V} (h : RepL K H vs ds) (lo hi : Option Int) : RepL K H (cutV vs lo hi) (cutD ds lo hi) := by
  unfold cutV cutD
  rw [h.length]
  exact (h.drop _).take _
theorem ef_slice {tl th : TO} {lo hi : Option Int} (ha : EvB K ta ρ ds) (hl : EvO K tl ρ lo) (hh : EvO K th ρ hi) : EvF K (tSl (rSlL K) ta tl th) ρ (cutD ds lo hi) := fun B Hs H σ r Q q =>
  ha B Hs H σ r _ fun Hs1 H1 p vs g1 hp xs => hl B Hs1 H1 σ (r.grow g1) _ fun Hs2 H2 g2 => hh B Hs2 H2 σ ((r.grow g1).grow g2) _ fun Hs3 H3 g3 => by
    refine ⟨p, vs, rfl, g3.fr.sl (g2.fr.sl hp), fun l hn => ?_⟩
    have g := (g1.trans g2).trans g3
    obtain ⟨n1, n2⟩ := gr_none g hn
    exact q Hs3 _ l _ (g.trans (Gr.newO g3.lv hn)) n1 n2 upd_same ((xs.mono (g2.sh.trans g3.sh)).cut lo hi)
theorem ef_cat (ha : EvM K ta ρ ds) (hb : EvM K tb ρ es) (hl : ds.length + es.length ≤ 100000) : EvF K (tOp rCat ta tb) ρ (ds ++ es) := fun B Hs H σ r Q q =>
  ha B Hs H σ r _ fun Hs1 H1 p vs g1 hp xs => hb B Hs1 H1 σ (r.grow g1) _ fun Hs2 H2 p2 ws g2 hp2 ys => by
    have g := g1.trans g2
    refine ⟨p, p2, vs, ws, rfl, rfl, g2.fr.pl hp, hp2, by rw [xs.length, ys.length]; exact sz_of hl, fun l hn => ?_⟩
    obtain ⟨n1, n2⟩ := gr_none g hn
    exact q Hs2 _ l _ (g.trans (Gr.newO g2.lv hn)) n1 n2 upd_same ((xs.mono g2.sh).append ys)
theorem ef_rep {k : Int} (ha : EvM K ta ρ ds) (hb : EvD K tb ρ (.int k)) (hk : k ≤ 100000) (hk' : -100000 ≤ k) (hl : ds.length * k.toNat ≤ 100000) : EvF K (tOp rRep ta tb) ρ (List.replicate k.toNat ds).flatten := fun B Hs H σ r Q q =>
  ha B Hs H σ r _ fun Hs1 H1 p vs g1 hp xs => hb B Hs1 H1 σ (r.grow g1) _ fun Hs2 H2 y g2 y2 => by
    cases y2
    have g := g1.trans g2
    refine ⟨p, k, vs, rfl, rfl, g2.fr.pl hp, by omega, by omega, by rw [xs.length]; exact sz_of hl, fun l hn => ?_⟩
    obtain ⟨n1, n2⟩ := gr_none g hn
    exact q Hs2 _ l _ (g.trans (Gr.newO g2.lv hn)) n1 n2 upd_same ((xs.mono g2.sh).rep _)

/-! ### built-ins on lists -/
abbrev rLen (K : PySem.W.Frag) : List V → Hp → VK → Prop := fun xs H Q => ∃ p ys, xs = [V.ref p] ∧ (SqL K H p ys ∨ SqT K H p ys) ∧ Q (.int ys.length) H
theorem ev_lenL (ha : EvB K ta ρ ds) : EvD K (tCB (rLen K) (tCons ta tNil)) ρ (.int (ds.length : Int)) := fun B Hs H σ r Q q =>
  ha B Hs H σ r _ fun Hs1 H1 p vs g1 hp xs => ⟨p, vs, rfl, .inl hp, by
    rw [xs.length]
    exact q Hs1 H1 _ g1 (.int _)⟩
theorem ev_lenT (ha : EvD K ta ρ (.tup ds)) : EvD K (tCB (rLen K) (tCons ta tNil)) ρ (.int (ds.length : Int)) := fun B Hs H σ r Q q =>
  ha B Hs H σ r _ fun Hs1 H1 v g1 x => by
    cases x with
    | @tup p vs _ hp' xs =>
      have hp := SqT_of (K := K) hp'
      refine ⟨p, vs, rfl, .inr (g1.lv.st hp), ?_⟩
      rw [xs.length]
      exact q Hs1 H1 _ g1 (.int _)
abbrev rLenS : List V → Hp → VK → Prop := fun xs H Q => ∃ z : Str, xs = [V.str z] ∧ z.length ≤ sizeLine ∧ Q (.int z.length) H
abbrev rList (K : PySem.W.Frag) : List V → Hp → VK → Prop := fun xs H Q => ∃ p ys, xs = [V.ref p] ∧ (SqL K H p ys ∨ SqT K H p ys) ∧ ∀ l, H l = none → Q (.ref l) (upd H l (.lst ys))
theorem ef_listL (ha : EvB K ta ρ ds) : EvF K (tCB (rList K) (tCons ta tNil)) ρ ds := fun B Hs H σ r Q q =>
  ha B Hs H σ r _ fun Hs1 H1 p vs g1 hp xs => ⟨p, vs, rfl, .inl hp, fun l hn => by
    obtain ⟨n1, n2⟩ := gr_none g1 hn
    exact q Hs1 _ l _ (g1.trans (Gr.newO g1.lv hn)) n1 n2 upd_same xs⟩
theorem ef_listT (ha : EvD K ta ρ (.tup ds)) : EvF K (tCB (rList K) (tCons ta tNil)) ρ ds := fun B Hs H σ r Q q =>
  ha B Hs H σ r _ fun Hs1 H1 v g1 x => by
    cases x with
    | @tup p vs _ hp' xs =>
      have hp := SqT_of (K := K) hp'
      refine ⟨p, vs, rfl, .inr (g1.lv.st hp), fun l hn => ?_⟩
      obtain ⟨n1, n2⟩ := gr_none g1 hn
      exact q Hs1 _ l _ (g1.trans (Gr.newO g1.lv hn)) n1 n2 upd_same xs
abbrev rTuple (K : PySem.W.Frag) : List V → Hp → VK → Prop := fun xs H Q => ∃ p ys, xs = [V.ref p] ∧ ((SqL K H p ys ∧ ∀ l, H l = none → Q (.ref l) (upd H l (.tup ys))) ∨ (SqT K H p ys ∧ Q (.ref p) H))
theorem ev_tupleL (ha : EvB K ta ρ ds) : EvD K (tCB (rTuple K) (tCons ta tNil)) ρ (.tup ds) := fun B Hs H σ r Q q =>
  ha B Hs H σ r _ fun Hs1 H1 p vs g1 hp xs => ⟨p, vs, rfl, .inl ⟨hp, fun l hn => by
    obtain ⟨n1, n2⟩ := gr_none g1 hn
    exact q _ _ _ (g1.trans (Gr.new g1.lv hn)) (.tup upd_same (xs.mono (Ex.new n2)))⟩⟩
theorem ev_tupleT (ha : EvD K ta ρ (.tup ds)) : EvD K (tCB (rTuple K) (tCons ta tNil)) ρ (.tup ds) := fun B Hs H σ r Q q =>
  ha B Hs H σ r _ fun Hs1 H1 v g1 x => by
    cases x with
    | @tup p vs _ hp' xs =>
      have hp := SqT_of (K := K) hp'
      exact ⟨p, vs, rfl, .inr ⟨g1.lv.st hp, q Hs1 H1 _ g1 (.tup hp' xs)⟩⟩
theorem ev_sum {ns : List Int} (ha : EvB K ta ρ (ns.map D.int)) : EvD K (tCB (rSum K) (tCons ta tNil)) ρ (.int ns.sum) := fun B Hs H σ r Q q =>
  ha B Hs H σ r _ fun Hs1 H1 p vs g1 hp xs => by
    have e := xs.ints
    subst e
    exact ⟨p, ns, rfl, hp, q Hs1 H1 _ g1 (.int _)⟩
theorem ev_all {bs : List Bool} (ha : EvB K ta ρ (bs.map D.bl)) : EvD K (tCB (rAll K) (tCons ta tNil)) ρ (.bl (bs.all id)) := fun B Hs H σ r Q q =>
  ha B Hs H σ r _ fun Hs1 H1 p vs g1 hp xs => by
    have e := xs.bls
    subst e
    exact ⟨p, bs, rfl, hp, q Hs1 H1 _ g1 (.bl _)⟩
theorem ev_any {bs : List Bool} (ha : EvB K ta ρ (bs.map D.bl)) : EvD K (tCB (rAny K) (tCons ta tNil)) ρ (.bl (bs.any id)) := fun B Hs H σ r Q q =>
  ha B Hs H σ r _ fun Hs1 H1 p vs g1 hp xs => by
    have e := xs.bls
    subst e
    exact ⟨p, bs, rfl, hp, q Hs1 H1 _ g1 (.bl _)⟩
abbrev rAbs : List V → Hp → VK → Prop := fun xs H Q => ∃ i : Int, xs = [V.int i] ∧ Q (.int (if i < 0 then -i else i)) H
theorem ev_abs {i : Int} (ha : EvD K ta ρ (.int i)) : EvD K (tCB rAbs (tCons ta tNil)) ρ (.int (if i < 0 then -i else i)) := fun B Hs H σ r Q q =>
  ha B Hs H σ r _ fun Hs1 H1 v g1 x => by
    cases x
    exact ⟨i, rfl, q Hs1 H1 _ g1 (.int _)⟩
abbrev rMax2 : List V → Hp → VK → Prop := fun xs H Q => ∃ i j : Int, xs = [V.int i, V.int j] ∧ Q (.int (if j > i then j else i)) H
abbrev rMin2 : List V → Hp → VK → Prop := fun xs H Q => ∃ i j : Int, xs = [V.int i, V.int j] ∧ Q (.int (if j < i then j else i)) H
theorem ev_max2 {i j : Int} (ha : EvD K ta ρ (.int i)) (hb : EvD K tb ρ (.int j)) : EvD K (tCB rMax2 (tCons ta (tCons tb tNil))) ρ (.int (max i j)) := fun B Hs H σ r Q q =>
  ha B Hs H σ r _ fun Hs1 H1 v g1 x => hb B Hs1 H1 σ (r.grow g1) _ fun Hs2 H2 w g2 y => by
    cases x
    cases y
    refine ⟨i, j, rfl, ?_⟩
    have e : (if j > i then j else i) = max i j := by
      by_cases h : j > i
      · rw [if_pos h]
        omega
      · rw [if_neg h]
        omega
    rw [e]
    exact q Hs2 H2 _ (g1.trans g2) (.int _)
theorem ev_min2 {i j : Int} (ha : EvD K ta ρ (.int i)) (hb : EvD K tb ρ (.int j)) : EvD K (tCB rMin2 (tCons ta (tCons tb tNil))) ρ (.int (min i j)) := fun B Hs H σ r Q q =>
  ha B Hs H σ r _ fun Hs1 H1 v g1 x => hb B Hs1 H1 σ (r.grow g1) _ fun Hs2 H2 w g2 y => by
    cases x
    cases y
    refine ⟨i, j, rfl, ?_⟩
    have e : (if j < i then j else i) = min i j := by
      by_cases h : j < i
      · rw [if_pos h]
        omega
      · rw [if_neg h]
        omega
    rw [e]
    exact q Hs2 H2 _ (g1.trans g2) (.int _)
end

/-! ### statements on deep data -/
structure DEnds where
  nx : Env → Prop
  rt : D → Prop
  rf : List D → Prop := fun _ => False
  bk : Env → Prop := fun _ => False
  ct : Env → Prop := fun _ => False
  /-- a value comes back, the own things of the frame are so -/
  ro : Env → D → Prop := fun _ _ => False
  /-- an exception leaves: its class, its own dict -/
  ex : Env → Value → Option (List (Str × D)) → Prop := fun _ _ _ => False
  W : WX := fun _ _ _ _ => True
  /-- a new tree comes back -/
  rn : O → Prop := fun _ => False

/-- an exception's own dict -/
def XRep (K : PySem.W.Frag) (Hs H : Hp) : Option Addr → Option (List (Str × D)) → Prop
  | none, none => True
  | some a, some fs => ∃ vs, H a = some (.xd ((fs.map (·.1)).zip vs)) ∧ RepL K Hs vs (fs.map (·.2))
  | _, _ => False

/-- what follows a statement, over the frame's base B -/
structure Lk (K : PySem.W.Frag) (B : Base) (R : DEnds) (Dn : Ends) : Prop where
  nx : ∀ Hs H σ ρ, RS K B Hs H σ ρ → R.nx ρ → Dn.nx σ H
  rt : ∀ Hs H v d, Gr B.s B.f B.h Hs H → Rep K Hs v d → R.rt d → Dn.rt v H
  rf : ∀ Hs H p vs ds, Gr B.s B.f B.h Hs H → B.h p = none → Hs p = none → H p = some (.lst vs) → RepL K Hs vs ds → R.rf ds → Dn.rt (.ref p) H
  bk : ∀ Hs H σ ρ, RS K B Hs H σ ρ → R.bk ρ → Dn.bk σ H
  ct : ∀ Hs H σ ρ, RS K B Hs H σ ρ → R.ct ρ → Dn.ct σ H
  ro : ∀ Hs H σ ρ v d, RS K B Hs H σ ρ → Rep K Hs v d → R.ro ρ d → Dn.rt v H
  ex : ∀ Hs H σ ρ cls dd fs, RS K B Hs H σ ρ → XRep K Hs H dd fs → R.ex ρ cls fs → R.W cls dd σ H
  rn : ∀ Hs H v o S, Gr B.s B.f B.h Hs H → Own K Hs v o S → (∀ a u, S a = some u → H a = some u ∧ B.h a = none ∧ Hs a = none) → R.rn o → Dn.rt v H
def ExS (K : PySem.W.Frag) (ts : TS) (ρ : Env) (R : DEnds) : Prop := ∀ B Hs H σ Dn, RS K B Hs H σ ρ → Lk K B R Dn → ts Dn σ H

section
variable {K : PySem.W.Frag} {ρ ρ' : Env} {te ta tb : TE} {d : D} {ds : List D} {tt : TT} {t u : TS} {R : DEnds}
theorem xs_next (h : R.nx ρ) : ExS K tNext ρ R := fun B Hs H σ Dn r l => l.nx Hs H σ ρ r h
theorem xs_brk (h : R.bk ρ) : ExS K tBreak ρ R := fun B Hs H σ Dn r l => l.bk Hs H σ ρ r h
theorem xs_cont (h : R.ct ρ) : ExS K tCont ρ R := fun B Hs H σ Dn r l => l.ct Hs H σ ρ r h
theorem xs_seq (h : ExS K t ρ { R with nx := fun ρ' => ExS K u ρ' R }) : ExS K (tSeq t u) ρ R := fun B Hs H σ Dn r l =>
  h B Hs H σ _ r ⟨fun Hs' H' σ' ρ' r' q => q B Hs' H' σ' Dn r' l, l.rt, l.rf, l.bk, l.ct, l.ro, l.ex, l.rn⟩
theorem xs_if {b : Bool} (h : EvT K tt ρ b) (h1 : b = true → ExS K t ρ R) (h2 : b = false → ExS K u ρ R) : ExS K (tIfS tt t u) ρ R := fun B Hs H σ Dn r l =>
  h B Hs H σ r _ fun Hs1 H1 g1 => by
    cases b with
    | true =>
      show t Dn σ H1
      exact h1 rfl B Hs1 H1 σ Dn (r.grow g1) l
    | false =>
      show u Dn σ H1
      exact h2 rfl B Hs1 H1 σ Dn (r.grow g1) l
/-- a test that fails -/
theorem xs_no {b : Bool} (h : EvT K tt ρ b) (e : b = false) (q : R.nx ρ) : ExS K (tIfS tt t tNext) ρ R := xs_if h (fun h1 => by rw [e] at h1; cases h1) fun _ => xs_next q
theorem xs_no2 {b : Bool} (h : EvT K tt ρ b) (e : b = false) (q : ExS K u ρ R) : ExS K (tIfS tt t u) ρ R := xs_if h (fun h1 => by rw [e] at h1; cases h1) fun _ => q
theorem xs_yes {b : Bool} (h : EvT K tt ρ b) (e : b = true) (q : ExS K t ρ R) : ExS K (tIfS tt t u) ρ R := xs_if h (fun _ => q) fun h1 => by rw [e] at h1; cases h1
theorem xs_ret (h : EvD K te ρ d) (q : R.rt d) : ExS K (tRet te) ρ R := fun B Hs H σ Dn r l =>
  h B Hs H σ r _ fun Hs1 H1 v g x => l.rt Hs1 H1 v d (r.gr.trans g) x q
theorem xs_retF (h : EvF K te ρ ds) (q : R.rf ds) : ExS K (tRet te) ρ R := fun B Hs H σ Dn r l =>
  h B Hs H σ r _ fun Hs1 H1 p vs g n ns e x => l.rf Hs1 H1 p vs ds (r.gr.trans g) (by
    cases z : B.h p with
    | none => rfl
    | some o => exact absurd n (r.gr.dm p (by rw [z]; exact fun y => nomatch y))) ns e x q
theorem xs_retO (h : EvD K te ρ d) (q : R.ro ρ d) : ExS K (tRet te) ρ R := fun B Hs H σ Dn r l =>
  h B Hs H σ r _ fun Hs1 H1 v g x => l.ro Hs1 H1 σ ρ v d (r.grow g) x q
theorem xs_retNO (q : R.ro ρ .non) : ExS K tRetN ρ R := fun B Hs H σ Dn r l => l.ro Hs H σ ρ .non .non r .non q
theorem xs_retN (q : R.rt .non) : ExS K tRetN ρ R := fun B Hs H σ Dn r l => l.rt Hs H .non .non r.gr .non q
theorem xs_drop (h : EvD K te ρ d) (q : R.nx ρ) : ExS K (tDrop te) ρ R := fun B Hs H σ Dn r l =>
  h B Hs H σ r _ fun Hs1 H1 v g x => l.nx Hs1 H1 σ ρ (r.grow g) q
theorem eg_name {i : Nat} : EvG K (gName i) d ρ (ρ.set i (some (.sh d))) := fun B Hs H σ x r h Q q => q Hs H _ (Gr.refl r.ex) (r.set i h)
theorem egs_nil : EvGs K gNil [] ρ ρ := fun B Hs H σ xs r h Q q => by
  cases h
  exact ⟨rfl, q Hs H σ (Gr.refl r.ex) r⟩
theorem egs_cons {g : TG} {gs : TGs} {ρ2 : Env} (h1 : EvG K g d ρ ρ') (h2 : EvGs K gs ds ρ' ρ2) : EvGs K (gCons g gs) (d :: ds) ρ ρ2 := fun B Hs H σ xs r h Q q => by
  cases h with
  | @cons v vs _ _ a b =>
    refine ⟨v, vs, rfl, h1 B Hs H σ v r a _ fun Hs1 H1 σ1 g1 r1 => ?_⟩
    exact h2 B Hs1 H1 σ1 vs r1 (b.mono g1.sh) _ fun Hs2 H2 σ2 g2 r2 => q Hs2 H2 σ2 (g1.trans g2) r2
theorem eg_tup {gs : TGs} {n : Nat} (h : EvGs K gs ds ρ ρ') (hn : ds.length = n) : EvG K (gTup K n gs) (.tup ds) ρ ρ' := fun B Hs H σ x r hx Q q => by
  cases hx with
  | @tup p vs _ hp' xs =>
    have hp := SqT_of (K := K) hp'
    exact ⟨p, vs, rfl, r.ex.st hp, by rw [xs.length]; exact hn, h B Hs H σ vs r xs Q q⟩
theorem xs_asg {g : TG} (h : EvD K te ρ d) (hg : EvG K g d ρ ρ') (q : R.nx ρ') : ExS K (tAsg te g) ρ R := fun B Hs H σ Dn r l =>
  h B Hs H σ r _ fun Hs1 H1 v g1 x => hg B Hs1 H1 σ v (r.grow g1) x _ fun Hs2 H2 σ2 g2 r2 => l.nx Hs2 H2 σ2 ρ' r2 q
/-- a new list of the frame's own -/
theorem xs_asgF {i : Nat} (h : EvF K te ρ ds) (q : R.nx (ρ.set i (some (.ol ds)))) : ExS K (tAsg te (gName i)) ρ R := fun B Hs H σ Dn r l =>
  h B Hs H σ r _ fun Hs1 H1 p vs g n ns e x => l.nx Hs1 H1 _ _ (r.setO g i n e ns x) q
theorem xs_aug {i : Nat} {f : Int → Int → Int} {a b : Int} (hx : ρ[i]? = some (some (.sh (.int a)))) (h : EvD K te ρ (.int b)) (q : R.nx (ρ.set i (some (.sh (.int (f a b)))))) : ExS K (tAug i te (ipI f)) ρ R := fun B Hs H σ Dn r l => by
  obtain ⟨v, e, x⟩ := r.get hx
  cases x
  refine ⟨.int a, e, h B Hs H σ r _ fun Hs1 H1 w g y => ?_⟩
  cases y
  exact ⟨a, b, rfl, rfl, l.nx Hs1 H1 _ _ ((r.grow g).set i (.int _)) q⟩
/-- xs.append(e), xs the frame's own -/
theorem xs_app {i : Nat} (hx : ρ[i]? = some (some (.ol ds))) (h : EvD K te ρ d) (hz : ds.length < 100000) (q : R.nx (ρ.set i (some (.ol (ds ++ [d]))))) : ExS K (tDrop (tBM K "list" rAppend (tVar i) (tCons te tNil))) ρ R := fun B Hs H σ Dn r l => by
  obtain ⟨p, vs, e, hp, x, _⟩ := r.mutL i hx
  refine ⟨.ref p, e, .inl ⟨rfl, _, .of hp⟩, h B Hs H σ r _ fun Hs1 H1 w g y => ?_⟩
  obtain ⟨p', vs', e', hp', x', m⟩ := (r.grow g).mutL i hx
  rw [e] at e'
  cases e'
  refine ⟨p, vs', w, rfl, rfl, hp', by rw [x'.length]; exact sz_lt hz, ?_⟩
  exact l.nx Hs1 _ _ _ (m _ _ (x'.append (.cons y .nil))) q
end
end DL

/-! DLoop: iterators, loops, comprehensions, calls, defs. -/
namespace DL
open PySem L2
variable [TbC]

section
variable {K : PySem.W.Frag} {ρ ρ' : Env} {te ta tb : TE} {d e : D} {ds es : List D} {tt : TT} {R : DEnds}
/-! ### iterators -/
theorem ei_list (h : EvD K ta ρ (.lst ds)) : EvI K (iList K ta) ρ ds := fun B Hs H σ r R q => h B Hs H σ r _ fun Hs1 H1 v g x => by
  cases x with
  | @lst p vs _ hp' xs =>
    have hp : SqL K Hs1 p vs := .of hp'
    refine ⟨p, rfl, ⟨vs, g.lv.sl hp⟩, q _ Hs1 H1 g fun i Hs2 H2 e1 e2 => ⟨fun d hd => ?_, fun hi => ?_⟩⟩
    · have hq := (e1.trans e2).sl hp
      obtain ⟨v, hv, xv⟩ := xs.at hd
      refine ⟨⟨vs, v, hq, hv⟩, fun x H3 y => ?_⟩
      obtain ⟨rfl, y⟩ := y
      have z := y vs hq
      rw [hv] at z
      cases z
      exact ⟨Hs2, Gr.refl e2, xv.mono e1⟩
    · exact ⟨vs, (e1.trans e2).sl hp, by rw [xs.length, hi]; exact Nat.le_refl _⟩
theorem ei_tup (h : EvD K ta ρ (.tup ds)) : EvI K (iTup K ta) ρ ds := fun B Hs H σ r R q => h B Hs H σ r _ fun Hs1 H1 v g x => by
  cases x with
  | @tup p vs _ hp' xs =>
    have hp := SqT_of (K := K) hp'
    refine ⟨p, rfl, ⟨vs, g.lv.st hp⟩, q _ Hs1 H1 g fun i Hs2 H2 e1 e2 => ⟨fun d hd => ?_, fun hi => ?_⟩⟩
    · have hq := (e1.trans e2).st hp
      obtain ⟨v, hv, xv⟩ := xs.at hd
      refine ⟨⟨vs, v, hq, hv⟩, fun x H3 y => ?_⟩
      obtain ⟨rfl, y⟩ := y
      have z := y vs hq
      rw [hv] at z
      cases z
      exact ⟨Hs2, Gr.refl e2, xv.mono e1⟩
    · exact ⟨vs, (e1.trans e2).st hp, by rw [xs.length, hi]; exact Nat.le_refl _⟩
def rng (lo : Int) (n : Nat) : List D := (List.range n).map fun i : Nat => D.int (lo + (i : Int))
theorem rng_length (lo : Int) (n : Nat) : (rng lo n).length = n := by unfold rng; rw [List.length_map, List.length_range]
theorem rng_get {lo : Int} {n i : Nat} {d : D} (h : (rng lo n)[i]? = some d) : i < n ∧ d = .int (lo + (i : Int)) := by
  unfold rng at h
  rw [List.getElem?_map] at h
  obtain ⟨j, e1, e2⟩ := Option.map_eq_some_iff.mp h
  have := List.getElem?_eq_some_iff.mp e1
  obtain ⟨hl, e3⟩ := this
  rw [List.length_range] at hl
  rw [List.getElem_range] at e3
  subst e3
  exact ⟨hl, e2.symm⟩
theorem itd_r (lo : Int) (n : Nat) (Hs1 : Hp) : ItD K (Itr lo n) Hs1 (rng lo n) := fun i Hs2 H2 e1 e2 => ⟨fun d hd => by
  obtain ⟨h1, rfl⟩ := rng_get hd
  refine ⟨h1, fun x H3 y => ?_⟩
  obtain ⟨rfl, rfl⟩ := y
  exact ⟨Hs2, Gr.refl e2, .int _⟩, fun hi => by
  rw [rng_length] at hi
  exact Nat.le_of_eq hi.symm⟩
theorem ei_r1 {ta : TA} {n : Int} (h : EvA K ta ρ [.int n]) (hn : -1000000000 ≤ n ∧ n ≤ 1000000000) : EvI K (iRng1 ta) ρ (rng 0 n.toNat) := fun B Hs H σ r R q => h B Hs H σ r _ fun Hs1 H1 vs g x => by
  cases x with
  | cons a b =>
    cases b
    cases a
    exact ⟨n, rfl, by omega, by omega, q _ Hs1 H1 g (itd_r 0 n.toNat Hs1)⟩
theorem ei_r2 {ta : TA} {lo hi : Int} (h : EvA K ta ρ [.int lo, .int hi]) (hn : -4000000000000000000 ≤ lo ∧ lo ≤ 4000000000000000000 ∧ -4000000000000000000 ≤ hi ∧ hi ≤ 4000000000000000000) : EvI K (iRng2 ta) ρ (rng lo (hi - lo).toNat) := fun B Hs H σ r R q => h B Hs H σ r _ fun Hs1 H1 vs g x => by
  cases x with
  | cons a b =>
    cases b with
    | cons a' b =>
      cases b
      cases a
      cases a'
      exact ⟨lo, hi, rfl, ⟨by omega, by omega, by omega, by omega⟩, q _ Hs1 H1 g (itd_r lo (hi - lo).toNat Hs1)⟩
def rngC (lo c : Int) (n : Nat) : List D := (List.range n).map fun i : Nat => D.int (lo + (i : Int) * c)
theorem ei_r3 {ta : TA} {lo hi c : Int} {n : Nat} (h : EvA K ta ρ [.int lo, .int hi, .int c]) (hn : RgC lo hi c n) : EvI K (iRng3 ta) ρ (rngC lo c n) := fun B Hs H σ r R q => h B Hs H σ r _ fun Hs1 H1 vs g x => by
  cases x with
  | cons a b =>
    cases b with
    | cons a' b =>
      cases b with
      | cons a'' b =>
        cases b
        cases a
        cases a'
        cases a''
        refine ⟨lo, hi, c, n, rfl, hn, q _ Hs1 H1 g fun i Hs2 H2 e1 e2 => ⟨fun d hd => ?_, fun hi => ?_⟩⟩
        · unfold rngC at hd
          rw [List.getElem?_map] at hd
          obtain ⟨j, e3, e4⟩ := Option.map_eq_some_iff.mp hd
          obtain ⟨hl, e5⟩ := List.getElem?_eq_some_iff.mp e3
          rw [List.length_range] at hl
          rw [List.getElem_range] at e5
          subst e5
          subst e4
          refine ⟨hl, fun x H3 y => ?_⟩
          obtain ⟨rfl, rfl⟩ := y
          exact ⟨Hs2, Gr.refl e2, .int _⟩
        · unfold rngC at hi
          rw [List.length_map, List.length_range] at hi
          exact Nat.le_of_eq hi.symm
/-- the items with their numbers -/
def numD (k : Nat) : List D → List D
  | [] => []
  | d :: ds => .tup [.int (k : Int), d] :: numD (k + 1) ds
theorem numD_length : ∀ (k : Nat) (ds : List D), (numD k ds).length = ds.length
  | _, [] => rfl
  | k, d :: ds => by
    unfold numD
    rw [List.length_cons, List.length_cons, numD_length (k + 1) ds]
theorem numD_get : ∀ {k : Nat} {ds : List D} {i : Nat}, (numD k ds)[i]? = (ds[i]?).map fun d => D.tup [.int ((k + i : Nat) : Int), d]
  | _, [], i => by simp [numD]
  | k, d :: ds, 0 => by simp [numD]
  | k, d :: ds, i + 1 => by
    unfold numD
    rw [List.getElem?_cons_succ, List.getElem?_cons_succ, numD_get]
    have e : k + 1 + i = k + (i + 1) := by omega
    rw [e]
theorem ei_enum (h : EvD K ta ρ (.lst ds)) : EvI K (iEnum K (tCons ta tNil)) ρ (numD 0 ds) := fun B Hs H σ r R q => h B Hs H σ r _ fun Hs1 H1 v g x => by
  cases x with
  | @lst p vs _ hp' xs =>
    have hp : SqL K Hs1 p vs := .of hp'
    refine ⟨p, vs, rfl, g.lv.sl hp, q _ Hs1 H1 g fun i Hs2 H2 e1 e2 => ⟨fun d hd => ?_, fun hi => ?_⟩⟩
    · rw [numD_get, Nat.zero_add] at hd
      obtain ⟨d0, e3, e4⟩ := Option.map_eq_some_iff.mp hd
      subst e4
      have hq := (e1.trans e2).sl hp
      obtain ⟨v, hv, xv⟩ := xs.at e3
      refine ⟨⟨vs, v, hq, hv⟩, fun x H3 y => ?_⟩
      obtain ⟨T, w, rfl, hT, rfl, y⟩ := y
      have z := y vs hq
      rw [hv] at z
      cases z
      have n2 : Hs2 T = none := by
        cases q : Hs2 T with
        | none => rfl
        | some u =>
          rw [e2 T u q] at hT
          cases hT
      exact ⟨_, Gr.new e2 hT, .tup upd_same (.cons (.int _) (.cons (xv.mono (e1.trans (Ex.new n2))) .nil))⟩
    · rw [numD_length] at hi
      exact ⟨vs, (e1.trans e2).sl hp, by rw [xs.length, hi]; exact Nat.le_refl _⟩

/-! ### for -/
theorem RS.rebase {B : Base} {Hs H : Hp} {σ : St} (r : RS K B Hs H σ ρ) : RS K ⟨Hs, B.f, B.h, r.tb.1, B.t.2⟩ Hs H σ ρ :=
  ⟨⟨r.gr.fr, Ex.refl Hs, r.gr.lv, fun _ _ => rfl, r.gr.dm, r.gr.fd, r.gr.dp, id, r.gr.tb⟩, r.len, r.reg⟩
theorem Gr.back {Bs Bf Bh Hs H Hs' H' : Hp} (g : Gr Bs Bf Bh Hs H) (g' : Gr Hs Bf Bh Hs' H') : Gr Bs Bf Bh Hs' H' :=
  ⟨g'.fr, g.sh.trans g'.sh, g'.lv, fun a h => (g'.nw a h).trans (g.nw a h), g'.dm, g'.fd, g'.dp, fun t => g'.nt (g.nt t), g'.tb⟩
theorem RS.back {B : Base} {Hs H Hs' H' : Hp} {σ' : St} (g : Gr B.s B.f B.h Hs H) {t : NT Hs ∧ TB B.h} (r : RS K ⟨Hs, B.f, B.h, t⟩ Hs' H' σ' ρ') : RS K B Hs' H' σ' ρ' :=
  ⟨g.back r.gr, r.len, r.reg⟩
/-- a statement run from here tells also that what is shared here stays -/
theorem ExS.run {ts : TS} {B : Base} {Hs H : Hp} {σ : St} {Dn : Ends} (h : ExS K ts ρ R) (r : RS K B Hs H σ ρ)
    (nx : ∀ Hs' H' σ' ρ', Ex Hs Hs' → RS K B Hs' H' σ' ρ' → R.nx ρ' → Dn.nx σ' H')
    (rt : ∀ Hs' H' v d, Gr B.s B.f B.h Hs' H' → Rep K Hs' v d → R.rt d → Dn.rt v H')
    (rf : ∀ Hs' H' p vs ds, Gr B.s B.f B.h Hs' H' → B.h p = none → Hs' p = none → H' p = some (.lst vs) → RepL K Hs' vs ds → R.rf ds → Dn.rt (.ref p) H')
    (bk : ∀ Hs' H' σ' ρ', Ex Hs Hs' → RS K B Hs' H' σ' ρ' → R.bk ρ' → Dn.bk σ' H')
    (ct : ∀ Hs' H' σ' ρ', Ex Hs Hs' → RS K B Hs' H' σ' ρ' → R.ct ρ' → Dn.ct σ' H')
    (ro : ∀ Hs' H' σ' ρ' v d, Ex Hs Hs' → RS K B Hs' H' σ' ρ' → Rep K Hs' v d → R.ro ρ' d → Dn.rt v H')
    (ex : ∀ Hs' H' σ' ρ' cls dd fs, Ex Hs Hs' → RS K B Hs' H' σ' ρ' → XRep K Hs' H' dd fs → R.ex ρ' cls fs → R.W cls dd σ' H')
    (rn : ∀ Hs' H' v o S, Gr B.s B.f B.h Hs' H' → Own K Hs' v o S → (∀ a u, S a = some u → H' a = some u ∧ B.h a = none ∧ Hs' a = none) → R.rn o → Dn.rt v H') : ts Dn σ H :=
  h ⟨Hs, B.f, B.h, r.tb.1, B.t.2⟩ Hs H σ Dn r.rebase
    ⟨fun Hs' H' σ' ρ' r' q => nx Hs' H' σ' ρ' r'.gr.sh (RS.back r.gr r') q, fun Hs' H' v d g x q => rt Hs' H' v d (r.gr.back g) x q,
      fun Hs' H' p vs ds g n ns e x q => rf Hs' H' p vs ds (r.gr.back g) n ns e x q,
      fun Hs' H' σ' ρ' r' q => bk Hs' H' σ' ρ' r'.gr.sh (RS.back r.gr r') q, fun Hs' H' σ' ρ' r' q => ct Hs' H' σ' ρ' r'.gr.sh (RS.back r.gr r') q,
      fun Hs' H' σ' ρ' v d r' x q => ro Hs' H' σ' ρ' v d r'.gr.sh (RS.back r.gr r') x q, fun Hs' H' σ' ρ' cls dd fs r' x q => ex Hs' H' σ' ρ' cls dd fs r'.gr.sh (RS.back r.gr r') x q, fun Hs' H' v o S g ow c q => rn Hs' H' v o S (r.gr.back g) ow c q⟩
theorem xs_for {wi : TI} {g : TG} {tb : TS} (h : EvI K wi ρ ds) (I : Nat → Env → Prop) (h0 : I 0 ρ)
    (hs : ∀ k d ρ1, ds[k]? = some d → I k ρ1 → ∃ ρ2, EvG K g d ρ1 ρ2 ∧ ExS K tb ρ2 { R with nx := I (k + 1), ct := I (k + 1), bk := R.nx })
    (hd : ∀ ρ1, I ds.length ρ1 → R.nx ρ1) : ExS K (tFor wi g tb) ρ R := fun B Hs H σ Dn r l =>
  h B Hs H σ r _ fun J Hs1 H1 g1 it => by
    refine ⟨fun i m σ H => m = ds.length - i ∧ i ≤ ds.length ∧ ∃ Hs2 ρ1, RS K B Hs2 H σ ρ1 ∧ Ex Hs1 Hs2 ∧ I i ρ1, ⟨ds.length, rfl, Nat.zero_le _, Hs1, ρ, r.grow g1, Ex.refl _, h0⟩, ?_⟩
    rintro i m σ2 H2 ⟨rfl, hi, Hs2, ρ1, r2, e2, hI⟩
    obtain ⟨go, stop⟩ := it i Hs2 H2 e2 r2.ex
    by_cases hlt : i < ds.length
    · obtain ⟨go1, go2⟩ := go _ (List.getElem?_eq_getElem hlt)
      refine .inr ⟨go1, fun σ' H' => ∃ Hs3 ρ3, RS K B Hs3 H' σ' ρ3 ∧ Ex Hs1 Hs3 ∧ I (i + 1) ρ3, fun σ' H' ⟨Hs3, ρ3, r3, e3, i3⟩ => ⟨ds.length - (i + 1), by omega, rfl, hlt, Hs3, ρ3, r3, e3, i3⟩, fun x H3 y => ?_⟩
      obtain ⟨Hs3, g3, x3⟩ := go2 x H3 y
      obtain ⟨ρ2, hg, hx⟩ := hs i _ ρ1 (List.getElem?_eq_getElem hlt) hI
      refine hg B Hs3 H3 σ2 x (r2.grow g3) x3 _ fun Hs4 H4 σ4 g4 r4 => ?_
      have e4 : Ex Hs1 Hs4 := (e2.trans g3.sh).trans g4.sh
      exact hx.run r4 (fun Hs5 H5 σ5 ρ5 e5 r5 q => ⟨Hs5, ρ5, r5, e4.trans e5, q⟩) l.rt l.rf (fun Hs5 H5 σ5 ρ5 e5 r5 q => l.nx Hs5 H5 σ5 ρ5 r5 q) (fun Hs5 H5 σ5 ρ5 e5 r5 q => ⟨Hs5, ρ5, r5, e4.trans e5, q⟩) (fun Hs5 H5 σ5 ρ5 v d e5 r5 x q => l.ro Hs5 H5 σ5 ρ5 v d r5 x q) (fun Hs5 H5 σ5 ρ5 cls dd fs e5 r5 x q => l.ex Hs5 H5 σ5 ρ5 cls dd fs r5 x q) l.rn
    · have e : i = ds.length := by omega
      subst e
      exact .inl ⟨stop rfl, l.nx Hs2 H2 σ2 ρ1 r2 (hd ρ1 hI)⟩
theorem xs_while {tc : TT} {tb : TS} (I : Nat → Env → Prop) (m0 : Nat) (h0 : I m0 ρ)
    (hs : ∀ m ρ1, I m ρ1 → ∃ b, EvT K tc ρ1 b ∧ (b = true → ExS K tb ρ1 { R with nx := fun ρ2 => ∃ m', m' < m ∧ I m' ρ2, ct := fun ρ2 => ∃ m', m' < m ∧ I m' ρ2, bk := R.nx }) ∧ (b = false → R.nx ρ1)) : ExS K (tWhile tc tb) ρ R := fun B Hs H σ Dn r l => by
  refine ⟨fun m σ H => ∃ Hs2 ρ1, RS K B Hs2 H σ ρ1 ∧ I m ρ1, ⟨m0, Hs, ρ, r, h0⟩, ?_⟩
  rintro m σ2 H2 ⟨Hs2, ρ1, r2, hI⟩
  obtain ⟨b, hb, h1, h2⟩ := hs m ρ1 hI
  refine hb B Hs2 H2 σ2 r2 _ fun Hs3 H3 g3 => ?_
  cases b with
  | true =>
    refine ⟨fun σ' H' => ∃ m', m' < m ∧ ∃ Hs4 ρ4, RS K B Hs4 H' σ' ρ4 ∧ I m' ρ4, fun σ' H' ⟨m', hm, Hs4, ρ4, r4, i4⟩ => ⟨m', hm, Hs4, ρ4, r4, i4⟩, ?_⟩
    exact h1 rfl B Hs3 H3 σ2 _ (r2.grow g3) ⟨fun Hs4 H4 σ4 ρ4 r4 ⟨m', hm, q⟩ => ⟨m', hm, Hs4, ρ4, r4, q⟩, l.rt, l.rf, l.nx, fun Hs4 H4 σ4 ρ4 r4 ⟨m', hm, q⟩ => ⟨m', hm, Hs4, ρ4, r4, q⟩, l.ro, l.ex, l.rn⟩
  | false =>
    show Dn.nx σ2 H3
    exact l.nx Hs3 H3 σ2 ρ1 (r2.grow g3) (h2 rfl)

/-! ### comprehensions -/
def wD (ρ : Env) : List Nat → Env
  | [] => ρ
  | v :: vs => (wD ρ vs).set v none
theorem RS.forget {B : Base} {Hs H : Hp} {σ : St} (r : RS K B Hs H σ ρ) (i : Nat) (o : Option V) : RS K B Hs H (σ.set i o) (ρ.set i none) := by
  obtain ⟨R, h1, h2, h3, h4⟩ := r.reg
  refine ⟨r.gr, by rw [List.length_set, List.length_set, r.len], R, fun j sv e => ?_, h2, h3, fun j ds a e1 e0 e2 => ?_⟩
  rotate_left
  · by_cases q : j = i
    · subst q
      by_cases hl : j < ρ.length
      · rw [List.getElem?_set_self hl] at e1
        cases e1
      · rw [List.getElem?_eq_none (by rw [List.length_set]; omega)] at e1
        cases e1
    · rw [List.getElem?_set_ne (Ne.symm q)] at e1
      exact h4 j ds a e1 e0 e2
  by_cases q : j = i
  · subst q
    by_cases hl : j < ρ.length
    · rw [List.getElem?_set_self hl] at e
      cases e
    · rw [List.getElem?_eq_none (by rw [List.length_set]; omega)] at e
      cases e
  · rw [List.getElem?_set_ne (Ne.symm q)] at e ⊢
    exact h1 j sv e
theorem RS.wipe {B : Base} {Hs H : Hp} {σ : St} (r : RS K B Hs H σ ρ) : ∀ vs : List Nat, RS K B Hs H (wipe σ vs) (wD ρ vs)
  | [] => r
  | v :: vs => (RS.wipe r vs).forget v none
/-- a comprehension's target: the slots js, all of the block's own -/
def EvGc (K : PySem.W.Frag) (g : TG) (d : D) (ρ ρ' : Env) (vs : List Nat) : Prop := ∀ B Hs H σ x, RS K B Hs H σ ρ → Rep K Hs x d → ∀ Q : St → Hp → Prop, (∀ Hs' H' σ', Gr Hs H H Hs' H' → RS K B Hs' H' σ' ρ' → wipe σ' vs = wipe σ vs → Q σ' H') → g x σ H Q
def EvGsc (K : PySem.W.Frag) (g : TGs) (ds : List D) (ρ ρ' : Env) (vs : List Nat) : Prop := ∀ B Hs H σ xs, RS K B Hs H σ ρ → RepL K Hs xs ds → ∀ Q : St → Hp → Prop, (∀ Hs' H' σ', Gr Hs H H Hs' H' → RS K B Hs' H' σ' ρ' → wipe σ' vs = wipe σ vs → Q σ' H') → g xs σ H Q
theorem set_wipe : ∀ (vs : List Nat) (σ : St) (i : Nat) (x : Option V), i ∈ vs → wipe (σ.set i x) vs = wipe σ vs
  | [], _, _, _, h => by simp at h
  | v :: vs, σ, i, x, h => by
    show (wipe (σ.set i x) vs).set v none = (wipe σ vs).set v none
    by_cases hi : i ∈ vs
    · rw [set_wipe vs σ i x hi]
    · have e : i = v := by
        rcases List.mem_cons.mp h with q | q
        · exact q
        · exact absurd q hi
      subst e
      have key : ∀ (ws : List Nat), i ∉ ws → wipe (σ.set i x) ws = (wipe σ ws).set i x := by
        intro ws
        induction ws with
        | nil => intro _; rfl
        | cons w ws ih =>
          intro hw
          have h1 : w ≠ i := fun q => hw (by rw [q]; exact List.mem_cons_self)
          show (wipe (σ.set i x) ws).set w none = ((wipe σ ws).set w none).set i x
          rw [ih fun q => hw (List.mem_cons_of_mem _ q), List.set_comm _ _ h1]
      rw [key vs hi, List.set_set]
theorem egc_name {i : Nat} {vs : List Nat} (h : i ∈ vs) : EvGc K (gName i) d ρ (ρ.set i (some (.sh d))) vs := fun B Hs H σ x r hx Q q => q Hs H _ (Gr.refl r.ex) (r.set i hx) (set_wipe vs σ i _ h)
theorem egsc_nil {vs : List Nat} : EvGsc K gNil [] ρ ρ vs := fun B Hs H σ xs r h Q q => by
  cases h
  exact ⟨rfl, q Hs H σ (Gr.refl r.ex) r rfl⟩
theorem egsc_cons {g : TG} {gs : TGs} {ρ2 : Env} {vs : List Nat} (h1 : EvGc K g d ρ ρ' vs) (h2 : EvGsc K gs ds ρ' ρ2 vs) : EvGsc K (gCons g gs) (d :: ds) ρ ρ2 vs := fun B Hs H σ xs r h Q q => by
  cases h with
  | @cons v ws _ _ a b =>
    refine ⟨v, ws, rfl, h1 B Hs H σ v r a _ fun Hs1 H1 σ1 g1 r1 w1 => ?_⟩
    exact h2 B Hs1 H1 σ1 ws r1 (b.mono g1.sh) _ fun Hs2 H2 σ2 g2 r2 w2 => q Hs2 H2 σ2 (g1.trans g2) r2 (w2.trans w1)
theorem egc_tup {gs : TGs} {n : Nat} {vs : List Nat} (h : EvGsc K gs ds ρ ρ' vs) (hn : ds.length = n) : EvGc K (gTup K n gs) (.tup ds) ρ ρ' vs := fun B Hs H σ x r hx Q q => by
  cases hx with
  | @tup p ws _ hp' xs =>
    have hp := SqT_of (K := K) hp'
    exact ⟨p, ws, rfl, r.ex.st hp, by rw [xs.length]; exact hn, h B Hs H σ ws r xs Q q⟩
theorem Gr.mut {Hs H Hs' H' : Hp} {p : Addr} {o : HO} (g : Gr Hs H H Hs' H') (n : H p = none) (ns : Hs' p = none) (hp : Pn H' p) : Gr Hs H H Hs' (upd H' p o) := by
  refine ⟨fun a u e z => ?_, g.sh, fun a u e => ?_, g.nw, fun a x => upd_dm (g.dm a x), fun a x => upd_dm (g.dm a x), fun a x => ?_, g.nt, fun t => (g.tb t).ch (upd_ch (.inr hp))⟩
  · rw [upd_ne (ne_of_none e n)]
    exact g.fr a u e z
  · rw [upd_ne (ne_of_none e ns)]
    exact g.lv a u e
  · obtain ⟨u, e, z⟩ := g.dp a x
    exact ⟨u, by rw [upd_ne (fun q => x.ne (by rw [q]; exact n))]; exact e, z⟩
theorem take_more {α : Type} : ∀ {l : List α} {i : Nat} {x : α}, l[i]? = some x → l.take (i + 1) = l.take i ++ [x]
  | [], i, x, h => by simp at h
  | a :: l, 0, x, h => by
    have e := Option.some.inj h
    subst e
    rfl
  | a :: l, i + 1, x, h => by
    have ih := take_more (l := l) (i := i) (x := x) h
    show a :: l.take (i + 1) = a :: l.take i ++ [x]
    rw [ih]
    rfl
theorem wipe_wipe (σ : St) : ∀ vs : List Nat, wipe (wipe σ vs) vs = wipe σ vs := by
  have key : ∀ (vs ws : List Nat) (σ : St), (∀ v ∈ vs, v ∈ ws) → wipe (wipe σ vs) ws = wipe σ ws := by
    intro vs
    induction vs with
    | nil => intro ws σ _; rfl
    | cons v vs ih =>
      intro ws σ h
      show wipe ((wipe σ vs).set v none) ws = wipe σ ws
      rw [set_wipe ws _ v none (h v List.mem_cons_self)]
      exact ih ws σ fun u hu => h u (List.mem_cons_of_mem _ hu)
  exact fun vs => key vs vs σ fun _ h => h
theorem ef_lc {α : Type} (xs : List α) (enc : α → D) (f : α → Bool) (w : α → D) {wi : TI} {g : TG} {vs : List Nat} (hx : xs.map enc = ds) (h : EvI K wi ρ ds) (hz : xs.length ≤ 50000)
    (hs : ∀ (k : Nat) (x : α), xs[k]? = some x → ∃ ρ2, EvGc K g (enc x) (wD ρ vs) ρ2 vs ∧ EvT K tt ρ2 (f x) ∧ (f x = true → EvD K te ρ2 (w x))) :
    EvF K (tLc wi g tt te vs) ρ ((xs.filter f).map w) := fun B Hs H σ r Q q => h B Hs H σ r _ fun J Hs1 H1 g1 it p hp => by
  obtain ⟨n1, n2⟩ := gr_none g1 hp
  have r1 := r.grow g1
  have len : ds.length = xs.length := by rw [← hx, List.length_map]
  have zl : ∀ i, ((xs.take i).filter f).length < 100000 := fun i => by
    have h1 := List.length_filter_le f (xs.take i)
    have h2 : (xs.take i).length ≤ xs.length := by rw [List.length_take]; exact Nat.min_le_right _ _
    omega
  refine ⟨fun i m H => m = xs.length - i ∧ i ≤ xs.length ∧ ∃ Hs2 ws, Gr Hs1 H1 H1 Hs2 H ∧ Hs2 p = none ∧ H p = some (.lst ws) ∧ RepL K Hs2 ws (((xs.take i).filter f).map w),
    ⟨xs.length, rfl, Nat.zero_le _, Hs1, [], Gr.newO g1.lv hp, n2, upd_same, .nil⟩, ?_⟩
  rintro i m H2 ⟨rfl, hi, Hs2, ws, g2, e2, e3, x2⟩
  have r2 := r1.grow g2
  obtain ⟨go, stop⟩ := it i Hs2 H2 g2.sh g2.lv
  by_cases hlt : i < xs.length
  · have gx : xs[i]? = some xs[i] := List.getElem?_eq_getElem hlt
    have gd : ds[i]? = some (enc xs[i]) := by rw [← hx, List.getElem?_map, gx]; rfl
    obtain ⟨go1, go2⟩ := go _ gd
    refine .inr ⟨go1, fun H' => ∃ Hs3 ws, Gr Hs1 H1 H1 Hs3 H' ∧ Hs3 p = none ∧ H' p = some (.lst ws) ∧ RepL K Hs3 ws (((xs.take (i + 1)).filter f).map w), fun H' q' => ⟨xs.length - (i + 1), by omega, rfl, hlt, q'⟩, fun x H3 y => ?_⟩
    obtain ⟨Hs3, g3, x3⟩ := go2 x H3 y
    obtain ⟨ρ2, hg, ht, he⟩ := hs i _ gx
    refine hg B Hs3 H3 _ x ((r2.grow g3).wipe vs) x3 _ fun Hs4 H4 σ4 g4 r4 w4 => ?_
    refine ⟨by rw [w4]; exact wipe_wipe σ vs, ht B Hs4 H4 σ4 r4 _ fun Hs5 H5 g5 => ?_⟩
    have g25 : Gr Hs2 H2 H2 Hs5 H5 := (g3.trans g4).trans g5
    have p5 : H5 p = some (.lst ws) := g25.fr.pl e3
    have n5 : Hs5 p = none := by rw [g25.nw p (.of e3)]; exact e2
    cases hf : f xs[i] with
    | true =>
      show te σ4 H5 fun y H6 => ∃ acc, H6 p = some (.lst acc) ∧ acc.length < sizeLine ∧ ∃ Hs3 ws, Gr Hs1 H1 H1 Hs3 (upd H6 p (.lst (acc ++ [y]))) ∧ Hs3 p = none ∧ (upd H6 p (.lst (acc ++ [y]))) p = some (.lst ws) ∧ RepL K Hs3 ws (((xs.take (i + 1)).filter f).map w)
      refine he hf B Hs5 H5 σ4 (r4.grow g5) _ fun Hs6 H6 y g6 x6 => ?_
      have n6 : Hs6 p = none := by rw [g6.nw p (.of p5)]; exact n5
      refine ⟨ws, g6.fr.pl p5, by rw [x2.length, List.length_map]; exact sz_lt (zl i), Hs6, ws ++ [y], ((g2.trans g25).trans g6).mut hp n6 (.of (g6.fr.pl p5)), n6, upd_same, ?_⟩
      rw [take_more gx, List.filter_append, List.map_append]
      have e1 : List.filter f [xs[i]] = [xs[i]] := by simp [hf]
      rw [e1]
      exact (x2.mono (g25.sh.trans g6.sh)).append (.cons x6 .nil)
    | false =>
      refine ⟨Hs5, ws, g2.trans g25, n5, p5, ?_⟩
      rw [take_more gx, List.filter_append, List.map_append]
      have e1 : List.filter f [xs[i]] = [] := by simp [hf]
      rw [e1, List.map_nil, List.append_nil]
      exact x2.mono g25.sh
  · have e : i = xs.length := by omega
    subst e
    refine .inl ⟨stop len.symm, ?_⟩
    rw [List.take_length] at x2
    have g12 := g1.trans g2
    exact q Hs2 H2 p ws g12 n1 e2 e3 x2
/-- .. without tests -/
theorem ef_lc0 {α : Type} (xs : List α) (enc : α → D) (w : α → D) {wi : TI} {g : TG} {vs : List Nat} (hx : xs.map enc = ds) (h : EvI K wi ρ ds) (hz : xs.length ≤ 50000)
    (hs : ∀ (k : Nat) (x : α), xs[k]? = some x → ∃ ρ2, EvGc K g (enc x) (wD ρ vs) ρ2 vs ∧ EvD K te ρ2 (w x)) : EvF K (tLc wi g tYes te vs) ρ (xs.map w) := by
  have h2 := ef_lc (te := te) (tt := tYes) xs enc (fun _ => true) w hx h hz fun k x hk => by
    obtain ⟨ρ2, h1, h2⟩ := hs k x hk
    exact ⟨ρ2, h1, et_yes, fun _ => h2⟩
  have e : xs.filter (fun _ => true) = xs := List.filter_eq_self.mpr fun _ _ => rfl
  rw [e] at h2
  exact h2
theorem EvI.is {wi : TI} (h : EvI K wi ρ ds) (q : ds = es) : EvI K wi ρ es := q ▸ h
end
end DL

/-! DCall: what a def promises on deep data; calls; frozen lists. -/
namespace DL
open PySem L2
open PyProof.Rows (envOfC)
variable [TbC]

/-- called with arg x, where pre x: gives something of post x, all that stood stands -/
def spR (K : PySem.W.Frag) {α : Type} (pre : α → Prop) (arg : α → List D) (post : α → D → Prop) : Sp := fun vs H Q _ => ∃ (Hs : Hp) (x : α), (Ex Hs H ∧ NT Hs ∧ TB H) ∧ RepL K Hs vs (arg x) ∧ pre x ∧
  ∀ Hs' H' v d, Gr Hs H H Hs' H' → Rep K Hs' v d → post x d → Q v H'
abbrev spG (K : PySem.W.Frag) {α : Type} (pre : α → Prop) (arg : α → List D) (res : α → D) : Sp := spR K pre arg fun x d => d = res x
/-- .. gives a new list -/
def spF (K : PySem.W.Frag) {α : Type} (pre : α → Prop) (arg : α → List D) (res : α → List D) : Sp := fun vs H Q _ => ∃ (Hs : Hp) (x : α), (Ex Hs H ∧ NT Hs ∧ TB H) ∧ RepL K Hs vs (arg x) ∧ pre x ∧
  ∀ Hs' H' p ws, Gr Hs H H Hs' H' → H p = none → Hs' p = none → H' p = some (.lst ws) → RepL K Hs' ws (res x) → Q (.ref p) H'
/-- what is shared at the law's entry: all but tables -/
def noT (H : Hp) : Hp := fun a => match H a with
  | some (.tbl _) => none
  | o => o
theorem noT_ex (H : Hp) : Ex (noT H) H := fun a o e => by
  unfold noT at e
  split at e
  · cases e
  · exact e
theorem noT_nt (H : Hp) : NT (noT H) := fun a ps e => by
  unfold noT at e
  split at e
  · cases e
  · rename_i h
    exact h ps e
theorem noT_n (H : Hp) : ExN H (noT H) := fun a o e n => by
  unfold noT
  split
  · rename_i ps h
    rw [e] at h
    exact absurd (Option.some.inj h) (n ps)
  · exact e
/-- a frame at its entry -/
def entry (N : List Str) (ds : List D) : Env := ds.map (fun d => some (.sh d)) ++ List.replicate (N.length - ds.length) none

section
variable {K : PySem.W.Frag} {ρ ρ' : Env} {te ta tb : TE} {d e : D} {ds es : List D} {tt : TT} {R : DEnds}
theorem rs_entry {N : List Str} {vs : List V} {Hs H : Hp} (e : Ex Hs H ∧ NT Hs ∧ TB H) (x : RepL K Hs vs ds) (hN : ds.length ≤ N.length) : RS K ⟨Hs, H, H, e.2⟩ Hs H (L2.start N vs) (entry N ds) := by
  have hl := x.length
  refine ⟨Gr.refl e.1, ?_, fun _ _ => none, fun i sv h => ?_, fun i a o h => (nomatch h), fun i j a h => absurd rfl h, fun i ds a _ _ h => absurd rfl h⟩
  · unfold L2.start entry
    rw [List.length_append, List.length_append, List.length_map, List.length_map, List.length_replicate, List.length_replicate, hl]
  · unfold entry at h
    by_cases hi : i < ds.length
    · rw [List.getElem?_append_left (by simpa using hi), List.getElem?_map, List.getElem?_eq_getElem hi] at h
      cases h
      obtain ⟨v, hv, xv⟩ := x.at (List.getElem?_eq_getElem hi)
      refine ⟨v, ?_, xv, fun _ => rfl⟩
      unfold L2.start
      rw [List.getElem?_append_left (by rw [List.length_map, hl]; exact hi), List.getElem?_map, hv]
      rfl
    · rw [List.getElem?_append_right (by rw [List.length_map]; omega), List.getElem?_replicate] at h
      split at h <;> cases h
variable {P : Program} {w : World} {mg : Str → Option Value} {base : Heap} {x qual : Str} {st : Stmt} {f : Addr} {fd : FuncData} {N ps : List Str} {k : Nat} {α : Type} {pre : α → Prop} {arg : α → List D}
theorem fn_r {post : α → D → Prop} (F : Fun K x qual st f fd) (S : FnScope N ps (defScope st)) (hl : ∀ x, (arg x).length = ps.length) {t : TS}
    (hb : ∀ (cdv : Value) (A : Around) (outer : List PySem.Env) (s : Shared) (H : Hp) (E : XK), Room k (A.deeper (envOfC qual (defScope st) s.heap.objs.size f cdv)) → PSs (cxOf CX0 P w K mg base N qual (defScope st) f cdv A outer s H E).nox (defBody st) t)
    (hd : ∀ x, pre x → ExS K t (entry N (arg x)) { nx := fun _ => post x .non, rt := post x }) : FnOk P w K mg base CX0 (k + 1) f fd ps (spR K pre arg post) := by
  have hN : ps.length ≤ N.length := by have := congrArg List.length S.pre; rw [List.length_take] at this; omega
  refine F.ok S (fun vs H Q E h => ?_) (fun cdv A outer s H vs Q E hr h => ?_)
  · obtain ⟨Hs, x, _, r, _⟩ := h
    rw [r.length, hl]
  · obtain ⟨Hs, x, e, r, hp, q⟩ := h
    refine ⟨t, hb cdv A outer s H E hr, ?_⟩
    exact hd x hp ⟨Hs, H, H, e.2⟩ Hs H (L2.start N vs) _ (rs_entry e r (by rw [hl]; exact hN))
      ⟨fun Hs' H' σ ρ r' z => q Hs' H' .non .non r'.gr .non z, fun Hs' H' v d g x z => q Hs' H' v d g x z, fun _ _ _ _ _ _ _ _ _ _ z => z.elim, fun _ _ _ _ _ z => z.elim, fun _ _ _ _ _ z => z.elim, fun _ _ _ _ _ _ _ _ z => z.elim, fun _ _ _ _ _ _ _ _ _ z => z.elim, fun _ _ _ _ _ _ _ _ z => z.elim⟩
theorem fn_f {res : α → List D} (F : Fun K x qual st f fd) (S : FnScope N ps (defScope st)) (hl : ∀ x, (arg x).length = ps.length) {t : TS}
    (hb : ∀ (cdv : Value) (A : Around) (outer : List PySem.Env) (s : Shared) (H : Hp) (E : XK), Room k (A.deeper (envOfC qual (defScope st) s.heap.objs.size f cdv)) → PSs (cxOf CX0 P w K mg base N qual (defScope st) f cdv A outer s H E).nox (defBody st) t)
    (hd : ∀ x, pre x → ExS K t (entry N (arg x)) { nx := fun _ => False, rt := fun _ => False, rf := fun ds => ds = res x }) : FnOk P w K mg base CX0 (k + 1) f fd ps (spF K pre arg res) := by
  have hN : ps.length ≤ N.length := by have := congrArg List.length S.pre; rw [List.length_take] at this; omega
  refine F.ok S (fun vs H Q E h => ?_) (fun cdv A outer s H vs Q E hr h => ?_)
  · obtain ⟨Hs, x, _, r, _⟩ := h
    rw [r.length, hl]
  · obtain ⟨Hs, x, e, r, hp, q⟩ := h
    refine ⟨t, hb cdv A outer s H E hr, ?_⟩
    exact hd x hp ⟨Hs, H, H, e.2⟩ Hs H (L2.start N vs) _ (rs_entry e r (by rw [hl]; exact hN))
      ⟨fun Hs' H' σ ρ r' z => z.elim, fun Hs' H' v d g x z => z.elim, fun Hs' H' p ws ds g n ns e x z => q Hs' H' p ws g n ns e (z ▸ x), fun _ _ _ _ _ z => z.elim, fun _ _ _ _ _ z => z.elim, fun _ _ _ _ _ _ _ _ z => z.elim, fun _ _ _ _ _ _ _ _ _ z => z.elim, fun _ _ _ _ _ _ _ _ z => z.elim⟩

/-! ### calls -/
theorem ev_call {res : α → D} {E : XK} {ta : TA} (x : α) (h : EvA K ta ρ (arg x)) (p : pre x) : EvD K (tCall (spG K pre arg res) [] E ta) ρ (res x) := fun B Hs H σ r Q q =>
  h B Hs H σ r _ fun Hs1 H1 vs g1 xs => by
    rw [List.append_nil]
    exact ⟨Hs1, x, ⟨g1.lv, (r.grow g1).tb⟩, xs, p, fun Hs' H' v d g y e => q Hs' H' v (g1.trans g) (e ▸ y)⟩
theorem ef_call {res : α → List D} {E : XK} {ta : TA} (x : α) (h : EvA K ta ρ (arg x)) (p : pre x) : EvF K (tCall (spF K pre arg res) [] E ta) ρ (res x) := fun B Hs H σ r Q q =>
  h B Hs H σ r _ fun Hs1 H1 vs g1 xs => by
    rw [List.append_nil]
    refine ⟨Hs1, x, ⟨g1.lv, (r.grow g1).tb⟩, xs, p, fun Hs' H' l ws g n ns e y => q Hs' H' l ws (g1.trans g) ?_ ns e y⟩
    exact (g1.new0 n).1

/-! ### own lists, frozen for a while, or for good -/
theorem RS.temp {B : Base} {Hs H : Hp} {σ : St} (r : RS K B Hs H σ ρ) : RS K ⟨Hs, fun _ => none, npl H, r.tb.1, r.tb.2.npl⟩ Hs H σ ρ := by
  obtain ⟨R, h1, h2, h3, h4⟩ := r.reg
  exact ⟨⟨fun _ _ z => (nomatch z), Ex.refl Hs, r.ex, fun _ z => absurd z (npl_pn _), fun _ z => npl_le z, fun _ z => absurd rfl z, fun _ z => absurd z (npl_pn _), id, fun _ => r.tb.2⟩, r.len, R, h1, fun i a o e => ⟨(h2 i a o e).1, (h2 i a o e).2.1, rfl, (h2 i a o e).2.2.2⟩, h3, fun i _ a _ _ z => by
    cases q : R i a with
    | none => exact absurd q z
    | some o => exact npl_no (h2 i a o q).1 (h2 i a o q).2.2.2⟩
theorem gr_thaw {Hs Hs2 H Hs' H' : Hp} (e : Ex Hs Hs2) (g : Gr Hs2 H H Hs' H') : Gr Hs H H Hs H' := ⟨g.fr, Ex.refl Hs, (e.trans g.sh).trans g.lv, fun _ _ => rfl, g.dm, g.fd, g.dp, id, g.tb⟩
/-- an own list at slot i is read as shared, what comes is a scalar -/
theorem EvD.thaw (i : Nat) (hi : ρ[i]? = some (some (.ol ds))) (h : EvD K te (ρ.set i (some (.sh (.lst ds)))) d) (hd : d.scal = true) : EvD K te ρ d := fun B Hs H σ r Q q => by
  obtain ⟨Hs2, e1, e2, r2⟩ := r.temp.fz i hi
  exact h _ Hs2 H σ r2 Q fun Hs' H' v g x => q Hs H' v (gr_thaw e1 g) (x.scal hd)
theorem EvF.thaw (i : Nat) (hi : ρ[i]? = some (some (.ol ds))) (h : EvF K te (ρ.set i (some (.sh (.lst ds)))) es) (hd : es.all D.scal = true) : EvF K te ρ es := fun B Hs H σ r Q q => by
  obtain ⟨Hs2, e1, e2, r2⟩ := r.temp.fz i hi
  refine h _ Hs2 H σ r2 Q fun Hs' H' p vs g n ns e x => q Hs H' p vs (gr_thaw e1 g) n ?_ e (x.scal hd)
  cases z : Hs p with
  | none => rfl
  | some o =>
    rw [r.ex p o z] at n
    cases n
theorem EvT.thaw (i : Nat) {b : Bool} (hi : ρ[i]? = some (some (.ol ds))) (h : EvT K tt (ρ.set i (some (.sh (.lst ds)))) b) : EvT K tt ρ b := fun B Hs H σ r Q q => by
  obtain ⟨Hs2, e1, e2, r2⟩ := r.temp.fz i hi
  exact h _ Hs2 H σ r2 Q fun Hs' H' g => q Hs H' (gr_thaw e1 g)
/-- for good -/
theorem xs_fz {ts : TS} (i : Nat) (hi : ρ[i]? = some (some (.ol ds))) (h : ExS K ts (ρ.set i (some (.sh (.lst ds)))) R) : ExS K ts ρ R := fun B Hs H σ Dn r l => by
  obtain ⟨Hs2, e1, e2, r2⟩ := r.fz i hi
  exact h B Hs2 H σ Dn r2 l
end
end DL

/-! DOps: one rule an operator, whatever the kinds; which kind it is, is told on deep data. -/
namespace DL
open PySem L2
variable [TbC]

section
variable {X : Cx}
/-! ### the rules -/
def rAddS0 : R2 := fun x y H Q => ∃ i j, x = .str i ∧ y = .str j ∧ i.length + j.length ≤ sizeLine ∧ Q (.str (i ++ j)) H
abbrev rAddI : R2 := rI0 fun i j => .int (i + j)
def rAddA (K : PySem.W.Frag) : R2 := fun x y H Q => rAddI x y H Q ∨ rCat x y H Q ∨ rCatA K x y H Q ∨ rAddS0 x y H Q
theorem op_addA : OpR X (binaryOp .Add) (rAddA X.K) := op_add.or (op_cat.or (op_catA.or op_add_str))
def CMulX (i j : Int) : Prop := CMulW i j ∨ CMul i j
abbrev rMulI : R2 := rI CMulX fun i j => .int (i * j)
theorem op_mulX : OpR X (binaryOp .Mult) rMulI := by
  intro pins s σ H x y v u Q I rx ry h
  obtain ⟨i, j, rfl, rfl, hc, q⟩ := h
  rcases hc with hc | hc
  · exact op_mulW pins s σ H _ _ v u Q I rx ry ⟨i, j, rfl, rfl, hc, q⟩
  · exact op_mul pins s σ H _ _ v u Q I rx ry ⟨i, j, rfl, rfl, hc, q⟩
def rMulA : R2 := fun x y H Q => rMulI x y H Q ∨ rRep x y H Q
theorem op_mulA : OpR X (binaryOp .Mult) rMulA := op_mulX.or op_rep
abbrev rDivW : R2 := rI CDivW fun i j => .int (i / j)
abbrev rModI : R2 := rI (fun _ j => 0 < j) fun i j => .int (i % j)
abbrev rSubI : R2 := rI0 fun i j => .int (i - j)
abbrev rPowI : R2 := rI CPow fun i j => .int (i ^ j.toNat)
abbrev rShrI : R2 := rI (fun _ j => 0 ≤ j) fun i j => .int (i / 2 ^ j.toNat)
abbrev rAndI : R2 := rI0 fun i j => .int (Builtin.bitAnd i j)
def rSlA' (K : PySem.W.Frag) : V → Option Int → Option Int → Hp → VK → Prop := fun x lo hi H Q => rSlL K x lo hi H Q ∨ rSlA K x lo hi H Q
theorem sl_A : SlR X (rSlA' X.K) := sl_list.or sl_tupA
abbrev rLenA (K : PySem.W.Frag) : List V → Hp → VK → Prop := fun xs H Q => rLen K xs H Q ∨ rLenS xs H Q
theorem call_lenA : CallR X (.builtin "len") (rLenA X.K) := call_len_seq.or call_len_str
end

/-- 2 ^ n bounds, for products and divisors of great numbers -/
def Big (n : Nat) (i : Int) : Prop := i.natAbs < 2 ^ n
theorem mulW_l {i j : Int} (h1 : -18446744073709551616 < i) (h2 : i < 18446744073709551616) : CMulX i j := .inr (.inl ⟨by omega, by omega⟩)
theorem mulW_r {i j : Int} (h1 : -18446744073709551616 < j) (h2 : j < 18446744073709551616) : CMulX i j := .inr (.inr ⟨by omega, by omega⟩)
theorem mulW_s {i j : Int} (h1 : -18446744073709551616 < i) (h2 : i < 18446744073709551616) (h3 : -18446744073709551616 < j) (h4 : j < 18446744073709551616) : CMulX i j := mulW_l h1 h2
theorem divW_c {i j : Int} (h0 : 0 < j) (h1 : j < 18446744073709551616) : CDivW i j := by
  refine ⟨h0, ?_⟩
  by_cases z : j.natAbs = 0
  · rw [z]
    decide
  · have := (Nat.log2_lt z (k := 65)).mpr (by omega)
    omega

section
variable {K : PySem.W.Frag} {ρ ρ' : Env} {te ta tb : TE} {d e : D} {ds es : List D} {tt : TT} {R : DEnds}
theorem ev_addI {i j : Int} (ha : EvD K ta ρ (.int i)) (hb : EvD K tb ρ (.int j)) : EvD K (tOp (rAddA K) ta tb) ρ (.int (i + j)) := fun B Hs H σ r Q q =>
  ha B Hs H σ r _ fun Hs1 H1 x g1 x1 => hb B Hs1 H1 σ (r.grow g1) _ fun Hs2 H2 y g2 y2 => by
    cases x1
    cases y2
    exact .inl ⟨i, j, rfl, rfl, q Hs2 H2 _ (g1.trans g2) (.int _)⟩
theorem ef_addL (ha : EvM K ta ρ ds) (hb : EvM K tb ρ es) (hl : ds.length + es.length ≤ 100000) : EvF K (tOp (rAddA K) ta tb) ρ (ds ++ es) := fun B Hs H σ r Q q =>
  ha B Hs H σ r _ fun Hs1 H1 p vs g1 hp xs => hb B Hs1 H1 σ (r.grow g1) _ fun Hs2 H2 p2 ws g2 hp2 ys => by
    have g := g1.trans g2
    refine .inr (.inl ⟨p, p2, vs, ws, rfl, rfl, g2.fr.pl hp, hp2, by rw [xs.length, ys.length]; exact sz_of hl, fun l hn => ?_⟩)
    obtain ⟨n1, n2⟩ := gr_none g hn
    exact q Hs2 _ l _ (g.trans (Gr.newO g2.lv hn)) n1 n2 upd_same ((xs.mono g2.sh).append ys)
theorem ev_mulI {i j : Int} (ha : EvD K ta ρ (.int i)) (hb : EvD K tb ρ (.int j)) (hc : CMulX i j) : EvD K (tOp rMulA ta tb) ρ (.int (i * j)) := fun B Hs H σ r Q q =>
  ha B Hs H σ r _ fun Hs1 H1 x g1 x1 => hb B Hs1 H1 σ (r.grow g1) _ fun Hs2 H2 y g2 y2 => by
    cases x1
    cases y2
    exact .inl ⟨i, j, rfl, rfl, hc, q Hs2 H2 _ (g1.trans g2) (.int _)⟩
theorem ef_mulL {k : Int} (ha : EvM K ta ρ ds) (hb : EvD K tb ρ (.int k)) (hk : k ≤ 100000) (hk' : -100000 ≤ k) (hl : ds.length * k.toNat ≤ 100000) : EvF K (tOp rMulA ta tb) ρ (List.replicate k.toNat ds).flatten := fun B Hs H σ r Q q =>
  ha B Hs H σ r _ fun Hs1 H1 p vs g1 hp xs => hb B Hs1 H1 σ (r.grow g1) _ fun Hs2 H2 y g2 y2 => by
    cases y2
    have g := g1.trans g2
    refine .inr ⟨p, k, vs, rfl, rfl, g2.fr.pl hp, by omega, by omega, by rw [xs.length]; exact sz_of hl, fun l hn => ?_⟩
    obtain ⟨n1, n2⟩ := gr_none g hn
    exact q Hs2 _ l _ (g.trans (Gr.newO g2.lv hn)) n1 n2 upd_same ((xs.mono g2.sh).rep _)
theorem ef_slL {tl th : TO} {lo hi : Option Int} (ha : EvB K ta ρ ds) (hl : EvO K tl ρ lo) (hh : EvO K th ρ hi) : EvF K (tSl (rSlA' K) ta tl th) ρ (cutD ds lo hi) := fun B Hs H σ r Q q =>
  ha B Hs H σ r _ fun Hs1 H1 p vs g1 hp xs => hl B Hs1 H1 σ (r.grow g1) _ fun Hs2 H2 g2 => hh B Hs2 H2 σ ((r.grow g1).grow g2) _ fun Hs3 H3 g3 => by
    refine .inl ⟨p, vs, rfl, g3.fr.sl (g2.fr.sl hp), fun l hn => ?_⟩
    have g := (g1.trans g2).trans g3
    obtain ⟨n1, n2⟩ := gr_none g hn
    exact q Hs3 _ l _ (g.trans (Gr.newO g3.lv hn)) n1 n2 upd_same ((xs.mono (g2.sh.trans g3.sh)).cut lo hi)
theorem ev_lenLA (ha : EvB K ta ρ ds) : EvD K (tCB (rLenA K) (tCons ta tNil)) ρ (.int (ds.length : Int)) := fun B Hs H σ r Q q =>
  ha B Hs H σ r _ fun Hs1 H1 p vs g1 hp xs => .inl ⟨p, vs, rfl, .inl hp, by
    rw [xs.length]
    exact q Hs1 H1 _ g1 (.int _)⟩
theorem ev_lenTA (ha : EvD K ta ρ (.tup ds)) : EvD K (tCB (rLenA K) (tCons ta tNil)) ρ (.int (ds.length : Int)) := fun B Hs H σ r Q q =>
  ha B Hs H σ r _ fun Hs1 H1 v g1 x => by
    cases x with
    | @tup p vs _ hp' xs =>
      have hp := SqT_of (K := K) hp'
      refine .inl ⟨p, vs, rfl, .inr (g1.lv.st hp), ?_⟩
      rw [xs.length]
      exact q Hs1 H1 _ g1 (.int _)
theorem ev_lenSA {z : Str} (ha : EvD K ta ρ (.str z)) (hz : z.length ≤ sizeLine) : EvD K (tCB (rLenA K) (tCons ta tNil)) ρ (.int (z.length : Int)) := fun B Hs H σ r Q q =>
  ha B Hs H σ r _ fun Hs1 H1 v g1 x => by
    cases x
    exact .inr ⟨z, rfl, hz, q Hs1 H1 _ g1 (.int _)⟩
/-! ### isinstance of a built-in class -/
def D.tyn : D → String
  | .non => "NoneType" | .bl _ => "bool" | .int _ => "int" | .str _ => "str" | .lst _ => "list" | .scr _ => "list" | .tup _ => "tuple" | _ => ""
end
end DL
namespace DL
open PySem L2
variable [TbC]
section
variable {K : PySem.W.Frag} {ρ ρ' : Env} {te ta tb : TE} {d e : D} {ds es : List D} {tt : TT} {R : DEnds}
theorem Rep.tyx {H : Hp} {v : V} {d : D} (h : Rep K H v d) (hd : d.tyn ≠ "") : TyX K H v (.type d.tyn) := by
  cases h with
  | non => exact .base .non
  | bl b => exact .base (.bl b)
  | int i => exact .base (.int i)
  | str x => exact .base (.str x)
  | ty n => exact absurd rfl hd
  | fn a => exact absurd rfl hd
  | lst hs r => exact .base (.lst hs)
  | scr hs r =>
    rcases hs with (hs | ⟨o, hs⟩) | ⟨o, its, n, e, c, _⟩
    · exact .base (.lst hs)
    · exact .base (.frz hs)
    · exact .kList e c
  | tup hs r => exact .base (.tup hs)
  | clo _ _ _ => exact absurd rfl hd
  | obj _ _ => exact absurd rfl hd
theorem ev_isi {n : String} {b : Bool} (ha : EvR K ta ρ d) {t : String} (ht : d.tyn = t) (hk : kitB t n = some b) (hd : t ≠ "") : EvD K (tCB (rIsi K) (tCons ta (tCons (tC (.ty n)) tNil))) ρ (.bl b) := fun B Hs H σ r Q q =>
  ha B Hs H σ r _ fun Hs1 H1 v g x => ⟨v, .ty n, .type d.tyn, .type n, b, rfl, .ty n, x.tyx (by rw [ht]; exact hd), by rw [ht]; exact kit_ty hk, q Hs1 H1 _ g (.bl b)⟩
theorem isi_int_int {i : Int} (ha : EvR K ta ρ (.int i)) : EvD K (tCB (rIsi K) (tCons ta (tCons (tC (.ty "int")) tNil))) ρ (.bl true) := ev_isi ha (t := "int") rfl (by decide +kernel) (by decide +kernel)
theorem isi_int_bool {i : Int} (ha : EvR K ta ρ (.int i)) : EvD K (tCB (rIsi K) (tCons ta (tCons (tC (.ty "bool")) tNil))) ρ (.bl false) := ev_isi ha (t := "int") rfl (by decide +kernel) (by decide +kernel)
theorem isi_bool_bool {b : Bool} (ha : EvR K ta ρ (.bl b)) : EvD K (tCB (rIsi K) (tCons ta (tCons (tC (.ty "bool")) tNil))) ρ (.bl true) := ev_isi ha (t := "bool") rfl (by decide +kernel) (by decide +kernel)
theorem isi_bool_int {b : Bool} (ha : EvR K ta ρ (.bl b)) : EvD K (tCB (rIsi K) (tCons ta (tCons (tC (.ty "int")) tNil))) ρ (.bl true) := ev_isi ha (t := "bool") rfl (by decide +kernel) (by decide +kernel)
theorem isi_lst_list (ha : EvR K ta ρ (.lst ds)) : EvD K (tCB (rIsi K) (tCons ta (tCons (tC (.ty "list")) tNil))) ρ (.bl true) := ev_isi ha (t := "list") rfl (by decide +kernel) (by decide +kernel)
theorem isi_tup_tuple (ha : EvR K ta ρ (.tup ds)) : EvD K (tCB (rIsi K) (tCons ta (tCons (tC (.ty "tuple")) tNil))) ρ (.bl true) := ev_isi ha (t := "tuple") rfl (by decide +kernel) (by decide +kernel)
theorem isi_lst_tuple (ha : EvR K ta ρ (.lst ds)) : EvD K (tCB (rIsi K) (tCons ta (tCons (tC (.ty "tuple")) tNil))) ρ (.bl false) := ev_isi ha (t := "list") rfl (by decide +kernel) (by decide +kernel)
theorem isi_str_str {s : Str} (ha : EvR K ta ρ (.str s)) : EvD K (tCB (rIsi K) (tCons ta (tCons (tC (.ty "str")) tNil))) ρ (.bl true) := ev_isi ha (t := "str") rfl (by decide +kernel) (by decide +kernel)
/-- a place in a written list -/
theorem atI_lt {α : Type} {xs : List α} {i : Int} (h0 : 0 ≤ i) (h1 : i < (xs.length : Int)) : atI xs i = xs[i.toNat]? := by
  obtain ⟨n, rfl⟩ := Int.eq_ofNat_of_zero_le h0
  have hn : n < xs.length := by omega
  rw [show (Int.toNat ((n : Nat) : Int)) = n from rfl, List.getElem?_eq_getElem hn]
  exact atI_nat (List.getElem?_eq_getElem hn)
theorem atI_int {xs : List Int} {i : Int} (h0 : 0 ≤ i) (h1 : i < (xs.length : Int)) : atI (xs.map D.int) i = some (.int (xs.getD i.toNat 0)) := by
  rw [atI_lt h0 (by rw [List.length_map]; exact h1), List.getElem?_map]
  have hn : i.toNat < xs.length := by omega
  rw [List.getElem?_eq_getElem hn, List.getD_eq_getElem?_getD, List.getElem?_eq_getElem hn]
  rfl
theorem cutD_map {α : Type} (f : α → D) (xs : List α) (lo hi : Option Int) : cutD (xs.map f) lo hi = (((xs.drop (HT.sIx xs.length 0 lo)).take (HT.sIx xs.length xs.length hi - HT.sIx xs.length 0 lo))).map f := by
  unfold cutD
  rw [List.length_map, List.map_take, List.map_drop]
theorem sIx_pos (n d k : Nat) : HT.sIx n d (some (k : Int)) = min k n := HT.sIx_nat n d k
theorem cut_to {α : Type} (xs : List α) (k : Nat) : (xs.drop (HT.sIx xs.length 0 none)).take (HT.sIx xs.length xs.length (some (k : Int)) - HT.sIx xs.length 0 none) = xs.take k := by
  rw [HT.sIx_none, HT.sIx_nat, List.drop_zero, Nat.sub_zero]
  by_cases h : k ≤ xs.length
  · rw [Nat.min_eq_left h]
  · rw [Nat.min_eq_right (by omega), List.take_length, List.take_of_length_le (by omega)]
theorem cut_from {α : Type} (xs : List α) (k : Nat) : (xs.drop (HT.sIx xs.length 0 (some (k : Int)))).take (HT.sIx xs.length xs.length none - HT.sIx xs.length 0 (some (k : Int))) = xs.drop k := by
  rw [HT.sIx_none, HT.sIx_nat]
  by_cases h : k ≤ xs.length
  · rw [Nat.min_eq_left h]
    exact List.take_of_length_le (by rw [List.length_drop]; omega)
  · rw [Nat.min_eq_right (by omega), Nat.sub_self, List.take_zero, List.drop_eq_nil_of_le (by omega)]
theorem cut_mid {α : Type} (xs : List α) (i j : Nat) : (xs.drop (HT.sIx xs.length 0 (some (i : Int)))).take (HT.sIx xs.length xs.length (some (j : Int)) - HT.sIx xs.length 0 (some (i : Int))) = (xs.take j).drop i := by
  rw [HT.sIx_nat, HT.sIx_nat, List.drop_take]
  by_cases h : i ≤ xs.length
  · rw [Nat.min_eq_left h]
    by_cases h2 : j ≤ xs.length
    · rw [Nat.min_eq_left h2]
    · rw [Nat.min_eq_right (by omega)]
      rw [List.take_of_length_le (by rw [List.length_drop]; omega), List.take_of_length_le (by rw [List.length_drop]; omega)]
  · rw [Nat.min_eq_right (show xs.length ≤ i by omega), List.drop_eq_nil_of_le (Nat.le_refl _), List.drop_eq_nil_of_le (show xs.length ≤ i by omega)]
    simp
end
/-! ### what is walked: a list or a tuple -/
section
variable {X : Cx} {tg : Expr}
def iSeq (K : PySem.W.Frag) (tl : TE) : TI := fun σ H R => tl σ H fun x H1 => ∃ a, x = .ref a ∧ (((∃ xs, SqL K H1 a xs) ∧ R (Itl K a) H1) ∨ ((∃ xs, SqT K H1 a xs) ∧ R (Itt K a) H1))
theorem pi_seq {l : Expr} {tl : TE} (hl : PE X l tl) : PI X tg l (iSeq X.K tl) := by
  refine ⟨fun pins s σ H R I h => ?_⟩
  refine thn (hl.run pins s σ H _ I h) fun v s1 ⟨x, H1, I1, r1, q1⟩ => ?_
  obtain ⟨a, e, q⟩ := q1
  subst e
  cases r1
  rcases q with ⟨⟨xs, hq⟩, q⟩ | ⟨⟨xs, hq⟩, q⟩
  · obtain ⟨its, rv, p, hz⟩ := I1.list hq
    refine wpAny_pyIter_list p.isList ?_
    refine ⟨s1.heap.objs.size, [s1.heap.objs.size], _, _, H1, rfl, I1.kept (t' := s1.toks) fun b o e => Heap.get?_push_of_some _ e, turn_list a _, ⟨_, Heap.get?_push_size _ rfl, rfl, rfl⟩, fun b hb => ?_, q⟩
    have e : b = s1.heap.objs.size := by simpa using hb
    subst e
    exact I1.fpOk (Nat.le_refl _) (I1.hok.fresh (Nat.le_refl _))
  · obtain ⟨its, rv, p, hz⟩ := I1.tuple hq
    refine wpAny_pyIter_tuple (show s1.heap.IsTuple a its.toArray from p) ?_
    refine ⟨s1.heap.objs.size, [s1.heap.objs.size], _, _, H1, rfl, I1.kept (t' := s1.toks) fun b o e => Heap.get?_push_of_some _ e, turn_tuple a _, ⟨_, Heap.get?_push_size _ rfl, rfl, rfl⟩, fun b hb => ?_, q⟩
    have e : b = s1.heap.objs.size := by simpa using hb
    subst e
    exact I1.fpOk (Nat.le_refl _) (I1.hok.fresh (Nat.le_refl _))
variable {K : PySem.W.Frag} {ρ : Env} {ta : TE} {ds : List D}
theorem ei_seqL (h : EvD K ta ρ (.lst ds)) : EvI K (iSeq K ta) ρ ds := fun B Hs H σ r R q => h B Hs H σ r _ fun Hs1 H1 v g x => by
  cases x with
  | @lst p vs _ hp' xs =>
    have hp : SqL K Hs1 p vs := .of hp'
    refine ⟨p, rfl, .inl ⟨⟨vs, g.lv.sl hp⟩, q _ Hs1 H1 g fun i Hs2 H2 e1 e2 => ⟨fun d hd => ?_, fun hi => ?_⟩⟩⟩
    · have hq := (e1.trans e2).sl hp
      obtain ⟨v, hv, xv⟩ := xs.at hd
      refine ⟨⟨vs, v, hq, hv⟩, fun x H3 y => ?_⟩
      obtain ⟨rfl, y⟩ := y
      have z := y vs hq
      rw [hv] at z
      cases z
      exact ⟨Hs2, Gr.refl e2, xv.mono e1⟩
    · exact ⟨vs, (e1.trans e2).sl hp, by rw [xs.length, hi]; exact Nat.le_refl _⟩
theorem ei_seqS (h : EvD K ta ρ (.scr ds)) : EvI K (iSeq K ta) ρ ds := fun B Hs H σ r R q => h B Hs H σ r _ fun Hs1 H1 v g x => by
  cases x with
  | @scr p vs _ hp xs =>
    refine ⟨p, rfl, .inl ⟨⟨vs, g.lv.sl hp⟩, q _ Hs1 H1 g fun i Hs2 H2 e1 e2 => ⟨fun d hd => ?_, fun hi => ?_⟩⟩⟩
    · have hq := (e1.trans e2).sl hp
      obtain ⟨v, hv, xv⟩ := xs.at hd
      refine ⟨⟨vs, v, hq, hv⟩, fun x H3 y => ?_⟩
      obtain ⟨rfl, y⟩ := y
      have z := y vs hq
      rw [hv] at z
      cases z
      exact ⟨Hs2, Gr.refl e2, xv.mono e1⟩
    · exact ⟨vs, (e1.trans e2).sl hp, by rw [xs.length, hi]; exact Nat.le_refl _⟩
theorem ei_seqT (h : EvD K ta ρ (.tup ds)) : EvI K (iSeq K ta) ρ ds := fun B Hs H σ r R q => h B Hs H σ r _ fun Hs1 H1 v g x => by
  cases x with
  | @tup p vs _ hp' xs =>
    have hp := SqT_of (K := K) hp'
    refine ⟨p, rfl, .inr ⟨⟨vs, g.lv.st hp⟩, q _ Hs1 H1 g fun i Hs2 H2 e1 e2 => ⟨fun d hd => ?_, fun hi => ?_⟩⟩⟩
    · have hq := (e1.trans e2).st hp
      obtain ⟨v, hv, xv⟩ := xs.at hd
      refine ⟨⟨vs, v, hq, hv⟩, fun x H3 y => ?_⟩
      obtain ⟨rfl, y⟩ := y
      have z := y vs hq
      rw [hv] at z
      cases z
      exact ⟨Hs2, Gr.refl e2, xv.mono e1⟩
    · exact ⟨vs, (e1.trans e2).st hp, by rw [xs.length, hi]; exact Nat.le_refl _⟩
end
end DL
namespace DL
open PySem L2
variable [TbC]
/-! ### the rules whose reading names the written part, with that part given by hand (K := K) rfl -/
section
variable {X : Cx} {K : PySem.W.Frag} {tg : Expr}
theorem addK (h : X.K = K) : OpR X (binaryOp .Add) (rAddA K) := by subst h; exact op_addA
theorem eqK (h : X.K = K) (hu : X.A.units + 64 < cLine) : OpR X (compareOp .Eq) (rEqD K) := by subst h; exact op_eqD hu
theorem neK (h : X.K = K) (hu : X.A.units + 64 < cLine) : OpR X (compareOp .NotEq) (rNeD K) := by subst h; exact op_neD hu
theorem ixK (h : X.K = K) : IxR X (rIx K) := by subst h; exact ix_seq
theorem slK (h : X.K = K) : SlR X (rSlA' K) := by subst h; exact sl_A
theorem lenK (h : X.K = K) : CallR X (.builtin "len") (rLenA K) := by subst h; exact call_lenA
theorem listK (h : X.K = K) : CallR X (.type "list") (rList K) := by subst h; exact call_list_of
theorem tupleK (h : X.K = K) : CallR X (.type "tuple") (rTuple K) := by subst h; exact call_tuple_of
theorem sumK (h : X.K = K) (hc : X.calm = true) : CallR X (.builtin "sum") (rSum K) := by subst h; exact cr_sum hc
theorem allK (h : X.K = K) (hc : X.calm = true) : CallR X (.builtin "all") (rAll K) := by subst h; exact cr_all hc
theorem anyK (h : X.K = K) (hc : X.calm = true) : CallR X (.builtin "any") (rAny K) := by subst h; exact cr_any hc
theorem isiK (h : X.K = K) : CallR X (.builtin "isinstance") (rIsi K) := by subst h; exact call_isi
theorem seqK (h : X.K = K) {l : Expr} {tl : TE} (hl : PE X l tl) : PI X tg l (iSeq K tl) := by subst h; exact pi_seq hl
theorem enumK (h : X.K = K) {e : Expr} {ta : TA} {p pos tpos : Pos} {elts : List Expr} {kk : Nat} (hg : Gl X "enumerate") (hm : X.mg "enumerate" = none) (ha : PA X [e] ta) (hs : starEach [e] X.env = [(false, eval e X.env)] := by rfl) :
    PI X (.Tuple elts kk tpos) (.Call (.Name "enumerate" p) [e] [] pos) (iEnum K ta) := by subst h; exact pi_enum hg hm ha hs
theorem revK (h : X.K = K) {e : Expr} {ta : TA} {p pos : Pos} (hg : Gl X "reversed") (hm : X.mg "reversed" = none) (ha : PA X [e] ta) (hs : starEach [e] X.env = [(false, eval e X.env)] := by rfl) :
    PI X tg (.Call (.Name "reversed" p) [e] [] pos) (iRev K ta) := by subst h; exact pi_reversed hg hm ha hs
theorem gtupK (h : X.K = K) {pos : Pos} {es : List Expr} {k : Nat} {t : TGs} {n : Nat} (hc : X.calm = true) (hh : PGs X es t)
    (hn : (assignEach es X.env).length = n := by rfl) (hst : (assignEach es X.env).findIdx? (·.1) = none := by rfl) : PG X (.Tuple es k pos) (gTup K n t) := by subst h; exact pg_tup hc hh hn hst
theorem fldK (h : X.K = K) {pos : Pos} {e : Expr} {f : Str} {ta : TE} (he : PE X e ta) (hb : attributeBase e f X.env (eval e X.env) = eval e X.env) : PE X (.Attribute e f pos) (tFld K ta f) := by subst h; exact pe_fld he hb
theorem sfldK (h : X.K = K) {o value : Expr} {f : Str} {pos pos' : Pos} {ta tv : TE} (ha : PE X o ta) (hv : PE X value tv) (hs : swapsWith value (some (.Attribute o f pos')) pos.line X.env = pure false) : PS X (.Assign [.Attribute o f pos'] value pos) (sFld K ta tv f) := by
  subst h; exact ps_fld ha hv hs
section

variable {T id : String} {o e : Expr} {es : List Expr} {to : TE} {t : TA} {name : Str} {apos cpos : Pos} {r : V → List V → Hp → VK → Prop}
theorem bmK (h : X.K = K) (pa : PlainAttrs T) (slot : Slot T name id) (hty : typeOf (.builtin id) = pure (.type "method_descriptor")) (hm : MtR X id r) (ho : PE X o to) (ha : PA X (e :: es) t)
    (hbase : attributeBase o name X.env (eval o X.env) = eval o X.env := by rfl)
    (hfew : ((backTo cpos (starEach (e :: es) X.env)).all (fun x => !x.1) && (backToKw cpos (keywordEach [] X.env)).all (fun x => x.1.isSome)
      && decide ((e :: es).length + ([] : List Keyword).length + (if ([] : List Keyword).isEmpty then 0 else 1) < 30)) = true := by rfl)
    (hline : (apos.endLine == cpos.line) = true := by rfl) (hs : starEach (e :: es) X.env = (false, eval e X.env) :: starEach es X.env := by rfl) (hplain : (backTo cpos (starEach es X.env)).any (·.1) = false := by rfl) :
    PE X (.Call (.Attribute o name apos) (e :: es) [] cpos) (tBM K T r to t) := by subst h; exact pe_bm pa slot hty hm ho ha hbase hfew hline hs hplain
theorem bm0K (h : X.K = K) (pa : PlainAttrs T) (slot : Slot T name id) (hty : typeOf (.builtin id) = pure (.type "method_descriptor")) (hm : MtR X id r) (ho : PE X o to)
    (hbase : attributeBase o name X.env (eval o X.env) = eval o X.env := by rfl) (hline : (apos.endLine == cpos.line) = true := by rfl) : PE X (.Call (.Attribute o name apos) [] [] cpos) (tBM0 K T r to) := by
  subst h; exact pe_bm0 pa slot hty hm ho hbase hline
end
/-! ### o[i] = v: a list or a dict; x in c: a list or tuple of flat things, data in a list, a dict's key, a sign of a text -/
def rSetD : TSet := fun o i v H Q => ∃ a H4, o = .ref a ∧ DPut H a i v H4 ∧ Q H4
def rSetA : TSet := fun o i v H Q => rSetL o i v H Q ∨ rSetD o i v H Q
theorem set_A (hu : X.A.units + 1 < cLine) : PSet X rSetA := by
  intro pins s σ H o i v ov iv u Q I ro ri rv h
  rcases h with h | ⟨a, H4, rfl, g, q⟩
  · exact set_list pins s σ H o i v ov iv u Q I ro ri rv h
  · cases ro
    exact d_setItem hu I g ri rv fun s' I' => ⟨H4, I', q⟩
def rInDk : R2 := fun x y H Q => ∃ a o, y = .ref a ∧ DGet H a x o ∧ Q (.bl o.isSome) H
def rNotInDk : R2 := fun x y H Q => ∃ a o, y = .ref a ∧ DGet H a x o ∧ Q (.bl (!o.isSome)) H
theorem op_inDk (hu : X.A.units + 1 < cLine) : OpR X (compareOp .In) rInDk := by
  intro pins s σ H x y v u Q I rx ry h
  obtain ⟨a, o, rfl, g, q⟩ := h
  cases ry
  exact d_in hu I g rx fun s' I' => ⟨.bl _, H, I', rfl, q⟩
theorem op_notInDk (hu : X.A.units + 1 < cLine) : OpR X (compareOp .NotIn) rNotInDk := by
  intro pins s σ H x y v u Q I rx ry h
  obtain ⟨a, o, rfl, g, q⟩ := h
  cases ry
  exact d_notIn hu I g rx fun s' I' => ⟨.bl _, H, I', rfl, q⟩
def rInSg : R2 := fun x y H Q => ∃ (c : Nat) (z : Str), x = .str ⟨#[c]⟩ ∧ y = .str z ∧ Q (.bl (decide (c ∈ z.cps.toList))) H
def rNotInSg : R2 := fun x y H Q => ∃ (c : Nat) (z : Str), x = .str ⟨#[c]⟩ ∧ y = .str z ∧ Q (.bl (!decide (c ∈ z.cps.toList))) H
def rInA (K : PySem.W.Frag) : R2 := fun x y H Q => rIn K false x y H Q ∨ rInD K x y H Q ∨ rInDk x y H Q ∨ rInSg x y H Q
def rNotInA (K : PySem.W.Frag) : R2 := fun x y H Q => rIn K true x y H Q ∨ rNotInD K x y H Q ∨ rNotInDk x y H Q ∨ rNotInSg x y H Q
theorem inK (h : X.K = K) (hu : X.A.units + 65 < cLine) : OpR X (compareOp .In) (rInA K) := by subst h; exact op_in_seq.or ((op_inD hu).or ((op_inDk (by omega)).or op_in_sign))
theorem notInK (h : X.K = K) (hu : X.A.units + 65 < cLine) : OpR X (compareOp .NotIn) (rNotInA K) := by subst h; exact op_notIn_seq.or ((op_notInD hu).or ((op_notInDk (by omega)).or op_notIn_sign))
theorem hu65 {k : Nat} {A : Around} (hr : Room k A) : A.units + 65 < cLine := by have := hr.un; omega
end
section
variable {K : PySem.W.Frag} {ρ ρ' : Env} {te ti ta tb : TE} {d e : D} {ds es : List D} {tt : TT} {R : DEnds}
/-- xs[i] = e, xs the frame's own -/
theorem xs_setO {i : Nat} {k : Int} {j : Nat} (hx : ρ[i]? = some (some (.ol ds))) (h : EvD K te ρ d) (hi : EvD K ti ρ (.int k)) (hj : ixN ds.length k = some j) (q : R.nx (ρ.set i (some (.ol (ds.set j d))))) :
    ExS K (tAsg te (gSub (tVar i) ti rSetA)) ρ R := fun B Hs H σ Dn r l => by
  refine h B Hs H σ r _ fun Hs1 H1 w g y => ?_
  obtain ⟨p, vs, e, hp, x, _⟩ := (r.grow g).mutL i hx
  refine ⟨.ref p, e, hi B Hs1 H1 σ (r.grow g) _ fun Hs2 H2 z g2 z2 => ?_⟩
  cases z2
  obtain ⟨p', vs', e', hp', x', m⟩ := ((r.grow g).grow g2).mutL i hx
  rw [e] at e'
  cases e'
  refine .inl ⟨p, vs', k, j, rfl, rfl, hp', by rw [x'.length]; exact hj, ?_⟩
  exact l.nx Hs2 _ _ _ (m _ _ (x'.set (y.mono g2.sh) j)) q
end
end DL

/-! DMeth: a def of a class called off the class; a method of whichever class the object has; objects as data. -/
namespace DL
open PySem L2
variable [TbC]

/-- m of the class at C is the def at f, read off the class -/
structure CFn (K : PySem.W.Frag) (C : Addr) (m : Str) (f : Addr) : Prop where
  rd : ClX.CRead K C (.type "type")
  at_ : PySem.W.findCls K (.ref C) (.type "type") m = some (.val (.ref f))
section
variable {X : Cx} {CX : CXT} {k : Nat} {f C : Addr} {fd : FuncData} {ps : List Str} {sp : Sp} {dvs : List V} {ds : List Value} {E : XK} {m : Str} {pos apos : Pos} {e o : Expr} {es : List Expr} {ta : TE} {t : TA} {pl : Sem Bool}
/-- C.m(e, ..) -/
theorem pe_ccall (he : PE X o (tC (.ref C))) (r : CFn X.K C m f) (F : FnOk X.prog X.w X.K X.mg X.base CX k f fd ps sp) (hr : Room k X.A) (hk : PySem.W.keepIn X.K (.ref f) = true) (hb : Binds X.K fd ps ds) (hd : Vals dvs ds) (hx : Passes CX X E) (ha : PA X (e :: es) t)
    (hst : starEach (e :: es) X.env = (false, eval e X.env) :: starEach es X.env := by rfl) (hpl : (backTo pos (starEach es X.env)).any (·.1) = false := by rfl)
    (ht : eval (.Call (.Attribute o m apos) (e :: es) [] pos) X.env = (do
      let ov ← eval o X.env
      standAt apos.atName
      let (f, first) ← holding [ov] (getMethod ov m pl)
      callWith pos f first (backTo pos (starEach (e :: es) X.env)) (backToKw pos (keywordEach [] X.env))) := by rfl) :
    PE X (.Call (.Attribute o m apos) (e :: es) [] pos) (tCall sp dvs E t) := by
  refine ⟨fun pins s σ H Q I h => ?_⟩
  refine PySem.W.methodCall_KW (pl := pl) (thn (he.run pins s σ H (fun v H1 => v = .ref C ∧ tCall sp dvs E t σ H1 Q) I ⟨rfl, h⟩) fun u s1 ⟨x, H1, I1, rx, ex, q⟩ => ?_) ht
  subst ex
  obtain rfl : u = Value.ref C := rx
  refine PySem.W.method_cls I1.kIn r.rd.ga (PySem.W.cls_value I1.kIn r.rd.rd r.at_ rfl ?_)
  refine PySem.W.callWith_K (first := []) (h₀ := X.base) I1.ok.mod.kin hk (thn (ha.run pos pins _ σ H1 _ (I1.tok _) q) fun us s2 ⟨vs, H2, I2, rv, q2⟩ => ⟨I2.kIn, ?_⟩) hst hpl
  exact run_fn F hr hb hd hx I2 rv q2

/-- the classes that an object may have, each with what its method m promises -/
inductive Alts (X : Cx) (CX : CXT) (k : Nat) (m : Str) : List (Addr × Sp) → Prop
  | nil : Alts X CX k m []
  | cons {C f : Addr} {fd : FuncData} {ps : List Str} {sp : Sp} {r : List (Addr × Sp)} {j : Nat} (hj : j ≤ k) (c : Cls X.K C) (hm : Meth X.K C m f) (F : FnOk X.prog X.w X.K X.mg X.base CX j f fd ps sp) (hb : Binds X.K fd ps []) (h : Alts X CX k m r) : Alts X CX k m ((C, sp) :: r)
theorem Alts.get {alts : List (Addr × Sp)} (h : Alts X CX k m alts) : ∀ {C : Addr} {sp : Sp}, (C, sp) ∈ alts → ∃ f fd ps, Cls X.K C ∧ Meth X.K C m f ∧ FnOk X.prog X.w X.K X.mg X.base CX k f fd ps sp ∧ Binds X.K fd ps [] := by
  induction h with
  | nil => intro C sp h; cases h
  | cons hj c hm F hb _ ih =>
    intro C sp h
    rcases List.mem_cons.mp h with e | e
    · cases e
      exact ⟨_, _, _, c, hm, F.mono hj, hb⟩
    · exact ih e
/-- o.m(..), o of one of these classes -/
def tMethD (alts : List (Addr × Sp)) (m : Str) (E : XK) (ta : TE) (t : TA) : TE := fun σ H Q => ta σ H fun x H1 => ∃ a C dx fs sp, x = .ref a ∧ H1 a = some (.ins C dx fs) ∧ (C, sp) ∈ alts ∧ fs.lookup m = none ∧
  t σ H1 fun vs H2 => sp (x :: vs) H2 Q E
theorem pe_methD {alts : List (Addr × Sp)} (he : PE X o ta) (al : Alts X CX k m alts) (hr : Room k X.A) (hx : Passes CX X E) (ha : PA X (e :: es) t)
    (hst : starEach (e :: es) X.env = (false, eval e X.env) :: starEach es X.env := by rfl) (hpl : (backTo pos (starEach es X.env)).any (·.1) = false := by rfl)
    (ht : eval (.Call (.Attribute o m apos) (e :: es) [] pos) X.env = (do
      let ov ← eval o X.env
      standAt apos.atName
      let (f, first) ← holding [ov] (getMethod ov m pl)
      callWith pos f first (backTo pos (starEach (e :: es) X.env)) (backToKw pos (keywordEach [] X.env))) := by rfl) :
    PE X (.Call (.Attribute o m apos) (e :: es) [] pos) (tMethD alts m E ta t) := by
  refine ⟨fun pins s σ H Q I h => ?_⟩
  refine PySem.W.methodCall_KW (pl := pl) (thn (he.run pins s σ H _ I h) fun u s1 ⟨x, H1, I1, rx, a, C, dx, fs, sp, ex, ea, hin, l, q⟩ => ?_) ht
  subst ex
  obtain rfl : u = Value.ref a := rx
  obtain ⟨f, fd, ps, c, hm, F, hb⟩ := al.get hin
  refine getmeth_ok I1 ea c hm l ?_
  refine PySem.W.callWith_K (first := [.ref a]) (h₀ := X.base) I.ok.mod.kin hm.kp (thn (ha.run pos pins s1 σ H1 _ I1 q) fun us s2 ⟨vs, H2, I2, r, q2⟩ => ⟨I2.kIn, ?_⟩) hst hpl
  exact run_fn (us := .ref a :: us) (vs := .ref a :: vs) (dvs := []) F hr hb .nil hx I2 (.cons rfl r) (by rw [List.append_nil]; exact q2)
theorem pe_methD0 {alts : List (Addr × Sp)} (he : PE X o ta) (al : Alts X CX k m alts) (hr : Room k X.A) (hx : Passes CX X E)
    (ht : eval (.Call (.Attribute o m apos) [] [] pos) X.env = (do
      let ov ← eval o X.env
      standAt apos.atName
      let (f, first) ← holding [ov] (getMethod ov m pl)
      callWith pos f first (backTo pos (starEach [] X.env)) (backToKw pos (keywordEach [] X.env))) := by rfl) :
    PE X (.Call (.Attribute o m apos) [] [] pos) (tMethD alts m E ta tNil) := by
  refine ⟨fun pins s σ H Q I h => ?_⟩
  refine PySem.W.methodCall_KW (pl := pl) (thn (he.run pins s σ H _ I h) fun u s1 ⟨x, H1, I1, rx, a, C, dx, fs, sp, ex, ea, hin, l, q⟩ => ?_) ht
  subst ex
  obtain rfl : u = Value.ref a := rx
  obtain ⟨f, fd, ps, c, hm, F, hb⟩ := al.get hin
  refine getmeth_ok I1 ea c hm l ?_
  exact PySem.W.callWith_K0 (first := [.ref a]) I1.kIn hm.kp (run_fn (us := [.ref a]) (vs := [.ref a]) (dvs := []) F hr hb .nil hx I1 (.cons rfl .nil) q)
end

/-! ### on deep data -/
section
variable {K : PySem.W.Frag} {ρ ρ' : Env} {te ta tb : TE} {d e : D} {ds es : List D} {tt : TT} {R : DEnds} {C : Addr} {ns : List Str}
theorem look_zip {H : Hp} : ∀ {ns : List Str} {vs : List V} {ds : List D} {f : Str} {d : D}, RepL K H vs ds → (ns.zip ds).lookup f = some d → ∃ v, (ns.zip vs).lookup f = some v ∧ Rep K H v d
  | [], _, _, _, _, _, h => by simp at h
  | n :: ns, _, _, f, d, .nil, h => by simp at h
  | n :: ns, _, _, f, d, .cons (v := v) (d := d0) hv r, h => by
    rw [List.zip_cons_cons, List.lookup_cons] at h ⊢
    cases e : (f == n) with
    | true =>
      rw [e] at h
      have h' := Option.some.inj h
      subst h'
      exact ⟨v, rfl, hv⟩
    | false =>
      rw [e] at h
      exact look_zip r h
theorem look_none : ∀ {ns : List Str} {vs : List V} {m : Str}, ns.contains m = false → (ns.zip vs).lookup m = none
  | [], _, _, _ => by simp
  | n :: ns, [], _, _ => by simp
  | n :: ns, v :: vs, m, h => by
    rw [List.contains_cons, Bool.or_eq_false_iff] at h
    rw [List.zip_cons_cons, List.lookup_cons, h.1]
    exact look_none h.2
theorem ev_fld {f : Str} (h : EvD K ta ρ (.obj C ns ds)) (hc : Cls K C) (hn : NoAttr K C f) (hl : (ns.zip ds).lookup f = some d) : EvD K (tFld K ta f) ρ d := fun B Hs H σ r Q q =>
  h B Hs H σ r _ fun Hs1 H1 v g x => by
    cases x with
    | @obj a _ dx _ vs _ ha xs =>
      obtain ⟨w, h1, h2⟩ := look_zip xs hl
      exact ⟨a, C, dx, _, w, rfl, g.lv _ _ ha, hc, hn, h1, q Hs1 H1 w g h2⟩
theorem ev_methD {alts : List (Addr × Sp)} {m : Str} {E : XK} {t : TA} {α : Type} {pre : α → Prop} {arg : α → List D} {res : α → D} (x : α) (h : EvD K ta ρ (.obj C ns ds)) (ht : EvA K t ρ es) (hin : (C, spG K pre arg res) ∈ alts) (hm : ns.contains m = false)
    (ha : arg x = .obj C ns ds :: es) (p : pre x) : EvD K (tMethD alts m E ta t) ρ (res x) := fun B Hs H σ r Q q =>
  h B Hs H σ r _ fun Hs1 H1 v g1 xo => by
    cases xo with
    | @obj a _ dx _ vs _ hp xs =>
      refine ⟨a, C, dx, _, _, rfl, g1.lv _ _ hp, hin, look_none hm, ht B Hs1 H1 σ (r.grow g1) _ fun Hs2 H2 ws g2 ys => ?_⟩
      refine ⟨Hs2, x, ⟨g2.lv, (r.grow (g1.trans g2)).tb⟩, by rw [ha]; exact .cons (.obj (g2.sh _ _ hp) (xs.mono g2.sh)) ys, p, fun Hs' H' w d g y e => ?_⟩
      exact q Hs' H' w ((g1.trans g2).trans g) (e ▸ y)
theorem ef_methD {alts : List (Addr × Sp)} {m : Str} {E : XK} {t : TA} {α : Type} {pre : α → Prop} {arg : α → List D} {res : α → List D} (x : α) (h : EvD K ta ρ (.obj C ns ds)) (ht : EvA K t ρ es) (hin : (C, spF K pre arg res) ∈ alts) (hm : ns.contains m = false)
    (ha : arg x = .obj C ns ds :: es) (p : pre x) : EvF K (tMethD alts m E ta t) ρ (res x) := fun B Hs H σ r Q q =>
  h B Hs H σ r _ fun Hs1 H1 v g1 xo => by
    cases xo with
    | @obj a _ dx _ vs _ hp xs =>
      refine ⟨a, C, dx, _, _, rfl, g1.lv _ _ hp, hin, look_none hm, ht B Hs1 H1 σ (r.grow g1) _ fun Hs2 H2 ws g2 ys => ?_⟩
      refine ⟨Hs2, x, ⟨g2.lv, (r.grow (g1.trans g2)).tb⟩, by rw [ha]; exact .cons (.obj (g2.sh _ _ hp) (xs.mono g2.sh)) ys, p, fun Hs' H' l zs g n n2 e y => ?_⟩
      have gg := (g1.trans g2).trans g
      refine q Hs' H' l zs gg ?_ n2 e y
      exact ((g1.trans g2).new0 n).1
/-- a new instance: __init__ leaves it with the fields fs of the arguments' values -/
def spMk (C : Addr) (n : Nat) (fs : List V → List (Str × V)) (ok : PySem.W.Frag → List V → Hp → Prop) (K : PySem.W.Frag) : Sp := fun vs H Q _ => ∃ (p dx : Addr) (ws : List V), vs = .ref p :: ws ∧ ws.length = n ∧ H p = some (.ins C dx []) ∧ ok K ws H ∧ Q .non (upd H p (.ins C dx (fs ws)))
theorem ev_make {n : Nat} {fs : List V → List (Str × V)} {ok : PySem.W.Frag → List V → Hp → Prop} {E : XK} {t : TA} (h : EvA K t ρ ds) (hn : ds.length = n) (hok : ∀ Hs H ws, RepL K Hs ws ds → Ex Hs H → ok K ws H)
    (hf : ∀ Hs ws, RepL K Hs ws ds → ∃ vs, fs ws = ns.zip vs ∧ RepL K Hs vs es) : EvD K (tMake C (spMk C n fs ok K) [] E t) ρ (.obj C ns es) := fun B Hs H σ r Q q =>
  h B Hs H σ r _ fun Hs1 H1 ws g1 xs => fun x dx hx hdx ne => by
    rw [List.append_nil]
    have nx : Hs1 x = none := (gr_none (Gr.refl g1.lv) hx).2
    have ndx : Hs1 dx = none := (gr_none (Gr.refl g1.lv) hdx).2
    have hx2 : upd H1 dx (.own x) x = none := by rw [upd_ne (Ne.symm ne)]; exact hx
    have ex : Ex Hs1 (upd (upd H1 dx (.own x)) x (.ins C dx [])) := fun a o e => by
      rw [upd_ne (fun z => by rw [z, nx] at e; cases e), upd_ne (fun z => by rw [z, ndx] at e; cases e)]
      exact g1.lv a o e
    refine ⟨x, dx, ws, rfl, by rw [xs.length]; exact hn, upd_same, hok Hs1 _ ws xs ex, rfl, ?_⟩
    obtain ⟨vs, e1, y⟩ := hf Hs1 ws xs
    rw [upd_upd, e1]
    have ga : Gr Hs1 H1 H1 Hs1 (upd H1 dx (.own x)) := Gr.newO g1.lv hdx
    have gb := Gr.new (o := .ins C dx (ns.zip vs)) ga.lv hx2
    exact q _ _ _ ((g1.trans ga).trans gb) (.obj upd_same (y.mono (Ex.new nx)))
end
end DL

/-! DRange: list(range(a, b)) however great the bounds are. -/
namespace PySem
open Sem (wp)
open AutoSeq1 (wpAny_loadPart')
namespace LR
abbrev nm : String := "longrange_iterator"
theorem ownL : Manifest.owners.lookup (String.ofList ['r', 'o', 't', 'a', 'r', 'e', 't', 'i', '_', 'e', 'g', 'n', 'a', 'r', 'g', 'n', 'o', 'l'].reverse) = some Manifest.sig_longrange_iterator := by kernel_rfl
theorem slotNext : Slot nm "__next__" "longrange_iterator.__next__" := .of (owner := nm) (n := "__next__") (by rw [typeLookup_type, builtinLookup_eq_fast]; kernel_rfl) (by decide +kernel) (by decide +kernel) (by decide +kernel) (by first | exact .inl (by decide +kernel) | exact .inr (by decide +kernel)) (by rw [isSubtype_type]; kernel_rfl)
theorem slotIter : Slot nm "__iter__" "longrange_iterator.__iter__" := .of (owner := nm) (n := "__iter__") (by rw [typeLookup_type, builtinLookup_eq_fast]; kernel_rfl) (by decide +kernel) (by decide +kernel) (by decide +kernel) (by first | exact .inl (by decide +kernel) | exact .inr (by decide +kernel)) (by rw [isSubtype_type]; kernel_rfl)
theorem entNext : entryFor table "longrange_iterator.__next__" = some Builtin.«longrange_iterator.__next__» := entryFor_of_tree (by kernel_rfl)
theorem entIter : entryFor table "longrange_iterator.__iter__" = some Builtin.«dict_keyiterator.__iter__» := entryFor_alias (id' := "dict_keyiterator.__iter__") (by kernel_rfl) (by first | rfl | decide +kernel | (unfold String.splitOn; simp +decide [String.splitOnAux])) (by decide +kernel) (by kernel_rfl)
theorem argNext (x : Value) : argsOk "longrange_iterator.__next__" ⟨[x], []⟩ := by
  unfold argsOk; rw [signature?_of (id := "longrange_iterator.__next__") (n := ['_', '_', 't', 'x', 'e', 'n', '_', '_']) (o := ['r', 'o', 't', 'a', 'r', 'e', 't', 'i', '_', 'e', 'g', 'n', 'a', 'r', 'g', 'n', 'o', 'l']) (by kernel_rfl) ownL]; kernel_rfl
theorem argIter (x : Value) : argsOk "longrange_iterator.__iter__" ⟨[x], []⟩ := by
  unfold argsOk; rw [signature?_of (id := "longrange_iterator.__iter__") (n := ['_', '_', 'r', 'e', 't', 'i', '_', '_']) (o := ['r', 'o', 't', 'a', 'r', 'e', 't', 'i', '_', 'e', 'g', 'n', 'a', 'r', 'g', 'n', 'o', 'l']) (by kernel_rfl) ownL]; kernel_rfl
theorem boundNext {i : Addr} : bound "longrange_iterator.__next__" ⟨[.ref i], []⟩ = pure #[some (.ref i)] := by
  kernel_rfl
/-- a long iterator: the next number, how many are left, the step -/
abbrev Is (h : Heap) (i : Addr) (x n c : Int) : Prop := h.get? i = some { cls := .type nm, dict := none, data := .fields #[rawInt x, rawInt n, rawInt c], slots := #[] }
theorem nextMeets (i : Addr) (x n c : Int) (h0 : ¬n ≤ 0) : Meets (Builtin.«longrange_iterator.__next__» ⟨[.ref i], []⟩) (fun _ R s => Is s.heap i x n c ∧ R (.ok (.ret (Value.int x s.toks))) { s with heap := (s.heap.update i (Obj.mapFields fun z => z.setIfInBounds 0 (rawInt (x + c)))).update i (Obj.mapFields fun z => z.setIfInBounds 1 (rawInt (n - 1))), toks := s.toks + 1 }) :=
  .of_wp fun prog w A R s h => by obtain ⟨hp, g, d, tk, os⟩ := s; obtain ⟨hl, h⟩ := h; wp_walk; exact ⟨_, rfl, h⟩
section
variable {prog : Program} {w : World} {A : Around} {E : Value → Shared → Prop} {s : Shared} {i : Addr} {x n c : Int}
theorem item {Q : Option Value → Shared → Prop} (z : Is s.heap i x n c) (pos : 0 < n) (q : ∀ h', Is h' i (x + c) (n - 1) c → Heap.SameBut i s.heap h' → Q (some (.int x s.toks)) { s with heap := h', toks := s.toks + 1 }) : wpAny (model prog w) A (pyNext (.ref i)) Q E s := by
  have ty : s.TypeIs (.ref i) nm := ⟨_, z, rfl⟩
  unfold pyNext
  refine wpAny_bind (wpAny_attempt (wpAny_callSpecial?_slot (name := Str.ofString "__next__") ty slotNext (call_meets slotNext ty entNext (argNext _) (nextMeets i x n c (by omega)) ⟨z, ?_⟩)))
  exact wpAny_pure (q _ (Heap.get?_update_self _ (Heap.get?_update_self _ z rfl) rfl) ((Heap.SameBut.update ..).trans (Heap.SameBut.update ..)))
theorem fin {Q : Option Value → Shared → Prop} (hh : A.handled = none) (z : Is s.heap i x n c) (neg : n ≤ 0) (q : ∀ h', Heap.ExtBut i s.heap h' → Q none { s with heap := h' }) : wpAny (model prog w) A (pyNext (.ref i)) Q E s := by
  have ty : s.TypeIs (.ref i) nm := ⟨_, z, rfl⟩
  unfold pyNext
  refine wpAny_bind (wpAny_attempt (wpAny_callSpecial?_slot (name := Str.ofString "__next__") ty slotNext (wpAny_call_entry slotNext ty entNext ?_ (argNext _))))
  refine wpAny_bind (m := bound "longrange_iterator.__next__" ⟨[.ref i], []⟩) (wpAny_of_eq (a := #[some (.ref i)]) boundNext ?_)
  refine wpAny_bind (m := Builtin.Iterators_pickling.intField _ (.ref i) 0) (wpAny_bind (wpAny_field z rfl (x := rawInt x) rfl (wpAny_pure ?_)))
  refine wpAny_bind (m := Builtin.Iterators_pickling.intField _ (.ref i) 1) (wpAny_bind (wpAny_field z rfl (x := rawInt n) rfl (wpAny_pure ?_)))
  refine wpAny_bind (m := Builtin.Iterators_pickling.intField _ (.ref i) 2) (wpAny_bind (wpAny_field z rfl (x := rawInt c) rfl (wpAny_pure ?_)))
  show wpAny _ _ (if n ≤ 0 then _ else _) _ _ s
  rw [if_pos neg]
  refine wpAny_bind (wpAny_rule (wpAny_bind ?_))
  show wpAny _ _ (newExc (.type "StopIteration") [] >>= _) _ _ s
  refine wpAny_bind ?_
  simp only [newExc, newTuple]
  refine wpAny_bind (wpAny_newObj_type ?_ (by size_fits))
  refine wpAny_bind (m := firstArgMember _ _) (wpAny_of_eq (a := Value.none) (by first | rfl | (simp only [firstArgMember]; rfl)) (wpAny_newObj_type ?_ (by size_fits)))
  simp only [raiseNew]
  refine wpAny_pure ?_
  refine wpAny_bind (wpAny_bind (wpAny_handled ?_))
  first | rw [show A.in1.handled = none from hh] | rw [hh]
  refine (wpAny_throw (wpAny_bind (wpAny_isInstance (T := "StopIteration") (b := true) ⟨_, Heap.get?_push_size _ rfl, rfl⟩ isSubtype_stop ?_)))
  exact wpAny_pure (q _ (((Heap.ExtBut.refl i s.heap).push _).push _))
theorem own {Q : Value → Shared → Prop} (z : Is s.heap i x n c) (q : Q (.ref i) s) : wpAny (model prog w) A (pyIter (.ref i)) Q E s := by
  have ty : s.TypeIs (.ref i) nm := ⟨_, z, rfl⟩
  refine wpAny_pyIter_slot ty slotIter (wpAny_call_entry slotIter ty entIter (show wpAny _ _ (ret (.ref i)) _ _ s from ?_) (argIter _))
  exact wpAny_pure ⟨_, rfl, nm, _, ty, slotNext.lookup, q⟩
theorem iter {r : Addr} {a b : Int} {t u v : Tok} {Q : Value → Shared → Prop} (z : IsRange s.heap r a b c t u v) (big : ¬ Builtin.Range.small a b c = true)
    (q : Q (.ref s.heap.objs.size) { s with heap := s.heap.push { cls := .type nm, data := .fields #[rawInt a, rawInt (Builtin.Range.rangeSize a b c), rawInt c] } }) : wpAny (model prog w) A (pyIter (.ref r)) Q E s := by
  have ty : s.TypeIs (.ref r) "range" := ⟨_, z, rfl⟩
  refine wpAny_pyIter_slot ty F.slot_range_iter (call_meets F.slot_range_iter ty F.entry_range_iter (F.args_range_iter_1 _) (AutoRange.range___iter___range_0 r a b c t u v (by unfold Builtin.Range.small at big; rw [Bool.not_eq_true] at big; rw [big]; rfl)) ⟨z, ?_⟩)
  unfold Builtin.Range.small at big
  simp only [big, Bool.false_eq_true, if_false]
  exact ⟨nm, _, ⟨_, Heap.get?_push_size _ rfl, rfl⟩, slotNext.lookup, q⟩
end
theorem walks {prog : Program} {w : World} {A : Around} (hh : A.handled = none) (i : Addr) (a c : Int) (n : Nat) :
    Walks prog w A i [i] [i] n (fun k v => ∃ t, v = .int (a + k * c) t) (fun k h => Is h i (a + (k : Nat) * c) ((n : Int) - (k : Nat)) c) where
  sub := fun _ z => z
  frame := fun _ _ _ st z => z i (by simp) _ st
  item := fun k s Q E lt st q => by
    refine item st (by omega) fun h' z' y' => q _ h' _ ⟨_, rfl⟩ ?_ fun b o nb e => y'.extBut b o (fun h => nb (by simp [h])) e
    have e1 : a + ((k + 1 : Nat) : Int) * c = a + (k : Int) * c + c := by push_cast; rw [Int.add_mul, Int.one_mul, Int.add_assoc]
    have e2 : (n : Int) - ((k + 1 : Nat) : Int) = (n : Int) - (k : Int) - 1 := by push_cast; omega
    rw [e1, e2]; exact z'
  done := fun s Q E st q => fin hh st (by omega) fun h' e' => q h' s.toks fun b o nb e => e' b o (fun h => nb (by simp [h])) e
  self := fun _ _ _ _ st q => own st q
section
variable {prog : Program} {w : World} {A : Around} {E : Value → Shared → Prop} {s : Shared} {r : Addr} {a b c : Int} {t u v : Tok} {n : Nat}
abbrev Got (a c : Int) (n : Nat) (acc : Array Value) : Prop := ItemsOf (fun i v => ∃ t, v = .int (a + i * c) t) acc n
theorem extend {R : Result → Shared → Prop} (hh : A.handled = none) (z : IsRange s.heap r a b c t u v) (big : ¬ Builtin.Range.small a b c = true) (en : Builtin.Range.rangeSize a b c = n) (few : n ≤ 2 ^ 24) (S : Addr) (res : Value) (c₀ : Nat) (yS : s.heap.get? S = some { cls := .type "list", data := .seq #[] c₀ })
    (q : ∀ h' tk acc' c', (∀ b o, b ≠ S → s.heap.get? b = some o → h'.get? b = some o) → h'.get? S = some { cls := .type "list", dict := none, data := .seq acc' c', slots := #[] } → Got a c n acc' → R (.ok (.ret res)) { s with heap := h', toks := tk }) :
    wpAny (model prog w) A.in1 (Builtin.List.listExtendWith (.ref S) (.ref r) res) (fun fin s' => match fin with | .done f => R (.ok f) s' | .again c' => c'.quiet = true ∧ codeAny (model prog w) A c' R s') (fun e s' => R (.error e) s') s := by
  have nSr : S ≠ r := fun e => by rw [e, z] at yS; simp at yS
  have lS : S < s.heap.objs.size := Heap.lt_size yS
  have nSI : S ≠ s.heap.objs.size := Nat.ne_of_lt lS
  have nSf : S ∉ [s.heap.objs.size] := fun m => nSI (List.mem_singleton.mp m)
  have W := (walks (prog := prog) (w := w) (A := A.in1) hh s.heap.objs.size a c n).toS
  have key : ∀ (h : Heap) (c₁ tk : Nat), Is h s.heap.objs.size (a + ((0 : Nat) : Int) * c) ((n : Int) - ((0 : Nat) : Int)) c → (∀ b o, b ≠ S → s.heap.get? b = some o → h.get? b = some o) →
      h.get? S = some { cls := .type "list", data := .seq #[] c₁ } → codeAny (model prog w) A (.builtin "list.extend.loop" ⟨[.ref S, .ref s.heap.objs.size, res], []⟩) R { s with heap := h, toks := tk } := by
    intro h c₁ tk y1 hk y2
    refine codeAny_extend_loopS W (by rw [sizeLine_eq]; omega) S nSf res n 0 _ #[] c₁ rfl (Nat.zero_le _) y1 y2 (ItemsOf.nil _) fun s' acc' c' m y3 g => ?_
    rw [Moved.eq_with m]
    refine q s'.heap s'.toks acc' c' (fun b o nb e => m.heap b o (fun mm => ?_) (hk b o nb e)) y3 g
    rcases List.mem_cons.mp mm with e' | mm
    · exact nb e'
    · exact absurd (Heap.lt_size e) (by rw [List.mem_singleton.mp mm]; exact Nat.lt_irrefl _)
  unfold Builtin.List.listExtendWith
  refine wpAny_bind (wpAny_typeOf (T := "range") ⟨_, z, rfl⟩ ?_)
  have n1 : Builtin.List.listSameRef (.ref S) (.ref r) = false := by simp [Builtin.List.listSameRef, nSr]
  have n2 : (Value.type "range" == Value.type "list") = false := by decide
  have n3 : (Value.type "range" == Value.type "tuple") = false := by decide
  simp only [n1, n2, n3, Bool.or_false, Bool.false_eq_true, if_false]
  refine wpAny_bind (iter z big ?_)
  refine wpAny_bind (wpAny_holding (wpAny_hint_range (n := n) (Heap.get?_push_of_some _ z) en few ?_))
  have y1 : Is (s.heap.push { cls := .type nm, data := .fields #[rawInt a, rawInt (Builtin.Range.rangeSize a b c), rawInt c] }) s.heap.objs.size (a + ((0 : Nat) : Int) * c) ((n : Int) - ((0 : Nat) : Int)) c := by
    show Is _ _ _ _ _; rw [en]; simpa using Heap.get?_push_size _ rfl
  have y2 := Heap.get?_push_of_some { cls := .type nm, data := .fields #[rawInt a, rawInt (Builtin.Range.rangeSize a b c), rawInt c] } yS
  refine wpAny_ite_split (fun _ => ?_) (fun _ => wpAny_pure ⟨plainId_quiet F.plain_extend_loop _, key _ c₀ _ y1 (fun b o _ e => Heap.get?_push_of_some _ e) y2⟩)
  refine wpAny_bind (wpAny_rule (wpAny_bind ?_))
  show wpAny _ _ (updateSeq S (·.push .none) >>= fun _ => updateSeq S (·.pop)) _ _ _
  refine wpAny_bind (wpAny_updateSeq y2 rfl ?_)
  have y3 := Heap.get?_update_self (Obj.mapSeq (·.push Value.none)) y2 rfl
  refine wpAny_updateSeq (hz := by seq_fits) y3 rfl ?_
  have y4 := Heap.get?_update_self (Obj.mapSeq (·.pop)) y3 rfl
  refine wpAny_pure ⟨plainId_quiet F.plain_extend_loop _, key _ _ _ ?_ (fun b o nb e => ?_) y4⟩
  · exact (Heap.get?_update_other _ _ nSI).trans ((Heap.get?_update_other _ _ nSI).trans y1)
  · exact (Heap.get?_update_other _ _ (Ne.symm nb)).trans ((Heap.get?_update_other _ _ (Ne.symm nb)).trans (Heap.get?_push_of_some _ e))
theorem init {R : Result → Shared → Prop} (hh : A.handled = none) (z : IsRange s.heap r a b c t u v) (big : ¬ Builtin.Range.small a b c = true) (en : Builtin.Range.rangeSize a b c = n) (few : n ≤ 2 ^ 24) (S : Addr) (yS : s.heap.get? S = some { cls := .type "list", data := .seq #[] })
    (q : ∀ h' tk acc' c', (∀ b o, b ≠ S → s.heap.get? b = some o → h'.get? b = some o) → h'.get? S = some { cls := .type "list", dict := none, data := .seq acc' c', slots := #[] } → Got a c n acc' → R (.ok (.ret .none)) { s with heap := h', toks := tk }) :
    wpAny (model prog w) A.in1 (Builtin.«list.__init__» ⟨[.ref S, .ref r], []⟩) (fun fin s' => match fin with | .done f => R (.ok f) s' | .again c' => c'.quiet = true ∧ codeAny (model prog w) A c' R s') (fun e s' => R (.error e) s') s := by
  have nSr : S ≠ r := fun e => by rw [e, z] at yS; simp at yS
  show wpAny _ _ (do let old ← Builtin.List.listItems (.ref S); Builtin.List.listUpdate (.ref S) (fun _ => #[]); letGo old.toList.reverse; Builtin.List.listExtendWith (.ref S) (.ref r) .none) _ _ s
  refine wpAny_bind ?_
  unfold Builtin.List.listItems
  refine wpAny_bind (wpAny_seqItems yS rfl (wpAny_pure ?_))
  show wpAny _ _ (updateSeq S (fun _ => #[]) >>= fun _ => letGo (#[] : Array Value).toList.reverse >>= fun _ => Builtin.List.listExtendWith (.ref S) (.ref r) .none) _ _ s
  refine wpAny_bind (wpAny_updateSeq yS rfl ?_)
  have y2 := Heap.get?_update_self (Obj.mapSeq (fun _ => (#[] : Array Value))) yS rfl
  have oth : ∀ b o, b ≠ S → s.heap.get? b = some o → (s.heap.update S (Obj.mapSeq (fun _ => (#[] : Array Value)))).get? b = some o := fun b o nb e => (Heap.get?_update_other _ _ (Ne.symm nb)).trans e
  refine wpAny_bind (wpAny_letGo (extend hh (oth r _ (Ne.symm nSr) z) big en few S .none _ y2 fun h' tk acc' c' hk y3 g => ?_))
  exact q h' tk acc' c' (fun b o nb e => hk b o nb (oth b o nb e)) y3 g
theorem call_big {Q : Value → Shared → Prop} (hh : A.handled = none) (z : IsRange s.heap r a b c t u v) (big : ¬ Builtin.Range.small a b c = true) (en : Builtin.Range.rangeSize a b c = n) (few : n ≤ 2 ^ 24)
    (q : ∀ h' tk acc' c', (∀ b o, s.heap.get? b = some o → h'.get? b = some o) → h'.get? s.heap.objs.size = some { cls := .type "list", dict := none, data := .seq acc' c', slots := #[] } → Got a c n acc' → Q (.ref s.heap.objs.size) { s with heap := h', toks := tk }) :
    wpAny (model prog w) A (call (.type "list") [.ref r]) Q E s := by
  refine callType_codes (Q₁ := fun obj s₁ => obj = .ref s.heap.objs.size ∧ s₁ = { s with heap := s.heap.push { cls := .type "list", data := .seq #[] } }) F.called_list (F.typeCall_list_1 _) F.entry_list_init (code_list_new _ ⟨rfl, rfl⟩) fun obj s₁ h₁ => ?_
  obtain ⟨rfl, rfl⟩ := h₁
  have yS : (s.heap.push { cls := .type "list", data := .seq #[] }).get? s.heap.objs.size = some { cls := .type "list", data := .seq #[] } := Heap.get?_push_size _ rfl
  refine ⟨⟨_, yS, rfl⟩, F.args_list_init_2 _ _, init (A := A.in1) hh (Heap.get?_push_of_some _ z) big en few _ yS fun h' tk acc' c' hk y2 g => ?_⟩
  exact ⟨rfl, q h' tk acc' c' (fun b o e => hk b o (Nat.ne_of_lt (Heap.lt_size e)) (Heap.get?_push_of_some _ e)) y2 g⟩
/-- list(range(..)) of few numbers -/
theorem call_any {Q : Value → Shared → Prop} (hh : A.handled = none) (z : IsRange s.heap r a b c t u v) (en : Builtin.Range.rangeSize a b c = n) (few : n ≤ 2 ^ 24)
    (q : ∀ h' tk acc' c', (∀ b o, s.heap.get? b = some o → h'.get? b = some o) → h'.get? s.heap.objs.size = some { cls := .type "list", dict := none, data := .seq acc' c', slots := #[] } → Got a c n acc' → Q (.ref s.heap.objs.size) { s with heap := h', toks := tk }) :
    wpAny (model prog w) A (call (.type "list") [.ref r]) Q E s := by
  by_cases hs : Builtin.Range.small a b c = true
  · exact call_list_range hh z hs en few q
  · exact call_big hh z hs en few q
end
end LR
end PySem
namespace DL
open PySem L2 PyProof.Rows
variable [TbC]
section
variable {X : Cx} {e : Expr} {te : L2.St → Hp → (Int → Int → Hp → Prop) → Prop}
def tLstR (te : L2.St → Hp → (Int → Int → Hp → Prop) → Prop) : TE := fun σ H Q => te σ H fun a b H1 => (b - a).toNat ≤ 100000 ∧ ∀ q, H1 q = none → Q (.ref q) (upd H1 q (.lst (rgV a b)))
theorem pe_listR {p pos : Pos} (hc : X.calm = true) (hg : Gl X "list") (hm : X.mg "list" = none) (he : PRg X e te) (na : starEach [e] X.env = (false, eval e X.env) :: starEach [] X.env := by rfl) : PE X (.Call (.Name "list" p) [e] [] pos) (tLstR te) := by
  refine ⟨fun pins s σ H Q I h => ?_⟩
  refine Call_ (ld_blt I hg hm boot_list (PyProof.Rows.callWith_type1 (args_cons (thn (he pins s σ H _ I h) fun x s1 ⟨r, a, b, t, u, v, H1, ex, hr, I1, few, q⟩ => args_nil ?_) na) na))
  subst ex
  refine LR.call_any (n := (b - a).toNat) (I1.ok.hd hc) hr (rangeSize_nat a b) (Nat.le_trans few (by decide)) fun h' tk acc c' hk e' hi => ?_
  refine ⟨.ref s1.heap.objs.size, upd H1 s1.heap.objs.size (.lst (rgV a b)), I1.laid hk (Nat.le_refl _) ?_, rfl, q _ (I1.hok.fresh (Nat.le_refl _))⟩
  refine show ObjOk X.prog X.w _ _ _ (.lst (rgV a b)) from ⟨?_, acc.toList, c', vals_rg hi, by rw [Array.toArray_toList]; exact e'⟩
  rw [rgV_length, sizeLine_eq]
  omega
variable {K : PySem.W.Frag} {ρ : Env} {ta tb : TE}
theorem rgV_rep {H : Hp} (a b : Int) : RepL K H (rgV a b) (rng a (b - a).toNat) := by
  unfold rng
  have key : ∀ l : List Nat, RepL K H (l.map fun i : Nat => V.int (a + (i : Int))) (l.map fun i : Nat => D.int (a + (i : Int))) := by
    intro l
    induction l with
    | nil => exact .nil
    | cons x l ih => exact .cons (.int _) ih
  exact key _
theorem ef_listR2 {a b : Int} (ha : EvD K ta ρ (.int a)) (hb : EvD K tb ρ (.int b)) (hn : (b - a).toNat ≤ 100000) : EvF K (tLstR (tRg2 ta tb)) ρ (rng a (b - a).toNat) := fun B Hs H σ r Q q =>
  ha B Hs H σ r _ fun Hs1 H1 x g1 x1 => hb B Hs1 H1 σ (r.grow g1) _ fun Hs2 H2 y g2 y2 => by
    cases x1
    cases y2
    refine ⟨a, b, rfl, rfl, hn, fun l hl => ?_⟩
    have g := g1.trans g2
    obtain ⟨n1, n2⟩ := gr_none g hl
    exact q Hs2 _ l _ (g.trans (Gr.newO g2.lv hl)) n1 n2 upd_same (rgV_rep a b)
theorem ef_listR1 {b : Int} (hb : EvD K tb ρ (.int b)) (hn : b.toNat ≤ 100000) : EvF K (tLstR (tRg1 tb)) ρ (rng 0 b.toNat) := fun B Hs H σ r Q q =>
  hb B Hs H σ r _ fun Hs2 H2 y g2 y2 => by
    cases y2
    refine ⟨b, rfl, by rw [Int.sub_zero]; exact hn, fun l hl => ?_⟩
    obtain ⟨n1, n2⟩ := gr_none g2 hl
    have z := rgV_rep (K := K) (H := Hs2) 0 b
    rw [Int.sub_zero] at z
    exact q Hs2 _ l _ (g2.trans (Gr.newO g2.lv hl)) n1 n2 upd_same z
end
end DL
namespace DL
open PySem L2
variable [TbC]
theorem small_pos {lo hi c : Int} (h0 : 0 ≤ lo) (h1 : lo ≤ 1000000000000) (h2 : 0 ≤ hi) (h3 : hi ≤ 1000000000000) (h4 : 0 < c) (h5 : c ≤ 1000000000) : Builtin.Range.small lo hi c = true := by
  unfold Builtin.Range.small Builtin.Range.rangeFitsLong Builtin.Range.rangeSize
  have d0 : 0 ≤ (hi - lo - 1) / c ∨ ¬ lo < hi := by
    by_cases h : lo < hi
    · exact Or.inl (Int.ediv_nonneg (by omega) (by omega))
    · exact Or.inr h
  have d1 : (hi - lo - 1) / c ≤ 1000000000000 := Int.ediv_le_of_le_mul h4 (by
    have : (1000000000000 : Int) * 1 ≤ 1000000000000 * c := Int.mul_le_mul_of_nonneg_left (by omega) (by omega)
    omega)
  rw [if_pos h4]
  by_cases h : lo < hi
  · have d0' : 0 ≤ (hi - lo - 1) / c := Int.ediv_nonneg (by omega) (by omega)
    rw [if_pos h, if_pos h4]
    simp only [Bool.and_eq_true, Bool.or_eq_true, decide_eq_true_eq]
    omega
  · rw [if_neg h]
    simp only [Bool.and_eq_true, Bool.or_eq_true, decide_eq_true_eq, beq_iff_eq]
    refine ⟨⟨⟨⟨by omega, by omega⟩, by omega⟩, by omega⟩, Or.inl trivial⟩
/-- range(lo, hi, c), upwards -/
theorem rgc_pos {lo hi c : Int} (h0 : 0 ≤ lo) (h1 : lo ≤ 1000000000000) (h2 : 0 ≤ hi) (h3 : hi ≤ 1000000000000) (h4 : 0 < c) (h5 : c ≤ 1000000000) : RgC lo hi c (if lo < hi then (hi - lo - 1) / c + 1 else 0).toNat := by
  refine ⟨by omega, by omega, small_pos h0 h1 h2 h3 h4 h5, ?_⟩
  unfold Builtin.Range.rangeSize
  rw [if_pos h4]
  by_cases h : lo < hi
  · have d0' : 0 ≤ (hi - lo - 1) / c := Int.ediv_nonneg (by omega) (by omega)
    rw [if_pos h]
    omega
  · rw [if_neg h]
    rfl
theorem rngC_get {lo c : Int} {n i : Nat} {d : D} (h : (rngC lo c n)[i]? = some d) : i < n ∧ d = .int (lo + (i : Int) * c) := by
  unfold rngC at h
  rw [List.getElem?_map] at h
  obtain ⟨j, e1, e2⟩ := Option.map_eq_some_iff.mp h
  obtain ⟨hl, e3⟩ := List.getElem?_eq_some_iff.mp e1
  rw [List.length_range] at hl
  rw [List.getElem_range] at e3
  subst e3
  exact ⟨hl, e2.symm⟩
theorem rngC_length (lo c : Int) (n : Nat) : (rngC lo c n).length = n := by unfold rngC; rw [List.length_map, List.length_range]
/-- a place in a short written list of numbers -/
theorem atI2 {a b i : Int} (h0 : 0 ≤ i) (h1 : i < 2) : atI [D.int a, D.int b] i = some (.int ([a, b].getD i.toNat 0)) := atI_int (xs := [a, b]) h0 h1
theorem atI3 {a b c i : Int} (h0 : 0 ≤ i) (h1 : i < 3) : atI [D.int a, D.int b, D.int c] i = some (.int ([a, b, c].getD i.toNat 0)) := atI_int (xs := [a, b, c]) h0 h1
theorem atI4 {a b c d i : Int} (h0 : 0 ≤ i) (h1 : i < 4) : atI [D.int a, D.int b, D.int c, D.int d] i = some (.int ([a, b, c, d].getD i.toNat 0)) := atI_int (xs := [a, b, c, d]) h0 h1
theorem int4 {i : Int} (h0 : 0 ≤ i) (h1 : i < 4) : i = 0 ∨ i = 1 ∨ i = 2 ∨ i = 3 := by omega
theorem int3 {i : Int} (h0 : 0 ≤ i) (h1 : i < 3) : i = 0 ∨ i = 1 ∨ i = 2 := by omega
end DL
namespace DL
open PySem L2
variable [TbC]
/-- a, a + 1, .., n of them -/
def span (a n : Int) : List Int := (List.range n.toNat).map fun i : Nat => a + (i : Int)
theorem span_length (a n : Int) : (span a n).length = n.toNat := by unfold span; rw [List.length_map, List.length_range]
theorem rng_span (a n : Int) : rng a n.toNat = (span a n).map D.int := by
  unfold rng span
  rw [List.map_map]
  rfl
theorem rng_to (a b n : Int) (h : b = a + n) : rng a (b - a).toNat = (span a n).map D.int := by
  rw [h, show a + n - a = n by omega]
  exact rng_span a n
theorem span_get {a n : Int} {k : Nat} {x : Int} (h : (span a n)[k]? = some x) : a ≤ x ∧ x < a + n ∧ x = a + (k : Int) := by
  unfold span at h
  rw [List.getElem?_map] at h
  obtain ⟨j, e1, e2⟩ := Option.map_eq_some_iff.mp h
  obtain ⟨hl, e3⟩ := List.getElem?_eq_some_iff.mp e1
  rw [List.length_range] at hl
  rw [List.getElem_range] at e3
  subst e3
  omega
theorem span_mem {a n x : Int} : x ∈ span a n ↔ a ≤ x ∧ x < a + n := by
  unfold span
  rw [List.mem_map]
  constructor
  · rintro ⟨i, h1, rfl⟩
    have := List.mem_range.mp h1
    omega
  · rintro ⟨h1, h2⟩
    exact ⟨(x - a).toNat, List.mem_range.mpr (by omega), by omega⟩
section
variable {K : PySem.W.Frag} {ρ : Env} {te : TE} {ds : List D}
/-- a comprehension over numbers a .. a + n - 1 -/
theorem ef_lcR {a n : Int} {w : Int → D} {wi : TI} {g : TG} {vs : List Nat} {m : Nat} (h : EvI K wi ρ (rng a m)) (hm : m = n.toNat) (hz : n ≤ 50000)
    (hs : ∀ x : Int, a ≤ x → x < a + n → ∃ ρ2, EvGc K g (.int x) (wD ρ vs) ρ2 vs ∧ EvD K te ρ2 (w x)) : EvF K (tLc wi g tYes te vs) ρ ((span a n).map w) := by
  subst hm
  exact ef_lc0 (span a n) D.int w rfl (h.is (rng_span a n)) (by rw [span_length]; omega) fun k x hk => hs x (span_get hk).1 (span_get hk).2.1
end
end DL
namespace DL
open PySem L2
variable [TbC]
section
variable {K : PySem.W.Frag} {ρ : Env} {ta : TE} {α : Type} {f : α → D} {xs : List α}
theorem ev_lenM (ha : EvB K ta ρ (xs.map f)) : EvD K (tCB (rLenA K) (tCons ta tNil)) ρ (.int (xs.length : Int)) := (ev_lenLA ha).is (by rw [List.length_map])
theorem ev_lenMT (ha : EvD K ta ρ (.tup (xs.map f))) : EvD K (tCB (rLenA K) (tCons ta tNil)) ρ (.int (xs.length : Int)) := (ev_lenTA ha).is (by rw [List.length_map])
end
end DL

/-! DMore: short circuits, texts, tuples, sorted pairs, own lists emptied. -/
namespace DL
open PySem L2
variable [TbC]
section
variable {K : PySem.W.Frag} {ρ ρ' : Env} {te ti ta tb : TE} {d e : D} {ds es : List D} {tt tu : TT} {R : DEnds} {b : Bool}
theorem et_orT (h : EvT K tt ρ true) : EvT K (tOr tt tu) ρ true := et_or (b := true) h fun z => nomatch z
theorem et_orF (h : EvT K tt ρ false) (h2 : EvT K tu ρ b) : EvT K (tOr tt tu) ρ b := et_or h fun _ => h2
theorem et_andF (h : EvT K tt ρ false) : EvT K (tAnd tt tu) ρ false := et_and (b := true) h fun z => nomatch z
theorem et_andT (h : EvT K tt ρ true) (h2 : EvT K tu ρ b) : EvT K (tAnd tt tu) ρ b := et_and h fun _ => h2
theorem ev_orT (h : EvD K ta ρ (.bl true)) : EvD K (tOrV ta tb) ρ (.bl true) := ev_or (b := true) h fun z => nomatch z
theorem ev_orF (h : EvD K ta ρ (.bl false)) (h2 : EvD K tb ρ (.bl b)) : EvD K (tOrV ta tb) ρ (.bl b) := ev_or h fun _ => h2
theorem ev_andF (h : EvD K ta ρ (.bl false)) : EvD K (tAndV ta tb) ρ (.bl false) := ev_and (b := true) h fun z => nomatch z
theorem ev_andT (h : EvD K ta ρ (.bl true)) (h2 : EvD K tb ρ (.bl b)) : EvD K (tAndV ta tb) ρ (.bl b) := ev_and h fun _ => h2
theorem ev_ifT (h : EvT K tt ρ true) (h1 : EvD K ta ρ d) : EvD K (tIf tt ta tb) ρ d := ev_if h (fun _ => h1) fun z => nomatch z
theorem ev_ifF (h : EvT K tt ρ false) (h1 : EvD K tb ρ d) : EvD K (tIf tt ta tb) ρ d := ev_if h (fun z => nomatch z) fun _ => h1
/-! ### texts -/
theorem str_eqv (x y : Str) : PyData.eqv (D.str x).pd (D.str y).pd = decide (x = y) := by
  show (x == y) = _
  rw [Bool.beq_eq_decide_eq]
theorem ev_eqS {x y : Str} (ha : EvD K ta ρ (.str x)) (hb : EvD K tb ρ (.str y)) (fx : (D.str x).fit = true) (fy : (D.str y).fit = true) : EvD K (tOp (rEqD K) ta tb) ρ (.bl (decide (x = y))) := (ev_eq ha.r hb.r fx fy).is (by rw [str_eqv])
theorem ev_neS {x y : Str} (ha : EvD K ta ρ (.str x)) (hb : EvD K tb ρ (.str y)) (fx : (D.str x).fit = true) (fy : (D.str y).fit = true) : EvD K (tOp (rNeD K) ta tb) ρ (.bl (!decide (x = y))) := (ev_ne ha.r hb.r fx fy).is (by rw [str_eqv])
/-! ### tuples -/
theorem cutD_all (lo hi : Option Int) (h : HT.sIx ds.length 0 lo = 0 ∧ HT.sIx ds.length ds.length hi = ds.length) : cutD ds lo hi = ds := by
  unfold cutD
  rw [h.1, h.2, List.drop_zero, Nat.sub_zero, List.take_length]
theorem ev_slT {tl th : TO} {lo hi : Option Int} (ha : EvD K ta ρ (.tup ds)) (hl : EvO K tl ρ lo) (hh : EvO K th ρ hi) : EvD K (tSl (rSlA' K) ta tl th) ρ (.tup (cutD ds lo hi)) := fun B Hs H σ r Q q =>
  ha B Hs H σ r _ fun Hs1 H1 x g1 x1 => hl B Hs1 H1 σ (r.grow g1) _ fun Hs2 H2 g2 => hh B Hs2 H2 σ ((r.grow g1).grow g2) _ fun Hs3 H3 g3 => by
    cases x1 with
    | @tup p vs _ hp xs =>
      have g := (g1.trans g2).trans g3
      have hp3 : Hs3 p = some (.tup vs) := g3.sh _ _ (g2.sh _ _ hp)
      refine .inr ⟨p, vs, rfl, .of (g3.lv _ _ hp3), fun hf => ?_, fun hf l hn => ?_⟩
      · have e := cutD_all (ds := ds) lo hi (by rw [← xs.length]; exact hf)
        exact q Hs3 H3 _ g (by rw [e]; exact .tup hp3 (xs.mono (g2.sh.trans g3.sh)))
      · obtain ⟨n1, n2⟩ := gr_none g hn
        exact q _ _ _ (g.trans (Gr.new g3.lv hn)) (.tup upd_same (((xs.mono (g2.sh.trans g3.sh)).cut lo hi).mono (Ex.new n2)))
theorem ev_addT (ha : EvD K ta ρ (.tup ds)) (hb : EvD K tb ρ (.tup es)) (hl : ds.length + es.length ≤ 100000) : EvD K (tOp (rAddA K) ta tb) ρ (.tup (ds ++ es)) := fun B Hs H σ r Q q =>
  ha B Hs H σ r _ fun Hs1 H1 x g1 x1 => hb B Hs1 H1 σ (r.grow g1) _ fun Hs2 H2 y g2 y1 => by
    cases x1 with
    | @tup p vs _ hp xs =>
      cases y1 with
      | @tup p2 ws _ hp2 ys =>
        have g := g1.trans g2
        have hp' : Hs2 p = some (.tup vs) := g2.sh _ _ hp
        refine .inr (.inr (.inl ⟨p, p2, vs, ws, rfl, rfl, .of (g2.lv _ _ hp'), .of (g2.lv _ _ hp2), by rw [xs.length, ys.length]; exact sz_of hl, fun hf => ?_, fun _ hf => ?_, fun _ _ l hn => ?_⟩))
        · subst hf
          cases xs
          exact q Hs2 H2 _ g (.tup hp2 ys)
        · subst hf
          cases ys
          exact q Hs2 H2 _ g (by rw [List.append_nil]; exact .tup hp' (xs.mono g2.sh))
        · obtain ⟨n1, n2⟩ := gr_none g hn
          exact q _ _ _ (g.trans (Gr.new g2.lv hn)) (.tup upd_same (((xs.mono g2.sh).append ys).mono (Ex.new n2)))
/-- == and != with () -/
theorem ev_eqNT {xs : List D} (ha : EvR K ta ρ (.tup xs)) (hb : EvR K tb ρ (.tup [])) (fx : (D.tup xs).fit = true) : EvD K (tOp (rEqD K) ta tb) ρ (.bl xs.isEmpty) := (ev_eq ha hb fx rfl).is (by
  cases xs <;> rfl)
theorem ev_neNT {xs : List D} (ha : EvR K ta ρ (.tup xs)) (hb : EvR K tb ρ (.tup [])) (fx : (D.tup xs).fit = true) : EvD K (tOp (rNeD K) ta tb) ρ (.bl (!xs.isEmpty)) := (ev_ne ha hb fx rfl).is (by
  cases xs <;> rfl)
/-! ### int(True), divmod -/
abbrev rInt1 : List V → Hp → VK → Prop := fun xs H Q => (∃ i, xs = [V.int i] ∧ Q (.int i) H) ∨ ∃ k, xs = [V.bl k] ∧ Q (.int (if k then 1 else 0)) H
theorem ev_intI {i : Int} (ha : EvD K ta ρ (.int i)) : EvD K (tCB rInt1 (tCons ta tNil)) ρ (.int i) := fun B Hs H σ r Q q =>
  ha B Hs H σ r _ fun Hs1 H1 v g x => by
    cases x
    exact .inl ⟨i, rfl, q Hs1 H1 _ g (.int _)⟩
theorem ev_intB {k : Bool} (ha : EvD K ta ρ (.bl k)) : EvD K (tCB rInt1 (tCons ta tNil)) ρ (.int (if k then 1 else 0)) := fun B Hs H σ r Q q =>
  ha B Hs H σ r _ fun Hs1 H1 v g x => by
    cases x
    exact .inr ⟨k, rfl, q Hs1 H1 _ g (.int _)⟩
abbrev rDivmod : List V → Hp → VK → Prop := fun xs H Q => ∃ i j : Int, xs = [V.int i, V.int j] ∧ CDiv i j ∧ ∀ p, H p = none → Q (.ref p) (upd H p (.tup [V.int (i / j), V.int (i % j)]))
theorem ev_divmod {i j : Int} (ha : EvD K ta ρ (.int i)) (hb : EvD K tb ρ (.int j)) (hc : CDiv i j) : EvD K (tCB rDivmod (tCons ta (tCons tb tNil))) ρ (.tup [.int (i / j), .int (i % j)]) := fun B Hs H σ r Q q =>
  ha B Hs H σ r _ fun Hs1 H1 v g1 x => hb B Hs1 H1 σ (r.grow g1) _ fun Hs2 H2 w g2 y => by
    cases x
    cases y
    refine ⟨i, j, rfl, hc, fun p hn => ?_⟩
    have g := g1.trans g2
    obtain ⟨n1, n2⟩ := gr_none g hn
    exact q _ _ _ (g.trans (Gr.new g2.lv hn)) (.tup upd_same (.cons (.int _) (.cons (.int _) .nil)))
/-! ### xs[::-1] -/
theorem ef_rev (ha : EvB K ta ρ ds) : EvF K (tRevL K ta) ρ ds.reverse := fun B Hs H σ r Q q =>
  ha B Hs H σ r _ fun Hs1 H1 p vs g hp xs => ⟨p, vs, rfl, hp, fun l hn => by
    obtain ⟨n1, n2⟩ := gr_none g hn
    exact q Hs1 _ l _ (g.trans (Gr.newO g.lv hn)) n1 n2 upd_same xs.rev⟩
/-! ### sorted of pairs of numbers: some arrangement -/
theorem perm_reps {H : Hp} : ∀ {vs ws : List V}, ws.Perm vs → ∀ {ds : List D}, RepL K H vs ds → ∃ es, es.Perm ds ∧ RepL K H ws es := by
  intro vs ws hp
  induction hp with
  | nil => intro ds h; cases h; exact ⟨[], .nil, .nil⟩
  | cons x _ ih =>
    intro ds h
    cases h with
    | cons a b =>
      obtain ⟨es, p, r⟩ := ih b
      exact ⟨_ :: es, p.cons _, .cons a r⟩
  | swap x y l =>
    intro ds h
    cases h with
    | cons a b =>
      cases b with
      | cons c d => exact ⟨_, List.Perm.swap _ _ _, .cons c (.cons a d)⟩
  | trans _ _ ih1 ih2 =>
    intro ds h
    obtain ⟨es, p, r⟩ := ih2 h
    obtain ⟨fs, p2, r2⟩ := ih1 r
    exact ⟨fs, p2.trans p, r2⟩
theorem xs_sortP {i : Nat} {ps : List (Int × Int)} (ha : EvB K ta ρ (ps.map fun x => D.tup [.int x.1, .int x.2])) (q : ∀ qs : List (Int × Int), qs.Perm ps → R.nx (ρ.set i (some (.ol (qs.map fun x => D.tup [.int x.1, .int x.2]))))) :
    ExS K (tAsg (tCB (rSortedP K) (tCons ta tNil)) (gName i)) ρ R := fun B Hs H σ Dn r l =>
  ha B Hs H σ r _ fun Hs1 H1 p vs g hp xs => by
    refine ⟨p, vs, rfl, hp, fun x m => ?_, fun ys p2 pm hn => ?_⟩
    · obtain ⟨j, hj⟩ := List.mem_iff_getElem?.mp m
      obtain ⟨d, hd, rd⟩ := xs.get hj
      rw [List.getElem?_map] at hd
      obtain ⟨z, _, rfl⟩ := Option.map_eq_some_iff.mp hd
      cases rd with
      | @tup t ws _ ht rs =>
        have e := RepL.ints (ns := [z.1, z.2]) rs
        subst e
        exact ⟨t, z.1, z.2, rfl, g.lv _ _ ht⟩
    · obtain ⟨es, pe, re⟩ := perm_reps pm xs
      obtain ⟨n1, n2⟩ := gr_none g hn
      have key : ∀ {es ds : List D}, es.Perm ds → ∀ ps : List (Int × Int), ds = ps.map (fun x => D.tup [.int x.1, .int x.2]) → ∃ qs : List (Int × Int), qs.Perm ps ∧ es = qs.map fun x => D.tup [.int x.1, .int x.2] := by
        intro es ds hp
        induction hp with
        | nil =>
          intro ps e
          cases ps with
          | nil => exact ⟨[], .nil, rfl⟩
          | cons _ _ => cases e
        | cons x _ ih =>
          intro ps e
          cases ps with
          | nil => cases e
          | cons a ps =>
            have e1 := (List.cons.inj e).1
            obtain ⟨qs, h1, h2⟩ := ih ps (List.cons.inj e).2
            exact ⟨a :: qs, h1.cons _, by rw [e1, h2]; rfl⟩
        | swap x y l =>
          intro ps e
          match ps, e with
          | a :: b :: ps, e =>
            have e1 := (List.cons.inj e).1
            have e2 := (List.cons.inj (List.cons.inj e).2).1
            have e3 := (List.cons.inj (List.cons.inj e).2).2
            exact ⟨b :: a :: ps, List.Perm.swap _ _ _, by rw [e1, e2, e3]; rfl⟩
        | trans _ _ ih1 ih2 =>
          intro ps e
          obtain ⟨qs, h1, h2⟩ := ih2 ps e
          obtain ⟨rs, h3, h4⟩ := ih1 qs h2
          exact ⟨rs, h3.trans h1, h4⟩
      obtain ⟨qs, h1, rfl⟩ := key pe ps rfl
      exact l.nx _ _ _ _ (r.setO (g.trans (Gr.newO g.lv hn)) i n1 upd_same n2 re) (q qs h1)
/-! ### own lists -/
/-- xs.clear() -/
theorem xs_clear {i : Nat} (hx : ρ[i]? = some (some (.ol ds))) (q : R.nx (ρ.set i (some (.ol [])))) : ExS K (tDrop (tBM0 K "list" rClear (tVar i))) ρ R := fun B Hs H σ Dn r l => by
  obtain ⟨p, vs, e, hp, x, m⟩ := r.mutL i hx
  refine ⟨.ref p, e, .inl ⟨rfl, _, .of hp⟩, p, vs, rfl, rfl, hp, ?_⟩
  exact l.nx Hs _ _ _ (m _ _ .nil) q
/-- an own list comes back as a new one -/
theorem xs_retV {i : Nat} (hi : ρ[i]? = some (some (.ol ds))) (q : R.rf ds) : ExS K (tRet (tVar i)) ρ R := fun B Hs H σ Dn r l => by
  obtain ⟨S, h1, h2, h3, h4⟩ := id r.reg
  obtain ⟨v, hv, p, vs, e1, e2, x⟩ := h1 i _ hi
  subst e1
  have hp : S i p = some (.lst vs) := by rw [e2]; exact if_pos rfl
  exact ⟨.ref p, hv, l.rf Hs H p vs ds r.gr (h4 i _ p hi rfl (by rw [hp]; exact fun z => nomatch z)) (h2 i p _ hp).2.1 (h2 i p _ hp).1 x q⟩
/-- what follows is shown once, whatever way came ahead -/
theorem xs_cut {ts us : TS} (I : Env → Prop) (h1 : ExS K ts ρ { R with nx := I }) (h2 : ∀ ρ', I ρ' → ExS K us ρ' R) : ExS K (tSeq ts us) ρ R := fun B Hs H σ Dn r l =>
  h1 B Hs H σ _ r ⟨fun Hs' H' σ' ρ' r' q => h2 ρ' q B Hs' H' σ' Dn r' l, l.rt, l.rf, l.bk, l.ct, l.ro, l.ex, l.rn⟩
/-- a value of which only something is known -/
theorem xs_asgR {α : Type} {pre : α → Prop} {arg : α → List D} {post : α → D → Prop} {E : XK} {ta : TA} {i : Nat} (x : α) (h : EvA K ta ρ (arg x)) (p : pre x) (q : ∀ d, post x d → R.nx (ρ.set i (some (.sh d)))) :
    ExS K (tAsg (tCall (spR K pre arg post) [] E ta) (gName i)) ρ R := fun B Hs H σ Dn r l =>
  h B Hs H σ r _ fun Hs1 H1 vs g1 xs => by
    rw [List.append_nil]
    exact ⟨Hs1, x, ⟨g1.lv, (r.grow g1).tb⟩, xs, p, fun Hs' H' v d g y e => l.nx Hs' H' _ _ ((r.grow (g1.trans g)).set i y) (q d e)⟩
theorem xs_retR {α : Type} {pre : α → Prop} {arg : α → List D} {post : α → D → Prop} {E : XK} {ta : TA} (x : α) (h : EvA K ta ρ (arg x)) (p : pre x) (q : ∀ d, post x d → R.rt d) :
    ExS K (tRet (tCall (spR K pre arg post) [] E ta)) ρ R := fun B Hs H σ Dn r l =>
  h B Hs H σ r _ fun Hs1 H1 vs g1 xs => by
    rw [List.append_nil]
    exact ⟨Hs1, x, ⟨g1.lv, (r.grow g1).tb⟩, xs, p, fun Hs' H' v d g y e => l.rt Hs' H' v d (r.gr.trans (g1.trans g)) y (q d e)⟩
theorem ev_lenS1 {α : Type} {f : α → D} {xs : List α} {d : D} (ha : EvB K ta ρ (xs.map f ++ [d])) : EvD K (tCB (rLenA K) (tCons ta tNil)) ρ (.int ((xs.length : Int) + 1)) := (ev_lenLA ha).is (by simp)
/-! ### in -/
theorem inV_ints (i : Int) : ∀ xs : List Int, inV (.int i) (xs.map V.int) = decide (i ∈ xs)
  | [] => rfl
  | x :: xs => by
    have ih := inV_ints i xs
    unfold inV at ih ⊢
    rw [List.map_cons, List.any_cons, ih]
    by_cases h : x = i
    · subst h
      simp [eqV]
    · have h2 : (x == i) = false := by simpa using h
      have h3 : ¬ i = x := fun z => h z.symm
      simp [eqV, h2, h3]
theorem ev_inI {i : Int} {xs : List Int} (ha : EvD K ta ρ (.int i)) (hb : EvB K tb ρ (xs.map D.int)) : EvD K (tOp (rInA K) ta tb) ρ (.bl (decide (i ∈ xs))) := fun B Hs H σ r Q q =>
  ha B Hs H σ r _ fun Hs1 H1 x g1 x1 => hb B Hs1 H1 σ (r.grow g1) _ fun Hs2 H2 p vs g2 hp ys => by
    cases x1
    have e := ys.ints
    subst e
    refine .inl ⟨p, xs.map V.int, rfl, .inl hp, rfl, by simp [flatV], ?_⟩
    rw [if_neg (by decide), inV_ints]
    exact q Hs2 H2 _ (g1.trans g2) (.bl _)
theorem ev_notInI {i : Int} {xs : List Int} (ha : EvD K ta ρ (.int i)) (hb : EvB K tb ρ (xs.map D.int)) : EvD K (tOp (rNotInA K) ta tb) ρ (.bl (!decide (i ∈ xs))) := fun B Hs H σ r Q q =>
  ha B Hs H σ r _ fun Hs1 H1 x g1 x1 => hb B Hs1 H1 σ (r.grow g1) _ fun Hs2 H2 p vs g2 hp ys => by
    cases x1
    have e := ys.ints
    subst e
    refine .inl ⟨p, xs.map V.int, rfl, .inl hp, rfl, by simp [flatV], ?_⟩
    rw [if_pos rfl, inV_ints]
    exact q Hs2 H2 _ (g1.trans g2) (.bl _)
/-- in a list of data of a kind -/
theorem any_cod {α : Type} [DecidableEq α] {n : Nat} {f : α → D} (c : Cod n f) (x : α) : ∀ xs : List α, (D.pds (xs.map f)).any (fun z => PyData.eqv z (f x).pd) = decide (x ∈ xs)
  | [] => rfl
  | y :: ys => by
    have ih := any_cod c x ys
    show (PyData.eqv (f y).pd (f x).pd || (D.pds (ys.map f)).any fun z => PyData.eqv z (f x).pd) = _
    rw [ih, c.eq]
    by_cases h : y = x
    · subst h
      simp
    · have h3 : ¬ x = y := fun z => h z.symm
      simp [h, h3]
theorem ev_inC {α : Type} [DecidableEq α] {n : Nat} {f : α → D} (c : Cod n f) (hn : n < 64) {x : α} {xs : List α} (ha : EvR K ta ρ (f x)) (hb : EvR K tb ρ (.lst (xs.map f))) : EvD K (tOp (rInA K) ta tb) ρ (.bl (decide (x ∈ xs))) := fun B Hs H σ r Q q =>
  ha B Hs H σ r _ fun Hs1 H1 x g1 x1 => hb B Hs1 H1 σ (r.grow g1) _ fun Hs2 H2 y g2 y1 => by
    have f1 := c.fit (by omega) ‹α›
    have f2 := c.lst.fit (by omega) xs
    unfold D.fit at f1 f2
    rw [Bool.and_eq_true] at f1 f2
    refine .inr (.inl ⟨_, _, (x1.monoN g2.fr).dp f1.1, y1.dp f2.1, f1.2, f2.2, ?_⟩)
    rw [any_cod c]
    exact q Hs2 H2 _ (g1.trans g2) (.bl _)
/-! ### the same data on both sides -/
mutual
theorem D.eqv_refl : ∀ d : D, PyData.eqv d.pd d.pd = true
  | .non => rfl
  | .bl b => by show (b == b) = true; exact beq_self_eq_true b
  | .int i => by show (i == i) = true; exact beq_self_eq_true i
  | .str s => by rw [str_eqv]; exact decide_eq_true rfl
  | .ty _ => rfl
  | .fn _ => rfl
  | .clo _ _ _ => rfl
  | .lst xs => D.eqv_refls xs
  | .scr xs => D.eqv_refls xs
  | .tup xs => D.eqv_refls xs
  | .obj _ _ _ => rfl
theorem D.eqv_refls : ∀ ds : List D, PyData.eqvAll (D.pds ds) (D.pds ds) = true
  | [] => rfl
  | d :: ds => by
    show (PyData.eqv d.pd d.pd && PyData.eqvAll (D.pds ds) (D.pds ds)) = true
    rw [D.eqv_refl d, D.eqv_refls ds]
    rfl
end
structure Ft (n : Nat) (d : D) : Prop where
  pl : d.pl = true
  lay : d.pd.canLay0 = true
  dp : d.pd.depth ≤ n
theorem Ft.fit {n : Nat} {d : D} (f : Ft n d) (hn : n ≤ 64) : d.fit = true := by
  unfold D.fit SeqAt.shaped
  have h2 : decide (d.pd.depth ≤ 64) = true := decide_eq_true (Nat.le_trans f.dp hn)
  rw [f.pl, f.lay, h2]
  rfl
theorem Ft.up {n m : Nat} {d : D} (f : Ft n d) (h : n ≤ m) : Ft m d := ⟨f.pl, f.lay, Nat.le_trans f.dp h⟩
theorem ft_int (i : Int) : Ft 0 (.int i) := ⟨rfl, rfl, Nat.le_refl _⟩
theorem ft_bl (i : Bool) : Ft 0 (.bl i) := ⟨rfl, rfl, Nat.le_refl _⟩
theorem ft_non : Ft 0 .non := ⟨rfl, rfl, Nat.le_refl _⟩
theorem ft_str {x : Str} (h : (D.str x).pd.canLay0 = true) : Ft 0 (.str x) := ⟨rfl, h, Nat.le_refl _⟩
theorem ft_alls {n : Nat} : ∀ ds : List D, (∀ d ∈ ds, Ft n d) → D.pls ds = true ∧ PyData.canLayAll0 (D.pds ds) = true ∧ PyData.depthAll (D.pds ds) ≤ n
  | [], _ => ⟨rfl, rfl, Nat.zero_le _⟩
  | d :: ds, h => by
    obtain ⟨h1, h2, h3⟩ := ft_alls ds fun x hx => h x (List.mem_cons_of_mem _ hx)
    have f := h d List.mem_cons_self
    refine ⟨?_, ?_, ?_⟩
    · show (D.pl d && D.pls ds) = true
      rw [f.pl, h1]
      rfl
    · show (PyData.canLay0 d.pd && PyData.canLayAll0 (D.pds ds)) = true
      rw [f.lay, h2]
      rfl
    · have := f.dp
      show PyData.depthAll (d.pd :: D.pds ds) ≤ n
      simp only [PyData.depthAll]
      omega
theorem ft_tup {n : Nat} {ds : List D} (h : ∀ d ∈ ds, Ft n d) : Ft (n + 1) (.tup ds) := by
  obtain ⟨h1, h2, h3⟩ := ft_alls ds h
  refine ⟨h1, h2, ?_⟩
  show PyData.depthAll (D.pds ds) + 1 ≤ n + 1
  omega
theorem ft_lst {n : Nat} {ds : List D} (h : ∀ d ∈ ds, Ft n d) : Ft (n + 1) (.lst ds) := by
  obtain ⟨h1, h2, h3⟩ := ft_alls ds h
  refine ⟨h1, h2, ?_⟩
  show PyData.depthAll (D.pds ds) + 1 ≤ n + 1
  omega
theorem ft_ints (xs : List Int) : Ft 1 (.lst (xs.map .int)) := ft_lst fun d h => by
  obtain ⟨i, _, rfl⟩ := List.mem_map.mp h
  exact ft_int i
theorem ft_tints (xs : List Int) : Ft 1 (.tup (xs.map .int)) := ft_tup fun d h => by
  obtain ⟨i, _, rfl⟩ := List.mem_map.mp h
  exact ft_int i
theorem ev_eqX {d : D} (ha : EvR K ta ρ d) (hb : EvR K tb ρ d) (f : d.fit = true) : EvD K (tOp (rEqD K) ta tb) ρ (.bl true) := (ev_eq ha hb f f).is (by rw [D.eqv_refl])
theorem ev_neX {d : D} (ha : EvR K ta ρ d) (hb : EvR K tb ρ d) (f : d.fit = true) : EvD K (tOp (rNeD K) ta tb) ρ (.bl false) := (ev_ne ha hb f f).is (by rw [D.eqv_refl]; rfl)
/-- stretches of a .. a + n - 1 -/
theorem span_take (a n : Int) (m : Nat) : (span a n).take m = span a (min (m : Int) n) := by
  unfold span
  rw [← List.map_take, List.take_range]
  congr 2
  omega
theorem span_drop (a n : Int) (m : Nat) : (span a n).drop m = span (a + m) (n - m) := by
  unfold span
  apply List.ext_getElem
  · simp only [List.length_drop, List.length_map, List.length_range]
    omega
  · intro i h1 h2
    simp only [List.getElem_drop, List.getElem_map, List.getElem_range]
    omega
theorem filter_perm {α : Type} (p : α → Bool) : ∀ xs : List α, (xs.filter p ++ xs.filter fun x => !p x).Perm xs
  | [] => .nil
  | x :: xs => by
    have ih := filter_perm p xs
    cases h : p x with
    | true =>
      rw [List.filter_cons_of_pos h, List.filter_cons_of_neg (by simp [h])]
      exact ih.cons x
    | false =>
      rw [List.filter_cons_of_neg (by simp [h]), List.filter_cons_of_pos (by simp [h])]
      exact List.perm_middle.trans (ih.cons x)
theorem get_span {α : Type} (xs : List α) (d : α) : (span 0 (xs.length : Int)).map (fun k => xs.getD k.toNat d) = xs := by
  unfold span
  rw [List.map_map]
  apply List.ext_getElem
  · simp
  · intro i h1 h2
    simp only [List.getElem_map, List.getElem_range, Function.comp_apply]
    rw [show ((0 : Int) + (i : Int)).toNat = i by omega, List.getD_eq_getElem?_getD, List.getElem?_eq_getElem h2]
    rfl
/-- f(g(..)), of g's answer only something is known -/
theorem ev_call_R {α β : Type} {pre : α → Prop} {arg : α → List D} {post : α → D → Prop} {pre2 : β → Prop} {arg2 : β → List D} {res2 : β → D} {E E2 : XK} {ta : TA} (x : α) (h : EvA K ta ρ (arg x)) (p : pre x) (k : ∀ e, post x e → ∃ y : β, arg2 y = [e] ∧ pre2 y ∧ res2 y = d) :
    EvD K (tCall (spG K pre2 arg2 res2) [] E2 (tCons (tCall (spR K pre arg post) [] E ta) tNil)) ρ d := fun B Hs H σ r Q q =>
  h B Hs H σ r _ fun Hs1 H1 vs g1 xs => by
    rw [List.append_nil]
    refine ⟨Hs1, x, ⟨g1.lv, (r.grow g1).tb⟩, xs, p, fun Hs' H' v e g y z => ?_⟩
    obtain ⟨b, e1, e2, e3⟩ := k e z
    show spG K pre2 arg2 res2 ([v] ++ []) H' Q E2
    exact ⟨Hs', b, ⟨g.lv, (r.grow (g1.trans g)).tb⟩, by rw [e1]; exact .cons y .nil, e2, fun Hs2 H2 u f g2 y2 z2 => q Hs2 H2 u ((g1.trans g).trans g2) (by rw [z2, e3] at y2; exact y2)⟩
/-- a statement that is never reached -/
theorem xs_never (h : False) {t : TS} : ExS K t ρ R := h.elim
end
section
variable {X : Cx} {K : PySem.W.Frag}
theorem revLK (h : X.K = K) {e : Expr} {te : TE} {k : Nat} {p1 p2 p3 pos : Pos} (he : PE X e te) : PE X (.Subscript e (.Slice none none (some (.UnaryOp .USub (.Constant (.int 1) k p1) p2)) p3) pos) (tRevL K te) := by subst h; exact pe_revL he
theorem sortPK (h : X.K = K) : CallR X (.builtin "sorted") (rSortedP K) := by subst h; exact cr_sortedP
end
end DL

/-! DTree: slots that hold trees: reading at a path, changing there, new trees, freezing. -/
namespace DL
open PySem L2
variable [TbC]
/-- whether made in this frame; which value it is, where that is told -/
structure Nw where
  b : Bool
  pv : Option V
instance : Coe Bool Nw := ⟨fun b => ⟨b, none⟩⟩
@[reducible] def SV.tr (K : PySem.W.Frag) (nw : Nw) (o : O) : SV := .ow nw.b (fun Hs v R => (∀ w, nw.pv = some w → v = w) ∧ Own K Hs v o R) fun _ _ _ h => h.2.pl
theorem nopv {v : V} {b : Bool} : ∀ w, (⟨b, none⟩ : Nw).pv = some w → v = w := fun _ z => nomatch z
section
variable {K : PySem.W.Frag} {B : Base} {Hs H Hs' H' : Hp} {σ : St} {ρ ρ' : Env} {nw : Nw} {o o1 : O} {i : Nat} {p : List Nat}
/-- what lies at a path of slot i's tree, and how it may be changed -/
theorem RS.part (r : RS K B Hs H σ ρ) {R : Nat → Hp} (rg : Reg K B Hs H σ ρ R) (hi : ρ[i]? = some (some (.tr K nw o))) (hp : o.at_ p = some o1) :
    ∃ v0 v1 S, σ[i]? = some (some v0) ∧ VAt H v0 p v1 ∧ Own K Hs v1 o1 S ∧ (∀ a u, S a = some u → H a = some u ∧ Hs a = none ∧ R i a ≠ none) ∧
      ∀ {H' S' : Hp} {o' : O}, Own K Hs v1 o' S' → (∀ a u, S' a = some u → H' a = some u ∧ (S a ≠ none ∨ Fresh B Hs R a)) → (∀ a u, S a = none → H a = some u → H' a = some u) → (∀ a, H a ≠ none → H' a ≠ none) → Ch H H' → RS K B Hs H' σ (ρ.set i (some (.tr K nw (o.put p o')))) := by
  obtain ⟨v0, hv, hh⟩ := rg.1 i _ hi
  have ow : Own K Hs v0 o (R i) := (hh Hs (Ex.refl Hs)).2
  obtain ⟨v1, S, T, va, h1, d1, e1, k1⟩ := ow.part hp
  have sub : ∀ a u, S a = some u → R i a = some u := fun a u e => by rw [e1, jn_l e]
  refine ⟨v0, v1, S, hv, va.mono fun a u e => (rg.2.1 i a u e).1, h1, fun a u e => ⟨(rg.2.1 i a u (sub a u e)).1, (rg.2.1 i a u (sub a u e)).2.1, by rw [sub a u e]; exact fun z => nomatch z⟩, fun {H' S' o'} h' c1 c2 c3 c4 => ?_⟩
  have dT : ∀ a, S' a ≠ none → T a = none := fun a ha => by
    cases z : S' a with
    | none => exact absurd z ha
    | some u =>
      rcases (c1 a u z).2 with y | y
      · exact d1 a y
      · have := y.1 i
        rw [e1] at this
        exact (jn_none.mp this).2
  refine r.mutR rg i hi (fun z => z) hv (T := jn S' T) (fun Hs1 x => ⟨(hh Hs (Ex.refl Hs)).1, (k1 (Ex.refl Hs) h' dT).mono x⟩) (fun a u e => ?_) (fun a u e e' => ?_) c3 c4
  · cases z : S' a with
    | some w =>
      rw [jn_l z] at e
      have e' := Option.some.inj e
      subst e'
      refine ⟨(c1 a w z).1, (c1 a w z).2.imp (fun y => ?_) id⟩
      rw [e1]
      intro q
      exact y (jn_none.mp q).1
    | none =>
      rw [jn_r z] at e
      have hS : S a = none := by
        cases y : S a with
        | none => rfl
        | some w =>
          rw [d1 a (by rw [y]; exact fun z => nomatch z)] at e
          cases e
      have hR : R i a = some u := by rw [e1, jn_r hS, e]
      exact ⟨c2 a u hS (rg.2.1 i a u hR).1, .inl (by rw [hR]; exact fun z => nomatch z)⟩
  · rw [e1] at e
    exact c2 a u (jn_none.mp e).1 e'
/-! ### freezing -/
mutual
def O.toD : O → D
  | .sh d => d
  | .ol xs => .lst (O.toDs xs)
  | .ob C ns xs => .obj C ns (O.toDs xs)
  | .dg _ _ => .non
def O.toDs : List O → List D
  | [] => []
  | x :: xs => x.toD :: O.toDs xs
end
mutual
/-- no dict in it -/
def O.frz : O → Bool
  | .sh _ => true
  | .ol xs => O.frzs xs
  | .ob _ _ xs => O.frzs xs
  | .dg _ _ => false
def O.frzs : List O → Bool
  | [] => true
  | x :: xs => x.frz && O.frzs xs
end
theorem jn_ex {R S Hs : Hp} (h : ∀ a u, R a = some u → S a = some u) : Ex (jn R Hs) (jn S Hs) → Ex (jn R Hs) (jn S Hs) := id
mutual
theorem Own.fz : ∀ {v : V} {o : O} {R : Hp}, Own K Hs v o R → o.frz = true → (∀ a u, R a = some u → Hs a = none) → ∀ G, (∀ a u, R a = some u → G a = some u) → Ex Hs G → Rep K G v o.toD
  | _, _, _, .sh h, _, _, G, _, e => by
    unfold O.toD
    exact h.mono e
  | _, _, _, .ol (p := p) (vs := vs) (R := R1) n h, f, d, G, g, e => by
    unfold O.toD
    refine .lst (g p _ upd_same) (OwnL.fz h (by unfold O.frz at f; exact f) (fun a u z => ?_) G (fun a u z => ?_) e)
    · have na : a ≠ p := fun y => by rw [y, n] at z; cases z
      exact d a u (by rw [upd_ne na]; exact z)
    · have na : a ≠ p := fun y => by rw [y, n] at z; cases z
      exact g a u (by rw [upd_ne na]; exact z)
  | _, _, _, .ob (p := p) (vs := vs) (R := R1) n l h, f, d, G, g, e => by
    unfold O.toD
    refine .obj (g p _ upd_same) (OwnL.fz h (by unfold O.frz at f; exact f) (fun a u z => ?_) G (fun a u z => ?_) e)
    · have na : a ≠ p := fun y => by rw [y, n] at z; cases z
      exact d a u (by rw [upd_ne na]; exact z)
    · have na : a ≠ p := fun y => by rw [y, n] at z; cases z
      exact g a u (by rw [upd_ne na]; exact z)
  | _, _, _, .dg _, f, _, _, _, _ => by cases f
theorem OwnL.fz : ∀ {vs : List V} {os : List O} {R : Hp}, OwnL K Hs vs os R → O.frzs os = true → (∀ a u, R a = some u → Hs a = none) → ∀ G, (∀ a u, R a = some u → G a = some u) → Ex Hs G → RepL K G vs (O.toDs os)
  | _, _, _, .nil, _, _, G, _, _ => by
    unfold O.toDs
    exact .nil
  | _, _, _, .cons (R := R1) (S := R2) h r c, f, d, G, g, e => by
    unfold O.toDs
    unfold O.frzs at f
    rw [Bool.and_eq_true] at f
    refine .cons (Own.fz h f.1 (fun a u z => d a u (jn_l z)) G (fun a u z => g a u (jn_l z)) e) (OwnL.fz r f.2 (fun a u z => ?_) G (fun a u z => ?_) e)
    · have : R1 a = none := by
        cases y : R1 a with
        | none => rfl
        | some w =>
          rw [c a (by rw [y]; exact fun q => nomatch q)] at z
          cases z
      exact d a u (by rw [jn_r this]; exact z)
    · have : R1 a = none := by
        cases y : R1 a with
        | none => rfl
        | some w =>
          rw [c a (by rw [y]; exact fun q => nomatch q)] at z
          cases z
      exact g a u (by rw [jn_r this]; exact z)
end
theorem Own.fzJ {v : V} {R : Hp} (h : Own K Hs v o R) (f : o.frz = true) (d : ∀ a u, R a = some u → Hs a = none) : Rep K (jn R Hs) v o.toD :=
  h.fz f d (jn R Hs) (fun a u z => jn_l z) fun a u z => by
    rw [jn_r]
    · exact z
    · cases y : R a with
      | none => rfl
      | some w =>
        rw [d a w y] at z
        cases z
theorem RS.fzT (r : RS K B Hs H σ ρ) (hi : ρ[i]? = some (some (.tr K nw o))) (hn : nw.b = true ∨ ∀ a, ¬ Pn B.h a) (f : o.frz = true) : ∃ Hs2, Ex Hs Hs2 ∧ Ex Hs2 H ∧ RS K B Hs2 H σ (ρ.set i (some (.sh o.toD))) :=
  r.fzR i hi hn fun v R hh d => Own.fzJ (hh Hs (Ex.refl Hs)).2 f d
end
section
variable {K : PySem.W.Frag} {ρ ρ' : Env} {nw : Nw} {o o1 o2 : O} {i : Nat} {p : List Nat} {te ta tb ti tw : TE} {d : D} {ds es : List D} {tt : TT} {R : DEnds} {xs : List O}
theorem xs_frz {ts : TS} (i : Nat) (hi : ρ[i]? = some (some (.tr K true o))) (f : o.frz = true) (h : ExS K ts (ρ.set i (some (.sh o.toD))) R) : ExS K ts ρ R := fun B Hs H σ Dn r l => by
  obtain ⟨Hs2, e1, e2, r2⟩ := r.fzT hi (.inl rfl) f
  exact h B Hs2 H σ Dn r2 l
theorem EvD.thawT (i : Nat) (hi : ρ[i]? = some (some (.tr K nw o))) (f : o.frz = true) (h : EvD K te (ρ.set i (some (.sh o.toD))) d) (hd : d.scal = true) : EvD K te ρ d := fun B Hs H σ r Q q => by
  obtain ⟨Hs2, e1, e2, r2⟩ := r.temp.fzT hi (.inr fun _ => npl_pn _) f
  exact h _ Hs2 H σ r2 Q fun Hs' H' v g x => q Hs H' v (gr_thaw e1 g) (x.scal hd)
theorem EvT.thawT (i : Nat) {b : Bool} (hi : ρ[i]? = some (some (.tr K nw o))) (f : o.frz = true) (h : EvT K tt (ρ.set i (some (.sh o.toD))) b) : EvT K tt ρ b := fun B Hs H σ r Q q => by
  obtain ⟨Hs2, e1, e2, r2⟩ := r.temp.fzT hi (.inr fun _ => npl_pn _) f
  exact h _ Hs2 H σ r2 Q fun Hs' H' g => q Hs H' (gr_thaw e1 g)
theorem EvF.thawT (i : Nat) (hi : ρ[i]? = some (some (.tr K nw o))) (f : o.frz = true) (h : EvF K te (ρ.set i (some (.sh o.toD))) es) (hd : es.all D.scal = true) : EvF K te ρ es := fun B Hs H σ r Q q => by
  obtain ⟨Hs2, e1, e2, r2⟩ := r.temp.fzT hi (.inr fun _ => npl_pn _) f
  refine h _ Hs2 H σ r2 Q fun Hs' H' p vs g n ns e x => q Hs H' p vs (gr_thaw e1 g) n ?_ e (x.scal hd)
  cases z : Hs p with
  | none => rfl
  | some o =>
    rw [r.ex p o z] at n
    cases n
/-! ### reading at a path -/
/-- te gives what lies at the path p of slot i -/
def EvW (K : PySem.W.Frag) (te : TE) (ρ : Env) (i : Nat) (p : List Nat) : Prop := ∀ B Hs H σ, RS K B Hs H σ ρ → ∀ Q : VK, (∀ Hs' H' v0 v, Gr Hs H H Hs' H' → σ[i]? = some (some v0) → VAt H' v0 p v → Q v H') → te σ H Q
theorem ew_var (hi : ρ[i]? = some (some (.tr K nw o))) : EvW K (tVar i) ρ i [] := fun B Hs H σ r Q q => by
  obtain ⟨R, rg⟩ := r.reg
  obtain ⟨v0, hv, _⟩ := rg.1 i _ hi
  exact ⟨v0, hv, q Hs H v0 v0 (Gr.refl r.ex) hv .nil⟩
theorem Own.ob_inv {Hs : Hp} {v : V} {C : Addr} {ns : List Str} {S : Hp} (h : Own K Hs v (.ob C ns xs) S) : ∃ q dx vs R1, v = .ref q ∧ R1 q = none ∧ ns.length = xs.length ∧ OwnL K Hs vs xs R1 ∧ S = upd R1 q (.ins C dx (ns.zip vs)) := by
  cases h with
  | ob n l h => exact ⟨_, _, _, _, rfl, n, l, h, rfl⟩
theorem Own.ol_inv {Hs : Hp} {v : V} {S : Hp} (h : Own K Hs v (.ol xs) S) : ∃ q vs R1, v = .ref q ∧ R1 q = none ∧ OwnL K Hs vs xs R1 ∧ S = upd R1 q (.lst vs) := by
  cases h with
  | ol n h => exact ⟨_, _, _, rfl, n, h, rfl⟩
theorem look_zipN {f : Str} : ∀ {ns : List Str} {vs : List V} {j : Nat}, ns.findIdx? (· == f) = some j → ns.length = vs.length → ∃ u, (ns.zip vs).lookup f = some u ∧ vs[j]? = some u
  | [], vs, j, h, _ => by simp at h
  | n :: ns, [], j, _, hl => by simp at hl
  | n :: ns, v :: vs, j, h, hl => by
    rw [List.findIdx?_cons] at h
    rw [List.zip_cons_cons, List.lookup_cons]
    by_cases e : (n == f) = true
    · rw [if_pos e] at h
      have h' := Option.some.inj h
      subst h'
      have e2 : (f == n) = true := by rw [beq_iff_eq] at e ⊢; exact e.symm
      rw [e2]
      exact ⟨v, rfl, rfl⟩
    · rw [if_neg e] at h
      obtain ⟨k, hk, rfl⟩ := Option.map_eq_some_iff.mp h
      have e2 : (f == n) = false := by
        cases z : (f == n) with
        | false => rfl
        | true => rw [beq_iff_eq] at z; exact absurd (by rw [z]; exact beq_self_eq_true n) e
      rw [e2]
      exact look_zipN (j := k) hk (by simpa using hl)
theorem ew_fld {f : Str} {C : Addr} {ns : List Str} {j : Nat} (h : EvW K te ρ i p) (hi : ρ[i]? = some (some (.tr K nw o))) (hp : o.at_ p = some (.ob C ns xs)) (hj : ns.findIdx? (· == f) = some j) (hc : Cls K C) (hn : NoAttr K C f) : EvW K (tFld K te f) ρ i (p ++ [j]) := fun B Hs H σ r Q q =>
  h B Hs H σ r _ fun Hs1 H1 v0 v g hv va => by
    have r1 := r.grow g
    obtain ⟨R, rg⟩ := r1.reg
    obtain ⟨v0', v1, S, hv', va', ow, sub, _⟩ := r1.part rg hi hp
    rw [hv] at hv'
    cases hv'
    have e := va.det va'
    subst e
    obtain ⟨a, dx, vs, R1, rfl, n, l, hl, rfl⟩ := ow.ob_inv
    obtain ⟨u, h1, h2⟩ := look_zipN hj (by rw [hl.length]; exact l)
    have ha := (sub a _ upd_same).1
    refine ⟨a, C, dx, _, u, rfl, ha, hc, hn, h1, q Hs1 H1 v0 u g hv (va.app ?_)⟩
    obtain ⟨f', hf⟩ := zip_get (ns := ns) (by rw [hl.length]; exact l) h2
    exact .ins ha hf .nil
theorem ew_ix {n : Int} {j : Nat} (h : EvW K te ρ i p) (hi : ρ[i]? = some (some (.tr K nw o))) (hp : o.at_ p = some (.ol xs)) (hk : EvD K ti ρ (.int n)) (hj : ixN xs.length n = some j) (hl : j < xs.length) : EvW K (tOp (rIx K) te ti) ρ i (p ++ [j]) := fun B Hs H σ r Q q =>
  h B Hs H σ r _ fun Hs1 H1 v0 v g hv va => hk B Hs1 H1 σ (r.grow g) _ fun Hs2 H2 y g2 y2 => by
    cases y2
    have r2 := (r.grow g).grow g2
    obtain ⟨R, rg⟩ := r2.reg
    obtain ⟨v0', v1, S, hv', va', ow, sub, _⟩ := r2.part rg hi hp
    rw [hv] at hv'
    cases hv'
    have va2 := va.monoN g2.fr
    have e := va2.det va'
    subst e
    obtain ⟨a, vs, R1, rfl, nn, hl', rfl⟩ := ow.ol_inv
    have ha := (sub a _ upd_same).1
    have hjv : j < vs.length := by rw [hl'.length]; exact hl
    refine .inl ⟨a, vs, n, vs[j], rfl, rfl, .of ha, ?_, q Hs2 H2 v0 _ (g.trans g2) hv (va2.app (.lst ha (List.getElem?_eq_getElem hjv) .nil))⟩
    unfold atI
    rw [hl'.length, hj]
    exact List.getElem?_eq_getElem hjv
theorem ev_W (h : EvW K te ρ i p) (hi : ρ[i]? = some (some (.tr K nw o))) (hp : o.at_ p = some (.sh d)) : EvD K te ρ d := fun B Hs H σ r Q q =>
  h B Hs H σ r _ fun Hs1 H1 v0 v g hv va => by
    have r1 := r.grow g
    obtain ⟨R, rg⟩ := r1.reg
    obtain ⟨v0', v1, S, hv', va', ow, sub, _⟩ := r1.part rg hi hp
    rw [hv] at hv'
    cases hv'
    have e := va.det va'
    subst e
    cases ow with
    | sh x => exact q Hs1 H1 v g x
theorem em_W (h : EvW K te ρ i p) (hi : ρ[i]? = some (some (.tr K nw o))) (hp : o.at_ p = some (.ol (ds.map .sh))) : EvM K te ρ ds := fun B Hs H σ r Q q =>
  h B Hs H σ r _ fun Hs1 H1 v0 v g hv va => by
    have r1 := r.grow g
    obtain ⟨R, rg⟩ := r1.reg
    obtain ⟨v0', v1, S, hv', va', ow, sub, _⟩ := r1.part rg hi hp
    rw [hv] at hv'
    cases hv'
    have e := va.det va'
    subst e
    obtain ⟨a, vs, R1, rfl, nn, hl', rfl⟩ := ow.ol_inv
    exact q Hs1 H1 a vs g (sub a _ upd_same).1 hl'.reps.1
/-- how many a list at a path has -/
theorem ev_lenW (h : EvW K te ρ i p) (hi : ρ[i]? = some (some (.tr K nw o))) (hp : o.at_ p = some (.ol xs)) : EvD K (tCB (rLenA K) (tCons te tNil)) ρ (.int (xs.length : Int)) := fun B Hs H σ r Q q =>
  h B Hs H σ r _ fun Hs1 H1 v0 v g hv va => by
    have r1 := r.grow g
    obtain ⟨R, rg⟩ := r1.reg
    obtain ⟨v0', v1, S, hv', va', ow, sub, _⟩ := r1.part rg hi hp
    rw [hv] at hv'
    cases hv'
    have e := va.det va'
    subst e
    obtain ⟨a, vs, R1, rfl, nn, hl', rfl⟩ := ow.ol_inv
    refine .inl ⟨a, vs, rfl, .inl (.of (sub a _ upd_same).1), ?_⟩
    rw [hl'.length]
    exact q Hs1 H1 _ g (.int _)
theorem ev_inW {P : Int → Bool} {n : Nat} {k : Int} (hk : EvD K ta ρ (.int k)) (h : EvW K te ρ i p) (hi : ρ[i]? = some (some (.tr K nw o))) (hp : o.at_ p = some (.dk P n)) : EvD K (tOp (rInA K) ta te) ρ (.bl (P k)) := fun B Hs H σ r Q q =>
  hk B Hs H σ r _ fun Hs0 H0 y g0 y0 => h B Hs0 H0 σ (r.grow g0) _ fun Hs1 H1 v0 v g hv va => by
    cases y0
    have r1 := (r.grow g0).grow g
    obtain ⟨R, rg⟩ := r1.reg
    obtain ⟨v0', v1, S, hv', va', ow, sub, _⟩ := r1.part rg hi hp
    rw [hv] at hv'
    cases hv'
    have e := va.det va'
    subst e
    cases ow with
    | @dg a _ _ kvs hk =>
      refine .inr (.inr (.inl ⟨a, _, rfl, DGet.k (k := (Sum.inl k : Key)) (sub a _ upd_same).1, ?_⟩))
      rw [hk.2 k]
      exact q Hs1 H1 _ (g0.trans g) (.bl _)
theorem ev_notInW {P : Int → Bool} {n : Nat} {k : Int} (hk : EvD K ta ρ (.int k)) (h : EvW K te ρ i p) (hi : ρ[i]? = some (some (.tr K nw o))) (hp : o.at_ p = some (.dk P n)) : EvD K (tOp (rNotInA K) ta te) ρ (.bl (!P k)) := fun B Hs H σ r Q q =>
  hk B Hs H σ r _ fun Hs0 H0 y g0 y0 => h B Hs0 H0 σ (r.grow g0) _ fun Hs1 H1 v0 v g hv va => by
    cases y0
    have r1 := (r.grow g0).grow g
    obtain ⟨R, rg⟩ := r1.reg
    obtain ⟨v0', v1, S, hv', va', ow, sub, _⟩ := r1.part rg hi hp
    rw [hv] at hv'
    cases hv'
    have e := va.det va'
    subst e
    cases ow with
    | @dg a _ _ kvs hk =>
      refine .inr (.inr (.inl ⟨a, _, rfl, DGet.k (k := (Sum.inl k : Key)) (sub a _ upd_same).1, ?_⟩))
      rw [hk.2 k]
      exact q Hs1 H1 _ (g0.trans g) (.bl _)
/-! ### new trees -/
def EvN (K : PySem.W.Frag) (te : TE) (ρ : Env) (o : O) : Prop := ∀ B Hs H σ, RS K B Hs H σ ρ → ∀ Q : VK, (∀ Hs' H' v S, Gr Hs H H Hs' H' → Own K Hs' v o S → (∀ a u, S a = some u → H' a = some u ∧ H a = none ∧ Hs' a = none) → Q v H') → te σ H Q
theorem EvF.n (h : EvF K te ρ ds) : EvN K te ρ (.ol (ds.map .sh)) := fun B Hs H σ r Q q => h B Hs H σ r _ fun Hs1 H1 p vs g n ns e x => by
  refine q Hs1 H1 _ _ g (.ol rfl (ownL_sh x)) fun a u z => ?_
  by_cases y : a = p
  · subst y
    rw [upd_same] at z
    cases z
    exact ⟨e, n, ns⟩
  · rw [upd_ne y] at z
    cases z
theorem EvN.is (h : EvN K te ρ o) (e : o = o1) : EvN K te ρ o1 := e ▸ h
theorem EvN.v (h : EvN K te ρ o) (f : o.frz = true) : EvD K te ρ o.toD := fun B Hs H σ r Q q => h B Hs H σ r _ fun Hs1 H1 v S g ow sub => by
  have d : ∀ a u, S a = some u → Hs1 a = none := fun a u e => (sub a u e).2.2
  have ex1 : Ex Hs1 (jn S Hs1) := fun a u e => by
    rw [jn_r]
    · exact e
    · cases y : S a with
      | none => rfl
      | some w =>
        rw [d a w y] at e
        cases e
  have ex2 : Ex (jn S Hs1) H1 := fun a u e => by
    cases y : S a with
    | some w =>
      rw [jn_l y] at e
      have e' := Option.some.inj e
      subst e'
      exact (sub a w y).1
    | none =>
      rw [jn_r y] at e
      exact g.lv a u e
  refine q (jn S Hs1) H1 v ⟨g.fr, g.sh.trans ex1, ex2, fun a x => ?_, g.dm, g.fd, g.dp, fun t a ps e => ?_, g.tb⟩ (ow.fzJ f d)
  · cases y : S a with
    | some w => exact absurd (sub a w y).2.1 x.ne
    | none =>
      rw [jn_r y]
      exact g.nw a x
  · cases y : S a with
    | some w =>
      rw [jn_l y] at e
      cases e
      have z := ow.pl a _ y
      cases z
    | none =>
      rw [jn_r y] at e
      exact g.nt t a ps e
theorem en_dict : EvN K tDNewK ρ (.dk (fun _ => false) 0) := fun B Hs H σ r Q q => fun p hp => by
  obtain ⟨n1, n2⟩ := gr_none (Gr.refl r.ex) hp
  refine q Hs _ _ _ (Gr.newO r.ex hp) (.dg (kvs := []) ⟨Nat.le_refl _, fun i => rfl⟩) fun a u z => ?_
  by_cases y : a = p
  · subst y
    rw [upd_same] at z ⊢
    exact ⟨z, hp, n2⟩
  · rw [upd_ne y] at z
    cases z
theorem xs_asgN (h : EvN K te ρ o) (q : R.nx (ρ.set i (some (.tr K true o)))) : ExS K (tAsg te (gName i)) ρ R := fun B Hs H σ Dn r l =>
  h B Hs H σ r _ fun Hs1 H1 v S g ow sub => l.nx Hs1 H1 _ _ (r.setR g i (sv := .tr K true o) (T := S) (fun a u e => ⟨(sub a u e).2.1, (sub a u e).1, (sub a u e).2.2⟩) (fun Hs2 x => ⟨nopv, ow.mono x⟩)) q
/-! ### changes at a path -/
theorem upd_keep {H : Hp} {q a : Addr} {x y : HO} (h : H q = some x) (e : H a ≠ none) : upd H q y a ≠ none := by
  by_cases z : a = q
  · rw [z, upd_same]
    exact fun w => nomatch w
  · rw [upd_ne z]
    exact e
/-- .append(e) at a path -/
theorem xs_appW (hw : EvW K te ρ i p) (hi : ρ[i]? = some (some (.tr K nw o))) (hp : o.at_ p = some (.ol xs)) (h : EvD K ta ρ d) (hz : xs.length < 100000) (q : R.nx (ρ.set i (some (.tr K nw (o.put p (.ol (xs ++ [.sh d]))))))) :
    ExS K (tDrop (tBM K "list" rAppend te (tCons ta tNil))) ρ R := fun B Hs H σ Dn r l =>
  hw B Hs H σ r _ fun Hs1 H1 v0 v g hv va => by
    have r1 := r.grow g
    obtain ⟨R1, rg1⟩ := r1.reg
    obtain ⟨v0', v1, S, hv', va', ow, sub, _⟩ := r1.part rg1 hi hp
    rw [hv] at hv'
    cases hv'
    have e := va.det va'
    subst e
    obtain ⟨a, vs, Ra, rfl, nn, hl', rfl⟩ := ow.ol_inv
    refine ⟨.inl ⟨rfl, _, .of (sub a _ upd_same).1⟩, h B Hs1 H1 σ r1 _ fun Hs2 H2 w g2 y => ?_⟩
    have r2 := r1.grow g2
    have rg2 : Reg K B Hs2 H2 σ ρ R1 := Reg.grow rg1 g2
    obtain ⟨v0', v1, S, hv', va', ow, sub, k⟩ := r2.part rg2 hi hp
    rw [hv] at hv'
    cases hv'
    have e := (va.monoN g2.fr).det va'
    subst e
    obtain ⟨a', vs, Ra, ea, nn, hl', rfl⟩ := ow.ol_inv
    cases ea
    have ha := (sub a _ upd_same).1
    refine ⟨a, vs, w, rfl, rfl, ha, by rw [hl'.length]; exact sz_lt hz, l.nx Hs2 _ _ _ (k (S' := upd Ra a (.lst (vs ++ [w]))) (o' := .ol (xs ++ [.sh d])) (.ol nn ?_) (fun b u z => ?_) (fun b u z e => ?_) (fun b e => upd_keep ha e) Ch.upd) q⟩
    · have c := OwnL.snoc (Own.sh y) hl' fun a ha => absurd rfl ha
      rw [jn_em] at c
      exact c
    · by_cases eb : b = a
      · subst eb
        rw [upd_same] at z ⊢
        exact ⟨z, .inl (by rw [upd_same]; exact fun q => nomatch q)⟩
      · rw [upd_ne eb] at z ⊢
        exact ⟨(sub b u (by rw [upd_ne eb]; exact z)).1, .inl (by rw [upd_ne eb, z]; exact fun q => nomatch q)⟩
    · rw [upd_ne (fun eb => by rw [eb, upd_same] at z; cases z)]
      exact e
/-- .append(a new tree) at a path -/
theorem xs_appWN (hw : EvW K te ρ i p) (hi : ρ[i]? = some (some (.tr K nw o))) (hp : o.at_ p = some (.ol xs)) (h : EvN K ta ρ o2) (hz : xs.length < 100000) (q : R.nx (ρ.set i (some (.tr K nw (o.put p (.ol (xs ++ [o2]))))))) :
    ExS K (tDrop (tBM K "list" rAppend te (tCons ta tNil))) ρ R := fun B Hs H σ Dn r l =>
  hw B Hs H σ r _ fun Hs1 H1 v0 v g hv va => by
    have r1 := r.grow g
    obtain ⟨R1, rg1⟩ := r1.reg
    obtain ⟨v0', v1, S, hv', va', ow, sub, _⟩ := r1.part rg1 hi hp
    rw [hv] at hv'
    cases hv'
    have e := va.det va'
    subst e
    obtain ⟨a, vs, Ra, rfl, nn, hl', rfl⟩ := ow.ol_inv
    refine ⟨.inl ⟨rfl, _, .of (sub a _ upd_same).1⟩, h B Hs1 H1 σ r1 _ fun Hs2 H2 w Sn g2 own subn => ?_⟩
    have r2 := r1.grow g2
    have rg2 : Reg K B Hs2 H2 σ ρ R1 := Reg.grow rg1 g2
    obtain ⟨v0', v1, S, hv', va', ow, sub, k⟩ := r2.part rg2 hi hp
    rw [hv] at hv'
    cases hv'
    have e := (va.monoN g2.fr).det va'
    subst e
    obtain ⟨a', vs, Ra, ea, nn, hl', rfl⟩ := ow.ol_inv
    cases ea
    have ha := (sub a _ upd_same).1
    have hRa : ∀ b u, Ra b = some u → b ≠ a := fun b u z eb => by rw [eb, nn] at z; cases z
    have disj : ∀ b, Sn b ≠ none → upd Ra a (.lst vs) b = none := fun b hb => by
      cases z : Sn b with
      | none => exact absurd z hb
      | some u =>
        cases y : upd Ra a (.lst vs) b with
        | none => rfl
        | some w =>
          have := (r1.fresh rg1 (subn b u z).2.1).1 i
          exact absurd this (sub b w y).2.2
    have nSa : Sn a = none := by
      cases z : Sn a with
      | none => rfl
      | some u =>
        have := disj a (by rw [z]; exact fun q => nomatch q)
        rw [upd_same] at this
        cases this
    refine ⟨a, vs, w, rfl, rfl, ha, by rw [hl'.length]; exact sz_lt hz, l.nx Hs2 _ _ _ (k (S' := upd (jn Sn Ra) a (.lst (vs ++ [w]))) (o' := .ol (xs ++ [o2])) (.ol (jn_none.mpr ⟨nSa, nn⟩) ?_) (fun b u z => ?_) (fun b u z e => ?_) (fun b e => upd_keep ha e) Ch.upd) q⟩
    · refine OwnL.snoc own hl' fun b hb => ?_
      have := disj b hb
      by_cases eb : b = a
      · subst eb
        exact nn
      · rw [upd_ne eb] at this
        exact this
    · by_cases eb : b = a
      · subst eb
        rw [upd_same] at z ⊢
        exact ⟨z, .inl (by rw [upd_same]; exact fun q => nomatch q)⟩
      · rw [upd_ne eb] at z ⊢
        cases y : Sn b with
        | some w' =>
          rw [jn_l y] at z
          have z' := Option.some.inj z
          subst z'
          exact ⟨(subn b w' y).1, .inr ((r1.fresh rg1 (subn b w' y).2.1).grow (subn b w' y).2.2)⟩
        | none =>
          rw [jn_r y] at z
          exact ⟨(sub b u (by rw [upd_ne eb]; exact z)).1, .inl (by rw [upd_ne eb, z]; exact fun q => nomatch q)⟩
    · rw [upd_ne (fun eb => by rw [eb, upd_same] at z; cases z)]
      exact e
/-- d[k] = v, a dict of numbers at a path -/
theorem xs_putW {P : Int → Bool} {n : Nat} {k : Int} (h : EvD K ta ρ d) (hw : EvW K te ρ i p) (hi : ρ[i]? = some (some (.tr K nw o))) (hp : o.at_ p = some (.dk P n)) (hk : EvD K ti ρ (.int k)) (hz : n < 100000) (q : R.nx (ρ.set i (some (.tr K nw (o.put p (.dk (fun x => P x || decide (x = k)) (n + 1))))))) :
    ExS K (tAsg ta (gSub te ti rSetA)) ρ R := fun B Hs H σ Dn r l =>
  h B Hs H σ r _ fun Hs0 H0 w g0 y0 => hw B Hs0 H0 σ (r.grow g0) _ fun Hs1 H1 v0 v g hv va => hk B Hs1 H1 σ ((r.grow g0).grow g) _ fun Hs2 H2 z g2 z2 => by
    cases z2
    have r2 := ((r.grow g0).grow g).grow g2
    obtain ⟨R2, rg2⟩ := r2.reg
    obtain ⟨v0', v1, S, hv', va', ow, sub, kk⟩ := r2.part rg2 hi hp
    rw [hv] at hv'
    cases hv'
    have e := (va.monoN g2.fr).det va'
    subst e
    cases ow with
    | @dg a _ _ kvs hkv =>
      have ha := (sub a _ upd_same).1
      refine .inr ⟨a, _, rfl, DPut.k (k := (Sum.inl k : Key)) ha (Nat.lt_of_le_of_lt hkv.1 (sz_lt hz)), l.nx Hs2 _ _ _ (kk (S' := upd em a (.dK (putK kvs (Sum.inl k : Key) w))) (.dg ⟨?_, fun x => ?_⟩) (fun b u z => ?_) (fun b u z e => ?_) (fun b e => upd_keep ha e) Ch.upd) q⟩
      · have := length_putK kvs (Sum.inl k : Key) w
        have := hkv.1
        omega
      · rw [valV_put]
        by_cases e : x = k
        · subst e
          rw [if_pos rfl]
          simp
        · rw [if_neg (fun z => e (Sum.inl.inj z)), hkv.2 x]
          simp [e]
      · by_cases eb : b = a
        · subst eb
          rw [upd_same] at z ⊢
          exact ⟨z, .inl (by rw [upd_same]; exact fun q => nomatch q)⟩
        · rw [upd_ne eb] at z
          cases z
      · rw [upd_ne (fun eb => by rw [eb, upd_same] at z; cases z)]
        exact e
end
end DL
namespace DL
open PySem L2
open PyProof.Rows (envOfC)
variable [TbC]
section
variable {K : PySem.W.Frag} {ρ ρ' : Env} {nw : Nw} {o o1 o2 : O} {i : Nat} {p : List Nat} {te ta tb ti tw : TE} {d : D} {ds es : List D} {tt : TT} {R : DEnds} {xs : List O}
/-! ### defs that give a new tree -/
def spN (K : PySem.W.Frag) {α : Type} (pre : α → Prop) (arg : α → List D) (res : α → O) : Sp := fun vs H Q _ => ∃ (Hs : Hp) (x : α), (Ex Hs H ∧ NT Hs ∧ TB H) ∧ RepL K Hs vs (arg x) ∧ pre x ∧
  ∀ Hs' H' v S, Gr Hs H H Hs' H' → Own K Hs' v (res x) S → (∀ a u, S a = some u → H' a = some u ∧ H a = none ∧ Hs' a = none) → Q v H'
theorem en_call {α : Type} {pre : α → Prop} {arg : α → List D} {res : α → O} {E : XK} {ta : TA} (x : α) (h : EvA K ta ρ (arg x)) (p : pre x) : EvN K (tCall (spN K pre arg res) [] E ta) ρ (res x) := fun B Hs H σ r Q q =>
  h B Hs H σ r _ fun Hs1 H1 vs g1 xs => by
    rw [List.append_nil]
    refine ⟨Hs1, x, ⟨g1.lv, (r.grow g1).tb⟩, xs, p, fun Hs' H' v S g ow c => q Hs' H' v S (g1.trans g) ow fun a u e => ⟨(c a u e).1, ?_, (c a u e).2.2⟩⟩
    have n := (c a u e).2.1
    exact (g1.new0 n).1
theorem xs_retN' (h : EvN K te ρ o) (q : R.rn o) : ExS K (tRet te) ρ R := fun B Hs H σ Dn r l =>
  h B Hs H σ r _ fun Hs1 H1 v S g ow c => l.rn Hs1 H1 v o S (r.gr.trans g) ow (fun a u e => ⟨(c a u e).1, by
    have n := (c a u e).2.1
    cases z : B.h a with
    | none => rfl
    | some w => exact absurd n (r.gr.dm a (by rw [z]; exact fun y => nomatch y)), (c a u e).2.2⟩) q
theorem xs_retT (hi : ρ[i]? = some (some (.tr K true o))) (q : R.rn o) : ExS K (tRet (tVar i)) ρ R := fun B Hs H σ Dn r l => by
  obtain ⟨S, rg⟩ := r.reg
  obtain ⟨v0, hv, hh⟩ := rg.1 i _ hi
  exact ⟨v0, hv, l.rn Hs H v0 o (S i) r.gr (hh Hs (Ex.refl Hs)).2 (fun a u e => ⟨(rg.2.1 i a u e).1, rg.2.2.2 i _ a hi rfl (by rw [e]; exact fun z => nomatch z), (rg.2.1 i a u e).2.1⟩) q⟩
variable {P : Program} {w : World} {mg : Str → Option Value} {base : Heap} {x qual : Str} {st : Stmt} {f : Addr} {fd : FuncData} {N ps : List Str} {k : Nat} {α : Type} {pre : α → Prop} {arg : α → List D}
theorem fn_n {res : α → O} (F : Fun K x qual st f fd) (S : FnScope N ps (defScope st)) (hl : ∀ x, (arg x).length = ps.length) {t : TS}
    (hb : ∀ (cdv : Value) (A : Around) (outer : List PySem.Env) (s : Shared) (H : Hp) (E : XK), Room k (A.deeper (envOfC qual (defScope st) s.heap.objs.size f cdv)) → PSs (cxOf CX0 P w K mg base N qual (defScope st) f cdv A outer s H E).nox (defBody st) t)
    (hd : ∀ x, pre x → ExS K t (entry N (arg x)) { nx := fun _ => False, rt := fun _ => False, rn := fun o => o = res x }) : FnOk P w K mg base CX0 (k + 1) f fd ps (spN K pre arg res) := by
  have hN : ps.length ≤ N.length := by have := congrArg List.length S.pre; rw [List.length_take] at this; omega
  refine F.ok S (fun vs H Q E h => ?_) (fun cdv A outer s H vs Q E hr h => ?_)
  · obtain ⟨Hs, x, _, r, _⟩ := h
    rw [r.length, hl]
  · obtain ⟨Hs, x, e, r, hp, q⟩ := h
    refine ⟨t, hb cdv A outer s H E hr, ?_⟩
    exact hd x hp ⟨Hs, H, H, e.2⟩ Hs H (L2.start N vs) _ (rs_entry e r (by rw [hl]; exact hN))
      ⟨fun Hs' H' σ ρ r' z => z.elim, fun Hs' H' v d g x z => z.elim, fun Hs' H' p ws ds g n ns e x z => z.elim, fun _ _ _ _ _ z => z.elim, fun _ _ _ _ _ z => z.elim, fun _ _ _ _ _ _ _ _ z => z.elim, fun _ _ _ _ _ _ _ _ _ z => z.elim,
        fun Hs' H' v o S g ow c z => q Hs' H' v S g (z ▸ ow) c⟩
/-- an own list is a tree -/
theorem RS.tree {B : Base} {Hs H : Hp} {σ : St} (r : RS K B Hs H σ ρ) (hi : ρ[i]? = some (some (.ol ds))) : RS K B Hs H σ (ρ.set i (some (.tr K true (.ol (ds.map .sh))))) := by
  obtain ⟨S, rg⟩ := r.reg
  obtain ⟨v0, hv, pp, vs, rfl, e2, q⟩ := rg.1 i _ hi
  refine r.mutR rg i hi (fun _ => rfl) hv (T := S i) (fun Hs1 x => ?_) (fun a u e => ⟨(rg.2.1 i a u e).1, .inl (by rw [e]; exact fun z => nomatch z)⟩) (fun a u _ e => e) fun a e => e
  have e : S i = upd em pp (.lst vs) := by
    rw [e2]
    funext a
    by_cases z : a = pp
    · rw [if_pos z, z, upd_same]
    · rw [if_neg z, upd_ne z]
      rfl
  refine ⟨nopv, ?_⟩
  rw [e]
  exact .ol rfl (ownL_sh (q.mono x))
theorem xs_tree {ts : TS} (i : Nat) (hi : ρ[i]? = some (some (.ol ds))) (h : ExS K ts (ρ.set i (some (.tr K true (.ol (ds.map .sh))))) R) : ExS K ts ρ R := fun B Hs H σ Dn r l => h B Hs H σ Dn (r.tree hi) l
/-- .insert(0, e) at a path -/
abbrev rInsert : V → List V → Hp → VK → Prop := fun x vs H Q => ∃ (l : Addr) (xs : List V) (i : Int) (y : V), x = .ref l ∧ vs = [.int i, y] ∧ H l = some (.lst xs) ∧ xs.length < sizeLine ∧ 0 ≤ i ∧ i < 2 ^ 63 ∧ Q .non (upd H l (.lst (xs.take i.toNat ++ [y] ++ xs.drop i.toNat)))
theorem OwnL.ins0 {Hs : Hp} {v : V} {vs : List V} {S : Hp} (h : OwnL K Hs vs xs S) (x : Rep K Hs v d) : OwnL K Hs (v :: vs) (.sh d :: xs) S := by
  have c := OwnL.cons (Own.sh x) h fun a ha => absurd rfl ha
  rw [jn_em] at c
  exact c
theorem xs_insW (hw : EvW K te ρ i p) (hi : ρ[i]? = some (some (.tr K nw o))) (hp : o.at_ p = some (.ol xs)) (hk : EvD K ti ρ (.int 0)) (h : EvD K ta ρ d) (hz : xs.length < 100000) (q : R.nx (ρ.set i (some (.tr K nw (o.put p (.ol (.sh d :: xs))))))) :
    ExS K (tDrop (tBM K "list" rInsert te (tCons ti (tCons ta tNil)))) ρ R := fun B Hs H σ Dn r l =>
  hw B Hs H σ r _ fun Hs1 H1 v0 v g hv va => by
    have r1 := r.grow g
    obtain ⟨R1, rg1⟩ := r1.reg
    obtain ⟨v0', v1, S, hv', va', ow, sub, _⟩ := r1.part rg1 hi hp
    rw [hv] at hv'
    cases hv'
    have e := va.det va'
    subst e
    obtain ⟨a, vs, Ra, rfl, nn, hl', rfl⟩ := ow.ol_inv
    refine ⟨.inl ⟨rfl, _, .of (sub a _ upd_same).1⟩, hk B Hs1 H1 σ r1 _ fun Hs0 H0 z0 g0 y0 => h B Hs0 H0 σ (r1.grow g0) _ fun Hs2 H2 w g2 y => ?_⟩
    cases y0
    have r2 := (r1.grow g0).grow g2
    have rg2 : Reg K B Hs2 H2 σ ρ R1 := Reg.grow (Reg.grow rg1 g0) g2
    obtain ⟨v0', v1, S, hv', va', ow, sub, k⟩ := r2.part rg2 hi hp
    rw [hv] at hv'
    cases hv'
    have e := (va.monoN (g0.fr.trans g2.fr)).det va'
    subst e
    obtain ⟨a', vs, Ra, ea, nn, hl', rfl⟩ := ow.ol_inv
    cases ea
    have ha := (sub a _ upd_same).1
    refine ⟨a, vs, 0, w, rfl, rfl, ha, by rw [hl'.length]; exact sz_lt hz, by decide, by decide, l.nx Hs2 _ _ _ (k (S' := upd Ra a (.lst (w :: vs))) (o' := .ol (.sh d :: xs)) (.ol nn (hl'.ins0 y)) (fun b u z => ?_) (fun b u z e => ?_) (fun b e => upd_keep ha e) Ch.upd) q⟩
    · by_cases eb : b = a
      · subst eb
        rw [upd_same] at z ⊢
        exact ⟨z, .inl (by rw [upd_same]; exact fun q => nomatch q)⟩
      · rw [upd_ne eb] at z ⊢
        exact ⟨(sub b u (by rw [upd_ne eb]; exact z)).1, .inl (by rw [upd_ne eb, z]; exact fun q => nomatch q)⟩
    · rw [upd_ne (fun eb => by rw [eb, upd_same] at z; cases z)]
      exact e
/-- trees that are lists of lists -/
def llO (dss : List (List D)) : O := .ol (dss.map fun ds : List D => O.ol (ds.map .sh))
theorem toDs_sh : ∀ ds : List D, O.toDs (ds.map .sh) = ds
  | [] => rfl
  | d :: ds => by
    show O.toD (.sh d) :: O.toDs (ds.map .sh) = d :: ds
    rw [toDs_sh ds]
    rfl
theorem frzs_sh : ∀ ds : List D, O.frzs (ds.map .sh) = true
  | [] => rfl
  | d :: ds => by
    show (O.frz (.sh d) && O.frzs (ds.map .sh)) = true
    rw [frzs_sh ds]
    rfl
theorem llO_toD : ∀ dss : List (List D), (llO dss).toD = .lst (dss.map D.lst) := by
  intro dss
  show D.lst (O.toDs _) = _
  congr 1
  induction dss with
  | nil => rfl
  | cons ds dss ih =>
    show D.lst (O.toDs (ds.map .sh)) :: O.toDs _ = _
    rw [toDs_sh, ih]
    rfl
theorem llO_frz : ∀ dss : List (List D), (llO dss).frz = true := by
  intro dss
  show O.frzs _ = true
  induction dss with
  | nil => rfl
  | cons ds dss ih =>
    show (O.frzs (ds.map .sh) && O.frzs _) = true
    rw [frzs_sh, ih]
    rfl
theorem llO_kid {dss : List (List D)} {j : Nat} {ds : List D} (h : dss[j]? = some ds) : (llO dss).at_ [j] = some (.ol (ds.map .sh)) := by
  show ((dss.map fun ds : List D => O.ol (ds.map .sh))[j]?).bind (fun x => x.at_ []) = _
  rw [List.getElem?_map, h]
  rfl
theorem llO_put {dss : List (List D)} {j : Nat} {ds es : List D} (h : dss[j]? = some ds) : (llO dss).put [j] (.ol (es.map .sh)) = llO (dss.set j es) := by
  show (match (dss.map fun ds : List D => O.ol (ds.map .sh))[j]? with
    | none => llO dss
    | some x => (llO dss).wk ((dss.map fun ds : List D => O.ol (ds.map .sh)).set j (x.put [] (.ol (es.map .sh))))) = _
  rw [List.getElem?_map, h]
  show O.ol _ = O.ol _
  congr 1
  rw [List.map_set]
  rfl
end
end DL
namespace DL
open PySem L2
variable [TbC]
/-- an own list at a known address -/
@[reducible] def SV.trA (K : PySem.W.Frag) (a : Addr) (ds : List D) : SV := .ow true (fun Hs v R => v = .ref a ∧ ∃ vs, RepL K Hs vs ds ∧ R = upd em a (.lst vs)) fun _ _ _ h => by
  obtain ⟨_, vs, _, e⟩ := h
  rw [e]
  exact PlR.em.upd
/-- a tree without what lies at p; that is at a -/
@[reducible] def SV.hole (K : PySem.W.Frag) (o : O) (p : List Nat) (a : Addr) (u : V) : SV := .ow true (fun Hs v R => (v = u ∧ ∀ (o' : O) (S' : Hp), Own K Hs (.ref a) o' S' → (∀ b, S' b ≠ none → R b = none) → Own K Hs v (o.put p o') (jn S' R)) ∧ PlR R) fun _ _ _ h => h.2
section
variable {K : PySem.W.Frag} {B : Base} {Hs H Hs' H' : Hp} {σ : St} {ρ ρ' : Env} {o : O} {i j : Nat} {p : List Nat} {ds es : List D} {R : DEnds} {te ta : TE} {d : D}
/-- the regions of two slots dealt out anew -/
theorem RS.deal (r : RS K B Hs H σ ρ) {R : Nat → Hp} (rg : Reg K B Hs H σ ρ R) (hij : i ≠ j) {vi : V} {svi : SV} {oj : Option SV} {xj : Option V} (hl : i < ρ.length) {T S : Hp} (ht : ∀ a u, T a = some u → R i a = some u ∨ R j a = some u) (hs : ∀ a u, S a = some u → R i a = some u ∨ R j a = some u)
    (hd : ∀ a, T a ≠ none → S a = none) (h1 : Holds K Hs T vi svi) (h2 : ∀ sv, oj = some sv → ∃ v, xj = some v ∧ Holds K Hs S v sv) (hb : ∀ a, T a ≠ none ∨ S a ≠ none → B.h a = none) :
    RS K B Hs H ((σ.set j xj).set i (some vi)) ((ρ.set j oj).set i (some svi)) := by
  obtain ⟨g1, g2, g3, g4⟩ := rg
  have sub : ∀ (m : Nat) (a : Addr), (if m = i then T else if m = j then S else R m) a ≠ none → ∃ m', (m = i ∨ m = j → m' = i ∨ m' = j) ∧ (m ≠ i → m ≠ j → m' = m) ∧ R m' a = (if m = i then T else if m = j then S else R m) a := fun m a ha => by
    by_cases q : m = i
    · rw [if_pos q] at ha ⊢
      cases z : T a with
      | none => exact absurd z ha
      | some u =>
        rcases ht a u z with y | y
        · exact ⟨i, fun _ => .inl rfl, fun n => absurd q n, y⟩
        · exact ⟨j, fun _ => .inr rfl, fun n => absurd q n, y⟩
    · rw [if_neg q] at ha ⊢
      by_cases q' : m = j
      · rw [if_pos q'] at ha ⊢
        cases z : S a with
        | none => exact absurd z ha
        | some u =>
          rcases hs a u z with y | y
          · exact ⟨i, fun _ => .inl rfl, fun _ n => absurd q' n, y⟩
          · exact ⟨j, fun _ => .inr rfl, fun _ n => absurd q' n, y⟩
      · rw [if_neg q']
        exact ⟨m, fun z => by
          rcases z with z | z
          · exact absurd z q
          · exact absurd z q', fun _ _ => rfl, rfl⟩
  refine ⟨r.gr, by rw [List.length_set, List.length_set, List.length_set, List.length_set, r.len], fun m => if m = i then T else if m = j then S else R m, fun m sv e => ?_, fun m a u e => ?_, fun m l a e1 e2 => ?_, fun m sv a e1 e0 e2 => ?_⟩
  · by_cases q : m = i
    · subst q
      rw [List.getElem?_set_self (by rw [List.length_set]; exact hl)] at e
      cases e
      refine ⟨vi, List.getElem?_set_self (by rw [List.length_set, r.len]; exact hl), ?_⟩
      dsimp only
      rw [if_pos rfl]
      exact h1
    · rw [List.getElem?_set_ne (Ne.symm q)] at e ⊢
      dsimp only
      rw [if_neg q]
      by_cases q' : m = j
      · subst q'
        have hl' : m < ρ.length := by
          have := (List.getElem?_eq_some_iff.mp e).1
          rwa [List.length_set] at this
        rw [List.getElem?_set_self hl'] at e
        obtain ⟨v, e1, e2⟩ := h2 sv (Option.some.inj e)
        refine ⟨v, by rw [List.getElem?_set_self (by rw [r.len]; exact hl'), e1], ?_⟩
        rw [if_pos rfl]
        exact e2
      · rw [List.getElem?_set_ne (Ne.symm q')] at e ⊢
        rw [if_neg q']
        exact g1 m sv e
  · dsimp only at e
    obtain ⟨m', _, _, e3⟩ := sub m a (by rw [e]; exact fun z => nomatch z)
    rw [e] at e3
    exact g2 m' a u e3
  · obtain ⟨m1, a1, a2, a3⟩ := sub m a e1
    obtain ⟨m2, b1, b2, b3⟩ := sub l a e2
    have same : m1 = m2 := g3 m1 m2 a (by rw [a3]; exact e1) (by rw [b3]; exact e2)
    dsimp only at e1 e2
    by_cases q : m = i
    · by_cases q' : l = i
      · rw [q, q']
      · by_cases q'' : l = j
        · rw [if_pos q] at e1
          rw [if_neg q', if_pos q''] at e2
          exact absurd (hd a e1) e2
        · have e := b2 q' q''
          rcases a1 (.inl q) with z | z
          · exact absurd (by rw [← e, ← same, z]) q'
          · exact absurd (by rw [← e, ← same, z]) q''
    · by_cases q1 : m = j
      · by_cases q' : l = i
        · rw [if_pos q'] at e2
          rw [if_neg q, if_pos q1] at e1
          exact absurd (hd a e2) e1
        · by_cases q'' : l = j
          · rw [q1, q'']
          · have e := b2 q' q''
            rcases a1 (.inr q1) with z | z
            · exact absurd (by rw [← e, ← same, z]) q'
            · exact absurd (by rw [← e, ← same, z]) q''
      · have e := a2 q q1
        by_cases q' : l = i
        · rcases b1 (.inl q') with z | z
          · exact absurd (by rw [← e, same, z]) q
          · exact absurd (by rw [← e, same, z]) q1
        · by_cases q'' : l = j
          · rcases b1 (.inr q'') with z | z
            · exact absurd (by rw [← e, same, z]) q
            · exact absurd (by rw [← e, same, z]) q1
          · rw [← e, ← b2 q' q'', same]
  · dsimp only at e2
    by_cases q : m = i
    · rw [if_pos q] at e2
      exact hb a (.inl e2)
    · rw [if_neg q] at e2
      rw [List.getElem?_set_ne (Ne.symm q)] at e1
      by_cases q' : m = j
      · rw [if_pos q'] at e2
        exact hb a (.inr e2)
      · rw [if_neg q'] at e2
        rw [List.getElem?_set_ne (Ne.symm q')] at e1
        exact g4 m sv a e1 e0 e2
theorem set_id {α : Type} {l : List α} {i : Nat} {x : α} (h : l[i]? = some x) : l.set i x = l := by
  apply List.ext_getElem?
  intro m
  by_cases q : m = i
  · subst q
    rw [List.getElem?_set_self (List.getElem?_eq_some_iff.mp h).1, h]
  · rw [List.getElem?_set_ne (Ne.symm q)]
/-- a list in a tree comes into a slot of its own -/
theorem RS.split (r : RS K B Hs H σ ρ) (hi : ρ[i]? = some (some (.tr K true o))) (hp : o.at_ p = some (.ol (ds.map .sh))) (hij : i ≠ j) :
    ∃ v0 a, σ[i]? = some (some v0) ∧ VAt H v0 p (.ref a) ∧ RS K B Hs H (σ.set j (some (.ref a))) ((ρ.set j (some (.trA K a ds))).set i (some (.hole K o p a v0))) := by
  obtain ⟨R, rg⟩ := r.reg
  obtain ⟨v0, hv, hh⟩ := rg.1 i _ hi
  have ow : Own K Hs v0 o (R i) := (hh Hs (Ex.refl Hs)).2
  obtain ⟨v1, S, T, va, h1, d1, e1, k1⟩ := ow.part hp
  obtain ⟨a, vs, Ra, rfl, nn, hl, rfl⟩ := h1.ol_inv
  obtain ⟨rs, rfl⟩ := hl.reps
  have sub : ∀ b u, upd em a (.lst vs) b = some u → R i b = some u := fun b u e => by rw [e1, jn_l e]
  have dT : ∀ b, T b ≠ none → upd em a (.lst vs) b = none := fun b hb => by
    cases z : upd em a (.lst vs) b with
    | none => rfl
    | some u => exact absurd (d1 b (by rw [z]; exact fun y => nomatch y)) hb
  have subT : ∀ b u, T b = some u → R i b = some u := fun b u e => by
    rw [e1, jn_r (dT b (by rw [e]; exact fun y => nomatch y)), e]
  have q := r.deal rg hij (vi := v0) (svi := .hole K o p a v0) (oj := some (.trA K a ds)) (xj := some (.ref a)) (List.getElem?_eq_some_iff.mp hi).1 (T := T) (S := upd em a (.lst vs)) (fun b u e => .inl (subT b u e)) (fun b u e => .inl (sub b u e)) dT
    (fun G eg => ⟨⟨rfl, fun o' S' h' d' => k1 eg h' d'⟩, fun b u e => (rg.2.1 i b u (subT b u e)).2.2.2⟩) (fun sv e => by
      cases e
      exact ⟨.ref a, rfl, fun G eg => ⟨rfl, vs, rs.mono eg, rfl⟩⟩) (fun b hb => by
      refine rg.2.2.2 i _ b hi rfl ?_
      rcases hb with hb | hb
      · cases z : T b with
        | none => exact absurd z hb
        | some u => rw [subT b u z]; exact fun y => nomatch y
      · cases z : upd em a (.lst vs) b with
        | none => exact absurd z hb
        | some u => rw [sub b u z]; exact fun y => nomatch y)
  refine ⟨v0, a, hv, va.mono fun b u e => (rg.2.1 i b u e).1, ?_⟩
  rw [set_id (l := σ.set j (some (.ref a))) (i := i) (by rw [List.getElem?_set_ne (Ne.symm hij), hv])] at q
  exact q
/-- .. and goes back -/
theorem RS.join {a : Addr} {u : V} (r : RS K B Hs H σ ρ) (hi : ρ[i]? = some (some (.hole K o p a u))) (hj : ρ[j]? = some (some (.trA K a es))) (hij : i ≠ j) : σ[i]? = some (some u) ∧ RS K B Hs H σ ((ρ.set j none).set i (some (.tr K true (o.put p (.ol (es.map .sh)))))) := by
  obtain ⟨R, rg⟩ := r.reg
  obtain ⟨v0, hv, hh⟩ := rg.1 i _ hi
  obtain ⟨w, hw, hk⟩ := rg.1 j _ hj
  obtain ⟨rfl, vs, rs, eR⟩ := hk Hs (Ex.refl Hs)
  obtain ⟨⟨rfl, _⟩, _⟩ := hh Hs (Ex.refl Hs)
  refine ⟨hv, ?_⟩
  have dj : ∀ b, R j b ≠ none → R i b = none := fun b hb => by
    cases z : R i b with
    | none => rfl
    | some u => exact absurd (rg.2.2.1 i j b (by rw [z]; exact fun y => nomatch y) hb) hij
  have own : ∀ G, Ex Hs G → Own K G v0 (o.put p (.ol (es.map .sh))) (jn (R j) (R i)) := fun G eg => by
    have c : Own K G (.ref a) (.ol (es.map .sh)) (R j) := by
      rw [eR]
      exact .ol rfl (ownL_sh (rs.mono eg))
    exact (hh G eg).1.2 _ _ c dj
  have q := r.deal rg hij (vi := v0) (svi := .tr K true (o.put p (.ol (es.map .sh)))) (oj := none) (xj := some (.ref a)) (List.getElem?_eq_some_iff.mp hi).1 (T := jn (R j) (R i)) (S := em) (fun b u e => by
      cases z : R j b with
      | some y =>
        rw [jn_l z] at e
        exact .inr (by rw [← e])
      | none =>
        rw [jn_r z] at e
        exact .inl e) (fun b u e => nomatch e) (fun b _ => rfl) (fun G eg => ⟨nopv, own G eg⟩) (fun sv e => nomatch e) (fun b hb => by
      rcases hb with hb | hb
      · cases z : R j b with
        | some y => exact rg.2.2.2 j _ b hj rfl (by rw [z]; exact fun y => nomatch y)
        | none =>
          rw [jn_r z] at hb
          exact rg.2.2.2 i _ b hi rfl hb
      · exact absurd rfl hb)
  rw [set_id (l := σ) (i := j) (x := some (V.ref a)) hw, set_id (l := σ) (i := i) (x := some v0) hv] at q
  exact q
/-- .append(e), the own list at a known address -/
theorem xs_appA {a : Addr} (hi : ρ[i]? = some (some (.trA K a ds))) (h : EvD K ta ρ d) (hz : ds.length < 100000) (q : R.nx (ρ.set i (some (.trA K a (ds ++ [d]))))) : ExS K (tDrop (tBM K "list" rAppend (tVar i) (tCons ta tNil))) ρ R := fun B Hs H σ Dn r l => by
  obtain ⟨R0, rg0⟩ := r.reg
  obtain ⟨w, hw, hk⟩ := rg0.1 i _ hi
  obtain ⟨rfl, vs0, rs0, eR0⟩ := hk Hs (Ex.refl Hs)
  have ha0 : H a = some (.lst vs0) := (rg0.2.1 i a _ (by rw [eR0]; exact upd_same)).1
  refine ⟨.ref a, hw, .inl ⟨rfl, _, .of ha0⟩, h B Hs H σ r _ fun Hs1 H1 x g y => ?_⟩
  have r1 := r.grow g
  have rg : Reg K B Hs1 H1 σ ρ R0 := Reg.grow rg0 g
  obtain ⟨w', hw', hk⟩ := rg.1 i _ hi
  obtain ⟨rfl, vs, rs, eR⟩ := hk Hs1 (Ex.refl Hs1)
  have ha : H1 a = some (.lst vs) := (rg.2.1 i a _ (by rw [eR]; exact upd_same)).1
  refine ⟨a, vs, x, rfl, rfl, ha, by rw [rs.length]; exact sz_lt hz, l.nx Hs1 _ _ _ (r1.mutR rg i hi (sv' := .trA K a (ds ++ [d])) (fun _ => rfl) hw (T := upd em a (.lst (vs ++ [x]))) (fun G eg => ⟨rfl, _, (rs.mono eg).append (.cons (y.mono eg) .nil), rfl⟩) (fun b u z => ?_) (fun b u z e => ?_) (fun b e => upd_keep ha e) Ch.upd) q⟩
  · by_cases eb : b = a
    · subst eb
      rw [upd_same] at z ⊢
      exact ⟨z, .inl (by rw [eR, upd_same]; exact fun q => nomatch q)⟩
    · rw [upd_ne eb] at z
      cases z
  · rw [upd_ne (fun eb => by rw [eb, eR, upd_same] at z; cases z)]
    exact e
theorem er_A {a : Addr} (hi : ρ[i]? = some (some (.trA K a ds))) : EvR K (tVar i) ρ (.lst ds) := fun B Hs H σ r Q q => by
  obtain ⟨R0, rg0⟩ := r.reg
  obtain ⟨w, hw, hk⟩ := rg0.1 i _ hi
  obtain ⟨rfl, vs0, rs0, eR0⟩ := hk Hs (Ex.refl Hs)
  exact ⟨.ref a, hw, q Hs H _ (Gr.refl r.ex) (.lst (rg0.2.1 i a _ (by rw [eR0]; exact upd_same)).1 (rs0.mono r.ex))⟩
theorem Reg.drop {Q : Nat → Hp} (rg : Reg K B Hs H σ ρ Q) (j : Nat) : Reg K B Hs H σ (ρ.set j none) (fun m => if m = j then em else Q m) := by
  obtain ⟨g1, g2, g3, g4⟩ := rg
  refine ⟨fun m sv e => ?_, fun m a u e => ?_, fun m l a e1 e2 => ?_, fun m sv a e1 e0 e2 => ?_⟩
  · by_cases q : m = j
    · subst q
      by_cases hl : m < ρ.length
      · rw [List.getElem?_set_self hl] at e
        cases e
      · rw [List.getElem?_eq_none (by rw [List.length_set]; omega)] at e
        cases e
    · rw [List.getElem?_set_ne (Ne.symm q)] at e
      dsimp only
      rw [if_neg q]
      exact g1 m sv e
  · dsimp only at e
    by_cases q : m = j
    · rw [if_pos q] at e
      cases e
    · rw [if_neg q] at e
      exact g2 m a u e
  · dsimp only at e1 e2
    by_cases q : m = j
    · rw [if_pos q] at e1
      exact absurd rfl e1
    · rw [if_neg q] at e1
      by_cases q' : l = j
      · rw [if_pos q'] at e2
        exact absurd rfl e2
      · rw [if_neg q'] at e2
        exact g3 m l a e1 e2
  · dsimp only at e2
    by_cases q : m = j
    · rw [if_pos q] at e2
      exact absurd rfl e2
    · rw [if_neg q] at e2
      rw [List.getElem?_set_ne (Ne.symm q)] at e1
      exact g4 m sv a e1 e0 e2
/-- xs.append(y), y the frame's own: it belongs to xs from now on -/
theorem xs_appMv {xs : List O} {o2 : O} (hij : i ≠ j) (hi : ρ[i]? = some (some (.tr K true (.ol xs)))) (hj : ρ[j]? = some (some (.tr K true o2))) (hz : xs.length < 100000) (q : R.nx ((ρ.set j none).set i (some (.tr K true (.ol (xs ++ [o2])))))) :
    ExS K (tDrop (tBM K "list" rAppend (tVar i) (tCons (tVar j) tNil))) ρ R := fun B Hs H σ Dn r l => by
  obtain ⟨Q, rg⟩ := r.reg
  obtain ⟨v0, hv, hh⟩ := rg.1 i _ hi
  obtain ⟨w, hw, hk⟩ := rg.1 j _ hj
  have own := hk Hs (Ex.refl Hs)
  obtain ⟨a, vs, Ra, rfl, nn, hl, eR⟩ := (hh Hs (Ex.refl Hs)).2.ol_inv
  have ha : H a = some (.lst vs) := (rg.2.1 i a _ (by rw [eR]; exact upd_same)).1
  refine ⟨.ref a, hv, .inl ⟨rfl, _, .of ha⟩, w, hw, a, vs, w, rfl, rfl, ha, by rw [hl.length]; exact sz_lt hz, ?_⟩
  have dis : ∀ b, Q j b ≠ none → Q i b = none := fun b hb => by
    cases z : Q i b with
    | none => rfl
    | some u => exact absurd (rg.2.2.1 i j b (by rw [z]; exact fun y => nomatch y) hb) hij
  have nja : Q j a = none := by
    cases z : Q j a with
    | none => rfl
    | some u =>
      have := dis a (by rw [z]; exact fun y => nomatch y)
      rw [eR, upd_same] at this
      cases this
  have r2 := r.forget j (some w)
  rw [set_id hw] at r2
  have e1 : (if i = j then em else Q i) = Q i := if_neg hij
  refine l.nx Hs _ _ _ (r2.mutR (Reg.drop (ρ := ρ) rg j) i (by rw [List.getElem?_set_ne (Ne.symm hij)]; exact hi) (sv' := .tr K true (.ol (xs ++ [o2]))) (fun _ => rfl) hv (T := upd (jn (Q j) Ra) a (.lst (vs ++ [w]))) (fun G eg => ?_) (fun b u z => ?_) (fun b u z e => ?_) fun b e => upd_keep ha e) q
  · refine ⟨nopv, .ol (jn_none.mpr ⟨nja, nn⟩) (OwnL.snoc (own.2.mono eg) (hl.mono eg) fun b hb => ?_)⟩
    have := dis b hb
    rw [eR] at this
    by_cases eb : b = a
    · rw [eb]
      exact nn
    · rw [upd_ne eb] at this
      exact this
  · rw [e1]
    by_cases eb : b = a
    · subst eb
      rw [upd_same] at z ⊢
      exact ⟨z, .inl (by rw [eR, upd_same]; exact fun q => nomatch q)⟩
    · rw [upd_ne eb] at z ⊢
      cases y : Q j b with
      | some u' =>
        rw [jn_l y] at z
        have z' := Option.some.inj z
        subst z'
        have g := rg.2.1 j b u' y
        refine ⟨g.1, .inr ⟨fun m => ?_, g.2.1, g.2.2.1, rg.2.2.2 j _ b hj rfl (by rw [y]; exact fun q => nomatch q)⟩⟩
        dsimp only
        by_cases qm : m = j
        · rw [if_pos qm]
          rfl
        · rw [if_neg qm]
          cases z2 : Q m b with
          | none => rfl
          | some u2 => exact absurd (rg.2.2.1 m j b (by rw [z2]; exact fun q => nomatch q) (by rw [y]; exact fun q => nomatch q)) qm
      | none =>
        rw [jn_r y] at z
        have hq : Q i b = some u := by rw [eR, upd_ne eb]; exact z
        exact ⟨(rg.2.1 i b u hq).1, .inl (by rw [hq]; exact fun q => nomatch q)⟩
  · rw [e1] at z
    rw [upd_ne (fun eb => by rw [eb, eR, upd_same] at z; cases z)]
    exact e
/-- for x in xs, xs an own list of own lists: x is changed in the body -/
theorem xs_forLL {tb : TS} (hij : i ≠ j) {dss : List (List D)} (I : Nat → List (List D) → Env → Prop) (hi : ρ[i]? = some (some (.tr K true (llO dss)))) (h0 : I 0 dss ρ)
    (hI : ∀ k dss' ρ1, I k dss' ρ1 → ρ1[i]? = some (some (.tr K true (llO dss'))) ∧ dss'.length = dss.length)
    (hs : ∀ k dss' ρ1 ds a u, I k dss' ρ1 → dss'[k]? = some ds → ExS K tb ((ρ1.set j (some (.trA K a ds))).set i (some (.hole K (llO dss') [k] a u))) { R with
      nx := fun ρ2 => ∃ ds', ρ2[i]? = some (some (.hole K (llO dss') [k] a u)) ∧ ρ2[j]? = some (some (.trA K a ds')) ∧ I (k + 1) (dss'.set k ds') ((ρ2.set j none).set i (some (.tr K true (llO (dss'.set k ds'))))), ct := fun _ => False, bk := fun _ => False })
    (hd : ∀ dss' ρ1, I dss.length dss' ρ1 → R.nx ρ1) : ExS K (tFor (iSeq K (tVar i)) (gName j) tb) ρ R := fun B Hs H σ Dn r l => by
  obtain ⟨R0, rg0⟩ := r.reg
  obtain ⟨v0, hv, hh⟩ := rg0.1 i _ hi
  obtain ⟨a0, vs, Ra, rfl, nn, hl, eR⟩ := (hh Hs (Ex.refl Hs)).2.ol_inv
  have ha0 : H a0 = some (.lst vs) := (rg0.2.1 i a0 _ (by rw [eR]; exact upd_same)).1
  refine ⟨.ref a0, hv, a0, rfl, .inl ⟨⟨vs, .of ha0⟩, ?_⟩⟩
  refine ⟨fun k m σ' H' => m = dss.length - k ∧ k ≤ dss.length ∧ σ'[i]? = some (some (.ref a0)) ∧ ∃ Hs2 dss' ρ1, RS K B Hs2 H' σ' ρ1 ∧ I k dss' ρ1, ⟨dss.length, rfl, Nat.zero_le _, hv, Hs, dss, ρ, r, h0⟩, ?_⟩
  rintro k m σ2 H2 ⟨rfl, hk, hv2, Hs2, dss', ρ1, r2, hI2⟩
  obtain ⟨hi2, hlen⟩ := hI k dss' ρ1 hI2
  obtain ⟨R2, rg2⟩ := r2.reg
  obtain ⟨w0, hw, hh2⟩ := rg2.1 i _ hi2
  rw [hv2] at hw
  cases hw
  obtain ⟨a0', vs2, Ra2, ea, nn2, hl2, eR2⟩ := (hh2 Hs2 (Ex.refl Hs2)).2.ol_inv
  cases ea
  have ha2 : H2 a0 = some (.lst vs2) := (rg2.2.1 i a0 _ (by rw [eR2]; exact upd_same)).1
  have hvl : vs2.length = dss.length := by rw [hl2.length, List.length_map, hlen]
  by_cases hlt : k < dss.length
  · have hdk : dss'[k]? = some (dss'[k]'(by omega)) := List.getElem?_eq_getElem (by omega)
    obtain ⟨v0', a, hv', va, r3⟩ := r2.split hi2 (llO_kid hdk) hij
    rw [hv2] at hv'
    cases hv'
    have hva : vs2[k]? = some (.ref a) := by
      cases va with
      | lst h g n =>
        rw [ha2] at h
        cases h
        cases n
        exact g
      | ins h g n =>
        rw [ha2] at h
        cases h
    refine .inr ⟨⟨vs2, .ref a, .of ha2, hva⟩, fun σ' H' => σ'[i]? = some (some (.ref a0)) ∧ ∃ Hs3 dss3 ρ3, RS K B Hs3 H' σ' ρ3 ∧ I (k + 1) dss3 ρ3, fun σ' H' ⟨e, Hs3, dss3, ρ3, r3, i3⟩ => ⟨dss.length - (k + 1), by omega, rfl, hlt, e, Hs3, dss3, ρ3, r3, i3⟩, fun x H3 y => ?_⟩
    obtain ⟨rfl, y⟩ := y
    have z := y vs2 (.of ha2)
    rw [hva] at z
    cases z
    show tb _ (σ2.set j (some (.ref a))) H3
    exact hs k dss' ρ1 _ a (.ref a0) hI2 hdk B Hs2 H3 _ _ r3 ⟨fun Hs5 H5 σ5 ρ5 r5 ⟨ds', e1, e2, e3⟩ => by
      obtain ⟨e4, q⟩ := r5.join e1 e2 hij
      rw [llO_put hdk] at q
      exact ⟨e4, Hs5, _, _, q, e3⟩, l.rt, l.rf, fun _ _ _ _ _ z => z.elim, fun _ _ _ _ _ z => z.elim, l.ro, l.ex, l.rn⟩
  · have e : k = dss.length := by omega
    subst e
    exact .inl ⟨⟨vs2, .of ha2, by rw [hvl]; exact Nat.le_refl _⟩, l.nx Hs2 H2 σ2 ρ1 r2 (hd dss' ρ1 hI2)⟩
end
end DL
namespace DL
open PySem L2
variable [TbC]
section
variable {K : PySem.W.Frag} {ρ ρ' : Env} {te ta tb : TE} {d e : D} {ds es : List D} {R : DEnds} {C : Addr} {ns : List Str} {o : O}
theorem en_methD {alts : List (Addr × Sp)} {m : Str} {E : XK} {t : TA} {α : Type} {pre : α → Prop} {arg : α → List D} {res : α → O} (x : α) (h : EvD K ta ρ (.obj C ns ds)) (ht : EvA K t ρ es) (hin : (C, spN K pre arg res) ∈ alts) (hm : ns.contains m = false)
    (ha : arg x = .obj C ns ds :: es) (p : pre x) : EvN K (tMethD alts m E ta t) ρ (res x) := fun B Hs H σ r Q q =>
  h B Hs H σ r _ fun Hs1 H1 v g1 xo => by
    cases xo with
    | @obj a _ dx _ vs _ hp xs =>
      refine ⟨a, C, dx, _, _, rfl, g1.lv _ _ hp, hin, look_none hm, ht B Hs1 H1 σ (r.grow g1) _ fun Hs2 H2 ws g2 ys => ?_⟩
      refine ⟨Hs2, x, ⟨g2.lv, (r.grow (g1.trans g2)).tb⟩, by rw [ha]; exact .cons (.obj (g2.sh _ _ hp) (xs.mono g2.sh)) ys, p, fun Hs' H' w S g ow c => ?_⟩
      have gg := (g1.trans g2).trans g
      refine q Hs' H' w S gg ow fun b u e => ⟨(c b u e).1, ?_, (c b u e).2.2⟩
      have n := (c b u e).2.1
      exact ((g1.trans g2).new0 n).1
/-- [a new tree] -/
theorem en_one (h : EvN K te ρ o) : EvN K (tLst (tCons te tNil)) ρ (.ol [o]) := fun B Hs H σ r Q q =>
  h B Hs H σ r _ fun Hs1 H1 v S g ow c => by
    refine ⟨Nat.le_of_ble_eq_true rfl, fun p hp => ?_⟩
    obtain ⟨n1, n2⟩ := gr_none g hp
    have nS : S p = none := by
      cases z : S p with
      | none => rfl
      | some u =>
        rw [(c p u z).1] at hp
        cases hp
    have l1 : OwnL K Hs1 [v] [o] (jn S em) := .cons ow .nil fun _ _ => rfl
    rw [jn_em'] at l1
    refine q Hs1 _ _ _ (g.trans (Gr.newO g.lv hp)) (.ol nS l1) fun a u e => ?_
    by_cases y : a = p
    · subst y
      rw [upd_same] at e ⊢
      exact ⟨e, n1, n2⟩
    · rw [upd_ne y] at e ⊢
      exact c a u e
theorem ixN_last {n : Nat} (h : 0 < n) : ixN n (-1) = some (n - 1) := by
  unfold ixN
  rw [if_neg (by decide), if_pos (by omega)]
  congr 1
  omega
end
end DL

/-! DExc: defs that exceptions leave; try. -/
namespace DL
open PySem L2
open PyProof.Rows (envOfC)
variable [TbC]
theorem passX0 {X : Cx} : Passes (L2.CX X.prog X.w) X E0 := fun _ _ _ _ _ _ _ ⟨_, _, _, _, _, _, _, _, _, _, _, _, z⟩ => z.elim
/-- called with arg x, where pre x: gives something of post x, or an exception of exc x leaves -/
def spX (K : PySem.W.Frag) {α : Type} (pre : α → Prop) (arg : α → List D) (post : α → D → Prop) (exc : α → Value → Option (List (Str × D)) → Prop) : Sp := fun vs H Q E => ∃ (Hs : Hp) (x : α), (Ex Hs H ∧ NT Hs ∧ TB H) ∧ RepL K Hs vs (arg x) ∧ pre x ∧
  (∀ Hs' H' v d, Gr Hs H H Hs' H' → Rep K Hs' v d → post x d → Q v H') ∧ ∀ Hs' H' cls dd fs, Gr Hs H H Hs' H' → XRep K Hs' H' dd fs → exc x cls fs → E cls dd H'
section
variable {K : PySem.W.Frag} {ρ ρ' : Env} {te ta tb : TE} {d e : D} {ds es : List D} {tt : TT} {R : DEnds}
variable {P : Program} {w : World} {mg : Str → Option Value} {base : Heap} {x qual : Str} {st : Stmt} {f : Addr} {fd : FuncData} {N ps : List Str} {k : Nat} {α : Type} {pre : α → Prop} {arg : α → List D}
theorem fn_x {post : α → D → Prop} {exc : α → Value → Option (List (Str × D)) → Prop} (F : Fun K x qual st f fd) (S : FnScope N ps (defScope st)) (hl : ∀ x, (arg x).length = ps.length) {t : XK → TS}
    (hb : ∀ (cdv : Value) (A : Around) (outer : List PySem.Env) (s : Shared) (H : Hp) (E : XK), Room k (A.deeper (envOfC qual (defScope st) s.heap.objs.size f cdv)) → PSs (cxOf (L2.CX P w) P w K mg base N qual (defScope st) f cdv A outer s H E) (defBody st) (t E))
    (hd : ∀ x, pre x → ∀ E : XK, ExS K (t E) (entry N (arg x)) { nx := fun _ => post x .non, rt := post x, ex := fun _ cls fs => exc x cls fs, W := fun cls dd _ H => E cls dd H }) : FnOk P w K mg base (L2.CX P w) (k + 1) f fd ps (spX K pre arg post exc) := by
  have hN : ps.length ≤ N.length := by have := congrArg List.length S.pre; rw [List.length_take] at this; omega
  refine F.okX S (fun vs H Q E h => ?_) (fun cdv A outer s H vs Q E hr h => ?_)
  · obtain ⟨Hs, x, _, r, _⟩ := h
    rw [r.length, hl]
  · obtain ⟨Hs, x, e, r, hp, q, qx⟩ := h
    refine ⟨t E, hb cdv A outer s H E hr, ?_⟩
    exact hd x hp E ⟨Hs, H, H, e.2⟩ Hs H (L2.start N vs) _ (rs_entry e r (by rw [hl]; exact hN))
      ⟨fun Hs' H' σ ρ r' z => q Hs' H' .non .non r'.gr .non z, fun Hs' H' v d g x z => q Hs' H' v d g x z, fun _ _ _ _ _ _ _ _ _ _ z => z.elim, fun _ _ _ _ _ z => z.elim, fun _ _ _ _ _ z => z.elim, fun _ _ _ _ _ _ _ _ z => z.elim,
        fun Hs' H' σ ρ cls dd fs r' y z => qx Hs' H' cls dd fs r'.gr y z, fun _ _ _ _ _ _ _ _ z => z.elim⟩
/-- the defs that no exception leaves, where others are left by some -/
theorem fn_rX {post : α → D → Prop} (F : Fun K x qual st f fd) (S : FnScope N ps (defScope st)) (hl : ∀ x, (arg x).length = ps.length) {t : TS}
    (hb : ∀ (cdv : Value) (A : Around) (outer : List PySem.Env) (s : Shared) (H : Hp) (E : XK), Room k (A.deeper (envOfC qual (defScope st) s.heap.objs.size f cdv)) → PSs (cxOf (L2.CX P w) P w K mg base N qual (defScope st) f cdv A outer s H E) (defBody st) t)
    (hd : ∀ x, pre x → ExS K t (entry N (arg x)) { nx := fun _ => post x .non, rt := post x }) : FnOk P w K mg base (L2.CX P w) (k + 1) f fd ps (spR K pre arg post) := by
  have hN : ps.length ≤ N.length := by have := congrArg List.length S.pre; rw [List.length_take] at this; omega
  refine F.okX S (fun vs H Q E h => ?_) (fun cdv A outer s H vs Q E hr h => ?_)
  · obtain ⟨Hs, x, _, r, _⟩ := h
    rw [r.length, hl]
  · obtain ⟨Hs, x, e, r, hp, q⟩ := h
    refine ⟨t, hb cdv A outer s H E hr, ?_⟩
    exact hd x hp ⟨Hs, H, H, e.2⟩ Hs H (L2.start N vs) _ (rs_entry e r (by rw [hl]; exact hN))
      ⟨fun Hs' H' σ ρ r' z => q Hs' H' .non .non r'.gr .non z, fun Hs' H' v d g x z => q Hs' H' v d g x z, fun _ _ _ _ _ _ _ _ _ _ z => z.elim, fun _ _ _ _ _ z => z.elim, fun _ _ _ _ _ z => z.elim, fun _ _ _ _ _ _ _ _ z => z.elim,
        fun _ _ _ _ _ _ _ _ _ z => z.elim, fun _ _ _ _ _ _ _ _ z => z.elim⟩
theorem fn_fX {res : α → List D} (F : Fun K x qual st f fd) (S : FnScope N ps (defScope st)) (hl : ∀ x, (arg x).length = ps.length) {t : TS}
    (hb : ∀ (cdv : Value) (A : Around) (outer : List PySem.Env) (s : Shared) (H : Hp) (E : XK), Room k (A.deeper (envOfC qual (defScope st) s.heap.objs.size f cdv)) → PSs (cxOf (L2.CX P w) P w K mg base N qual (defScope st) f cdv A outer s H E) (defBody st) t)
    (hd : ∀ x, pre x → ExS K t (entry N (arg x)) { nx := fun _ => False, rt := fun _ => False, rf := fun ds => ds = res x }) : FnOk P w K mg base (L2.CX P w) (k + 1) f fd ps (spF K pre arg res) := by
  have hN : ps.length ≤ N.length := by have := congrArg List.length S.pre; rw [List.length_take] at this; omega
  refine F.okX S (fun vs H Q E h => ?_) (fun cdv A outer s H vs Q E hr h => ?_)
  · obtain ⟨Hs, x, _, r, _⟩ := h
    rw [r.length, hl]
  · obtain ⟨Hs, x, e, r, hp, q⟩ := h
    refine ⟨t, hb cdv A outer s H E hr, ?_⟩
    exact hd x hp ⟨Hs, H, H, e.2⟩ Hs H (L2.start N vs) _ (rs_entry e r (by rw [hl]; exact hN))
      ⟨fun Hs' H' σ ρ r' z => z.elim, fun Hs' H' v d g x z => z.elim, fun Hs' H' p ws ds g n ns e x z => q Hs' H' p ws g n ns e (z ▸ x), fun _ _ _ _ _ z => z.elim, fun _ _ _ _ _ z => z.elim, fun _ _ _ _ _ _ _ _ z => z.elim,
        fun _ _ _ _ _ _ _ _ _ z => z.elim, fun _ _ _ _ _ _ _ _ z => z.elim⟩
/-! ### calls that may raise -/
theorem xs_asgX {post : α → D → Prop} {exc : α → Value → Option (List (Str × D)) → Prop} {W : WX} {ta : TA} {i : Nat} (x : α) (h : EvA K ta ρ (arg x)) (p : pre x) (hW : R.W = W) (q : ∀ d, post x d → R.nx (ρ.set i (some (.sh d)))) (qx : ∀ cls fs, exc x cls fs → R.ex ρ cls fs) :
    ExS K (tAsg (tCallS (spX K pre arg post exc) (WE W) ta) (gName i)) ρ R := fun B Hs H σ Dn r l =>
  h B Hs H σ r _ fun Hs1 H1 vs g1 xs => ⟨Hs1, x, ⟨g1.lv, (r.grow g1).tb⟩, xs, p, fun Hs' H' v d g y e => l.nx Hs' H' _ _ ((r.grow (g1.trans g)).set i y) (q d e), fun Hs' H' cls dd fs g y e => by
    subst hW
    exact l.ex Hs' H' σ ρ cls dd fs (r.grow (g1.trans g)) y (qx cls fs e)⟩
theorem xs_dropX {post : α → D → Prop} {exc : α → Value → Option (List (Str × D)) → Prop} {W : WX} {ta : TA} (x : α) (h : EvA K ta ρ (arg x)) (p : pre x) (hW : R.W = W) (q : ∀ d, post x d → R.nx ρ) (qx : ∀ cls fs, exc x cls fs → R.ex ρ cls fs) :
    ExS K (tDrop (tCallS (spX K pre arg post exc) (WE W) ta)) ρ R := fun B Hs H σ Dn r l =>
  h B Hs H σ r _ fun Hs1 H1 vs g1 xs => ⟨Hs1, x, ⟨g1.lv, (r.grow g1).tb⟩, xs, p, fun Hs' H' v d g y e => l.nx Hs' H' _ _ (r.grow (g1.trans g)) (q d e), fun Hs' H' cls dd fs g y e => by
    subst hW
    exact l.ex Hs' H' σ ρ cls dd fs (r.grow (g1.trans g)) y (qx cls fs e)⟩
theorem xs_retX {post : α → D → Prop} {exc : α → Value → Option (List (Str × D)) → Prop} {W : WX} {ta : TA} (x : α) (h : EvA K ta ρ (arg x)) (p : pre x) (hW : R.W = W) (q : ∀ d, post x d → R.rt d) (qx : ∀ cls fs, exc x cls fs → R.ex ρ cls fs) :
    ExS K (tRet (tCallS (spX K pre arg post exc) (WE W) ta)) ρ R := fun B Hs H σ Dn r l =>
  h B Hs H σ r _ fun Hs1 H1 vs g1 xs => ⟨Hs1, x, ⟨g1.lv, (r.grow g1).tb⟩, xs, p, fun Hs' H' v d g y e => l.rt Hs' H' v d (r.gr.trans (g1.trans g)) y (q d e), fun Hs' H' cls dd fs g y e => by
    subst hW
    exact l.ex Hs' H' σ ρ cls dd fs (r.grow (g1.trans g)) y (qx cls fs e)⟩
/-- no exception comes of these arguments -/
theorem ev_callX {post : α → D → Prop} {exc : α → Value → Option (List (Str × D)) → Prop} {E : St → XK} {ta : TA} (x : α) (h : EvA K ta ρ (arg x)) (p : pre x) (hp : ∀ e, post x e → e = d) (hx : ∀ cls fs, ¬ exc x cls fs) :
    EvD K (tCallS (spX K pre arg post exc) E ta) ρ d := fun B Hs H σ r Q q =>
  h B Hs H σ r _ fun Hs1 H1 vs g1 xs => ⟨Hs1, x, ⟨g1.lv, (r.grow g1).tb⟩, xs, p, fun Hs' H' v d g y e => q Hs' H' v (g1.trans g) (hp d e ▸ y), fun Hs' H' cls dd fs g y e => absurd e (hx cls fs)⟩
theorem ev_callX0 {post : α → D → Prop} {exc : α → Value → Option (List (Str × D)) → Prop} {E : XK} {ta : TA} (x : α) (h : EvA K ta ρ (arg x)) (p : pre x) (hp : ∀ e, post x e → e = d) (hx : ∀ cls fs, ¬ exc x cls fs) :
    EvD K (tCall (spX K pre arg post exc) [] E ta) ρ d := fun B Hs H σ r Q q =>
  h B Hs H σ r _ fun Hs1 H1 vs g1 xs => by
    rw [List.append_nil]
    exact ⟨Hs1, x, ⟨g1.lv, (r.grow g1).tb⟩, xs, p, fun Hs' H' v d g y e => q Hs' H' v (g1.trans g) (hp d e ▸ y), fun Hs' H' cls dd fs g y e => absurd e (hx cls fs)⟩
/-- raise C('..'), C an own class without fields -/
def tRaise (C : Addr) (W : WX) : TS := fun _ σ H => W (.ref C) none σ H
theorem xs_raise {C : Addr} {W : WX} (hW : R.W = W) (q : R.ex ρ (.ref C) none) : ExS K (tRaise C W) ρ R := fun B Hs H σ Dn r l => by
  subst hW
  exact l.ex Hs H σ ρ (.ref C) none none r trivial q
theorem ps_raiseO {X : Cx} {C : Addr} {W : WX} {m x : Str} {j : Nat} {p p2 pos pos' : Pos} {newId initId : String} {B : String} {bmB : List Value} (hc : X.calm = true) (tk : Takes X W) (F : ExcBaseFacts B newId initId bmB) (q : PySem.W.excIn X.K C bmB newId = true) (gC : X.mg x = some (.ref C)) (kC : PySem.W.keepIn X.K (.ref C) = true)
    (r : Raises X (.ref C)) (hg : Gl X x) (hdb : (x == ("__debug__" : Str)) = false := by decide) : PS X (.Raise (some (.Call (.Name x p) [.Constant (.str m) j p2] [] pos)) none pos') (tRaise C W) := ps_raise hc tk (pmk_own F q gC kC r hg hdb)
/-! ### try -/
/-- a slot holds the exception at a -/
@[reducible] def SV.exv (a : Addr) : SV := .ow false (fun _ v R => v = .ref a ∧ R = em) fun _ _ _ h => by
  rw [h.2]
  exact PlR.em
theorem RS.setE {B : Base} {Hs H : Hp} {σ : St} (r : RS K B Hs H σ ρ) (i : Nat) (a : Addr) : RS K B Hs H (σ.set i (some (.ref a))) (ρ.set i (some (.exv a))) :=
  r.setR (Gr.refl r.ex) i (T := em) (fun _ _ z => nomatch z) (sv := .exv a) fun _ _ => ⟨rfl, rfl⟩
def tTryO (K : PySem.W.Frag) (c : Value) (tb : WX → TS) (ts : Addr → Value → Option Addr → TS) (Wout : WX) : TS := fun D σ H => tb (wOnly K c ts Wout D) D σ H
def tTryA (K : PySem.W.Frag) (c : Value) (i : Nat) (tb : WX → TS) (ts : Addr → Value → Option Addr → TS) (Wout : WX) : TS := fun D σ H => tb (wAs K c i ts Wout D) D σ H
/-- try: .. except c: .. -/
theorem xs_tryO {c : Value} {tb : WX → TS} {ts : Addr → Value → Option Addr → TS} {Wout : WX} (EX : Env → Value → Option (List (Str × D)) → Prop) (hb : ∀ W, ExS K (tb W) ρ { R with ex := EX, W := W })
    (hx : ∀ ρ' cls fs, EX ρ' cls fs → ∃ b, PySem.W.exmOne K cls c = some b ∧ (b = true → ∀ a dd, (fs = none → dd = none) → ExS K (ts a cls dd) ρ' R) ∧ (b = false → R.W = Wout ∧ R.ex ρ' cls fs)) : ExS K (tTryO K c tb ts Wout) ρ R := fun B Hs H σ Dn r l =>
  hb _ B Hs H σ Dn r ⟨l.nx, l.rt, l.rf, l.bk, l.ct, l.ro, fun Hs' H' σ' ρ' cls dd fs r' y q => by
    obtain ⟨b, h1, h2, h3⟩ := hx ρ' cls fs q
    refine ⟨b, h1, fun hb a ha => h2 hb a dd (fun e => by
      subst e
      cases dd with
      | none => rfl
      | some a => exact y.elim) B Hs' H' σ' Dn r' l, fun hb => ?_⟩
    obtain ⟨e1, e2⟩ := h3 hb
    subst e1
    exact l.ex Hs' H' σ' ρ' cls dd fs r' y e2, l.rn⟩
/-- try: .. except c as e: .., e at slot i -/
theorem xs_tryA {c : Value} {i : Nat} {tb : WX → TS} {ts : Addr → Value → Option Addr → TS} {Wout : WX} (EX : Env → Value → Option (List (Str × D)) → Prop) (hb : ∀ W, ExS K (tb W) ρ { R with ex := EX, W := W })
    (hx : ∀ ρ' cls fs, EX ρ' cls fs → ∃ b, PySem.W.exmOne K cls c = some b ∧ (b = true → ∀ a dd, (fs = none → dd = none) → ExS K (ts a cls dd) (ρ'.set i (some (.exv a))) { R with nx := fun ρ2 => R.nx (ρ2.set i none), bk := fun ρ2 => R.bk (ρ2.set i none), ct := fun ρ2 => R.ct (ρ2.set i none) }) ∧ (b = false → R.W = Wout ∧ R.ex ρ' cls fs)) :
    ExS K (tTryA K c i tb ts Wout) ρ R := fun B Hs H σ Dn r l =>
  hb _ B Hs H σ Dn r ⟨l.nx, l.rt, l.rf, l.bk, l.ct, l.ro, fun Hs' H' σ' ρ' cls dd fs r' y q => by
    obtain ⟨b, h1, h2, h3⟩ := hx ρ' cls fs q
    refine ⟨b, h1, fun hb a ha => h2 hb a dd (fun e => ?_) B Hs' H' _ _ (r'.setE i a) ⟨fun Hs2 H2 σ2 ρ2 r2 q2 => l.nx Hs2 H2 _ _ (r2.forget i none) q2, l.rt, l.rf, fun Hs2 H2 σ2 ρ2 r2 q2 => l.bk Hs2 H2 _ _ (r2.forget i none) q2, fun Hs2 H2 σ2 ρ2 r2 q2 => l.ct Hs2 H2 _ _ (r2.forget i none) q2, l.ro, l.ex, l.rn⟩, fun hb => ?_⟩
    · subst e
      cases dd with
      | none => rfl
      | some a => exact y.elim
    · obtain ⟨e1, e2⟩ := h3 hb
      subst e1
      exact l.ex Hs' H' σ' ρ' cls dd fs r' y e2, l.rn⟩
/-- what is known of an exception's class, told to its suite -/
def tKnown (p : Prop) (t : TS) : TS := fun D σ H => p ∧ t D σ H
theorem pss_known {X : Cx} {p : Prop} {sts : List Stmt} {t : TS} (h : p → PSs X sts t) : PSs X sts (tKnown p t) := ⟨fun pins s σ H D I q => (h q.1).run pins s σ H D I q.2⟩
theorem xs_known {p : Prop} {t : TS} (h : p) (q : ExS K t ρ R) : ExS K (tKnown p t) ρ R := fun B Hs H σ Dn r l => ⟨h, q B Hs H σ Dn r l⟩
/-- isinstance(e, c) in the suite -/
theorem ev_isE {C a : Addr} {i : Nat} {c : V} {cv : Value} {b : Bool} (hi : ρ[i]? = some (some (.exv a))) (hc : ∀ u, RelV c u → u = cv) (hk : PySem.W.kitOne K (.ref C) cv = some b) : EvD K (tCB (rIsE K C a) (tCons (tVar i) (tCons (tC c) tNil))) ρ (.bl b) := fun B Hs H σ r Q q => by
  obtain ⟨S, rg⟩ := r.reg
  obtain ⟨v0, hv, hh⟩ := rg.1 i _ hi
  obtain ⟨rfl, _⟩ := hh Hs (Ex.refl Hs)
  exact ⟨.ref a, hv, c, cv, b, rfl, hc, hk, q Hs H _ (Gr.refl r.ex) (.bl b)⟩
/-- what is asked of an own class, so that isinstance asks its instances rightly -/
structure InsC (K : PySem.W.Frag) (C : Addr) : Prop where
  cl : Cls K C
  ha : PySem.W.findIn K (.ref C) "__class__" = some (some (.builtin "object.__class__"))
  hn : PySem.W.specialIn K (.builtin "object.__class__") "__get__" = some (some (.builtin "getset_descriptor.__get__"))
  ht : PySem.W.takesIn K (.builtin "object.__class__") = some true
  hm : PySem.W.mroIn K C (.type "object") = some true
theorem ev_isiO {C Dc : Addr} {ns : List Str} {b : Bool} (ha : EvD K ta ρ (.obj C ns ds)) (I : InsC K C) (hk : PySem.W.kitOne K (.ref C) (.ref Dc) = some b) : EvD K (tCB (rIsi K) (tCons ta (tCons (tC (.ref Dc)) tNil))) ρ (.bl b) := fun B Hs H σ r Q q =>
  ha B Hs H σ r _ fun Hs1 H1 v g x => by
    cases x with
    | obj hp xs => exact ⟨_, .ref Dc, .ref C, .ref Dc, b, rfl, .own Dc, .base (.ins (g.lv _ _ hp) I.cl I.ha I.hn I.ht I.hm), hk, q Hs1 H1 _ g (.bl b)⟩
/-- isinstance of a built-in class, the data of any kind -/
theorem ev_isiD {n : String} {b : Bool} (ha : EvR K ta ρ d) (hk : kitB d.tyn n = some b) (hd : d.tyn ≠ "") : EvD K (tCB (rIsi K) (tCons ta (tCons (tC (.ty n)) tNil))) ρ (.bl b) := ev_isi ha rfl hk hd
end
section
variable {X : Cx} {K : PySem.W.Frag}
theorem isEK {a C : Addr} {oe : Obj} {pn : List (Addr × Obj)} (h : X.K = K) (Cc : ExcC K C) (hz : Zc (.ref C) none oe) (hf : ∃ vs, oe.data = .fields vs) : CallR (X.suite a ((a, oe) :: pn)) (.builtin "isinstance") (rIsE K C a) := by subst h; exact call_isE Cc hz hf
theorem tryAK {x n : Str} {c : Value} {i : Nat} {body suite : List Stmt} {b₀ : Stmt} {np pos pos' : Pos} {tb : WX → TS} {ts : Addr → Value → Option Addr → TS} {Wout : WX} (h : X.K = K) (hs : X.stack = X.env :: X.outer) (hf : X.env.frame = some X.env.locals) (hN : X.N.Nodup) (hi : X.N[i]? = some n) (hln : X.env.kindOf n = some .local) (hc : Names X x c) (tk : Takes X Wout)
    (hb : ∀ (W : WX) (pn : List (Addr × Obj)) (xe : Value → Shared → Prop), Takes (X.tr pn xe) W → PassesOwn (model X.prog X.w) X.A X.env xe → PSs (X.tr pn xe) body (tb W))
    (hsu : ∀ (a : Addr) (oe : Obj) (cls : Value) (d : Option Addr) (pn : List (Addr × Obj)), Zc cls d oe → (∃ vs, oe.data = .fields vs) → PSs (X.suite a ((a, oe) :: pn)) (b₀ :: suite) (ts a cls d)) :
    PS X (.Try body [.ExceptHandler (some (.Name x np)) (some n) (b₀ :: suite) pos'] [] [] pos) (tTryA K c i tb ts Wout) := by subst h; exact ps_try_as hs hf hN hi hln hc tk hb hsu
theorem tryOK {x : Str} {c : Value} {body suite : List Stmt} {b₀ : Stmt} {np pos pos' : Pos} {tb : WX → TS} {ts : Addr → Value → Option Addr → TS} {Wout : WX} (h : X.K = K) (hs : X.stack = X.env :: X.outer) (hf : X.env.frame = some X.env.locals) (hc : Names X x c) (tk : Takes X Wout)
    (hb : ∀ (W : WX) (pn : List (Addr × Obj)) (xe : Value → Shared → Prop), Takes (X.tr pn xe) W → PassesOwn (model X.prog X.w) X.A X.env xe → PSs (X.tr pn xe) body (tb W))
    (hsu : ∀ (a : Addr) (oe : Obj) (cls : Value) (d : Option Addr) (pn : List (Addr × Obj)), Zc cls d oe → (∃ vs, oe.data = .fields vs) → PSs (X.suite a ((a, oe) :: pn)) (b₀ :: suite) (ts a cls d)) :
    PS X (.Try body [.ExceptHandler (some (.Name x np)) none (b₀ :: suite) pos'] [] [] pos) (tTryO K c tb ts Wout) := by subst h; exact ps_try_only hs hf hc tk hb hsu
end
end DL

/-! DDict: enumerate of lists and tuples; dicts from numbers to numbers; min, max of three; insert. -/
namespace DL
open PySem L2 PySem.Spec PyProof.Rows
variable [TbC]
/-! ### enumerate(tuple) -/
def Itet (K : PySem.W.Frag) (a : Addr) : It :=
  ⟨fun i H => ∃ (xs : List V) (x : V), SqT K H a xs ∧ xs[i]? = some x, fun i H v H' => ∃ T x, v = .ref T ∧ H T = none ∧ H' = upd H T (.tup [.int (i : Nat), x]) ∧ ∀ xs, SqT K H a xs → xs[i]? = some x, fun i H => ∃ xs : List V, SqT K H a xs ∧ xs.length = i⟩
theorem meets_enumerate_1B {v : Value} {o : Obj} {H : Heap → Prop} (B : Begins v o H) :
    Meets (Builtin.«enumerate.__new__» ⟨[.type "enumerate", v], []⟩) (fun _ R s => H s.heap ∧
      R (.ok (.ret (.ref (s.heap.push o).objs.size))) { s with heap := (s.heap.push o).push { cls := .type "enumerate", data := .fields #[.none, .bool false, .ref s.heap.objs.size, rawInt 0, .none, .none] } }) :=
  .of_wp fun prog w A R s h => by
    obtain ⟨hp, g, d, tk, os⟩ := s; obtain ⟨h1, h⟩ := h
    have hsub := sub_enumerate
    have q1 : ∀ {A' : Around} {E : Value → Shared → Prop} {Q : Value → Shared → Prop}, Q (.ref hp.objs.size) ⟨hp.push o, g, d, tk, os⟩ → wpAny (model prog w) A' (pyIter v) Q E ⟨hp, g, d, tk, os⟩ :=
      fun q => B.iter prog w _ _ ⟨hp, g, d, tk, os⟩ _ h1 q
    wp_walk using q1
    refine wpAny_stack_any fun st => wpAny_pure ?_
    split
    · rename_i c _ _ _ _ _
      cases (c == Value.type "enumerate")
      · wp_walk using q1
        exact ⟨_, rfl, h⟩
      · wp_walk using q1
        exact ⟨_, rfl, h⟩
    · wp_walk using q1
      exact ⟨_, rfl, h⟩
section
variable {prog : Program} {w : World} {A : Around} {E : Value → Shared → Prop} {s : Shared}
theorem enum_begins1 {v : Value} {o : Obj} {H : Heap → Prop} {Q : Value → Shared → Prop} (B : Begins v o H) (h1 : H s.heap)
    (h : ∀ h', IsEnum h' (s.heap.objs.size + 1) s.heap.objs.size 0 .none → h'.get? s.heap.objs.size = some o → h'.objs.size = s.heap.objs.size + 2 →
      (∀ b o, s.heap.get? b = some o → h'.get? b = some o) → Q (.ref (s.heap.objs.size + 1)) { s with heap := h' }) :
    wpAny (model prog w) A (call (.type "enumerate") [v]) Q E s := by
  refine callType_new F.called_enumerate (by decide) (F.typeCall_enumerate_1 _) (F.newCall_enumerate_1 _) (fun obj => F.args_object_init_2 obj _) F.entry_enumerate_new
    (meets_enumerate_1B B) ⟨h1, ?_⟩
  have hz : (s.heap.push o).objs.size = s.heap.objs.size + 1 := Heap.size_push ..
  show _ ∧ _
  rw [hz]
  have he : IsEnum ((s.heap.push o).push { cls := .type "enumerate", data := .fields #[.none, .bool false, .ref s.heap.objs.size, rawInt 0, .none, .none] }) (s.heap.objs.size + 1) s.heap.objs.size 0 .none := by
    have := Heap.get?_push_size (s.heap.push o) (o := { cls := .type "enumerate", data := .fields #[.none, .bool false, .ref s.heap.objs.size, rawInt 0, .none, .none] }) rfl
    rw [hz] at this; exact this
  refine ⟨⟨_, he, rfl⟩, h _ he (Heap.get?_push_of_some _ (Heap.get?_push_size _ B.free)) (by rw [Heap.size_push, hz]) fun b o x => Heap.get?_push_of_some _ (Heap.get?_push_of_some _ x)⟩
end
theorem turn_enumT {P : Program} {w : World} {K : PySem.W.Frag} {elts : List Expr} {kk : Nat} {tpos : Pos} (a e it : Addr) :
    Turn P w K (.Tuple elts kk tpos) (Itet K a) [e, it] e (fun i h => (∃ old, IsEnum h e it ((i : Nat) : Int) old) ∧ h.IsTupleIter it a i ∧ e ≠ it) where
  mem := by simp
  obj := fun i h st b hb => by
    obtain ⟨⟨old, he⟩, ⟨o, ho, hc, hd⟩, _⟩ := st
    have e' : b = e ∨ b = it := by simpa using hb
    rcases e' with z | z
    · rw [z]; exact ⟨_, he, fun v q => nomatch q⟩
    · rw [z]; exact ⟨o, ho, fun v q => by rw [hd] at q; cases q⟩
  keep := fun i h h' st k => let ⟨⟨old, he⟩, hi, hne⟩ := st; ⟨⟨old, k e (by simp) _ he⟩, hi.at fun o q => k it (by simp) o q, hne⟩
  item := by
    intro X hP hw hK hc i pins s σ H E I hf st hg
    subst hP hw hK
    obtain ⟨⟨old, he⟩, hit, hne⟩ := st
    obtain ⟨xs, x, hq, hx⟩ := hg
    obtain ⟨its, rv, p, hz⟩ := I.tuple hq
    obtain ⟨u, hu, ru⟩ := rv.get hx
    have hel : e < s.heap.objs.size := Heap.lt_size he
    have hil : it < s.heap.objs.size := by obtain ⟨_, q, _⟩ := hit; exact Heap.lt_size q
    have pT : s.heap.IsTuple a its.toArray := p
    have ha1 : a ≠ it := fun z => by
      obtain ⟨o, q1, q2, _⟩ := hit
      obtain ⟨o', q1', q2', _⟩ := pT
      rw [z, q1] at q1'
      cases q1'
      rw [q2] at q2'
      exact absurd (Value.type.inj q2') (by decide)
    have ha2 : e ≠ a := fun z => by
      obtain ⟨o', q1', q2', _⟩ := pT
      rw [← z, he] at q1'
      cases q1'
      exact absurd (Value.type.inj q2') (by decide)
    have hilt : i < its.toArray.size := by
      have := (List.getElem?_eq_some_iff.mp hu).1
      simpa using this
    refine wpAny_pyNext_enum_itemD (Draws.tuple (A := X.A.in1) (I.ok.hd hc) it a ha1 its.toArray) he ⟨hit, pT⟩ hilt hne (by simp [hne, ha2]) fun x0 h' tk hP ho hit' hT hsz hk => ?_
    have hx0 : x0 = u := by
      have e1 : its.toArray[i]? = some x0 := hP
      have e2 : its.toArray[i]? = some u := by simpa using hu
      rw [e1] at e2
      exact Option.some.inj e2
    subst hx0
    refine ⟨_, rfl, wpAny_letOwnedTupleGo_enum (s := { s with heap := h', toks := tk + 1 }) ho fun h'' he' sb => ?_⟩
    have hT2 : h''.get? s.heap.objs.size = some { cls := .type "tuple", data := .seq #[.int i tk, x0] } := (sb.2 _ (Nat.ne_of_gt hel)).trans hT
    have new : ObjOk X.prog X.w (upd H s.heap.objs.size (.tup [.int (i : Nat), x])) h'' s.heap.objs.size (.tup [.int (i : Nat), x]) :=
      ⟨by show 2 ≤ sizeLine; decide, [.int i tk, x0], .cons ⟨_, rfl⟩ (.cons ru .nil), ⟨_, hT2, rfl, _, rfl⟩⟩
    have I1 : Inv X pins σ (upd H s.heap.objs.size (.tup [.int (i : Nat), x])) { s with heap := h'', toks := tk + 1 } :=
      I.turnedNew (ch := [e, it]) (fun b ob hb q => (sb.2 b (fun z => hb (by simp [z]))).trans (hk b ob (fun z => hb (by simp [z])) (fun z => hb (by simp [z])) q)) hf (Nat.le_refl _) new
    refine ⟨.ref s.heap.objs.size, _, I1, rfl, ⟨_, x, rfl, I.hok.fresh (Nat.le_refl _), rfl, fun ys hy => by rw [I.tuple_inj hy hq]; exact hx⟩, ⟨⟨x0, ?_⟩, hit'.1.at fun o q => (sb.2 it (Ne.symm hne)).trans q, hne⟩, fun b hb => ?_⟩
    · have e1 : ((i + 1 : Nat) : Int) = (i : Int) + 1 := by omega
      rw [e1]; exact he'
    · have hb' : b < s.heap.objs.size := by
        have e' : b = e ∨ b = it := by simpa using hb
        rcases e' with z | z
        · rw [z]; exact hel
        · rw [z]; exact hil
      rw [upd_ne (Nat.ne_of_lt hb')]
      exact (hf b hb).1
  done := by
    intro X hP hw hK hc i pins s σ H E I hf st hg
    subst hP hw hK
    obtain ⟨⟨old, he⟩, hit, hne⟩ := st
    obtain ⟨xs, hq, hx⟩ := hg
    obtain ⟨its, rv, p, hz⟩ := I.tuple hq
    obtain ⟨f0, f1, f2, f3, f4, f5⟩ := hf it (by simp)
    have hl := rv.length
    have pT : s.heap.IsTuple a its.toArray := p
    have ha1 : a ≠ it := fun z => by
      obtain ⟨o, q1, q2, _⟩ := hit
      obtain ⟨o', q1', q2', _⟩ := pT
      rw [z, q1] at q1'
      cases q1'
      rw [q2] at q2'
      exact absurd (Value.type.inj q2') (by decide)
    have hi : i = its.toArray.size := by simp; omega
    exact wpAny_pyNext_enum_endD (Draws.tuple (A := X.A.in1) (I.ok.hd hc) it a ha1 its.toArray) he ⟨hi ▸ hit, pT⟩ fun h' eb => ⟨rfl, I.turned (t' := s.toks) (fun b o hb e => eb b o hb e) f0 f1 f3 f4 f5⟩
  self := fun A i s Q E st h => let ⟨⟨_, he⟩, _⟩ := st; wpAny_pyIter_enum he h
def iEnumA (K : PySem.W.Frag) (ta : TA) : TI := fun σ H R => ta σ H fun vs H1 => ∃ a, vs = [.ref a] ∧ (((∃ xs, SqL K H1 a xs) ∧ R (Ite K a) H1) ∨ ((∃ xs, SqT K H1 a xs) ∧ R (Itet K a) H1))
theorem pi_enumA {X : Cx} {e : Expr} {ta : TA} {p pos tpos : Pos} {elts : List Expr} {kk : Nat} (hg : Gl X "enumerate") (hm : X.mg "enumerate" = none) (ha : PA X [e] ta) (hs : starEach [e] X.env = [(false, eval e X.env)] := by rfl) :
    PI X (.Tuple elts kk tpos) (.Call (.Name "enumerate" p) [e] [] pos) (iEnumA X.K ta) := by
  refine ⟨fun pins s σ H R I h => ?_⟩
  refine Call_ (ld_blt I hg hm boot_enumerate (PyProof.Rows.callWith_type1 (thn (ha.run pos pins s σ H _ I h) fun us s1 ⟨vs, H1, I1, r1, q1⟩ => ?_) hs rfl))
  obtain ⟨a, ex, q⟩ := q1
  subst ex
  cases r1 with
  | cons r rr =>
    cases rr
    cases r
    have fp : ∀ b ∈ [s1.heap.objs.size + 1, s1.heap.objs.size], FpOk X pins H1 b := fun b hb => by
      have e' : b = s1.heap.objs.size + 1 ∨ b = s1.heap.objs.size := by simpa using hb
      have hle : s1.heap.objs.size ≤ b := by
        rcases e' with z | z
        · rw [z]; exact Nat.le_add_right _ _
        · rw [z]; exact Nat.le_refl _
      exact I1.fpOk hle (I1.hok.fresh hle)
    rcases q with ⟨⟨xs, hq⟩, q⟩ | ⟨⟨xs, hq⟩, q⟩
    · obtain ⟨its, rv, p', hz⟩ := I1.list hq
      refine call_enumerate_list p'.isList fun h' he hit hsz hk => wpAny_pyIter_enum he ?_
      have I2 : Inv X pins σ H1 { s1 with heap := h' } := I1.kept (t' := s1.toks) hk
      exact ⟨s1.heap.objs.size + 1, [s1.heap.objs.size + 1, s1.heap.objs.size], _, _, H1, rfl, I2, turn_enum a (s1.heap.objs.size + 1) s1.heap.objs.size, ⟨⟨.none, he⟩, hit, Nat.succ_ne_self _⟩, fp, q⟩
    · obtain ⟨its, rv, p', hz⟩ := I1.tuple hq
      refine enum_begins1 (begins_tuple a its.toArray) p' fun h' he hit hsz hk => wpAny_pyIter_enum he ?_
      have I2 : Inv X pins σ H1 { s1 with heap := h' } := I1.kept (t' := s1.toks) hk
      exact ⟨s1.heap.objs.size + 1, [s1.heap.objs.size + 1, s1.heap.objs.size], _, _, H1, rfl, I2, turn_enumT a (s1.heap.objs.size + 1) s1.heap.objs.size, ⟨⟨.none, he⟩, ⟨_, hit, rfl, rfl⟩, Nat.succ_ne_self _⟩, fp, q⟩
theorem dgetK {X : Cx} {o i : Expr} {pos : Pos} {td ty : TE} (hu : X.A.units + 65 < cLine) (ho : PE X o td) (hi : PE X i ty) (hs : NoSl i) : PE X (.Subscript o i pos) (tDGet td ty) := pe_dget (by omega) ho hi hs
theorem enumAK {X : Cx} {K : PySem.W.Frag} (h : X.K = K) {e : Expr} {ta : TA} {p pos tpos : Pos} {elts : List Expr} {kk : Nat} (hg : Gl X "enumerate") (hm : X.mg "enumerate" = none) (ha : PA X [e] ta) (hs : starEach [e] X.env = [(false, eval e X.env)] := by rfl) :
    PI X (.Tuple elts kk tpos) (.Call (.Name "enumerate" p) [e] [] pos) (iEnumA K ta) := by subst h; exact pi_enumA hg hm ha hs
section
variable {K : PySem.W.Frag} {ρ ρ' : Env} {nw : Nw} {te ta tb tc tw ti : TE} {d e : D} {ds es : List D} {tt : TT} {R : DEnds} {o : O} {i : Nat} {p : List Nat}
theorem ei_enumL (h : EvD K ta ρ (.lst ds)) : EvI K (iEnumA K (tCons ta tNil)) ρ (numD 0 ds) := fun B Hs H σ r R q => h B Hs H σ r _ fun Hs1 H1 v g x => by
  cases x with
  | @lst p vs _ hp' xs =>
    have hp : SqL K Hs1 p vs := .of hp'
    refine ⟨p, rfl, .inl ⟨⟨vs, g.lv.sl hp⟩, q _ Hs1 H1 g fun i Hs2 H2 e1 e2 => ⟨fun d hd => ?_, fun hi => ?_⟩⟩⟩
    · rw [numD_get, Nat.zero_add] at hd
      obtain ⟨d0, e3, e4⟩ := Option.map_eq_some_iff.mp hd
      subst e4
      have hq := (e1.trans e2).sl hp
      obtain ⟨v, hv, xv⟩ := xs.at e3
      refine ⟨⟨vs, v, hq, hv⟩, fun x H3 y => ?_⟩
      obtain ⟨T, w, rfl, hT, rfl, y⟩ := y
      have z := y vs hq
      rw [hv] at z
      cases z
      have n2 : Hs2 T = none := by
        cases q : Hs2 T with
        | none => rfl
        | some u =>
          rw [e2 T u q] at hT
          cases hT
      exact ⟨_, Gr.new e2 hT, .tup upd_same (.cons (.int _) (.cons (xv.mono (e1.trans (Ex.new n2))) .nil))⟩
    · rw [numD_length] at hi
      exact ⟨vs, (e1.trans e2).sl hp, by rw [xs.length]; omega⟩
theorem ei_enumT (h : EvD K ta ρ (.tup ds)) : EvI K (iEnumA K (tCons ta tNil)) ρ (numD 0 ds) := fun B Hs H σ r R q => h B Hs H σ r _ fun Hs1 H1 v g x => by
  cases x with
  | @tup p vs _ hp' xs =>
    have hp : SqT K Hs1 p vs := .of hp'
    refine ⟨p, rfl, .inr ⟨⟨vs, g.lv.st hp⟩, q _ Hs1 H1 g fun i Hs2 H2 e1 e2 => ⟨fun d hd => ?_, fun hi => ?_⟩⟩⟩
    · rw [numD_get, Nat.zero_add] at hd
      obtain ⟨d0, e3, e4⟩ := Option.map_eq_some_iff.mp hd
      subst e4
      have hq := (e1.trans e2).st hp
      obtain ⟨v, hv, xv⟩ := xs.at e3
      refine ⟨⟨vs, v, hq, hv⟩, fun x H3 y => ?_⟩
      obtain ⟨T, w, rfl, hT, rfl, y⟩ := y
      have z := y vs hq
      rw [hv] at z
      cases z
      have n2 : Hs2 T = none := by
        cases q : Hs2 T with
        | none => rfl
        | some u =>
          rw [e2 T u q] at hT
          cases hT
      exact ⟨_, Gr.new e2 hT, .tup upd_same (.cons (.int _) (.cons (xv.mono (e1.trans (Ex.new n2))) .nil))⟩
    · rw [numD_length] at hi
      exact ⟨vs, (e1.trans e2).st hp, by rw [xs.length]; omega⟩
/-! ### dicts from numbers to numbers -/
theorem en_dictV : EvN K tDNewK ρ (.dv (fun _ => none) 0) := fun B Hs H σ r Q q => fun p hp => by
  obtain ⟨n1, n2⟩ := gr_none (Gr.refl r.ex) hp
  refine q Hs _ _ _ (Gr.newO r.ex hp) (.dg (kvs := []) ⟨Nat.le_refl _, fun i => rfl⟩) fun a u z => ?_
  by_cases y : a = p
  · subst y
    rw [upd_same] at z ⊢
    exact ⟨z, hp, n2⟩
  · rw [upd_ne y] at z
    cases z
theorem ev_inV {f : Int → Option Int} {n : Nat} {k : Int} (hk : EvD K ta ρ (.int k)) (h : EvW K te ρ i p) (hi : ρ[i]? = some (some (.tr K nw o))) (hp : o.at_ p = some (.dv f n)) : EvD K (tOp (rInA K) ta te) ρ (.bl (f k).isSome) := fun B Hs H σ r Q q =>
  hk B Hs H σ r _ fun Hs0 H0 y g0 y0 => h B Hs0 H0 σ (r.grow g0) _ fun Hs1 H1 v0 v g hv va => by
    cases y0
    have r1 := (r.grow g0).grow g
    obtain ⟨R, rg⟩ := r1.reg
    obtain ⟨v0', v1, S, hv', va', ow, sub, _⟩ := r1.part rg hi hp
    rw [hv] at hv'
    cases hv'
    have e := va.det va'
    subst e
    cases ow with
    | @dg a _ _ kvs hk =>
      refine .inr (.inr (.inl ⟨a, _, rfl, DGet.k (k := (Sum.inl k : Key)) (sub a _ upd_same).1, ?_⟩))
      rw [hk.2 k, Option.isSome_map]
      exact q Hs1 H1 _ (g0.trans g) (.bl _)
theorem ev_notInV {f : Int → Option Int} {n : Nat} {k : Int} (hk : EvD K ta ρ (.int k)) (h : EvW K te ρ i p) (hi : ρ[i]? = some (some (.tr K nw o))) (hp : o.at_ p = some (.dv f n)) : EvD K (tOp (rNotInA K) ta te) ρ (.bl (!(f k).isSome)) := fun B Hs H σ r Q q =>
  hk B Hs H σ r _ fun Hs0 H0 y g0 y0 => h B Hs0 H0 σ (r.grow g0) _ fun Hs1 H1 v0 v g hv va => by
    cases y0
    have r1 := (r.grow g0).grow g
    obtain ⟨R, rg⟩ := r1.reg
    obtain ⟨v0', v1, S, hv', va', ow, sub, _⟩ := r1.part rg hi hp
    rw [hv] at hv'
    cases hv'
    have e := va.det va'
    subst e
    cases ow with
    | @dg a _ _ kvs hk =>
      refine .inr (.inr (.inl ⟨a, _, rfl, DGet.k (k := (Sum.inl k : Key)) (sub a _ upd_same).1, ?_⟩))
      rw [hk.2 k, Option.isSome_map]
      exact q Hs1 H1 _ (g0.trans g) (.bl _)
/-- d[k] -/
theorem ev_getV {f : Int → Option Int} {n : Nat} {k v : Int} (h : EvW K te ρ i p) (hk : EvD K ta ρ (.int k)) (hi : ρ[i]? = some (some (.tr K nw o))) (hp : o.at_ p = some (.dv f n)) (hf : f k = some v) : EvD K (tDGet te ta) ρ (.int v) := fun B Hs H σ r Q q =>
  h B Hs H σ r _ fun Hs0 H0 v0 v g0 hv va => hk B Hs0 H0 σ (r.grow g0) _ fun Hs1 H1 y g y0 => by
    cases y0
    have r1 := (r.grow g0).grow g
    obtain ⟨R, rg⟩ := r1.reg
    obtain ⟨v0', v1, S, hv', va', ow, sub, _⟩ := r1.part rg hi hp
    rw [hv] at hv'
    cases hv'
    have e := (va.monoN g.fr).det va'
    subst e
    cases ow with
    | @dg a _ _ kvs hk =>
      refine ⟨a, _, rfl, ?_, q Hs1 H1 _ (g0.trans g) (.int _)⟩
      have := DGet.k (k := (Sum.inl k : Key)) (sub a _ upd_same).1
      rw [hk.2 k, hf] at this
      exact this
/-- d[k] = v -/
theorem xs_putV {f : Int → Option Int} {n : Nat} {k x : Int} (h : EvD K te ρ (.int x)) (hw : EvW K tw ρ i p) (hi : ρ[i]? = some (some (.tr K nw o))) (hp : o.at_ p = some (.dv f n)) (hk : EvD K ti ρ (.int k)) (hz : n < 100000) (q : R.nx (ρ.set i (some (.tr K nw (o.put p (.dv (fun y => if y = k then some x else f y) (n + 1))))))) :
    ExS K (tAsg te (gSub tw ti rSetA)) ρ R := fun B Hs H σ Dn r l =>
  h B Hs H σ r _ fun Hs0 H0 w g0 y0 => hw B Hs0 H0 σ (r.grow g0) _ fun Hs1 H1 v0 v g hv va => hk B Hs1 H1 σ ((r.grow g0).grow g) _ fun Hs2 H2 z g2 z2 => by
    cases z2
    cases y0
    have r2 := ((r.grow g0).grow g).grow g2
    obtain ⟨R2, rg2⟩ := r2.reg
    obtain ⟨v0', v1, S, hv', va', ow, sub, kk⟩ := r2.part rg2 hi hp
    rw [hv] at hv'
    cases hv'
    have e := (va.monoN g2.fr).det va'
    subst e
    cases ow with
    | @dg a _ _ kvs hkv =>
      have ha := (sub a _ upd_same).1
      refine .inr ⟨a, _, rfl, DPut.k (k := (Sum.inl k : Key)) ha (Nat.lt_of_le_of_lt hkv.1 (sz_lt hz)), l.nx Hs2 _ _ _ (kk (S' := upd em a (.dK (putK kvs (Sum.inl k : Key) (.int x)))) (.dg ⟨?_, fun y => ?_⟩) (fun b u z => ?_) (fun b u z e => ?_) (fun b e => upd_keep ha e) Ch.upd) q⟩
      · have := length_putK kvs (Sum.inl k : Key) (.int x)
        have := hkv.1
        omega
      · rw [valV_put]
        by_cases e : y = k
        · subst e
          rw [if_pos rfl]
          show some (V.int x) = Option.map V.int (if y = y then some x else f y)
          rw [if_pos rfl]
          rfl
        · rw [if_neg (fun z => e (Sum.inl.inj z)), hkv.2 y]
          show Option.map V.int (f y) = Option.map V.int (if y = k then some x else f y)
          rw [if_neg e]
      · by_cases eb : b = a
        · subst eb
          rw [upd_same] at z ⊢
          exact ⟨z, .inl (by rw [upd_same]; exact fun q => nomatch q)⟩
        · rw [upd_ne eb] at z
          cases z
      · rw [upd_ne (fun eb => by rw [eb, upd_same] at z; cases z)]
        exact e
/-! ### min, max of three -/
theorem nuMin2_int (x y : Int) : nuMin2 (.int x) (.int y) = some (.int (min x y)) := by
  show some (if decide (y < x) = true then V.int y else V.int x) = _
  by_cases h : y < x
  · rw [if_pos (decide_eq_true h), Int.min_eq_right (by omega)]
  · rw [if_neg (by simpa using h), Int.min_eq_left (by omega)]
theorem nuMin3_int (x y z : Int) : nuMin3 (.int x) (.int y) (.int z) = some (.int (min (min x y) z)) := by
  show (nuMin2 (.int x) (.int y)).bind (fun m => nuMin2 m (.int z)) = _
  rw [nuMin2_int]
  exact nuMin2_int _ _
theorem ev_min3 {x y z : Int} (ha : EvD K ta ρ (.int x)) (hb : EvD K tb ρ (.int y)) (hc : EvD K tc ρ (.int z)) : EvD K (tCB (rNuC3 nuMin3) (tCons ta (tCons tb (tCons tc tNil)))) ρ (.int (min (min x y) z)) := fun B Hs H σ r Q q =>
  ha B Hs H σ r _ fun Hs1 H1 v1 g1 x1 => hb B Hs1 H1 σ (r.grow g1) _ fun Hs2 H2 v2 g2 x2 => hc B Hs2 H2 σ ((r.grow g1).grow g2) _ fun Hs3 H3 v3 g3 x3 => by
    cases x1
    cases x2
    cases x3
    refine ⟨_, _, _, .int (min (min x y) z), rfl, ?_, q Hs3 H3 _ ((g1.trans g2).trans g3) (.int _)⟩
    exact nuMin3_int x y z
/-- xs.insert(k, x), an own list -/
theorem xs_insO {k : Int} (hx : ρ[i]? = some (some (.ol ds))) (hk : EvD K ti ρ (.int k)) (h : EvD K te ρ d) (hz : ds.length < 100000) (h0 : 0 ≤ k) (h1 : k < 1000000000) (q : R.nx (ρ.set i (some (.ol (ds.take k.toNat ++ [d] ++ ds.drop k.toNat))))) :
    ExS K (tDrop (tBM K "list" rInsert (tVar i) (tCons ti (tCons te tNil)))) ρ R := fun B Hs H σ Dn r l => by
  obtain ⟨p, vs, e, hp, x, _⟩ := r.mutL i hx
  refine ⟨.ref p, e, .inl ⟨rfl, _, .of hp⟩, hk B Hs H σ r _ fun Hs1 H1 w1 g1 y1 => h B Hs1 H1 σ (r.grow g1) _ fun Hs2 H2 w g2 y => ?_⟩
  cases y1
  obtain ⟨p', vs', e', hp', x', m⟩ := ((r.grow g1).grow g2).mutL i hx
  rw [e] at e'
  cases e'
  refine ⟨p, vs', k, w, rfl, rfl, hp', by rw [x'.length]; exact sz_lt hz, h0, by omega, ?_⟩
  exact l.nx Hs2 _ _ _ (m _ _ (((x'.take _).append (.cons y .nil)).append (x'.drop _))) q
end
end DL

/-! DRev: list(reversed(l)); l.index(i); a.append(b.pop(i)); len(set(l)). -/
namespace PySem
open Sem (wp)
open AutoSeq1 (wpAny_loadPart')
namespace RV
theorem nolen : typeLookup (.type "list_reverseiterator") "__len__" = pure none := by rw [typeLookup_type, builtinLookup_eq_fast]; kernel_rfl
theorem hint : typeLookup (.type "list_reverseiterator") "__length_hint__" = pure (some (.builtin "list_reverseiterator.__length_hint__")) := by rw [typeLookup_type, builtinLookup_eq_fast]; kernel_rfl
section
variable {prog : Program} {w : World} {A : Around} {E : Value → Shared → Prop} {s : Shared} {I l : Addr} {items : Array Value}
abbrev Got (items : Array Value) (acc : Array Value) : Prop := ItemsOf (fun i v => items[items.size - 1 - i]? = some v) acc items.size
theorem extend {R : Result → Shared → Prop} (hh : A.handled = none) (zi : s.heap.IsRevIter I l ((items.size : Int) - 1)) (zl : s.heap.IsList l items) (few : items.size ≤ sizeLine) (S : Addr) (res : Value) (c₀ : Nat) (yS : s.heap.get? S = some { cls := .type "list", data := .seq #[] c₀ }) (hSl : S ≠ l)
    (q : ∀ h' tk acc' c', (∀ b o, b ≠ S → b ≠ I → s.heap.get? b = some o → h'.get? b = some o) → h'.get? S = some { cls := .type "list", dict := none, data := .seq acc' c', slots := #[] } → Got items acc' → R (.ok (.ret res)) { s with heap := h', toks := tk }) :
    wpAny (model prog w) A.in1 (Builtin.List.listExtendWith (.ref S) (.ref I) res) (fun fin s' => match fin with | .done f => R (.ok f) s' | .again c' => c'.quiet = true ∧ codeAny (model prog w) A c' R s') (fun e s' => R (.error e) s') s := by
  obtain ⟨oi, hi1, hi2, hi3⟩ := id zi
  obtain ⟨ol, hl1, hl2, hl3⟩ := id zl
  have nSI : S ≠ I := fun e => by
    rw [e, hi1] at yS
    have := Option.some.inj yS
    rw [this] at hi2
    exact absurd (Value.type.inj hi2) (by decide)
  have nlI : l ≠ I := fun e => by
    rw [e, hi1] at hl1
    have := Option.some.inj hl1
    rw [this, hl2] at hi2
    exact absurd (Value.type.inj hi2) (by decide)
  have nSf : S ∉ [I, l] := by simp [nSI, hSl]
  have W := (Walks.listRev (prog := prog) (w := w) (A := A.in1) hh I l nlI items).toS
  have st0 : 0 ≤ items.size ∧ s.heap.IsRevIter I l ((items.size : Int) - 1 - ((0 : Nat) : Int)) ∧ s.heap.IsList l items := ⟨Nat.zero_le _, by simpa using zi, zl⟩
  have hT : s.TypeIs (.ref I) "list_reverseiterator" := zi.typeIs
  have h1 : Builtin.List.listSameRef (.ref S) (.ref I) = false := by simp [Builtin.List.listSameRef, nSI]
  unfold Builtin.List.listExtendWith
  refine wpAny_bind (wpAny_typeOf hT ?_)
  rw [if_neg (by rw [h1]; decide)]
  refine wpAny_bind (wpAny_pyIter_revIter zi ?_)
  refine wpAny_bind (wpAny_holding ?_)
  unfold Builtin.List.listLengthHint
  refine wpAny_bind (wpAny_specialOf hT nolen ?_)
  show wpAny _ A.in1 (specialOf (Value.ref I) (Str.ofString "__length_hint__") >>= _) _ _ _
  refine wpAny_bind (wpAny_specialOf hT hint ?_)
  generalize hid : ("list_reverseiterator.__length_hint__" : String) = id0
  wp_delta
  rw [show splitId id0 = some ("list_reverseiterator", "__length_hint__") from by subst hid; decide +kernel]
  subst hid
  refine wpAny_bind (wpAny_isInstance (b := true) hT (by rw [isSubtype_type]; kernel_rfl) ?_)
  refine wpAny_pure ?_
  rw [if_neg (by decide)]
  refine wpAny_pure ⟨plainId_quiet F.plain_extend_loop _, codeAny_extend_loopS W few S nSf res items.size 0 _ #[] c₀ rfl (Nat.zero_le _) st0 yS (ItemsOf.nil _) fun s' acc' c' m y3 g => ?_⟩
  rw [Moved.eq_with m]
  refine q s'.heap s'.toks acc' c' (fun b o nb nI e => m.heap b o (fun mm => ?_) e) y3 g
  rcases List.mem_cons.mp mm with e' | mm
  · exact nb e'
  · exact nI (List.mem_singleton.mp mm)
theorem init {R : Result → Shared → Prop} (hh : A.handled = none) (zi : s.heap.IsRevIter I l ((items.size : Int) - 1)) (zl : s.heap.IsList l items) (few : items.size ≤ sizeLine) (S : Addr) (yS : s.heap.get? S = some { cls := .type "list", data := .seq #[] }) (hSl : S ≠ l)
    (q : ∀ h' tk acc' c', (∀ b o, b ≠ S → b ≠ I → s.heap.get? b = some o → h'.get? b = some o) → h'.get? S = some { cls := .type "list", dict := none, data := .seq acc' c', slots := #[] } → Got items acc' → R (.ok (.ret .none)) { s with heap := h', toks := tk }) :
    wpAny (model prog w) A.in1 (Builtin.«list.__init__» ⟨[.ref S, .ref I], []⟩) (fun fin s' => match fin with | .done f => R (.ok f) s' | .again c' => c'.quiet = true ∧ codeAny (model prog w) A c' R s') (fun e s' => R (.error e) s') s := by
  obtain ⟨oi, hi1, hi2, hi3⟩ := id zi
  have nSI : S ≠ I := fun e => by
    rw [e, hi1] at yS
    have := Option.some.inj yS
    rw [this] at hi2
    exact absurd (Value.type.inj hi2) (by decide)
  show wpAny _ _ (do let old ← Builtin.List.listItems (.ref S); Builtin.List.listUpdate (.ref S) (fun _ => #[]); letGo old.toList.reverse; Builtin.List.listExtendWith (.ref S) (.ref I) .none) _ _ s
  refine wpAny_bind ?_
  unfold Builtin.List.listItems
  refine wpAny_bind (wpAny_seqItems yS rfl (wpAny_pure ?_))
  show wpAny _ _ (updateSeq S (fun _ => #[]) >>= fun _ => letGo (#[] : Array Value).toList.reverse >>= fun _ => Builtin.List.listExtendWith (.ref S) (.ref I) .none) _ _ s
  refine wpAny_bind (wpAny_updateSeq yS rfl ?_)
  have y2 := Heap.get?_update_self (Obj.mapSeq (fun _ => (#[] : Array Value))) yS rfl
  have oth : ∀ b o, b ≠ S → s.heap.get? b = some o → (s.heap.update S (Obj.mapSeq (fun _ => (#[] : Array Value)))).get? b = some o := fun b o nb e => (Heap.get?_update_other _ _ (Ne.symm nb)).trans e
  refine wpAny_bind (wpAny_letGo (extend hh (zi.at fun o e => oth I o (Ne.symm nSI) e) (zl.at fun o e => oth l o (Ne.symm hSl) e) few S .none _ y2 hSl fun h' tk acc' c' hk y3 g => ?_))
  exact q h' tk acc' c' (fun b o nb nI e => hk b o nb nI (oth b o nb e)) y3 g
theorem call_rev {Q : Value → Shared → Prop} (hh : A.handled = none) (zi : s.heap.IsRevIter I l ((items.size : Int) - 1)) (zl : s.heap.IsList l items) (few : items.size ≤ sizeLine)
    (q : ∀ h' tk acc' c', (∀ b o, b ≠ I → s.heap.get? b = some o → h'.get? b = some o) → h'.get? s.heap.objs.size = some { cls := .type "list", dict := none, data := .seq acc' c', slots := #[] } → Got items acc' → Q (.ref s.heap.objs.size) { s with heap := h', toks := tk }) :
    wpAny (model prog w) A (call (.type "list") [.ref I]) Q E s := by
  refine callType_codes (Q₁ := fun obj s₁ => obj = .ref s.heap.objs.size ∧ s₁ = { s with heap := s.heap.push { cls := .type "list", data := .seq #[] } }) F.called_list (F.typeCall_list_1 _) F.entry_list_init (code_list_new _ ⟨rfl, rfl⟩) fun obj s₁ h₁ => ?_
  obtain ⟨rfl, rfl⟩ := h₁
  have yS : (s.heap.push { cls := .type "list", data := .seq #[] }).get? s.heap.objs.size = some { cls := .type "list", data := .seq #[] } := Heap.get?_push_size _ rfl
  have hll : l < s.heap.objs.size := by obtain ⟨o, h, _⟩ := id zl; exact Heap.lt_size h
  refine ⟨⟨_, yS, rfl⟩, F.args_list_init_2 _ _, init (A := A.in1) hh (zi.at fun o e => Heap.get?_push_of_some _ e) (zl.at fun o e => Heap.get?_push_of_some _ e) few _ yS (Ne.symm (Nat.ne_of_lt hll)) fun h' tk acc' c' hk y2 g => ?_⟩
  exact ⟨rfl, q h' tk acc' c' (fun b o nI e => hk b o (Nat.ne_of_lt (Heap.lt_size e)) nI (Heap.get?_push_of_some _ e)) y2 g⟩
end
end RV
end PySem
namespace DL
open PySem L2 PySem.Spec PyProof.Rows
variable [TbC]
def tListRev (K : PySem.W.Frag) (te : TE) : TE := fun σ H Q => te σ H fun v H1 => ∃ (a : Addr) (xs : List V), v = .ref a ∧ SqL K H1 a xs ∧ ∀ q, H1 q = none → Q (.ref q) (upd H1 q (.lst xs.reverse))
section
variable {X : Cx}
theorem pe_listRev {e : Expr} {te : TE} {p p2 pos pos2 : Pos} (hc : X.calm = true) (hg : Gl X "list") (hm : X.mg "list" = none) (hg2 : Gl X "reversed") (hm2 : X.mg "reversed" = none) (he : PE X e te)
    (hs : starEach [e] X.env = (false, eval e X.env) :: starEach [] X.env := by rfl)
    (hs2 : starEach [.Call (.Name "reversed" p2) [e] [] pos2] X.env = (false, eval (.Call (.Name "reversed" p2) [e] [] pos2) X.env) :: starEach [] X.env := by rfl) :
    PE X (.Call (.Name "list" p) [.Call (.Name "reversed" p2) [e] [] pos2] [] pos) (tListRev X.K te) := by
  refine ⟨fun pins s σ H Q I h => ?_⟩
  refine Call_ (ld_blt I hg hm boot_list (PyProof.Rows.callWith_type1 (args_cons (Call_ (ld_blt I hg2 hm2 PyProof.Rows.boot_reversed (PyProof.Rows.callWith_type1 (args_cons (thn (he.run pins s σ H _ I h) fun u s1 ⟨v, H1, I1, r1, q1⟩ => args_nil ?_) hs) hs rfl))) hs2) hs2 rfl))
  obtain ⟨a, xs, ev, hq, q⟩ := q1
  subst ev
  obtain rfl : u = Value.ref a := r1
  obtain ⟨its, rv, p', hz⟩ := I1.list hq
  refine call_reversed_list p'.isList (args_nil ?_)
  have k0 : ∀ b o, s1.heap.get? b = some o → (s1.heap.push (revObj a ((its.toArray.size : Int) - 1))).get? b = some o := fun b o e => Heap.get?_push_of_some _ e
  have I2 : Inv X pins σ H1 { s1 with heap := s1.heap.push (revObj a ((its.toArray.size : Int) - 1)) } := I1.kept (t' := s1.toks) k0
  obtain ⟨f0, f1, f2, f3, f4, f5⟩ := I1.fpOk (H' := H1) (b := s1.heap.objs.size) (Nat.le_refl _) (I1.hok.fresh (Nat.le_refl _))
  have hl := p'.isList
  obtain ⟨ol, hol, _⟩ := id hl
  have hne : a ≠ s1.heap.objs.size := Nat.ne_of_lt (Heap.lt_size hol)
  have hn : its.toArray.size ≤ sizeLine := by rw [List.size_toArray, ← rv.length]; exact hz
  refine RV.call_rev (s := { s1 with heap := s1.heap.push (revObj a ((its.toArray.size : Int) - 1)) }) (I := s1.heap.objs.size) (l := a) (items := its.toArray) (I1.ok.hd hc) ⟨_, Heap.get?_push_size _ rfl, rfl, rfl⟩ (hl.push _) hn fun h' tk acc c' hk hS hi => ?_
  have hfp : ∀ b ∈ [s1.heap.objs.size], FpOk X pins H1 b := fun b hb => by
    obtain rfl := List.mem_singleton.mp hb
    exact ⟨f0, f1, f2, f3, f4, f5⟩
  have I3 : Inv X pins σ (upd H1 (s1.heap.push (revObj a ((its.toArray.size : Int) - 1))).objs.size (.lst xs.reverse)) { s1 with heap := h', toks := tk } :=
    I2.turnedNew (t' := tk) (ch := [s1.heap.objs.size]) (fun b o hb e => hk b o (fun z => hb (by simp [z])) e) hfp (Nat.le_refl _)
      (show ObjOk X.prog X.w _ h' _ (.lst xs.reverse) from ⟨by rw [List.length_reverse]; exact hz, acc.toList, c', RT.vals_rev rv hi, by rw [Array.toArray_toList]; exact hS⟩)
  exact ⟨.ref (s1.heap.push (revObj a ((its.toArray.size : Int) - 1))).objs.size, _, I3, rfl, q _ (I2.hok.fresh (Nat.le_refl _))⟩
end
theorem listRevK {X : Cx} {K : PySem.W.Frag} {e : Expr} {te : TE} {p p2 pos pos2 : Pos} (h : X.K = K) (hg : Gl X "list") (hm : X.mg "list" = none) (hg2 : Gl X "reversed") (hm2 : X.mg "reversed" = none) (he : PE X e te) (hc : X.calm = true := by rfl)
    (hs : starEach [e] X.env = (false, eval e X.env) :: starEach [] X.env := by rfl)
    (hs2 : starEach [.Call (.Name "reversed" p2) [e] [] pos2] X.env = (false, eval (.Call (.Name "reversed" p2) [e] [] pos2) X.env) :: starEach [] X.env := by rfl) :
    PE X (.Call (.Name "list" p) [.Call (.Name "reversed" p2) [e] [] pos2] [] pos) (tListRev K te) := by subst h; exact pe_listRev hc hg hm hg2 hm2 he hs hs2
theorem lenSetK {X : Cx} {K : PySem.W.Frag} {a : Expr} {ta : TE} {p p2 q pos : Pos} (h : X.K = K) (hg : Gl X "len") (hm : X.mg "len" = none) (hg2 : Gl X "set") (hm2 : X.mg "set" = none) (ha : PE X a ta) (hc : X.calm = true := by rfl)
    (na : starEach [a] X.env = (false, eval a X.env) :: starEach [] X.env := by rfl) : PE X (.Call (.Name "len" p) [.Call (.Name "set" p2) [a] [] q] [] pos) (RZ.tLenSetI K ta) := by subst h; exact RZ.pe_lenSetI hg hm hg2 hm2 ha hc na
theorem indexK {X : Cx} {K : PySem.W.Frag} (h : X.K = K) : MtR X "list.index" (rIndex K) := by subst h; exact mt_index
section
variable {K : PySem.W.Frag} {ρ ρ' : Env} {te ta tb ti : TE} {d e : D} {ds es : List D} {tt : TT} {R : DEnds}
theorem ef_listRev (ha : EvB K ta ρ ds) : EvF K (tListRev K ta) ρ ds.reverse := fun B Hs H σ r Q q =>
  ha B Hs H σ r _ fun Hs1 H1 p vs g1 hp xs => ⟨p, vs, rfl, hp, fun l hn => by
    obtain ⟨n1, n2⟩ := gr_none g1 hn
    exact q Hs1 _ l _ (g1.trans (Gr.newO g1.lv hn)) n1 n2 upd_same xs.rev⟩
theorem ev_lenSet {xs : List Int} (ha : EvB K ta ρ (xs.map .int)) (hn : xs.Nodup) (hl : xs.length ≤ 4000) : EvD K (RZ.tLenSetI K ta) ρ (.int (xs.length : Nat)) := fun B Hs H σ r Q q =>
  ha B Hs H σ r _ fun Hs1 H1 p vs g1 hp x => by
    have x9 := RepL.ints x; subst x9
    exact ⟨p, xs, rfl, hp, hn, hl, q _ _ _ g1 (.int _)⟩
theorem idxOf_lt_ne {y : Int} : ∀ {xs : List Int} {m : Nat} {z : Int}, m < xs.idxOf y → xs[m]? = some z → (z == y) = false
  | [], m, z, h, e => by cases e
  | x :: xs, m, z, h, e => by
    rw [List.idxOf_cons] at h
    cases hb : (x == y) with
    | true => rw [hb] at h; exact absurd h (Nat.not_lt_zero _)
    | false =>
      rw [hb] at h
      cases m with
      | zero => cases e; exact hb
      | succ m => exact idxOf_lt_ne (Nat.lt_of_succ_lt_succ h) e
theorem ev_index {xs : List Int} {y : Int} (hb : EvB K tb ρ (xs.map .int)) (hy : EvD K te ρ (.int y)) (hm : y ∈ xs) : EvD K (tBM K "list" (rIndex K) tb (tCons te tNil)) ρ (.int (xs.idxOf y : Nat)) := fun B Hs H σ r Q q =>
  hb B Hs H σ r _ fun Hs1 H1 p vs g1 hp x => by
    refine ⟨.inl ⟨rfl, _, hp⟩, hy B Hs1 H1 σ (r.grow g1) _ fun Hs2 H2 w g2 yw => ?_⟩
    cases yw
    have x9 := RepL.ints x; subst x9
    have hp2 := g2.fr.sl hp
    have hi : xs.idxOf y < xs.length := List.idxOf_lt_length_of_mem hm
    refine ⟨p, xs.map V.int, .int y, xs.idxOf y, .int y, rfl, rfl, hp2, rfl, by simp [flatV], ?_, by simp [eqV], ?_, q _ _ _ (g1.trans g2) (.int _)⟩
    · rw [List.getElem?_map, List.getElem?_eq_getElem hi, List.getElem_idxOf hi]
      rfl
    · intro m z' hlt hz
      rw [List.getElem?_map] at hz
      obtain ⟨z, hz2, rfl⟩ := Option.map_eq_some_iff.mp hz
      exact idxOf_lt_ne hlt hz2
/-- a.append(b.pop(k)) -/
theorem xs_appPop {i j : Nat} {k : Int} {n : Nat} (hij : i ≠ j) (hx : ρ[i]? = some (some (.ol ds))) (hy : ρ[j]? = some (some (.ol es))) (hk : EvD K ti ρ (.int k)) (hb : -(2 ^ 63) ≤ k ∧ k < 2 ^ 63) (hn : seqIndex? k es.length = some n) (he : es[n]? = some d) (hz : ds.length < 100000)
    (q : R.nx ((ρ.set j (some (.ol (es.eraseIdx n)))).set i (some (.ol (ds ++ [d]))))) :
    ExS K (tDrop (tBM K "list" rAppend (tVar i) (tCons (tBM K "list" rPopAt (tVar j) (tCons ti tNil)) tNil))) ρ R := fun B Hs H σ Dn r l => by
  obtain ⟨p, vs, e, hp, x, _⟩ := r.mutL i hx
  obtain ⟨p2, vs2, e2, hp2, x2, _⟩ := r.mutL j hy
  refine ⟨.ref p, e, .inl ⟨rfl, _, .of hp⟩, .ref p2, e2, .inl ⟨rfl, _, .of hp2⟩, hk B Hs H σ r _ fun Hs1 H1 w g y => ?_⟩
  cases y
  obtain ⟨p3, vs3, e3, hp3, x3, m3⟩ := (r.grow g).mutL j hy
  rw [e2] at e3
  cases e3
  obtain ⟨u, hu, xu⟩ := x3.at he
  refine ⟨p2, vs3, k, n, u, rfl, rfl, hp3, hb.1, hb.2, by rw [x3.length]; exact hn, hu, ?_⟩
  have r2 := m3 _ (es.eraseIdx n) (x3.erase n)
  obtain ⟨p4, vs4, e4, hp4, x4, m4⟩ := r2.mutL i (by rw [List.getElem?_set_ne (Ne.symm hij)]; exact hx)
  rw [e] at e4
  cases e4
  refine ⟨p, vs4, u, rfl, rfl, hp4, by rw [x4.length]; exact sz_lt hz, ?_⟩
  exact l.nx _ _ _ _ (m4 _ _ (x4.append (.cons xu .nil))) q
end
end DL

/-! DClo: closures: made, handed to other defs, called there. -/
namespace DL
open PySem L2
open PyProof.Rows (envOfC)
variable [TbC]
/-! ### the base grown by the running frame's cells -/
theorem funFrames_none {h base base' : Heap} : ∀ {l : List PySem.Env}, h.FunFrames base l → (∀ b ∈ frs l, base'.get? b = none) → h.FunFrames base' l
  | [], _, _ => trivial
  | env :: rest, hl, k => by
    obtain ⟨h1, ⟨L, o, h2, h3, h4, h5⟩, h6⟩ := hl
    have hm : frs (env :: rest) = L :: frs rest := by
      unfold frs
      rw [List.filterMap_cons, h2]
    refine ⟨h1, ⟨L, o, h2, k L (by rw [hm]; exact List.mem_cons_self ..), h4, h5⟩, funFrames_none h6 fun b hb => k b (by rw [hm]; exact List.mem_cons_of_mem _ hb)⟩
theorem restrictS (h : Heap) (p : Addr → Bool) : ∃ G : Heap, (∀ b, p b = true → G.get? b = h.get? b) ∧ (∀ b, p b = false → G.get? b = none) ∧ G.objs.size = h.objs.size := by
  have hm : ∀ b, b ∈ (List.range h.objs.size).filter (fun b => !p b) ↔ b < h.objs.size ∧ p b = false := fun b => by
    rw [List.mem_filter, List.mem_range, Bool.not_eq_true']
  generalize (List.range h.objs.size).filter (fun b => !p b) = away at hm
  refine ⟨PySem.W.hideAll h away, fun b hb => ?_, fun b hb => ?_, PySem.W.hideAll_size away h⟩
  · cases e : h.get? b with
    | some o =>
      refine PySem.W.hideAll_get away e fun z => ?_
      have := ((hm b).mp z).2
      rw [this] at hb
      cases hb
    | none =>
      refine Option.eq_none_iff_forall_ne_some.mpr fun o q => ?_
      have := PySem.W.of_hideAll away q
      rw [e] at this
      cases this
  · refine Option.eq_none_iff_forall_ne_some.mpr fun o q => ?_
    have hl := Heap.lt_size (PySem.W.of_hideAll away q)
    rw [PySem.W.hideAll_none away ((hm b).mpr ⟨hl, hb⟩)] at q
    cases q
section
variable {X : Cx} {pins : List (Addr × Obj)} {σ : L2.St} {H : Hp} {s : Shared} {cl : List (Str × Addr)} {fr : List Str} {js : List Nat}
/-- base' has what base has, and the cells of the running frame -/
structure Up (X : Cx) (s : Shared) (base' : Heap) : Prop where
  sub : ∀ b o, X.base.get? b = some o → base'.get? b = some o
  at_ : ∀ b o, base'.get? b = some o → s.heap.get? b = some o
theorem ns_cell {h : Heap} {a : Addr} {m : Str → Option Value} {v : Option Value} (n : h.Ns a m) (c : h.IsCell a v) : False := by
  obtain ⟨o, es, ep, e, d, _⟩ := n
  obtain ⟨o', e', d'⟩ := c
  rw [e] at e'
  cases e'
  rw [d] at d'
  cases d'
theorem Inv.up (I : Inv X pins σ H s) (hfn : ∀ y, X.fn y = true) (hst : X.stack = X.env :: X.outer) (hfr : X.env.frame = some X.env.locals) (cp : NdefX.Caps X cl fr js) :
    ∃ base', Up X s base' ∧ NdefX.CellsAt cl fr (js.map (NdefX.slotAt σ)) base' em ∧ Env0 X.prog X.w X.K X.mg base' X.A X.stack s H := by
  classical
  obtain ⟨G, g1, g2, g3⟩ := restrictS s.heap fun b => decide ((∃ o, X.base.get? b = some o) ∨ ∃ y, X.env.cells.lookup y = some b)
  have gk : ∀ b, ((∃ o, X.base.get? b = some o) ∨ ∃ y, X.env.cells.lookup y = some b) → G.get? b = s.heap.get? b := fun b hb => g1 b (decide_eq_true hb)
  have gs : ∀ b o, G.get? b = some o → s.heap.get? b = some o ∧ H b = none := fun b o e => by
    by_cases hb : (∃ o, X.base.get? b = some o) ∨ ∃ y, X.env.cells.lookup y = some b
    · rw [gk b hb] at e
      refine ⟨e, ?_⟩
      rcases hb with ⟨u, hu⟩ | ⟨y, hy⟩
      · exact (I.bs b u hu).2
      · exact I.freeC y b hy
    · rw [g2 b (decide_eq_false hb)] at e
      cases e
  have sub : ∀ b o, X.base.get? b = some o → G.get? b = some o := fun b o e => by
    rw [gk b (.inl ⟨o, e⟩)]
    exact (I.bs b o e).1
  have nsK : ∀ {b : Addr} {m : Str → Option Value}, X.base.Ns b m → G.Ns b m := fun {b m} ⟨o, es, ep, e, d, r⟩ => ⟨o, es, ep, sub _ _ e, d, r⟩
  have hM : L2.Mod X.K X.mg G := ⟨fun b o e => sub b o (I.ok.mod.kin b o e), nsK I.ok.mod.glob, let ⟨mb, h1, h2⟩ := I.ok.mod.blt; ⟨mb, nsK h1, h2⟩, let ⟨mc, h1, h2⟩ := I.ok.mod.nolimit; ⟨mc, nsK h1, h2⟩⟩
  have noF : ∀ b ∈ frs X.stack, G.get? b = none := fun b hb => by
    refine g2 b (decide_eq_false fun z => ?_)
    rcases z with ⟨o, e⟩ | ⟨y, hy⟩
    · have := (I.stack.mem hb).1
      rw [e] at this
      cases this
    · rw [hst] at hb
      have hm : frs (X.env :: X.outer) = X.env.locals :: frs X.outer := by
        unfold frs
        rw [List.filterMap_cons, hfr]
      rw [hm] at hb
      obtain ⟨v, hc⟩ := I.cell y b hy
      rcases List.mem_cons.mp hb with e | e
      · subst e
        obtain ⟨m, hn, _⟩ := I.loc
        exact ns_cell hn hc
      · obtain ⟨_, o, ho, _⟩ := I.ok.funs.mem e
        exact absurd (Heap.lt_size ho) (Nat.not_lt_of_le (I.ok.cab y b (hfn y) hy))
  have C := NdefX.cells_of I cp
  refine ⟨G, ⟨sub, fun b o e => (gs b o e).1⟩, ⟨C.len, fun y c e => ⟨rfl, ?_⟩, C.inj, fun i y e => ?_⟩, ⟨I.ok.frames, hM, gs, ?_, funFrames_none I.stack noF, I.stkFree, I.hok, I.bare⟩⟩
  · obtain ⟨_, v, o, ho, hd⟩ := C.all y c e
    exact ⟨v, o, by rw [gk c (.inr ⟨y, cp.sub y c e⟩)]; exact ho, hd⟩
  · obtain ⟨c, hc, hv⟩ := C.has i y e
    refine ⟨c, hc, fun v ev => ?_⟩
    obtain ⟨u, r, o, ho, hd⟩ := hv v ev
    exact ⟨u, r, o, by rw [gk c (.inr ⟨y, cp.sub y c hc⟩)]; exact ho, hd⟩
  · rw [g3]
    exact Nat.le_refl _
end
/-! ### calls of defs that get closures of the running frame -/
section
variable {X : Cx} {CX : CXT} {k : Nat} {f C : Addr} {fd : FuncData} {ps : List Str} {sp : Sp} {E : XK} {m x : Str} {pos apos p : Pos} {e o : Expr} {es : List Expr} {ta : TE} {t : TA} {pl : Sem Bool} {cl : List (Str × Addr)} {fr : List Str} {js : List Nat}
theorem run_fnU {pins : List (Addr × Obj)} {σ : St} {H : Hp} {s : Shared} {Q : VK} {us : List Value} {vs : List V} {base' : Heap} (e0 : Env0 X.prog X.w X.K X.mg base' X.A X.stack s H) (F : FnOk X.prog X.w X.K X.mg base' CX k f fd ps sp) (hr : Room k X.A) (hb : Binds X.K fd ps []) (hx : Passes CX X E)
    (I : Inv X pins σ H s) (r : Vals vs us) (h : sp vs H Q E) : wpAny (model X.prog X.w) X.A (call (.ref f) us) (EP X pins σ Q) X.xe s := by
  have hl : us.length = ps.length := by rw [← r.length]; exact F.len _ _ _ _ h
  have b := hb s us I.kIn (by rw [List.append_nil]; exact hl)
  rw [List.append_nil] at b
  refine wpAny_call (codeAny_mono (F.run X.A X.stack s H ⟨us, []⟩ us vs Q E hr e0 b r h) fun r s' hq => ?_)
  cases r with
  | error e => exact hx pins σ H s e s' I hq
  | ok fl =>
    cases fl with
    | ret u => exact I.after hq
    | next => exact False.elim hq
    | brk => exact False.elim hq
    | cont => exact False.elim hq
/-- methods by class, over any base -/
inductive AltsG (X : Cx) (base : Heap) (CX : CXT) (k : Nat) (m : Str) : List (Addr × Sp) → Prop
  | nil : AltsG X base CX k m []
  | cons {C f : Addr} {fd : FuncData} {ps : List Str} {sp : Sp} {r : List (Addr × Sp)} {j : Nat} (hj : j ≤ k) (c : Cls X.K C) (hm : Meth X.K C m f) (F : FnOk X.prog X.w X.K X.mg base CX j f fd ps sp) (hb : Binds X.K fd ps []) (h : AltsG X base CX k m r) : AltsG X base CX k m ((C, sp) :: r)
theorem AltsG.get {base : Heap} {alts : List (Addr × Sp)} (h : AltsG X base CX k m alts) : ∀ {C : Addr} {sp : Sp}, (C, sp) ∈ alts → ∃ f fd ps, Cls X.K C ∧ Meth X.K C m f ∧ FnOk X.prog X.w X.K X.mg base CX k f fd ps sp ∧ Binds X.K fd ps [] := by
  induction h with
  | nil => intro C sp h; cases h
  | cons hj c hm F hb _ ih =>
    intro C sp h
    rcases List.mem_cons.mp h with e | e
    · cases e
      exact ⟨_, _, _, c, hm, F.mono hj, hb⟩
    · exact ih e
/-- o.m(..): closures of the running frame among the arguments; js: where what they capture stands -/
def tMethU (js : List Nat) (alts : List V → List (Addr × Sp)) (m : Str) (E : XK) (ta : TE) (t : TA) : TE := fun σ H Q => ta σ H fun x H1 => ∃ a C dx fs us sp, x = .ref a ∧ H1 a = some (.ins C dx fs) ∧ js.map (NdefX.slotAt σ) = us.map some ∧ (C, sp) ∈ alts us ∧ fs.lookup m = none ∧
  t σ H1 fun vs H2 => sp (x :: vs) H2 Q E
theorem pe_methU {alts : List V → List (Addr × Sp)} (he : PE X o ta) (hfn : ∀ y, X.fn y = true) (hst : X.stack = X.env :: X.outer) (hfr : X.env.frame = some X.env.locals) (cp : X.Ok → NdefX.Caps X cl fr js)
    (al : ∀ base' (us : List V), (∀ b o, X.base.get? b = some o → base'.get? b = some o) → NdefX.CellsAt cl fr (us.map some) base' em → AltsG X base' CX k m (alts us)) (hr : Room k X.A) (hx : Passes CX X E) (ha : PA X (e :: es) t)
    (hs : starEach (e :: es) X.env = (false, eval e X.env) :: starEach es X.env := by rfl) (hpl : (backTo pos (starEach es X.env)).any (·.1) = false := by rfl)
    (ht : eval (.Call (.Attribute o m apos) (e :: es) [] pos) X.env = (do
      let ov ← eval o X.env
      standAt apos.atName
      let (f, first) ← holding [ov] (getMethod ov m pl)
      callWith pos f first (backTo pos (starEach (e :: es) X.env)) (backToKw pos (keywordEach [] X.env))) := by rfl) :
    PE X (.Call (.Attribute o m apos) (e :: es) [] pos) (tMethU js alts m E ta t) := by
  refine ⟨fun pins s σ H Q I h => ?_⟩
  refine PySem.W.methodCall_KW (pl := pl) (thn (he.run pins s σ H _ I h) fun u s1 ⟨x, H1, I1, rx, a, C, dx, fs, vs0, sp, ex, ea, hus, hin, l, q⟩ => ?_) ht
  subst ex
  obtain rfl : u = Value.ref a := rx
  obtain ⟨base1, up1, C1, _⟩ := Inv.up I1 hfn hst hfr (cp I1.ok)
  rw [hus] at C1
  obtain ⟨f, fd, ps, c, hm, _, hb⟩ := (al base1 vs0 up1.sub C1).get hin
  refine getmeth_ok I1 ea c hm l ?_
  refine PySem.W.callWith_K (first := [.ref a]) (h₀ := X.base) I.ok.mod.kin hm.kp (thn (ha.run pos pins s1 σ H1 _ I1 q) fun us s2 ⟨vs, H2, I2, r, q2⟩ => ⟨I2.kIn, ?_⟩) hs hpl
  obtain ⟨base2, up2, C2, e2⟩ := Inv.up I2 hfn hst hfr (cp I2.ok)
  rw [hus] at C2
  obtain ⟨f2, fd2, ps2, _, hm2, F2, hb2⟩ := (al base2 vs0 up2.sub C2).get hin
  obtain rfl : f = f2 := by
    have e1 := hm.1.symm.trans hm2.1
    cases e1
    rfl
  exact run_fnU (us := .ref a :: us) (vs := .ref a :: vs) e2 F2 hr hb2 hx I2 (.cons rfl r) q2
/-- f(..), closures of the running frame among the arguments -/
def tCallU (js : List Nat) (sp : List V → Sp) (E : XK) (t : TA) : TE := fun σ H Q => t σ H fun vs H1 => ∃ us, js.map (NdefX.slotAt σ) = us.map some ∧ sp us vs H1 Q E
theorem pe_callU {sp : List V → Sp} (F : ∀ base' (us : List V), (∀ b o, X.base.get? b = some o → base'.get? b = some o) → NdefX.CellsAt cl fr (us.map some) base' em → FnOk X.prog X.w X.K X.mg base' CX k f fd ps (sp us)) (hfn : ∀ y, X.fn y = true) (hst : X.stack = X.env :: X.outer) (hfr : X.env.frame = some X.env.locals) (cp : X.Ok → NdefX.Caps X cl fr js)
    (hr : Room k X.A) (hg : Gl X x) (hm : X.mg x = some (.ref f)) (hk : PySem.W.keepIn X.K (.ref f) = true) (hb : Binds X.K fd ps []) (hx : Passes CX X E) (ha : PA X (e :: es) t)
    (hdb : (x == ("__debug__" : Str)) = false := by decide) (hs : starEach (e :: es) X.env = (false, eval e X.env) :: starEach es X.env := by rfl) (hpl : (backTo pos (starEach es X.env)).any (·.1) = false := by rfl) :
    PE X (.Call (.Name x p) (e :: es) [] pos) (tCallU js sp E t) := by
  refine ⟨fun pins s σ H Q I h => ?_⟩
  refine wpAny_Call_Name_kw (ld_glob I hg hm ?_ hdb)
  refine PySem.W.callWith_K (h₀ := X.base) I.ok.mod.kin hk (thn (ha.run pos pins s σ H _ I h) fun us s1 ⟨vs, H1, I1, r, vs0, hus, q⟩ => ⟨I1.kIn, ?_⟩) hs hpl
  obtain ⟨base2, up2, C2, e2⟩ := Inv.up I1 hfn hst hfr (cp I1.ok)
  rw [hus] at C2
  exact run_fnU e2 (F base2 vs0 up2.sub C2) hr hb hx I1 r q
/-! ### a closure that came as an argument is called; the base has its cells -/
theorem CellsAt.live {pins : List (Addr × Obj)} {σ : St} {H : Hp} {s : Shared} {ws : List (Option V)} (C : NdefX.CellsAt cl fr ws X.base em) (I : Inv X pins σ H s) : NdefX.CellsAt cl fr ws s.heap H := by
  refine ⟨C.len, fun y c e => ?_, C.inj, fun i y e => ?_⟩
  · obtain ⟨_, v, o, ho, hd⟩ := C.all y c e
    exact ⟨(I.bs c o ho).2, v, o, (I.bs c o ho).1, hd⟩
  · obtain ⟨c, hc, hv⟩ := C.has i y e
    refine ⟨c, hc, fun v ev => ?_⟩
    obtain ⟨u, r, o, ho, hd⟩ := hv v ev
    exact ⟨u, r, o, (I.bs c o ho).1, hd⟩
def tCallP (mk : Addr → NdefX.NF) (i : Nat) (sp : Sp) (E : XK) (t : TA) : TE := fun σ H Q => ∃ f c', σ[i]? = some (some (.ref f)) ∧ H f = some (NdefX.FnO f (mk c')) ∧
  t σ H fun vs H1 => H1 f = some (NdefX.FnO f (mk c')) ∧ H1 (mk c').c = some (LamX.CodeO (mk c').c (mk c').qual) ∧ sp vs H1 Q E
theorem pe_callP {mk : Addr → NdefX.NF} {i j : Nat} {us : List V} {spn : List (Option V) → Sp} (Fn : ∀ f c', NdefX.NOk X.prog X.w X.K X.mg X.base CX j f (mk c') ps fr spn) (C : NdefX.CellsAt cl fr (us.map some) X.base em) (hcl : ∀ c', (mk c').cl = cl) (hr : Room k X.A) (hk : j ≤ k) (hx : Passes CX X E)
    (hN : X.N[i]? = some x) (hv : Vis X.env.scope x) (ha : PA X (e :: es) t)
    (hd : (x == ("__debug__" : Str)) = false := by decide) (hcd : (x == ("__classdict__" : Str)) = false := by decide)
    (hs : starEach (e :: es) X.env = (false, eval e X.env) :: starEach es X.env := by rfl) (hpl : (backTo pos (starEach es X.env)).any (·.1) = false := by rfl) :
    PE X (.Call (.Name x p) (e :: es) [] pos) (tCallP mk i (spn (us.map some)) E t) := by
  refine ⟨fun pins s σ H Q I h => ?_⟩
  obtain ⟨f, c', hs', hf, ht⟩ := h
  refine wpAny_Call_Name_kw (thn ((pe_var (pos := p) hN hv hd hcd).run pins s σ H (fun v H1 => v = .ref f ∧ H1 = H) I ⟨.ref f, hs', rfl, rfl⟩) fun u s1 ⟨v, H1, I1, r1, ev, eH⟩ => ?_)
  subst ev
  subst eH
  obtain rfl : u = Value.ref f := r1
  refine PySem.W.callWith_F (first := []) (NdefX.fnAt_of I1 hf) (thn (ha.run pos pins s1 σ _ _ I1 ht) fun ws s2 ⟨vs, H2, I2, r, h1, h2, q⟩ => ⟨NdefX.fnAt_of I2 h1, ?_⟩) hs hpl
  show wpAny _ _ (call (.ref f) ws) _ _ _
  have C2 := CellsAt.live C I2
  rw [← hcl c'] at C2
  refine wpAny_call (codeAny_mono ((Fn f c').run X.A X.stack s2 H2 ws vs (us.map some) Q E (hr.mono hk) I2.env0 h1 h2 C2 r q) fun r s' hq => ?_)
  cases r with
  | error e => exact hx pins σ H2 s2 e s' I2 hq
  | ok fl =>
    cases fl with
    | ret u => exact I2.after hq
    | next => exact False.elim hq
    | brk => exact False.elim hq
    | cont => exact False.elim hq
end
theorem _root_.LamX.TabB.up {base base' : Heap} {mg : Str → Option Value} {c P : Addr} (t : LamX.TabB base mg c P) (k : ∀ b o, base.get? b = some o → base'.get? b = some o) : LamX.TabB base' mg c P :=
  ⟨t.code.keeps k, let ⟨bm, o, h1, h2, h3, h4, h5, h6⟩ := t.bm; ⟨bm, o, h1, h2, h3, h4, k _ _ h5, h6⟩, t.gP⟩
section
variable {X : Cx} {cl0 : List (Str × Addr)} {fr : List Str} {js : List Nat} {st : Stmt}
theorem capsC (hB : NdefX.ndefB X.env.scope (C8.fnScope st) fr = true) (hjs : js.map (fun j => X.N[j]?) = fr.map some) (hcl : X.env.cells = cl0) : X.Ok → NdefX.Caps X (cloFrom cl0 (C8.fnScope st).names []) fr js := fun ok => by
  subst hcl
  exact NdefX.Caps.made ok (NdefX.ndef_free hB) (NdefX.ndef_fr hB) hjs
theorem ps_ndefC {T : List NdefX.NTab} {nm : Nat → Nat → Str} {c P : Addr} {name q : Str} {pos : Pos} {i : Nat} (hst : st = .FunctionDef name (C8.fnArgs st) (C8.fnBody st) [] none [] (C8.fnScope st) none name pos) (TB : LamX.TabB X.base X.mg c P) (hcode : X.env.code = .ref c) (hm : (P, nm) ∈ T) (hn : nm pos.line pos.col = q) (hq : X.env.qual ++ name = q)
    (hu : ∀ p ∈ T, p.1 = P → p.2 = nm) (hB : NdefX.ndefB X.env.scope (C8.fnScope st) fr = true) (hd0 : (C8.fnArgs st).defaults = []) (hk0 : (C8.fnArgs st).kw_defaults = []) (ha : annTrees (C8.fnArgs st) none X.env = [])
    (hN : X.N.Nodup) (hi : X.N[i]? = some name) (hx : Loc X.env.scope name) (hf : X.fn name = true) (hcl : X.env.cells = cl0) : PS X st (NdefX.tNdefM T i (NdefX.NF.of st name q (cloFrom cl0 (C8.fnScope st).names []))) := by
  subst hcl hq
  exact NdefX.ps_ndefMS hst TB hcode hm hn hu (NdefX.ndef_free hB) hd0 hk0 ha hN hi hx (.inl hf)
end
/-! ### on deep data -/
section
variable {K : PySem.W.Frag} {ρ ρ' : Env} {te ta tb : TE} {d e : D} {ds es cs : List D} {tt : TT} {R : DEnds} {C : Addr} {ns : List Str}
/-- def name(..): .. in a body -/
theorem xs_ndef {i : Nat} {mk : Addr → NdefX.NF} (hc : ∀ c, (mk c).c = c) (q : ∀ c, R.nx (ρ.set i (some (.sh (.clo (mk c) [] []))))) : ExS K (NdefX.tNdefM TbC.T i mk) ρ R := fun B Hs H σ Dn r l => by
  refine ⟨r.tb.2, fun f c' H1 eN dm T1 f0 f1 c1 => ?_⟩
  have nt := r.tb.1
  have nHs : Hs f = none := by
    cases z : Hs f with
    | none => rfl
    | some u =>
      rw [r.ex f u z] at f0
      cases f0
  have old : ∀ a o, Hs a = some o → H1 a = some o := fun a o z => eN a o (r.ex a o z) fun ps z2 => nt a ps (by rw [z, z2])
  have g : Gr Hs H H (fun a => if a = f ∨ a = c' then H1 a else Hs a) H1 := by
    refine ⟨eN, fun a o z => ?_, fun a o z => ?_, fun a z => ?_, fun a z y => z (dm a y), fun a z y => z (dm a y), fun a z => ?_, fun _ a ps z => ?_, fun _ => T1⟩
    · show (if a = f ∨ a = c' then H1 a else Hs a) = some o
      split
      · exact old a o z
      · exact z
    · have z : (if a = f ∨ a = c' then H1 a else Hs a) = some o := z
      split at z
      · exact z
      · exact old a o z
    · show (if a = f ∨ a = c' then H1 a else Hs a) = Hs a
      obtain ⟨o, e1, e2⟩ := z
      refine if_neg fun y => ?_
      have e3 := eN a o e1 (pln_tbl e2)
      rcases y with y | y
      · rw [y, f0] at e1
        cases e1
      · rw [y, c1] at e3
        cases e3
        cases e2
    · obtain ⟨o, e1, e2⟩ := z
      exact ⟨o, eN a o e1 (pln_tbl e2), e2⟩
    · have z : (if a = f ∨ a = c' then H1 a else Hs a) = some (.tbl ps) := z
      split at z
      · rename_i y
        rcases y with y | y
        · rw [y, f1] at z
          cases z
        · rw [y, c1] at z
          cases z
      · exact nt a ps z
  refine l.nx _ H1 _ _ ((r.grow g).set i (.clo ?_ ?_ .nil)) (q c')
  · show (if f = f ∨ f = c' then H1 f else Hs f) = _
    rw [if_pos (.inl rfl)]
    exact f1
  · show (if (mk c').c = f ∨ (mk c').c = c' then H1 (mk c').c else Hs (mk c').c) = _
    rw [if_pos (.inr (hc c')), hc c']
    exact c1
/-- a closure's captured values are told -/
def dress (us : List V) (cs : List D) : D → D
  | .clo F _ _ => .clo F us cs
  | d => d
theorem Rep.dress {H : Hp} {us : List V} (h : RepL K H us cs) {v : V} {d : D} (x : Rep K H v d) : Rep K H v (dress us cs d) := by
  cases x with
  | clo a b c => exact .clo a b h
  | non => exact .non
  | bl b => exact .bl b
  | int i => exact .int i
  | str x => exact .str x
  | ty n => exact .ty n
  | fn a => exact .fn a
  | lst a b => exact .lst a b
  | scr a b => exact .scr a b
  | tup a b => exact .tup a b
  | obj a b => exact .obj a b
theorem RepL.dress {H : Hp} {us : List V} (h : RepL K H us cs) : ∀ {vs : List V} {ds : List D}, RepL K H vs ds → RepL K H vs (ds.map (dress us cs))
  | _, _, .nil => .nil
  | _, _, .cons a b => .cons (a.dress h) (RepL.dress h b)
/-- the slots js hold shared data -/
theorem RS.gets {B : Base} {Hs H : Hp} {σ : St} (r : RS K B Hs H σ ρ) : ∀ {js : List Nat} {cs : List D}, js.map (fun j => ρ[j]?) = cs.map (fun d => some (some (.sh d))) → ∃ us, js.map (NdefX.slotAt σ) = us.map some ∧ RepL K Hs us cs
  | [], [], _ => ⟨[], rfl, .nil⟩
  | [], _ :: _, h => by simp at h
  | _ :: _, [], h => by simp at h
  | j :: js, c :: cs, h => by
    rw [List.map_cons, List.map_cons] at h
    obtain ⟨h1, h2⟩ := List.cons.inj h
    obtain ⟨us, e1, e2⟩ := RS.gets r h2
    obtain ⟨v, e3, e4⟩ := r.get h1
    exact ⟨v :: us, by rw [List.map_cons, List.map_cons, e1, NdefX.slotAt_of e3], .cons e4 e2⟩
theorem ev_methU {js : List Nat} {alts : List V → List (Addr × Sp)} {m : Str} {E : XK} {t : TA} {α : Type} {pre : α → Prop} {arg : List V → α → List D} {res : α → D} (x : α) (h : EvD K ta ρ (.obj C ns ds)) (ht : EvA K t ρ es) (hj : js.map (fun j => ρ[j]?) = cs.map (fun d => some (some (.sh d)))) (hin : ∀ us, (C, spG K pre (arg us) res) ∈ alts us) (hm : ns.contains m = false)
    (ha : ∀ us, arg us x = .obj C ns ds :: es.map (dress us cs)) (p : pre x) : EvD K (tMethU js alts m E ta t) ρ (res x) := fun B Hs H σ r Q q =>
  h B Hs H σ r _ fun Hs1 H1 v g1 xo => by
    cases xo with
    | @obj a _ dx _ vs _ hp xs =>
      obtain ⟨us, e1, e2⟩ := r.gets hj
      refine ⟨a, C, dx, _, us, _, rfl, g1.lv _ _ hp, e1, hin us, look_none hm, ht B Hs1 H1 σ (r.grow g1) _ fun Hs2 H2 ws g2 ys => ?_⟩
      refine ⟨Hs2, x, ⟨g2.lv, (r.grow (g1.trans g2)).tb⟩, by rw [ha us]; exact .cons (.obj (g2.sh _ _ hp) (xs.mono g2.sh)) (RepL.dress (e2.mono (g1.trans g2).sh) ys), p, fun Hs' H' w d g y e => ?_⟩
      exact q Hs' H' w ((g1.trans g2).trans g) (e ▸ y)
/-- what a closure promises: us what its cells hold -/
def spCl (K : PySem.W.Frag) {α : Type} (pre : α → Prop) (arg cap : α → List D) (res : α → D) (us : List V) : Sp := fun vs H Q _ => ∃ (Hs : Hp) (x : α), (Ex Hs H ∧ NT Hs ∧ TB H) ∧ RepL K Hs vs (arg x) ∧ RepL K Hs us (cap x) ∧ pre x ∧
  ∀ Hs' H' v, Gr Hs H H Hs' H' → Rep K Hs' v (res x) → Q v H'
def spN_ (sp : List V → Sp) (ws : List (Option V)) : Sp := fun vs H Q E => ∃ us, ws = us.map some ∧ sp us vs H Q E
theorem ev_callP {mk : Addr → NdefX.NF} {i : Nat} {us : List V} {E : XK} {t : TA} {α : Type} {pre : α → Prop} {arg cap : α → List D} {res : α → D} (x : α) {c : Addr} (hi : ρ[i]? = some (some (.sh (.clo (mk c) us (cap x))))) (ht : EvA K t ρ (arg x)) (p : pre x) :
    EvD K (tCallP mk i (spN_ (spCl K pre arg cap res) (us.map some)) E t) ρ (res x) := fun B Hs H σ r Q q => by
  obtain ⟨v, e, xv⟩ := r.get hi
  cases xv with
  | @clo f _ _ _ h1 h2 h3 =>
    refine ⟨f, c, e, r.ex _ _ h1, ht B Hs H σ r _ fun Hs1 H1 vs g ys => ?_⟩
    exact ⟨g.lv _ _ (g.sh _ _ h1), g.lv _ _ (g.sh _ _ h2), us, rfl, Hs1, x, ⟨g.lv, (r.grow g).tb⟩, ys, h3.mono g.sh, p, fun Hs' H' w g2 y => q Hs' H' w (g.trans g2) y⟩
/-- a closure by its body -/
theorem nok_r {P : Program} {w : World} {mg : Str → Option Value} {base : Heap} {N ps fr : List Str} {F : NdefX.NF} {f : Addr} {k : Nat} {α : Type} {pre : α → Prop} {arg cap : α → List D} {res : α → D} (S : NdefX.NScope N ps fr F.scope)
    (hb : ∀ (doc pm ctv : Value) (us : List Value), us.length = ps.length → bindArgs (F.fd doc pm ctv) ⟨us, []⟩ = pure (ps.zip us)) (hl : ∀ x, (arg x).length = ps.length) (hc : ∀ x, (cap x).length = fr.length) {t : TS}
    (hp : ∀ (A : Around) (outer : List PySem.Env) (s : Shared) (H : Hp) (E : XK), Room k (A.deeper (NdefX.envF F f s.heap.objs.size)) → PSs (NdefX.ncx CX0 P w K mg base N F f A outer s H E).nox F.body t)
    (hd : ∀ x, pre x → ExS K t (entry N (arg x ++ cap x)) { nx := fun _ => False, rt := fun d => d = res x }) : NdefX.NOk P w K mg base CX0 (k + 1) f F ps fr (spN_ (spCl K pre arg cap res)) := by
  refine NdefX.nok_of S hb (fun ws vs H Q E h => ?_) (fun A outer s H vs ws Q E hr h1 h2 h3 h => ?_)
  · obtain ⟨us, _, Hs, x, _, r, _⟩ := h
    rw [r.length, hl]
  · obtain ⟨us, e1, Hs, x, e, r, r2, hpx, q⟩ := h
    refine ⟨t, (hp A outer s H E hr).nox, ?_⟩
    have hN : (arg x ++ cap x).length ≤ N.length := by
      have := congrArg List.length S.pre
      rw [List.length_take, List.length_append] at this
      rw [List.length_append, hl, hc]
      omega
    have es : NdefX.startF N vs ws = L2.start N (vs ++ us) := by
      unfold NdefX.startF L2.start
      rw [e1, List.map_append, List.length_map, List.length_append, List.append_assoc, Nat.sub_sub]
    rw [es]
    exact hd x hpx ⟨Hs, H, H, e.2⟩ Hs H (L2.start N (vs ++ us)) _ (rs_entry e (r.append r2) hN)
      ⟨fun Hs' H' σ ρ r' z => z.elim, fun Hs' H' v d g x z => q Hs' H' v g (z ▸ x), fun _ _ _ _ _ _ _ _ _ _ z => z.elim, fun _ _ _ _ _ z => z.elim, fun _ _ _ _ _ z => z.elim, fun _ _ _ _ _ _ _ _ z => z.elim, fun _ _ _ _ _ _ _ _ _ z => z.elim, fun _ _ _ _ _ _ _ _ z => z.elim⟩
end
/-! ### defs that make closures -/
/-- a def whose code object is at c -/
structure FunC (K : PySem.W.Frag) (x qual : Str) (st : Stmt) (f : Addr) (fd : FuncData) (c : Addr) : Prop where
  ex : ∃ (oc : Value) (od : Option Addr) (kV doc pm : Value) (an : Option Addr) (ct : Value) (osl : Array (Option Value)),
    fd = PySem.W.fnOf x qual (defArgs st) (defBody st) (defScope st) .none kV doc pm an (.ref c) ct ∧ K.lookup f = some ⟨oc, od, .func fd, osl⟩ ∧ PySem.W.codeIn K (.ref c) qual = true
  kp : PySem.W.keepIn K (.ref f) = true
section
variable {P : Program} {w : World} {K : PySem.W.Frag} {mg : Str → Option Value} {base : Heap} {x qual : Str} {st : Stmt} {f c : Addr} {fd : FuncData} {N ps : List Str} {k : Nat} {sp : Sp} {α : Type} {pre : α → Prop} {arg : α → List D}
theorem FunC.fun (F : FunC K x qual st f fd c) : Fun K x qual st f fd := by
  obtain ⟨oc, od, kV, doc, pm, an, ct, osl, h1, h2, h3⟩ := F.ex
  exact ⟨⟨oc, od, kV, doc, pm, an, _, ct, osl, h1, h2, h3⟩, F.kp⟩
theorem FunC.ok (F : FunC K x qual st f fd c) (S : FnScope N ps (defScope st)) (len : ∀ vs H Q E, sp vs H Q E → vs.length = ps.length)
    (hbody : ∀ (A : Around) (outer : List PySem.Env) (s : Shared) (H : Hp) (vs : List V) (Q : VK) (E : XK), Room k (A.deeper (envOfC qual (defScope st) s.heap.objs.size f (.ref c))) → sp vs H Q E →
      ∃ t, PSs (cxOf CX0 P w K mg base N qual (defScope st) f (.ref c) A outer s H E).nox (defBody st) t ∧ t { nx := fun _ H' => Q .non H', rt := Q } (L2.start N vs) H) : FnOk P w K mg base CX0 (k + 1) f fd ps sp := by
  obtain ⟨oc, od, kV, doc, pm, an, ct, osl, rfl, lk, hcd⟩ := F.ex
  refine fn_of lk hcd S len fun A outer s H vs Q E hr hsp => ?_
  obtain ⟨t, h, q⟩ := hbody A outer s H vs Q E hr hsp
  exact ⟨t, h.nox, q⟩
/-- the cells of its frame -/
abbrev cellsOf (st : Stmt) (s : Shared) : List (Str × Addr) := cellsFrom (s.heap.objs.size + 1) (defScope st).names []
theorem fn_rC {post : α → D → Prop} (F : FunC K x qual st f fd c) (S : FnScope N ps (defScope st)) (hl : ∀ x, (arg x).length = ps.length) {t : List (Str × Addr) → TS}
    (hb : ∀ (A : Around) (outer : List PySem.Env) (s : Shared) (H : Hp) (E : XK) (cl : List (Str × Addr)), cellsOf st s = cl → Room k (A.deeper (envOfC qual (defScope st) s.heap.objs.size f (.ref c))) → PSs (cxOf CX0 P w K mg base N qual (defScope st) f (.ref c) A outer s H E).nox (defBody st) (t cl))
    (hd : ∀ cl x, pre x → ExS K (t cl) (entry N (arg x)) { nx := fun _ => post x .non, rt := post x }) : FnOk P w K mg base CX0 (k + 1) f fd ps (spR K pre arg post) := by
  have hN : ps.length ≤ N.length := by have := congrArg List.length S.pre; rw [List.length_take] at this; omega
  refine F.ok S (fun vs H Q E h => ?_) (fun A outer s H vs Q E hr h => ?_)
  · obtain ⟨Hs, x, _, r, _⟩ := h
    rw [r.length, hl]
  · obtain ⟨Hs, x, e, r, hp, q⟩ := h
    refine ⟨_, hb A outer s H E _ rfl hr, ?_⟩
    exact hd _ x hp ⟨Hs, H, H, e.2⟩ Hs H (L2.start N vs) _ (rs_entry e r (by rw [hl]; exact hN))
      ⟨fun Hs' H' σ ρ r' z => q Hs' H' .non .non r'.gr .non z, fun Hs' H' v d g x z => q Hs' H' v d g x z, fun _ _ _ _ _ _ _ _ _ _ z => z.elim, fun _ _ _ _ _ z => z.elim, fun _ _ _ _ _ z => z.elim, fun _ _ _ _ _ _ _ _ z => z.elim, fun _ _ _ _ _ _ _ _ _ z => z.elim, fun _ _ _ _ _ _ _ _ z => z.elim⟩
theorem fn_fC {res : α → List D} (F : FunC K x qual st f fd c) (S : FnScope N ps (defScope st)) (hl : ∀ x, (arg x).length = ps.length) {t : List (Str × Addr) → TS}
    (hb : ∀ (A : Around) (outer : List PySem.Env) (s : Shared) (H : Hp) (E : XK) (cl : List (Str × Addr)), cellsOf st s = cl → Room k (A.deeper (envOfC qual (defScope st) s.heap.objs.size f (.ref c))) → PSs (cxOf CX0 P w K mg base N qual (defScope st) f (.ref c) A outer s H E).nox (defBody st) (t cl))
    (hd : ∀ cl x, pre x → ExS K (t cl) (entry N (arg x)) { nx := fun _ => False, rt := fun _ => False, rf := fun ds => ds = res x }) : FnOk P w K mg base CX0 (k + 1) f fd ps (spF K pre arg res) := by
  have hN : ps.length ≤ N.length := by have := congrArg List.length S.pre; rw [List.length_take] at this; omega
  refine F.ok S (fun vs H Q E h => ?_) (fun A outer s H vs Q E hr h => ?_)
  · obtain ⟨Hs, x, _, r, _⟩ := h
    rw [r.length, hl]
  · obtain ⟨Hs, x, e, r, hp, q⟩ := h
    refine ⟨_, hb A outer s H E _ rfl hr, ?_⟩
    exact hd _ x hp ⟨Hs, H, H, e.2⟩ Hs H (L2.start N vs) _ (rs_entry e r (by rw [hl]; exact hN))
      ⟨fun Hs' H' σ ρ r' z => z.elim, fun Hs' H' v d g x z => z.elim, fun Hs' H' p ws ds g n ns e x z => q Hs' H' p ws g n ns e (z ▸ x), fun _ _ _ _ _ z => z.elim, fun _ _ _ _ _ z => z.elim, fun _ _ _ _ _ _ _ _ z => z.elim, fun _ _ _ _ _ _ _ _ _ z => z.elim, fun _ _ _ _ _ _ _ _ z => z.elim⟩
theorem funC_mk {oc : Value} {od an : Option Addr} {osl : Array (Option Value)} {kV doc pm ct : Value} (l : K.lookup f = some ⟨oc, od, .func (PySem.W.fnOf x qual (defArgs st) (defBody st) (defScope st) .none kV doc pm an (.ref c) ct), osl⟩)
    (h : PySem.W.codeIn K (.ref c) qual = true) (k : PySem.W.keepIn K (.ref f) = true) : FunC K x qual st f (PySem.W.fnOf x qual (defArgs st) (defBody st) (defScope st) .none kV doc pm an (.ref c) ct) c := ⟨⟨oc, od, kV, doc, pm, an, ct, osl, rfl, l, h⟩, k⟩
end
end DL

/-! DIo: own things handed to other defs, that may change them. -/
namespace DL
open PySem L2
open PyProof.Rows (envOfC)
variable [TbC]
/-- an argument: shared data; an own tree; a closure over own trees -/
inductive AV where
  | d (x : D)
  | o (t : O)
  | c (F : NdefX.NF) (us : List V) (os : List O)
def Is (K : PySem.W.Frag) (Hs : Hp) (v : V) (R : Hp) : AV → Prop
  | .d x => Rep K Hs v x ∧ R = em
  | .o t => Own K Hs v t R
  | .c F us os => ∃ f, v = .ref f ∧ Hs f = some (NdefX.FnO f F) ∧ Hs F.c = some (LamX.CodeO F.c F.qual) ∧ OwnL K Hs us os R
/-- a slot that holds a closure over own trees -/
@[reducible] def SV.cb (K : PySem.W.Frag) (v0 : V) (F : NdefX.NF) (us : List V) (os : List O) : SV := .ow false (fun Hs v R => v = v0 ∧ ∃ f, v = .ref f ∧ Hs f = some (NdefX.FnO f F) ∧ Hs F.c = some (LamX.CodeO F.c F.qual) ∧ OwnL K Hs us os R) fun _ _ _ h => by
  obtain ⟨_, _, _, _, _, h⟩ := h
  exact h.pl
def AV.sv (K : PySem.W.Frag) (v : V) : AV → SV
  | .d x => .sh x
  | .o t => .tr K ⟨false, some v⟩ t
  | .c F us os => .cb K v F us os
theorem Is.mono {K : PySem.W.Frag} {Hs Hs' : Hp} (e : Ex Hs Hs') {v : V} {R : Hp} : ∀ {a : AV}, Is K Hs v R a → Is K Hs' v R a
  | .d _, h => ⟨h.1.mono e, h.2⟩
  | .o _, h => Own.mono e h
  | .c _ _ _, ⟨f, h1, h2, h3, h4⟩ => ⟨f, h1, e _ _ h2, e _ _ h3, h4.mono e⟩
theorem Is.holds {K : PySem.W.Frag} {Hs : Hp} {v : V} {R : Hp} : ∀ {a : AV}, Is K Hs v R a → Holds K Hs R v (a.sv K v)
  | .d _, h => ⟨h.1, fun a => by rw [h.2]; rfl⟩
  | .o _, h => fun Hs1 e => ⟨fun w z => Option.some.inj z, Own.mono e h⟩
  | .c _ _ _, ⟨f, h1, h2, h3, h4⟩ => fun Hs1 e => ⟨rfl, f, h1, e _ _ h2, e _ _ h3, h4.mono e⟩
structure IsL (K : PySem.W.Frag) (Hs H : Hp) (vs : List V) (as : List AV) (Rs : Nat → Hp) : Prop where
  len : vs.length = as.length
  is : ∀ (i : Nat) v a, vs[i]? = some v → as[i]? = some a → Is K Hs v (Rs i) a
  reg : ∀ i a o, Rs i a = some o → i < vs.length ∧ H a = some o ∧ Hs a = none ∧ o.pln = true
  dis : ∀ i j a, Rs i a ≠ none → Rs j a ≠ none → i = j
def AV.own : AV → Bool
  | .d _ => false
  | _ => true
/-- behind the call -/
structure IsB (K : PySem.W.Frag) (H Hs' H' : Hp) (vs : List V) (as : List AV) (Rs Rs' : Nat → Hp) : Prop where
  len : vs.length = as.length
  is : ∀ (i : Nat) v a, vs[i]? = some v → as[i]? = some a → a.own = true → Is K Hs' v (Rs' i) a
  reg : ∀ i a o, Rs' i a = some o → i < vs.length ∧ H' a = some o ∧ Hs' a = none ∧ o.pln = true ∧ ((∃ k, Rs k a ≠ none) ∨ H a = none)
  dis : ∀ i j a, Rs' i a ≠ none → Rs' j a ≠ none → i = j
open Classical in
noncomputable def cut (H : Hp) (Rs : Nat → Hp) : Hp := fun a => if ∃ i, Rs i a ≠ none then none else H a
theorem cut_le {H : Hp} {Rs : Nat → Hp} {a : Addr} {o : HO} (h : cut H Rs a = some o) : H a = some o ∧ ∀ i, Rs i a = none := by
  unfold cut at h
  split at h
  · cases h
  · rename_i z
    exact ⟨h, fun i => Classical.byContradiction fun y => z ⟨i, y⟩⟩
theorem cut_of {H : Hp} {Rs : Nat → Hp} {a : Addr} (h : ∀ i, Rs i a = none) : cut H Rs a = H a := by
  unfold cut
  exact if_neg fun ⟨i, z⟩ => z (h i)
/-- called with arg x, where pre x: gives d, the own things then being as, where post x d as; or an exception leaves -/
def spB (K : PySem.W.Frag) {α : Type} (pre : α → Prop) (arg : α → List AV) (post : α → D → List AV → Prop) (exc : α → Value → Option (List (Str × D)) → List AV → Prop) : Sp := fun vs H Q E => ∃ (Hs : Hp) (x : α) (Rs : Nat → Hp), (Ex Hs H ∧ NT Hs ∧ TB H) ∧ IsL K Hs H vs (arg x) Rs ∧ pre x ∧
  (∀ Hs' H' v d as Rs', Gr Hs (cut H Rs) H Hs' H' → IsB K H Hs' H' vs as Rs Rs' → Rep K Hs' v d → post x d as → Q v H') ∧
  ∀ Hs' H' cls dd fs as Rs', Gr Hs (cut H Rs) H Hs' H' → IsB K H Hs' H' vs as Rs Rs' → XRep K Hs' H' dd fs → exc x cls fs as → E cls dd H'
/-- a frame at its entry -/
def entB (K : PySem.W.Frag) (N : List Str) (vs : List V) (as : List AV) : Env := (List.zipWith (fun v a => some (AV.sv K v a)) vs as) ++ List.replicate (N.length - as.length) none
/-- the own things in the frame's first slots -/
def outs (K : PySem.W.Frag) : List V → Env → List AV → Prop
  | [], _, [] => True
  | _ :: vs, _ :: ρ, .d _ :: as => outs K vs ρ as
  | v :: vs, s :: ρ, .o t :: as => s = some (.tr K ⟨false, some v⟩ t) ∧ outs K vs ρ as
  | v :: vs, s :: ρ, .c F us os :: as => s = some (.cb K v F us os) ∧ outs K vs ρ as
  | _, _, _ => False
theorem outs_len {K : PySem.W.Frag} : ∀ {vs : List V} {ρ : Env} {as : List AV}, outs K vs ρ as → vs.length = as.length
  | [], _, [], _ => rfl
  | [], _, _ :: _, h => by cases h
  | _ :: _, [], _, h => by
    unfold outs at h
    exact h.elim
  | _ :: _, _ :: _, [], h => by cases h
  | _ :: vs, _ :: ρ, .d _ :: as, h => congrArg (· + 1) (outs_len (vs := vs) (ρ := ρ) (as := as) h)
  | _ :: vs, _ :: ρ, .o _ :: as, h => congrArg (· + 1) (outs_len (vs := vs) (ρ := ρ) (as := as) h.2)
  | _ :: vs, _ :: ρ, .c _ _ _ :: as, h => congrArg (· + 1) (outs_len (vs := vs) (ρ := ρ) (as := as) h.2)
theorem outs_get {K : PySem.W.Frag} : ∀ {vs : List V} {ρ : Env} {as : List AV} {i : Nat} {v : V} {a : AV}, outs K vs ρ as → vs[i]? = some v → as[i]? = some a → a.own = true → ρ[i]? = some (some (a.sv K v))
  | [], _, _, i, _, _, _, h1, _, _ => by simp at h1
  | _ :: _, _, [], i, _, _, _, _, h2, _ => by simp at h2
  | _ :: _, [], _ :: _, _, _, _, h, _, _, _ => by
    unfold outs at h
    exact h.elim
  | v :: vs, s :: ρ, a :: as, 0, w, b, h, h1, h2, h3 => by
    cases h1
    cases h2
    cases a with
    | d x => cases h3
    | o t => exact congrArg some h.1
    | c F us os => exact congrArg some h.1
  | v :: vs, s :: ρ, a :: as, i + 1, w, b, h, h1, h2, h3 => by
    rw [List.getElem?_cons_succ] at h1 h2 ⊢
    cases a with
    | d x => exact outs_get (vs := vs) (ρ := ρ) (as := as) h h1 h2 h3
    | o t => exact outs_get (vs := vs) (ρ := ρ) (as := as) h.2 h1 h2 h3
    | c F us os => exact outs_get (vs := vs) (ρ := ρ) (as := as) h.2 h1 h2 h3
section
variable {K : PySem.W.Frag} {ρ ρ' : Env} {te ta tb : TE} {d e : D} {ds es : List D} {tt tu : TT} {R : DEnds} {B : Base} {Hs H Hs' H' : Hp} {σ : St}
theorem rs_entB {N : List Str} {vs : List V} {as : List AV} {Rs : Nat → Hp} (e : Ex Hs H ∧ NT Hs ∧ TB H) (x : IsL K Hs H vs as Rs) (hN : as.length ≤ N.length) : RS K ⟨Hs, cut H Rs, H, e.2⟩ Hs H (L2.start N vs) (entB K N vs as) := by
  have hl := x.len
  have hz : (List.zipWith (fun v a => some (AV.sv K v a)) vs as).length = as.length := by rw [List.length_zipWith, hl, Nat.min_self]
  refine ⟨⟨fun a o z _ => (cut_le z).1, Ex.refl Hs, e.1, fun _ _ => rfl, fun _ z => z, fun a z => ?_, fun _ z => z, id, id⟩, ?_, Rs, fun i sv h => ?_, fun i a o h => ?_, x.dis, fun i sv a h h0 h1 => ?_⟩
  · cases q : cut H Rs a with
    | none => exact absurd q z
    | some o =>
      rw [(cut_le q).1]
      exact fun y => nomatch y
  · unfold L2.start entB
    rw [List.length_append, List.length_append, List.length_map, hz, List.length_replicate, List.length_replicate, hl]
  · unfold entB at h
    by_cases hi : i < as.length
    · rw [List.getElem?_append_left (by rw [hz]; exact hi), List.getElem?_zipWith] at h
      have hv : vs[i]? = some vs[i] := List.getElem?_eq_getElem (by omega)
      have ha : as[i]? = some as[i] := List.getElem?_eq_getElem hi
      rw [hv, ha] at h
      cases h
      refine ⟨vs[i], ?_, (x.is i _ _ hv ha).holds⟩
      unfold L2.start
      rw [List.getElem?_append_left (by rw [List.length_map, hl]; exact hi), List.getElem?_map, hv]
      rfl
    · rw [List.getElem?_append_right (by omega), List.getElem?_replicate] at h
      split at h <;> cases h
  · obtain ⟨h1, h2, h3, h4⟩ := x.reg i a o h
    refine ⟨h2, h3, ?_, h4⟩
    unfold cut
    exact if_pos ⟨i, by rw [h]; exact fun y => nomatch y⟩
  · unfold entB at h
    by_cases hi : i < as.length
    · rw [List.getElem?_append_left (by rw [hz]; exact hi), List.getElem?_zipWith] at h
      have hv : vs[i]? = some vs[i] := List.getElem?_eq_getElem (by omega)
      have ha : as[i]? = some as[i] := List.getElem?_eq_getElem hi
      rw [hv, ha] at h
      cases h
      have y := x.is i _ _ hv ha
      generalize as[i] = q at y h0
      cases q with
      | d z => exact absurd (by rw [y.2]; rfl) h1
      | o z => cases h0
      | c F us os => cases h0
    · rw [List.getElem?_append_right (by omega), List.getElem?_replicate] at h
      split at h <;> cases h
def regO (R : Nat → Hp) (as : List AV) (i : Nat) : Hp := match as[i]? with
  | some a => if a.own = true then R i else em
  | none => em
theorem regO_own {R : Nat → Hp} {as : List AV} {i : Nat} {a : AV} (h : as[i]? = some a) (w : a.own = true) : regO R as i = R i := by
  unfold regO
  rw [h]
  exact if_pos w
theorem regO_some {R : Nat → Hp} {as : List AV} {i : Nat} {a : Addr} {o : HO} (h : regO R as i a = some o) : i < as.length ∧ R i a = some o := by
  cases z : as[i]? with
  | none =>
    have e : regO R as i = em := by
      unfold regO
      rw [z]
    rw [e] at h
    cases h
  | some b =>
    cases w : b.own with
    | true =>
      rw [regO_own z w] at h
      exact ⟨(List.getElem?_eq_some_iff.mp z).1, h⟩
    | false =>
      have e : regO R as i = em := by
        unfold regO
        rw [z]
        exact if_neg (by rw [w]; decide)
      rw [e] at h
      cases h
theorem ne_some {R : Hp} {a : Addr} (h : R a ≠ none) : ∃ o, R a = some o := by
  cases z : R a with
  | none => exact absurd z h
  | some o => exact ⟨o, rfl⟩
theorem some_ne {R : Hp} {a : Addr} {o : HO} (h : R a = some o) : R a ≠ none := by
  rw [h]
  exact fun z => nomatch z
/-- the own things of a frame, as they are told behind it -/
theorem RS.told {vs : List V} {Rs : Nat → Hp} {as : List AV} {Hs0 H0 : Hp} {t : NT Hs0 ∧ TB H0} (r : RS K ⟨Hs0, cut H0 Rs, H0, t⟩ Hs' H' σ ρ) (o : outs K vs ρ as) : ∃ Rs', IsB K H0 Hs' H' vs as Rs Rs' := by
  obtain ⟨R, h1, h2, h3, h4⟩ := r.reg
  have hl := outs_len o
  refine ⟨regO R as, hl, fun i v a hv ha hw => ?_, fun i a u h => ?_, fun i j a e1 e2 => ?_⟩
  · rw [regO_own ha hw]
    have e := outs_get o hv ha hw
    obtain ⟨w, e1, e2⟩ := h1 i _ e
    cases a with
    | d x => cases hw
    | o t =>
      obtain ⟨e3, e4⟩ := e2 Hs' (Ex.refl _)
      rw [e3 v rfl] at e4
      exact e4
    | c F us os =>
      obtain ⟨e3, e4⟩ := e2 Hs' (Ex.refl _)
      subst e3
      exact e4
  · obtain ⟨hi, h⟩ := regO_some h
    obtain ⟨e1, e2, e3, e4⟩ := h2 i a u h
    refine ⟨by rw [hl]; exact hi, e1, e2, e4, ?_⟩
    by_cases z : ∃ k, Rs k a ≠ none
    · exact .inl z
    · refine .inr ?_
      have e3 : cut H0 Rs a = none := e3
      rw [cut_of fun k => Classical.byContradiction fun y => z ⟨k, y⟩] at e3
      exact e3
  · obtain ⟨_, e1⟩ := ne_some e1
    obtain ⟨_, e2⟩ := ne_some e2
    exact h3 i j a (some_ne (regO_some e1).2) (some_ne (regO_some e2).2)
variable {P : Program} {w : World} {mg : Str → Option Value} {base : Heap} {x qual : Str} {st : Stmt} {f c : Addr} {fd : FuncData} {N ps : List Str} {k : Nat} {α : Type} {pre : α → Prop} {arg : α → List AV} {post : α → D → List AV → Prop} {exc : α → Value → Option (List (Str × D)) → List AV → Prop}
/-- what is wanted of the body -/
abbrev endB (K : PySem.W.Frag) {α : Type} (post : α → D → List AV → Prop) (x : α) (vs : List V) : DEnds := { nx := fun ρ => ∃ as, post x .non as ∧ outs K vs ρ as, rt := fun _ => False, ro := fun ρ d => ∃ as, post x d as ∧ outs K vs ρ as }
theorem lk_b {x : α} {vs : List V} {H : Hp} {Q : VK} {E : XK} {Rs : Nat → Hp} {t : NT Hs ∧ TB H} (q : ∀ Hs' H' v d as Rs', Gr Hs (cut H Rs) H Hs' H' → IsB K H Hs' H' vs as Rs Rs' → Rep K Hs' v d → post x d as → Q v H') :
    Lk K ⟨Hs, cut H Rs, H, t⟩ (endB K post x vs) { nx := fun _ H' => Q .non H', rt := Q } :=
  ⟨fun Hs' H' σ ρ r' ⟨as, z1, z2⟩ => by
      obtain ⟨Rs', b⟩ := r'.told z2
      exact q Hs' H' .non .non as Rs' r'.gr b .non z1, fun _ _ _ _ _ _ z => z.elim, fun _ _ _ _ _ _ _ _ _ _ z => z.elim, fun _ _ _ _ _ z => z.elim, fun _ _ _ _ _ z => z.elim,
    fun Hs' H' σ ρ v d r' y ⟨as, z1, z2⟩ => by
      obtain ⟨Rs', b⟩ := r'.told z2
      exact q Hs' H' v d as Rs' r'.gr b y z1, fun _ _ _ _ _ _ _ _ _ z => z.elim, fun _ _ _ _ _ _ _ _ z => z.elim⟩
theorem fn_b (F : Fun K x qual st f fd) (S : FnScope N ps (defScope st)) (hl : ∀ x, (arg x).length = ps.length) {t : TS}
    (hb : ∀ (cdv : Value) (A : Around) (outer : List PySem.Env) (s : Shared) (H : Hp) (E : XK), Room k (A.deeper (envOfC qual (defScope st) s.heap.objs.size f cdv)) → PSs (cxOf CX0 P w K mg base N qual (defScope st) f cdv A outer s H E).nox (defBody st) t)
    (hd : ∀ x vs, vs.length = ps.length → pre x → ExS K t (entB K N vs (arg x)) (endB K post x vs)) : FnOk P w K mg base CX0 (k + 1) f fd ps (spB K pre arg post exc) := by
  have hN : ps.length ≤ N.length := by have := congrArg List.length S.pre; rw [List.length_take] at this; omega
  refine F.ok S (fun vs H Q E h => ?_) (fun cdv A outer s H vs Q E hr h => ?_)
  · obtain ⟨Hs, x, Rs, _, r, _⟩ := h
    rw [r.len, hl]
  · obtain ⟨Hs, x, Rs, e, r, hp, q, _⟩ := h
    exact ⟨t, hb cdv A outer s H E hr, hd x vs (by rw [r.len, hl]) hp _ Hs H (L2.start N vs) _ (rs_entB e r (by rw [hl]; exact hN)) (lk_b (E := E) q)⟩
theorem fn_bC (F : FunC K x qual st f fd c) (S : FnScope N ps (defScope st)) (hl : ∀ x, (arg x).length = ps.length) {t : List (Str × Addr) → TS}
    (hb : ∀ (A : Around) (outer : List PySem.Env) (s : Shared) (H : Hp) (E : XK) (cl : List (Str × Addr)), cellsOf st s = cl → Room k (A.deeper (envOfC qual (defScope st) s.heap.objs.size f (.ref c))) → PSs (cxOf CX0 P w K mg base N qual (defScope st) f (.ref c) A outer s H E).nox (defBody st) (t cl))
    (hd : ∀ cl x vs, vs.length = ps.length → pre x → ExS K (t cl) (entB K N vs (arg x)) (endB K post x vs)) : FnOk P w K mg base CX0 (k + 1) f fd ps (spB K pre arg post exc) := by
  have hN : ps.length ≤ N.length := by have := congrArg List.length S.pre; rw [List.length_take] at this; omega
  refine F.ok S (fun vs H Q E h => ?_) (fun A outer s H vs Q E hr h => ?_)
  · obtain ⟨Hs, x, Rs, _, r, _⟩ := h
    rw [r.len, hl]
  · obtain ⟨Hs, x, Rs, e, r, hp, q, _⟩ := h
    exact ⟨_, hb A outer s H E _ rfl hr, hd _ x vs (by rw [r.len, hl]) hp _ Hs H (L2.start N vs) _ (rs_entB e r (by rw [hl]; exact hN)) (lk_b (E := E) q)⟩
/-! ### the caller -/
theorem RS.io {R : Nat → Hp} (r : RS K B Hs H σ ρ) (rg : Reg K B Hs H σ ρ R) (S : Nat → Prop) {C : Hp} (g : Gr Hs C H Hs' H') (hC : ∀ a, (∀ i, S i → R i a = none) → C a = H a) (hlen : ρ'.length = ρ.length) (R' : Nat → Hp)
    (h1 : ∀ i sv, ρ'[i]? = some (some sv) → (¬ S i ∧ ρ[i]? = some (some sv)) ∨ (S i ∧ ∃ v, σ[i]? = some (some v) ∧ Holds K Hs' (R' i) v sv ∧ (sv.nw = true → ∀ k, S k → ∃ sv0, ρ[k]? = some (some sv0) ∧ sv0.nw = true)))
    (h2 : ∀ i a o, S i → R' i a = some o → H' a = some o ∧ Hs' a = none ∧ o.pln = true ∧ ((∃ k, S k ∧ R k a ≠ none) ∨ H a = none))
    (h3 : ∀ i j a, S i → S j → R' i a ≠ none → R' j a ≠ none → i = j) : RS K B Hs' H' σ ρ' := by
  classical
  have keep : ∀ j a o, ¬ S j → R j a = some o → H' a = some o := fun j a o nj e => by
    obtain ⟨e1, e2, e3, e4⟩ := rg.2.1 j a o e
    refine g.fr.pl ?_ e4
    rw [hC a fun i si => ?_]
    · exact e1
    · cases z : R i a with
      | none => rfl
      | some u =>
        have := rg.2.2.1 i j a (by rw [z]; exact fun y => nomatch y) (by rw [e]; exact fun y => nomatch y)
        subst this
        exact absurd si nj
  have bf : ∀ a o, B.f a = some o → ∀ i, R i a = none := fun a o e i => by
    cases z : R i a with
    | none => rfl
    | some u =>
      rw [(rg.2.1 i a u z).2.2.1] at e
      cases e
  refine ⟨⟨fun a o e n => ?_, r.gr.sh.trans g.sh, g.lv, fun a z => (g.nw a (r.gr.dp a z)).trans (r.gr.nw a z), fun a z => g.dm a (r.gr.dm a z), fun a z => g.dm a (r.gr.fd a z), fun a z => g.dp a (r.gr.dp a z), fun t => g.nt (r.gr.nt t), fun t => g.tb (r.gr.tb t)⟩,
    r.len.trans hlen.symm, fun i => if S i then R' i else R i, fun i sv e => ?_, fun i a o e => ?_, fun i j a e1 e2 => ?_, fun i sv a e e0 e1 => ?_⟩
  · refine g.fr a o ?_ n
    rw [hC a fun i _ => bf a o e i]
    exact r.gr.fr a o e n
  · rcases h1 i sv e with ⟨ns, e1⟩ | ⟨s, v, e1, e2, _⟩
    · obtain ⟨v, e2, e3⟩ := rg.1 i sv e1
      refine ⟨v, e2, ?_⟩
      dsimp only
      rw [if_neg ns]
      exact e3.mono g.sh
    · refine ⟨v, e1, ?_⟩
      dsimp only
      rw [if_pos s]
      exact e2
  · dsimp only at e
    by_cases s : S i
    · rw [if_pos s] at e
      obtain ⟨e1, e2, e3, e4⟩ := h2 i a o s e
      refine ⟨e1, e2, ?_, e3⟩
      rcases e4 with ⟨k, _, z⟩ | z
      · cases y : R k a with
        | none => exact absurd y z
        | some u => exact (rg.2.1 k a u y).2.2.1
      · exact (r.gr.new0 z).2
    · rw [if_neg s] at e
      obtain ⟨e1, e2, e3, e4⟩ := rg.2.1 i a o e
      refine ⟨keep i a o s e, ?_, e3, e4⟩
      rw [g.nw a (.of e1 e4)]
      exact e2
  · dsimp only at e1 e2
    have mix : ∀ i j, S i → ¬ S j → R' i a ≠ none → R j a ≠ none → False := fun i j si sj y1 y2 => by
      cases z : R' i a with
      | none => exact y1 z
      | some o =>
        rcases (h2 i a o si z).2.2.2 with ⟨k, sk, z2⟩ | z2
        · have := rg.2.2.1 k j a z2 y2
          subst this
          exact sj sk
        · cases y : R j a with
          | none => exact y2 y
          | some u =>
            rw [(rg.2.1 j a u y).1] at z2
            cases z2
    by_cases si : S i
    · rw [if_pos si] at e1
      by_cases sj : S j
      · rw [if_pos sj] at e2
        exact h3 i j a si sj e1 e2
      · rw [if_neg sj] at e2
        exact (mix i j si sj e1 e2).elim
    · rw [if_neg si] at e1
      by_cases sj : S j
      · rw [if_pos sj] at e2
        exact (mix j i sj si e2 e1).elim
      · rw [if_neg sj] at e2
        exact rg.2.2.1 i j a e1 e2
  · dsimp only at e1
    rcases h1 i sv e with ⟨ns, e2⟩ | ⟨s, v, _, _, e3⟩
    · rw [if_neg ns] at e1
      exact rg.2.2.2 i sv a e2 e0 e1
    · rw [if_pos s] at e1
      cases z : R' i a with
      | none => exact absurd z e1
      | some o =>
        rcases (h2 i a o s z).2.2.2 with ⟨k, sk, z2⟩ | z2
        · obtain ⟨sv0, y1, y2⟩ := e3 e0 k sk
          exact rg.2.2.2 k sv0 a y1 y2 z2
        · exact (r.gr.new0 z2).1
/-- an argument in a call: shared data, or a slot that holds a tree -/
abbrev AR := D ⊕ (Nat × Nw)
def VsOk (K : PySem.W.Frag) (Hs : Hp) (σ : St) : List V → List AR → Prop
  | [], [] => True
  | v :: vs, .inl d :: ar => Rep K Hs v d ∧ VsOk K Hs σ vs ar
  | v :: vs, .inr j :: ar => σ[j.1]? = some (some v) ∧ VsOk K Hs σ vs ar
  | _, _ => False
def ArgOk (K : PySem.W.Frag) (ρ : Env) : List AR → List AV → Prop
  | [], [] => True
  | .inl d :: ar, .d d' :: as => d = d' ∧ ArgOk K ρ ar as
  | .inr j :: ar, .o t :: as => ρ[j.1]? = some (some (.tr K j.2 t)) ∧ ArgOk K ρ ar as
  | _, _ => False
def Shp : List AR → List AV → Prop
  | [], [] => True
  | .inl _ :: ar, .d _ :: as => Shp ar as
  | .inr _ :: ar, .o _ :: as => Shp ar as
  | _, _ => False
def allOf : List AR → Bool
  | [] => true
  | .inl _ :: ar => allOf ar
  | .inr j :: ar => j.2.b && allOf ar
def sepB : List AR → Bool
  | [] => true
  | .inl _ :: ar => sepB ar
  | .inr j :: ar => !(ar.any fun x => match x with
    | .inl _ => false
    | .inr j' => j'.1 == j.1) && sepB ar
/-- the slots behind the call -/
def back (K : PySem.W.Frag) (all : Bool) : List AR → List AV → Env → Env
  | .inr j :: ar, .o t :: as, ρ => back K all ar as (ρ.set j.1 (some (.tr K ⟨j.2.b && all, j.2.pv⟩ t)))
  | _ :: ar, _ :: as, ρ => back K all ar as ρ
  | _, _, ρ => ρ
theorem VsOk.length : ∀ {vs : List V} {ar : List AR}, VsOk K Hs σ vs ar → vs.length = ar.length
  | [], [], _ => rfl
  | [], _ :: _, h => by cases h
  | _ :: _, [], h => by cases h
  | _ :: vs, .inl _ :: ar, h => congrArg (· + 1) (VsOk.length (vs := vs) (ar := ar) h.2)
  | _ :: vs, .inr _ :: ar, h => congrArg (· + 1) (VsOk.length (vs := vs) (ar := ar) h.2)
theorem VsOk.getL : ∀ {vs : List V} {ar : List AR} {i : Nat} {v : V} {d : D}, VsOk K Hs σ vs ar → vs[i]? = some v → ar[i]? = some (.inl d) → Rep K Hs v d
  | [], _, _, _, _, _, h, _ => by simp at h
  | _ :: _, [], _, _, _, _, _, h => by simp at h
  | _ :: vs, .inl _ :: ar, 0, _, _, h, h1, h2 => by cases h1; cases h2; exact h.1
  | _ :: vs, .inr _ :: ar, 0, _, _, h, h1, h2 => by cases h2
  | _ :: vs, .inl _ :: ar, i + 1, _, _, h, h1, h2 => VsOk.getL (vs := vs) (ar := ar) (i := i) h.2 h1 h2
  | _ :: vs, .inr _ :: ar, i + 1, _, _, h, h1, h2 => VsOk.getL (vs := vs) (ar := ar) (i := i) h.2 h1 h2
theorem VsOk.getR : ∀ {vs : List V} {ar : List AR} {i : Nat} {v : V} {j : Nat × Nw}, VsOk K Hs σ vs ar → vs[i]? = some v → ar[i]? = some (.inr j) → σ[j.1]? = some (some v)
  | [], _, _, _, _, _, h, _ => by simp at h
  | _ :: _, [], _, _, _, _, _, h => by simp at h
  | _ :: vs, .inl _ :: ar, 0, _, _, h, h1, h2 => by cases h2
  | _ :: vs, .inr _ :: ar, 0, _, _, h, h1, h2 => by cases h1; cases h2; exact h.1
  | _ :: vs, .inl _ :: ar, i + 1, _, _, h, h1, h2 => VsOk.getR (vs := vs) (ar := ar) (i := i) h.2 h1 h2
  | _ :: vs, .inr _ :: ar, i + 1, _, _, h, h1, h2 => VsOk.getR (vs := vs) (ar := ar) (i := i) h.2 h1 h2
theorem ArgOk.length : ∀ {ar : List AR} {as : List AV}, ArgOk K ρ ar as → ar.length = as.length
  | [], [], _ => rfl
  | [], _ :: _, h => by cases h
  | .inl _ :: _, [], h => by cases h
  | .inr _ :: _, [], h => by cases h
  | .inl _ :: ar, .d _ :: as, h => congrArg (· + 1) (ArgOk.length (ar := ar) (as := as) h.2)
  | .inr _ :: ar, .o _ :: as, h => congrArg (· + 1) (ArgOk.length (ar := ar) (as := as) h.2)
  | .inl _ :: _, .o _ :: _, h => by cases h
  | .inl _ :: _, .c _ _ _ :: _, h => by cases h
  | .inr _ :: _, .d _ :: _, h => by cases h
  | .inr _ :: _, .c _ _ _ :: _, h => by cases h
theorem ArgOk.get : ∀ {ar : List AR} {as : List AV} {i : Nat} {a : AV}, ArgOk K ρ ar as → as[i]? = some a → (∃ d, a = .d d ∧ ar[i]? = some (.inl d)) ∨ ∃ j t, a = .o t ∧ ar[i]? = some (.inr j) ∧ ρ[j.1]? = some (some (.tr K j.2 t))
  | [], [], _, _, _, h => by simp at h
  | [], _ :: _, _, _, h, _ => by cases h
  | .inl _ :: _, [], _, _, h, _ => by cases h
  | .inr _ :: _, [], _, _, h, _ => by cases h
  | .inl d :: ar, .d d' :: as, 0, _, h, e => by
    cases e
    exact .inl ⟨d', rfl, by rw [h.1]; rfl⟩
  | .inr j :: ar, .o t :: as, 0, _, h, e => by
    cases e
    exact .inr ⟨j, t, rfl, rfl, h.1⟩
  | .inl d :: ar, .d d' :: as, i + 1, _, h, e => ArgOk.get (ar := ar) (as := as) (i := i) h.2 e
  | .inr j :: ar, .o t :: as, i + 1, _, h, e => ArgOk.get (ar := ar) (as := as) (i := i) h.2 e
  | .inl _ :: _, .o _ :: _, _, _, h, _ => by cases h
  | .inl _ :: _, .c _ _ _ :: _, _, _, h, _ => by cases h
  | .inr _ :: _, .d _ :: _, _, _, h, _ => by cases h
  | .inr _ :: _, .c _ _ _ :: _, _, _, h, _ => by cases h
theorem sep_get : ∀ {ar : List AR} {i i' : Nat} {j j' : Nat × Nw}, sepB ar = true → ar[i]? = some (.inr j) → ar[i']? = some (.inr j') → j.1 = j'.1 → i = i'
  | [], _, _, _, _, _, h, _, _ => by simp at h
  | .inl _ :: ar, 0, _, _, _, _, h, _, _ => by cases h
  | .inl _ :: ar, _ + 1, 0, _, _, _, _, h, _ => by cases h
  | .inl _ :: ar, i + 1, i' + 1, _, _, h, h1, h2, h3 => congrArg (· + 1) (sep_get (ar := ar) (i := i) (i' := i') h h1 h2 h3)
  | .inr _ :: ar, 0, 0, _, _, _, _, _, _ => rfl
  | .inr j0 :: ar, 0, i' + 1, j, j', h, h1, h2, h3 => by
    cases h1
    unfold sepB at h
    rw [Bool.and_eq_true, Bool.not_eq_true', List.any_eq_false] at h
    exact absurd (by show (j'.1 == j0.1) = true; rw [h3]; exact beq_self_eq_true _) (h.1 _ (List.mem_of_getElem? h2))
  | .inr j0 :: ar, i + 1, 0, j, j', h, h1, h2, h3 => by
    cases h2
    unfold sepB at h
    rw [Bool.and_eq_true, Bool.not_eq_true', List.any_eq_false] at h
    exact absurd (by show (j.1 == j0.1) = true; rw [h3]; exact beq_self_eq_true _) (h.1 _ (List.mem_of_getElem? h1))
  | .inr j0 :: ar, i + 1, i' + 1, _, _, h, h1, h2, h3 => by
    unfold sepB at h
    rw [Bool.and_eq_true] at h
    exact congrArg (· + 1) (sep_get (ar := ar) (i := i) (i' := i') h.2 h1 h2 h3)
theorem all_get : ∀ {ar : List AR} {i : Nat} {j : Nat × Nw}, allOf ar = true → ar[i]? = some (.inr j) → j.2.b = true
  | [], _, _, _, h => by simp at h
  | .inl _ :: ar, 0, _, _, h => by cases h
  | .inl _ :: ar, i + 1, _, h, h1 => all_get (ar := ar) (i := i) h h1
  | .inr _ :: ar, 0, _, h, h1 => by
    cases h1
    unfold allOf at h
    rw [Bool.and_eq_true] at h
    exact h.1
  | .inr _ :: ar, i + 1, _, h, h1 => by
    unfold allOf at h
    rw [Bool.and_eq_true] at h
    exact all_get (ar := ar) (i := i) h.2 h1
theorem back_len {all : Bool} : ∀ {ar : List AR} {as : List AV} {ρ : Env}, (back K all ar as ρ).length = ρ.length
  | [], _, _ => rfl
  | _ :: _, [], _ => by unfold back; split <;> first | rfl | contradiction
  | .inl d :: ar, .d _ :: as, ρ => back_len (ar := ar) (as := as) (ρ := ρ)
  | .inl d :: ar, .o _ :: as, ρ => back_len (ar := ar) (as := as) (ρ := ρ)
  | .inl d :: ar, .c _ _ _ :: as, ρ => back_len (ar := ar) (as := as) (ρ := ρ)
  | .inr j :: ar, .d _ :: as, ρ => back_len (ar := ar) (as := as) (ρ := ρ)
  | .inr j :: ar, .c _ _ _ :: as, ρ => back_len (ar := ar) (as := as) (ρ := ρ)
  | .inr j :: ar, .o t :: as, ρ => by
    show (back K all ar as (ρ.set j.1 _)).length = _
    rw [back_len, List.length_set]
theorem back_get {all : Bool} : ∀ {ar : List AR} {as : List AV} {ρ : Env} {i : Nat} {sv : SV}, Shp ar as → (back K all ar as ρ)[i]? = some (some sv) → ((∀ (m : Nat) (j : Nat × Nw), ar[m]? = some (Sum.inr j) → j.1 ≠ i) ∧ ρ[i]? = some (some sv)) ∨ ∃ (m : Nat) (j : Nat × Nw) (t : O), ar[m]? = some (Sum.inr j) ∧ j.1 = i ∧ as[m]? = some (AV.o t) ∧ sv = .tr K ⟨j.2.b && all, j.2.pv⟩ t
  | [], [], _, _, _, _, h => .inl ⟨fun m j z => by simp at z, h⟩
  | [], _ :: _, _, _, _, h, _ => by cases h
  | .inl _ :: _, [], _, _, _, h, _ => by cases h
  | .inr _ :: _, [], _, _, _, h, _ => by cases h
  | .inl _ :: _, .o _ :: _, _, _, _, h, _ => by cases h
  | .inl _ :: _, .c _ _ _ :: _, _, _, _, h, _ => by cases h
  | .inr _ :: _, .d _ :: _, _, _, _, h, _ => by cases h
  | .inr _ :: _, .c _ _ _ :: _, _, _, _, h, _ => by cases h
  | .inl d :: ar, .d d' :: as, ρ, i, sv, h, e => by
    rcases back_get (ar := ar) (as := as) (ρ := ρ) (i := i) h e with ⟨z1, z2⟩ | ⟨m, j, t, z⟩
    · refine .inl ⟨fun m j y => ?_, z2⟩
      cases m with
      | zero => cases y
      | succ m => exact z1 m j y
    · exact .inr ⟨m + 1, j, t, z⟩
  | .inr j0 :: ar, .o t0 :: as, ρ, i, sv, h, e => by
    rcases back_get (ar := ar) (as := as) (ρ := ρ.set j0.1 (some (.tr K ⟨j0.2.b && all, j0.2.pv⟩ t0))) (i := i) h e with ⟨z1, z2⟩ | ⟨m, j, t, z⟩
    · by_cases q : j0.1 = i
      · refine .inr ⟨0, j0, t0, rfl, q, rfl, ?_⟩
        subst q
        have hl : j0.1 < ρ.length := by
          have := (List.getElem?_eq_some_iff.mp z2).1
          rwa [List.length_set] at this
        rw [List.getElem?_set_self hl] at z2
        exact (Option.some.inj (Option.some.inj z2)).symm
      · rw [List.getElem?_set_ne q] at z2
        refine .inl ⟨fun m j y => ?_, z2⟩
        cases m with
        | zero => cases y; exact q
        | succ m => exact z1 m j y
    · exact .inr ⟨m + 1, j, t, z⟩
/-- arguments, some of which are slots that hold trees -/
def EvAS (K : PySem.W.Frag) (ta : TA) (ρ : Env) (ar : List AR) : Prop := ∀ B Hs H σ, RS K B Hs H σ ρ → ∀ Q : List V → Hp → Prop, (∀ Hs' H' vs, Gr Hs H H Hs' H' → VsOk K Hs' σ vs ar → Q vs H') → ta σ H Q
theorem eas_nil : EvAS K tNil ρ [] := fun B Hs H σ r Q q => q Hs H [] (Gr.refl r.ex) trivial
theorem VsOk.mono (e : Ex Hs Hs') : ∀ {vs : List V} {ar : List AR}, VsOk K Hs σ vs ar → VsOk K Hs' σ vs ar
  | [], [], _ => trivial
  | [], _ :: _, h => by cases h
  | _ :: _, [], h => by cases h
  | _ :: vs, .inl _ :: ar, h => ⟨h.1.mono e, VsOk.mono e (vs := vs) (ar := ar) h.2⟩
  | _ :: vs, .inr _ :: ar, h => ⟨h.1, VsOk.mono e (vs := vs) (ar := ar) h.2⟩
theorem eas_d {ta : TE} {t : TA} {ar : List AR} (h : EvD K ta ρ d) (hs : EvAS K t ρ ar) : EvAS K (tCons ta t) ρ (.inl d :: ar) := fun B Hs H σ r Q q =>
  h B Hs H σ r _ fun Hs1 H1 v g x => hs B Hs1 H1 σ (r.grow g) _ fun Hs2 H2 vs g2 xs => q Hs2 H2 (v :: vs) (g.trans g2) ⟨x.mono g2.sh, xs⟩
theorem eas_s {j : Nat} {nw : Nw} {t : TA} {o : O} {ar : List AR} (h : ρ[j]? = some (some (.tr K nw o))) (hs : EvAS K t ρ ar) : EvAS K (tCons (tVar j) t) ρ (.inr (j, nw) :: ar) := fun B Hs H σ r Q q => by
  obtain ⟨R, rg⟩ := r.reg
  obtain ⟨v, e, _⟩ := rg.1 j _ h
  exact ⟨v, e, hs B Hs H σ r _ fun Hs2 H2 vs g2 xs => q Hs2 H2 (v :: vs) g2 ⟨e, xs⟩⟩
/-- te gives d, and leaves the slots as ρ' -/
def EvE (K : PySem.W.Frag) (te : TE) (ρ : Env) (Z : D → Env → Prop) : Prop := ∀ B Hs H σ, RS K B Hs H σ ρ → ∀ Q : VK, (∀ Hs' H' v d ρ', Ex Hs Hs' → RS K B Hs' H' σ ρ' → Rep K Hs' v d → Z d ρ' → Q v H') → te σ H Q
def regA (R : Nat → Hp) (ar : List AR) (i : Nat) : Hp := match ar[i]? with
  | some (.inr j) => R j.1
  | _ => em
theorem regA_r {R : Nat → Hp} {ar : List AR} {i : Nat} {j : Nat × Nw} (h : ar[i]? = some (.inr j)) : regA R ar i = R j.1 := by
  unfold regA
  rw [h]
theorem regA_l {R : Nat → Hp} {ar : List AR} {i : Nat} {d : D} (h : ar[i]? = some (.inl d)) : regA R ar i = em := by
  unfold regA
  rw [h]
theorem regA_some {R : Nat → Hp} {ar : List AR} {i : Nat} {a : Addr} {o : HO} (h : regA R ar i a = some o) : ∃ j, ar[i]? = some (.inr j) ∧ R j.1 a = some o := by
  cases z : ar[i]? with
  | none =>
    have e : regA R ar i = em := by
      unfold regA
      rw [z]
    rw [e] at h
    cases h
  | some b =>
    cases b with
    | inl d =>
      rw [regA_l z] at h
      cases h
    | inr j =>
      rw [regA_r z] at h
      exact ⟨j, rfl, h⟩
/-- the call's arguments as they lie in the heap -/
theorem RS.lay {R : Nat → Hp} {vs : List V} {ar : List AR} {as : List AV} (r : RS K B Hs H σ ρ) (rg : Reg K B Hs H σ ρ R) (hv : VsOk K Hs σ vs ar) (ha : ArgOk K ρ ar as) (sep : sepB ar = true) : IsL K Hs H vs as (regA R ar) := by
  have hl := hv.length
  refine ⟨hl.trans ha.length, fun i v a e1 e2 => ?_, fun i a o e => ?_, fun i i' a e1 e2 => ?_⟩
  · rcases ha.get e2 with ⟨d, rfl, z⟩ | ⟨j, t, rfl, z, y⟩
    · rw [regA_l z]
      exact ⟨hv.getL e1 z, rfl⟩
    · rw [regA_r z]
      obtain ⟨w, y1, y2⟩ := rg.1 j.1 _ y
      rw [hv.getR e1 z] at y1
      cases y1
      exact (y2 Hs (Ex.refl _)).2
  · obtain ⟨j, z, e⟩ := regA_some e
    obtain ⟨e1, e2, _, e4⟩ := rg.2.1 j.1 a o e
    exact ⟨by rw [hl]; exact (List.getElem?_eq_some_iff.mp z).1, e1, e2, e4⟩
  · obtain ⟨_, e1⟩ := ne_some e1
    obtain ⟨_, e2⟩ := ne_some e2
    obtain ⟨j, z, e1⟩ := regA_some e1
    obtain ⟨j', z', e2⟩ := regA_some e2
    exact sep_get sep z z' (rg.2.2.1 _ _ a (some_ne e1) (some_ne e2))
/-- .. and behind it -/
theorem RS.behind {R : Nat → Hp} {vs : List V} {ar : List AR} {as' : List AV} {Rs' : Nat → Hp} (r : RS K B Hs H σ ρ) (rg : Reg K B Hs H σ ρ R) (hv : VsOk K Hs σ vs ar) {as : List AV} (ha : ArgOk K ρ ar as) (sep : sepB ar = true) (sh : Shp ar as')
    (g : Gr Hs (cut H (regA R ar)) H Hs' H') (b : IsB K H Hs' H' vs as' (regA R ar) Rs') : RS K B Hs' H' σ (DL.back K (allOf ar) ar as' ρ) := by
  classical
  have hl := hv.length
  have at_ : ∀ (i m : Nat) (j : Nat × Nw), ar[m]? = some (Sum.inr j) → j.1 = i → ∀ n : Nat, (∃ j' : Nat × Nw, ar[n]? = some (Sum.inr j') ∧ j'.1 = i) → n = m := fun i m j e1 e2 n ⟨j', e3, e4⟩ => sep_get sep e3 e1 (by rw [e4, e2])
  have hR : ∀ i (h : ∃ (m : Nat) (j : Nat × Nw), ar[m]? = some (Sum.inr j) ∧ j.1 = i), (fun i => if h : ∃ (m : Nat) (j : Nat × Nw), ar[m]? = some (Sum.inr j) ∧ j.1 = i then Rs' h.choose else em) i = Rs' h.choose := fun i h => dif_pos h
  refine r.io rg (fun i => ∃ (m : Nat) (j : Nat × Nw), ar[m]? = some (Sum.inr j) ∧ j.1 = i) g (fun a z => cut_of fun m => ?_) back_len (fun i => if h : ∃ (m : Nat) (j : Nat × Nw), ar[m]? = some (Sum.inr j) ∧ j.1 = i then Rs' h.choose else em) (fun i sv e => ?_) (fun i a o s e => ?_) (fun i j a si sj e1 e2 => ?_)
  · cases y : regA R ar m a with
    | none => rfl
    | some o =>
      obtain ⟨j, y1, y2⟩ := regA_some y
      rw [z j.1 ⟨m, j, y1, rfl⟩] at y2
      cases y2
  · rcases back_get sh e with ⟨z1, z2⟩ | ⟨m, j, t, z1, z2, z3, z4⟩
    · exact .inl ⟨fun ⟨m, j, y1, y2⟩ => z1 m j y1 y2, z2⟩
    · refine .inr ⟨⟨m, j, z1, z2⟩, ?_⟩
      have hex : ∃ (m : Nat) (j : Nat × Nw), ar[m]? = some (Sum.inr j) ∧ j.1 = i := ⟨m, j, z1, z2⟩
      have hm : hex.choose = m := at_ i m j z1 z2 _ hex.choose_spec
      have hlt : m < vs.length := by rw [hl]; exact (List.getElem?_eq_some_iff.mp z1).1
      have hvm : vs[m]? = some vs[m] := List.getElem?_eq_getElem hlt
      have y := b.is m vs[m] (.o t) hvm z3 rfl
      have y2 := hv.getR hvm z1
      rw [z2] at y2
      refine ⟨vs[m], y2, ?_, fun nw k ⟨m', j', w1, w2⟩ => ?_⟩
      · rw [dif_pos hex, hm, z4]
        intro Hs1 e1
        refine ⟨fun w ew => ?_, Own.mono e1 y⟩
        have ew : j.2.pv = some w := ew
        have lm : m < as.length := by rw [← ha.length, ← hl]; exact hlt
        rcases ha.get (List.getElem?_eq_getElem lm) with ⟨d, _, z⟩ | ⟨j2, t2, _, z, y3⟩
        · rw [z1] at z
          cases z
        · rw [z1] at z
          cases z
          obtain ⟨w2, y4, y5⟩ := rg.1 j.1 _ y3
          rw [hv.getR hvm z1] at y4
          cases y4
          exact (y5 Hs (Ex.refl _)).1 w ew
      · rw [z4] at nw
        have nw : (j.2.b && allOf ar) = true := nw
        rw [Bool.and_eq_true] at nw
        have y6 := all_get nw.2 w1
        have lm : m' < as.length := by rw [← ha.length]; exact (List.getElem?_eq_some_iff.mp w1).1
        rcases ha.get (List.getElem?_eq_getElem lm) with ⟨d, _, z⟩ | ⟨j2, t2, _, z, y3⟩
        · rw [w1] at z
          cases z
        · rw [w1] at z
          cases z
          rw [w2] at y3
          exact ⟨_, y3, y6⟩
  · rw [dif_pos s] at e
    obtain ⟨e1, e2, e3, e4, e5⟩ := b.reg _ a o e
    refine ⟨e2, e3, e4, ?_⟩
    rcases e5 with ⟨k, z⟩ | z
    · obtain ⟨_, z⟩ := ne_some z
      obtain ⟨j, y, z⟩ := regA_some z
      exact .inl ⟨j.1, ⟨k, j, y, rfl⟩, some_ne z⟩
    · exact .inr z
  · rw [dif_pos si] at e1
    rw [dif_pos sj] at e2
    have e3 := b.dis _ _ a e1 e2
    obtain ⟨j1, w1, w2⟩ := si.choose_spec
    obtain ⟨j2, w3, w4⟩ := sj.choose_spec
    rw [e3, w3] at w1
    cases w1
    rw [← w2, ← w4]
theorem ev_callB {ar : List AR} {ta : TA} {E : XK} (x : α) (ht : EvAS K ta ρ ar) (ha : ArgOk K ρ ar (arg x)) (p : pre x) (sep : sepB ar = true := by rfl) (sh : ∀ d as, post x d as → Shp ar as) (hx : ∀ cls fs as, ¬ exc x cls fs as) :
    EvE K (tCall (spB K pre arg post exc) [] E ta) ρ (fun d ρ' => ∃ as, post x d as ∧ ρ' = back K (allOf ar) ar as ρ) := fun B Hs H σ r Q q =>
  ht B Hs H σ r _ fun Hs1 H1 vs g xs => by
    rw [List.append_nil]
    have r1 := r.grow g
    obtain ⟨R, rg⟩ := r1.reg
    refine ⟨Hs1, x, _, ⟨g.lv, r1.tb⟩, r1.lay rg xs ha sep, p, fun Hs' H' v d as Rs' g2 b y z => ?_, fun _ _ cls _ fs as _ _ _ _ z => (hx cls fs as z).elim⟩
    exact q Hs' H' v d _ (g.sh.trans g2.sh) (r1.behind rg xs ha sep (sh d as z) g2 b) y ⟨as, z, rfl⟩
/-! ### statements with such calls -/
theorem EvD.eff (h : EvD K te ρ d) : EvE K te ρ (fun d' ρ' => d' = d ∧ ρ' = ρ) := fun B Hs H σ r Q q => h B Hs H σ r Q fun Hs' H' v g x => q Hs' H' v d ρ g.sh (r.grow g) x ⟨rfl, rfl⟩
theorem xs_asgE {i : Nat} {Z : D → Env → Prop} (h : EvE K te ρ Z) (q : ∀ d ρ', Z d ρ' → R.nx (ρ'.set i (some (.sh d)))) : ExS K (tAsg te (gName i)) ρ R := fun B Hs H σ Dn r l =>
  h B Hs H σ r _ fun Hs' H' v d ρ' _ r' x z => l.nx Hs' H' _ _ (r'.set i x) (q d ρ' z)
theorem xs_dropE {Z : D → Env → Prop} (h : EvE K te ρ Z) (q : ∀ d ρ', Z d ρ' → R.nx ρ') : ExS K (tDrop te) ρ R := fun B Hs H σ Dn r l =>
  h B Hs H σ r _ fun Hs' H' v d ρ' _ r' x z => l.nx Hs' H' _ _ r' (q d ρ' z)
theorem xs_retE {Z : D → Env → Prop} (h : EvE K te ρ Z) (q : ∀ d ρ', Z d ρ' → R.rt d) : ExS K (tRet te) ρ R := fun B Hs H σ Dn r l =>
  h B Hs H σ r _ fun Hs' H' v d ρ' _ r' x z => l.rt Hs' H' v d r'.gr x (q d ρ' z)
theorem xs_retEO {Z : D → Env → Prop} (h : EvE K te ρ Z) (q : ∀ d ρ', Z d ρ' → R.ro ρ' d) : ExS K (tRet te) ρ R := fun B Hs H σ Dn r l =>
  h B Hs H σ r _ fun Hs' H' v d ρ' _ r' x z => l.ro Hs' H' σ ρ' v d r' x (q d ρ' z)
/-- a test that leaves the slots as ρ' -/
def EvTE (K : PySem.W.Frag) (tt : TT) (ρ : Env) (Z : Bool → Env → Prop) : Prop := ∀ B Hs H σ, RS K B Hs H σ ρ → ∀ Q : Bool → Hp → Prop, (∀ Hs' H' b ρ', Ex Hs Hs' → RS K B Hs' H' σ ρ' → Z b ρ' → Q b H') → tt σ H Q
theorem EvT.eff {b : Bool} (h : EvT K tt ρ b) : EvTE K tt ρ (fun b' ρ' => b' = b ∧ ρ' = ρ) := fun B Hs H σ r Q q => h B Hs H σ r Q fun Hs' H' g => q Hs' H' b ρ g.sh (r.grow g) ⟨rfl, rfl⟩
theorem ete_t {Z : D → Env → Prop} {Y : Bool → Env → Prop} (h : EvE K te ρ Z) (k : ∀ d ρ', Z d ρ' → ∃ b, d = .bl b ∧ Y b ρ') : EvTE K (tTest te) ρ Y := fun B Hs H σ r Q q => h B Hs H σ r _ fun Hs' H' v d ρ' e r' x z => by
  obtain ⟨b, rfl, y⟩ := k d ρ' z
  cases x
  exact ⟨b, rfl, q Hs' H' b ρ' e r' y⟩
theorem ete_not {Y : Bool → Env → Prop} (h : EvTE K tt ρ Y) : EvTE K (tNot tt) ρ (fun b ρ' => Y (!b) ρ') := fun B Hs H σ r Q q => h B Hs H σ r _ fun Hs' H' b ρ' e r' z => q Hs' H' (!b) ρ' e r' (by show Y (!!b) ρ'; rw [Bool.not_not]; exact z)
theorem xs_ifE {t u : TS} {Y : Bool → Env → Prop} (h : EvTE K tt ρ Y) (h1 : ∀ ρ', Y true ρ' → ExS K t ρ' R) (h2 : ∀ ρ', Y false ρ' → ExS K u ρ' R) : ExS K (tIfS tt t u) ρ R := fun B Hs H σ Dn r l =>
  h B Hs H σ r _ fun Hs' H' b ρ' e r' z => by
    cases b with
    | true =>
      show t Dn σ H'
      exact h1 ρ' z B Hs' H' σ Dn r' l
    | false =>
      show u Dn σ H'
      exact h2 ρ' z B Hs' H' σ Dn r' l
/-- t[k] = d, t a list of shared data in a tree -/
theorem xs_setW {i : Nat} {nw : Nw} {o : O} {p : List Nat} {tw ti : TE} {k : Int} {j : Nat} (h : EvD K te ρ d) (hw : EvW K tw ρ i p) (hi : ρ[i]? = some (some (.tr K nw o))) (hp : o.at_ p = some (.ol (ds.map .sh))) (hk : EvD K ti ρ (.int k)) (hj : ixN ds.length k = some j) (q : R.nx (ρ.set i (some (.tr K nw (o.put p (.ol ((ds.set j d).map .sh))))))) :
    ExS K (tAsg te (gSub tw ti rSetA)) ρ R := fun B Hs0 H0 σ Dn r0 l =>
  h B Hs0 H0 σ r0 _ fun Hs H w g0 y => by
    refine hw B Hs H σ (r0.grow g0) _ fun Hs1 H1 v0 v g hv va => ?_
    have r1 := (r0.grow g0).grow g
    refine hk B Hs1 H1 σ r1 _ fun Hs2 H2 z g2 z2 => ?_
    cases z2
    have r2 := r1.grow g2
    obtain ⟨R1, rg2⟩ := r2.reg
    obtain ⟨v0', v1, S, hv', va', ow, sub, kk⟩ := r2.part rg2 hi hp
    rw [hv] at hv'
    cases hv'
    have e := (va.monoN g2.fr).det va'
    subst e
    obtain ⟨a, vs, Ra, rfl, nn, hl', rfl⟩ := ow.ol_inv
    obtain ⟨rs, rfl⟩ := hl'.reps
    have ha := (sub a _ upd_same).1
    refine .inl ⟨a, vs, k, j, rfl, rfl, ha, by rw [rs.length]; exact hj, l.nx Hs2 _ _ _ (kk (S' := upd em a (.lst (vs.set j w))) (o' := .ol ((ds.set j d).map .sh)) (.ol rfl (ownL_sh (rs.set (y.mono (g.sh.trans g2.sh)) j))) (fun b u z => ?_) (fun b u z e => ?_) (fun b e => upd_keep ha e) Ch.upd) q⟩
    · by_cases eb : b = a
      · subst eb
        rw [upd_same] at z ⊢
        exact ⟨z, .inl (by rw [upd_same]; exact fun q => nomatch q)⟩
      · rw [upd_ne eb] at z
        cases z
    · by_cases eb : b = a
      · subst eb
        rw [upd_same] at z
        cases z
      · rw [upd_ne eb]
        exact e
/-! ### closures over own trees -/
theorem OwnL.regs : ∀ {us : List V} {os : List O} {R : Hp}, OwnL K Hs us os R → ∃ Rs : Nat → Hp, (∀ (k : Nat) v o, us[k]? = some v → os[k]? = some o → Own K Hs v o (Rs k)) ∧ (∀ k a u, Rs k a = some u → k < us.length ∧ R a = some u) ∧ (∀ k l a, Rs k a ≠ none → Rs l a ≠ none → k = l) ∧ ∀ a u, R a = some u → ∃ k, Rs k a = some u
  | _, _, _, .nil => ⟨fun _ => em, fun k v o h => by simp at h, fun k a u h => (nomatch h), fun k l a h => absurd rfl h, fun a u h => (nomatch h)⟩
  | _, _, _, .cons (v := v) (o := o) (vs := vs) (os := os) (R := R1) (S := R2) h hs d => by
    obtain ⟨Rs, h1, h2, h3, h4⟩ := OwnL.regs hs
    refine ⟨fun k => match k with
      | 0 => R1
      | k + 1 => Rs k, fun k w p e1 e2 => ?_, fun k a u e => ?_, fun k l a e1 e2 => ?_, fun a u e => ?_⟩
    · cases k with
      | zero =>
        cases e1
        cases e2
        exact h
      | succ k => exact h1 k w p e1 e2
    · cases k with
      | zero => exact ⟨Nat.zero_lt_succ _, jn_l e⟩
      | succ k =>
        obtain ⟨z1, z2⟩ := h2 k a u e
        refine ⟨Nat.succ_lt_succ z1, ?_⟩
        rw [jn_r]
        · exact z2
        · cases q : R1 a with
          | none => rfl
          | some w =>
            have := d a (by rw [q]; exact fun y => nomatch y)
            rw [z2] at this
            cases this
    · have no : ∀ l, R1 a ≠ none → Rs l a ≠ none → False := fun l y1 y2 => by
        obtain ⟨u, hu⟩ := ne_some y2
        have := d a y1
        rw [(h2 l a u hu).2] at this
        cases this
      cases k with
      | zero =>
        cases l with
        | zero => rfl
        | succ l => exact (no l e1 e2).elim
      | succ k =>
        cases l with
        | zero => exact (no k e2 e1).elim
        | succ l => exact congrArg (· + 1) (h3 k l a e1 e2)
    · cases q : R1 a with
      | some w =>
        rw [jn_l q] at e
        cases e
        exact ⟨0, q⟩
      | none =>
        rw [jn_r q] at e
        obtain ⟨k, hk⟩ := h4 a u e
        exact ⟨k + 1, hk⟩
theorem OwnL.ofRegs : ∀ {us : List V} {os : List O} {Rs : Nat → Hp}, us.length = os.length → (∀ (k : Nat) v o, us[k]? = some v → os[k]? = some o → Own K Hs v o (Rs k)) → (∀ k l a, Rs k a ≠ none → Rs l a ≠ none → k = l) → ∃ R, OwnL K Hs us os R ∧ (∀ a u, R a = some u → ∃ k, k < us.length ∧ Rs k a = some u) ∧ ∀ k a u, k < us.length → Rs k a = some u → R a = some u
  | [], [], _, _, _, _ => ⟨em, .nil, fun a u h => (nomatch h), fun k a u h => absurd h (Nat.not_lt_zero _)⟩
  | [], _ :: _, _, h, _, _ => by cases h
  | _ :: _, [], _, h, _, _ => by cases h
  | v :: us, o :: os, Rs, hl, h, hd => by
    obtain ⟨R, h1, h2, h3⟩ := OwnL.ofRegs (us := us) (os := os) (Rs := fun k => Rs (k + 1)) (Nat.succ.inj hl) (fun k w p e1 e2 => h (k + 1) w p e1 e2) (fun k l a e1 e2 => Nat.succ.inj (hd (k + 1) (l + 1) a e1 e2))
    have dis : ∀ a, Rs 0 a ≠ none → R a = none := fun a ha => by
      cases q : R a with
      | none => rfl
      | some u =>
        obtain ⟨k, _, hk⟩ := h2 a u q
        exact absurd (hd 0 (k + 1) a ha (some_ne hk)) (by omega)
    refine ⟨jn (Rs 0) R, .cons (h 0 v o rfl rfl) h1 dis, fun a u e => ?_, fun k a u hk e => ?_⟩
    · cases q : Rs 0 a with
      | some w =>
        rw [jn_l q] at e
        cases e
        exact ⟨0, Nat.zero_lt_succ _, q⟩
      | none =>
        rw [jn_r q] at e
        obtain ⟨k, h4, h5⟩ := h2 a u e
        exact ⟨k + 1, Nat.succ_lt_succ h4, h5⟩
    · cases k with
      | zero => exact jn_l e
      | succ k =>
        rw [jn_r]
        · exact h3 k a u (Nat.lt_of_succ_lt_succ hk) e
        · cases q : Rs 0 a with
          | none => rfl
          | some w => exact absurd (hd 0 (k + 1) a (some_ne q) (some_ne e)) (by omega)
/-- the promise of a closure whose cells hold us: its arguments, then these -/
def spCB (sp : Sp) (ws : List (Option V)) : Sp := fun vs H Q E => ∃ us, ws = us.map some ∧ sp (vs ++ us) H Q E
theorem nok_b {N ps fr : List Str} {F : NdefX.NF} {f : Addr} {nc : Nat} (S : NdefX.NScope N ps fr F.scope) (hb : ∀ (doc pm ctv : Value) (us : List Value), us.length = ps.length → bindArgs (F.fd doc pm ctv) ⟨us, []⟩ = pure (ps.zip us)) (hl : ∀ x, (arg x).length = ps.length + fr.length) {t : TS}
    (hp : ∀ (A : Around) (outer : List PySem.Env) (s : Shared) (H : Hp) (E : XK), Room k (A.deeper (NdefX.envF F f s.heap.objs.size)) → PSs (NdefX.ncx CX0 P w K mg base N F f A outer s H E).nox F.body t)
    (hd : ∀ x vs, vs.length = ps.length + fr.length → pre x → ExS K t (entB K N vs (arg x)) (endB K post x vs)) : NdefX.NOk P w K mg base CX0 (k + 1) f F ps fr (fun ws vs H Q E => vs.length = ps.length ∧ ws.length = fr.length ∧ spCB (spB K pre arg post exc) ws vs H Q E) := by
  refine NdefX.nok_of S hb (fun ws vs H Q E h => h.1) (fun A outer s H vs ws Q E hr h1 h2 h3 h => ?_)
  obtain ⟨g1, g2, us, e1, Hs, x, Rs, e, r, hpx, q, _⟩ := h
  refine ⟨t, (hp A outer s H E hr).nox, ?_⟩
  have hN : ps.length + fr.length ≤ N.length := by
    have := congrArg List.length S.pre
    rw [List.length_take, List.length_append] at this
    omega
  have es : NdefX.startF N vs ws = L2.start N (vs ++ us) := by
    unfold NdefX.startF L2.start
    rw [e1, List.map_append, List.length_map, List.length_append, List.append_assoc, Nat.sub_sub]
  rw [es]
  exact hd x (vs ++ us) (by rw [r.len, hl]) hpx _ Hs H (L2.start N (vs ++ us)) _ (rs_entB e r (by rw [hl]; exact hN)) (lk_b (E := E) q)
/-- a closure over own trees, that came as an argument, is called -/
theorem ev_callPB {mk : Addr → NdefX.NF} {i : Nat} {v0 : V} {us : List V} {os : List O} {E : XK} {t : TA} {np nf : Nat} (x : α) {cc : Addr} (hi : ρ[i]? = some (some (.cb K v0 (mk cc) us os))) (ht : EvA K t ρ es) (p : pre x) (ha : arg x = es.map AV.d ++ os.map AV.o) (hnp : es.length = np) (hno : os.length = nf) (Z : D → List O → Prop)
    (sh : ∀ d as, post x d as → ∃ os', (∀ k : Nat, k < os.length → as[es.length + k]? = (os'.map AV.o)[k]?) ∧ os'.length = os.length ∧ Z d os') (hx : ∀ cls fs as, ¬ exc x cls fs as) :
    EvE K (tCallP mk i (fun vs H Q E => vs.length = np ∧ (us.map some).length = nf ∧ spCB (spB K pre arg post exc) (us.map some) vs H Q E) E t) ρ (fun d ρ' => ∃ os', Z d os' ∧ ρ' = ρ.set i (some (.cb K v0 (mk cc) us os'))) := fun B Hs H σ r Q q => by
  classical
  obtain ⟨R0, rg0⟩ := r.reg
  obtain ⟨v, hv, hh⟩ := rg0.1 i _ hi
  obtain ⟨ev, f, ef, f1, f2, _⟩ := hh Hs (Ex.refl _)
  subst ev
  subst ef
  refine ⟨f, cc, hv, r.ex _ _ f1, ht B Hs H σ r _ fun Hs1 H1 vs g ys => ?_⟩
  have r1 := r.grow g
  have rg : Reg K B Hs1 H1 σ ρ R0 := Reg.grow rg0 g
  have hvl := ys.length
  obtain ⟨_, f', ef', g1, g2, ol⟩ := hh Hs1 g.sh
  have hlo := ol.length
  obtain ⟨Rs, s1, s2, s3, s4⟩ := OwnL.regs ol
  refine ⟨g.lv _ _ (g.sh _ _ f1), g.lv _ _ (g.sh _ _ f2), by rw [hvl, hnp], by rw [List.length_map, hlo, hno], us, rfl, Hs1, x, fun m => if m < vs.length then em else Rs (m - vs.length), ⟨g.lv, r1.tb⟩, ?_, p, fun Hs' H' w d as Rs' gg b y z => ?_, fun _ _ cls _ fs as _ _ _ _ z => (hx cls fs as z).elim⟩
  · rw [ha]
    refine ⟨by rw [List.length_append, List.length_append, List.length_map, List.length_map, hvl, hlo], fun m u a e1 e2 => ?_, fun m a o e => ?_, fun m l a e1 e2 => ?_⟩
    · by_cases hm : m < vs.length
      · rw [List.getElem?_append_left hm] at e1
        rw [List.getElem?_append_left (by rw [List.length_map, ← hvl]; exact hm), List.getElem?_map] at e2
        obtain ⟨d0, e3, rfl⟩ := Option.map_eq_some_iff.mp e2
        obtain ⟨d1, e4, e5⟩ := ys.get e1
        rw [e3] at e4
        cases e4
        exact ⟨e5, if_pos hm⟩
      · rw [List.getElem?_append_right (Nat.le_of_not_lt hm)] at e1
        rw [List.getElem?_append_right (by rw [List.length_map, ← hvl]; exact Nat.le_of_not_lt hm), List.getElem?_map, List.length_map, ← hvl] at e2
        obtain ⟨t0, e3, rfl⟩ := Option.map_eq_some_iff.mp e2
        show Own K Hs1 u t0 (if m < vs.length then em else Rs (m - vs.length))
        rw [if_neg hm]
        exact s1 _ _ _ e1 e3
    · by_cases hm : m < vs.length
      · rw [if_pos hm] at e
        cases e
      · rw [if_neg hm] at e
        obtain ⟨z1, z2⟩ := s2 _ a o e
        obtain ⟨e1, e2, _, e4⟩ := rg.2.1 i a o z2
        exact ⟨by rw [List.length_append]; omega, e1, e2, e4⟩
    · by_cases hm : m < vs.length
      · rw [if_pos hm] at e1
        exact absurd rfl e1
      · by_cases hm' : l < vs.length
        · rw [if_pos hm'] at e2
          exact absurd rfl e2
        · rw [if_neg hm] at e1
          rw [if_neg hm'] at e2
          have := s3 _ _ a e1 e2
          omega
  · obtain ⟨os', w1, w2, w3⟩ := sh d as z
    have bl := b.len
    rw [List.length_append] at bl
    obtain ⟨R', o1, o2, o3⟩ := OwnL.ofRegs (K := K) (Hs := Hs') (us := us) (os := os') (Rs := fun k => Rs' (vs.length + k)) (by rw [hlo, w2]) (fun k u o e1 e2 => by
      have hk : k < os.length := by rw [← w2]; exact (List.getElem?_eq_some_iff.mp e2).1
      exact b.is (vs.length + k) u (.o o) (by rw [List.getElem?_append_right (Nat.le_add_right _ _), Nat.add_sub_cancel_left]; exact e1) (by rw [hvl, w1 k hk, List.getElem?_map, e2]; rfl) rfl) (fun k l a e1 e2 => by
      have := b.dis _ _ a e1 e2
      omega)
    have off : ∀ a, (∀ m, (fun m => if m < vs.length then em else Rs (m - vs.length)) m a = none) ↔ R0 i a = none := fun a => by
      constructor
      · intro h
        cases q0 : R0 i a with
        | none => rfl
        | some u =>
          obtain ⟨k, hk⟩ := s4 a u q0
          have := h (vs.length + k)
          dsimp only at this
          rw [if_neg (by omega), Nat.add_sub_cancel_left, hk] at this
          cases this
      · intro h m
        dsimp only
        by_cases hm : m < vs.length
        · rw [if_pos hm]
          rfl
        · rw [if_neg hm]
          cases q0 : Rs (m - vs.length) a with
          | none => rfl
          | some u =>
            rw [(s2 _ a u q0).2] at h
            cases h
    refine q Hs' H' w d _ (g.sh.trans gg.sh) (r1.io rg (fun j => j = i) gg (fun a z => cut_of ((off a).mpr (z i rfl))) (by rw [List.length_set]) (fun _ => R') (fun j sv e => ?_) (fun j a o ej e => ?_) (fun j l a ej el _ _ => by rw [ej, el])) y ⟨os', w3, rfl⟩
    · by_cases ej : j = i
      · subst ej
        have hl : j < ρ.length := by
          have := (List.getElem?_eq_some_iff.mp e).1
          rwa [List.length_set] at this
        rw [List.getElem?_set_self hl] at e
        cases e
        exact .inr ⟨rfl, _, hv, fun Hs2 e2 => ⟨rfl, f, rfl, e2 _ _ (gg.sh _ _ (g.sh _ _ f1)), e2 _ _ (gg.sh _ _ (g.sh _ _ f2)), o1.mono e2⟩, fun nn => nomatch nn⟩
      · rw [List.getElem?_set_ne (Ne.symm ej)] at e
        exact .inl ⟨ej, e⟩
    · obtain ⟨k, _, z2⟩ := o2 a o e
      obtain ⟨_, e1, e2, e3, e4⟩ := b.reg _ a o z2
      refine ⟨e1, e2, e3, ?_⟩
      rcases e4 with ⟨m, z3⟩ | z3
      · refine .inl ⟨i, rfl, fun q0 => z3 ((off a).mpr q0 m)⟩
      · exact .inr z3
/-- o.m(..), the last argument a closure over own trees of the running frame -/
theorem ev_methUB {js : List Nat} {alts : List V → List (Addr × Sp)} {m : Str} {E : XK} {t : TA} {C : Addr} {ns : List Str} {ds0 es0 : List D} {F : NdefX.NF} {os : List O} {arg : List V → α → List AV} {post : List V → α → D → List AV → Prop} (x : α) (h : EvD K ta ρ (.obj C ns ds0)) (ht : EvA K t ρ (es0 ++ [.clo F [] []])) (jl : List (Nat × Nw)) (hjs : js = jl.map (·.1))
    (hj : ArgOk K ρ (jl.map Sum.inr) (os.map AV.o)) (sep : sepB (jl.map Sum.inr) = true) (hin : ∀ us, (C, spB K pre (arg us) (post us) exc) ∈ alts us) (hm : ns.contains m = false)
    (ha : ∀ us, arg us x = .d (.obj C ns ds0) :: (es0.map AV.d ++ [.c F us os])) (p : pre x) (Z : D → List O → Prop) (sh : ∀ us d as, post us x d as → ∃ os', as[es0.length + 1]? = some (.c F us os') ∧ os'.length = os.length ∧ Z d os') (hx : ∀ cls fs as, ¬ exc x cls fs as) :
    EvE K (tMethU js alts m E ta t) ρ (fun d ρ' => ∃ os', Z d os' ∧ ρ' = back K (allOf (jl.map Sum.inr)) (jl.map Sum.inr) (os'.map AV.o) ρ) := fun B Hs H σ r Q q =>
  h B Hs H σ r _ fun Hs1 H1 v g1 xo => by
    cases xo with
    | @obj a _ dx _ vs _ hp xs =>
      have r1 := r.grow g1
      obtain ⟨R0, rg0⟩ := r1.reg
      -- what the captured slots hold
      have hus : ∀ (jl : List (Nat × Nw)) (os : List O), ArgOk K ρ (jl.map Sum.inr) (os.map AV.o) → ∃ us : List V, (jl.map (·.1)).map (NdefX.slotAt σ) = us.map some ∧ ∀ Hs, VsOk K Hs σ us (jl.map Sum.inr) := by
        intro jl
        induction jl with
        | nil =>
          intro os hj
          exact ⟨[], rfl, fun _ => trivial⟩
        | cons j jl ih =>
          intro os hj
          cases os with
          | nil => cases hj
          | cons o os =>
            obtain ⟨us, e1, e2⟩ := ih os hj.2
            obtain ⟨w, e3, _⟩ := rg0.1 j.1 _ hj.1
            exact ⟨w :: us, by rw [List.map_cons, List.map_cons, List.map_cons, e1, NdefX.slotAt_of e3], fun Hs => ⟨e3, e2 Hs⟩⟩
      obtain ⟨us, e1, e2⟩ := hus jl os hj
      refine ⟨a, C, dx, _, us, _, rfl, g1.lv _ _ hp, by rw [hjs]; exact e1, hin us, look_none hm, ht B Hs1 H1 σ r1 _ fun Hs2 H2 ws g2 ys => ?_⟩
      have r2 := r1.grow g2
      have rg : Reg K B Hs2 H2 σ ρ R0 := Reg.grow rg0 g2
      have lay := r2.lay rg (e2 Hs2) hj sep
      have hul : us.length = os.length := by rw [lay.len, List.length_map]
      obtain ⟨RU, u1, u2, u3⟩ := OwnL.ofRegs (K := K) (Hs := Hs2) (us := us) (os := os) (Rs := regA R0 (jl.map Sum.inr)) hul (fun k u o e3 e4 => lay.is k u (.o o) e3 (by rw [List.getElem?_map, e4]; rfl)) lay.dis
      have hwl := ys.length
      rw [List.length_append, List.length_singleton] at hwl
      have isReg : ∀ m a u, (if m = es0.length + 1 then RU else em) a = some u → m = es0.length + 1 ∧ RU a = some u := fun m a u e => by
        by_cases q0 : m = es0.length + 1
        · rw [if_pos q0] at e
          exact ⟨q0, e⟩
        · rw [if_neg q0] at e
          cases e
      refine ⟨Hs2, x, fun m => if m = es0.length + 1 then RU else em, ⟨g2.lv, r2.tb⟩, ?_, p, fun Hs' H' w d as Rs' gg b y z => ?_, fun _ _ cls _ fs as _ _ _ _ z => (hx cls fs as z).elim⟩
      · rw [ha us]
        refine ⟨by simp only [List.length_cons, List.length_append, List.length_map, List.length_nil]; omega, fun m u b e3 e4 => ?_, fun m c o e => ?_, fun m l c e3 e4 => ?_⟩
        · cases m with
          | zero =>
            cases e3
            cases e4
            exact ⟨.obj (g2.sh _ _ hp) (xs.mono g2.sh), if_neg (by omega)⟩
          | succ m =>
            rw [List.getElem?_cons_succ] at e3 e4
            by_cases hmm : m < es0.length
            · rw [List.getElem?_append_left (by rw [List.length_map]; exact hmm), List.getElem?_map] at e4
              obtain ⟨d0, e5, rfl⟩ := Option.map_eq_some_iff.mp e4
              obtain ⟨d1, e6, e7⟩ := ys.get e3
              rw [List.getElem?_append_left hmm, e5] at e6
              cases e6
              exact ⟨e7, if_neg (by omega)⟩
            · rw [List.getElem?_append_right (by rw [List.length_map]; omega), List.length_map] at e4
              have hz : m - es0.length = 0 := by
                have := (List.getElem?_eq_some_iff.mp e4).1
                rw [List.length_singleton] at this
                omega
              rw [hz] at e4
              cases e4
              obtain ⟨d1, e6, e7⟩ := ys.get e3
              rw [List.getElem?_append_right (by omega), hz] at e6
              cases e6
              cases e7 with
              | @clo f _ _ _ c1 c2 c3 =>
                refine ⟨f, rfl, c1, c2, ?_⟩
                rw [if_pos (by omega)]
                exact u1
        · obtain ⟨z1, z2⟩ := isReg m c o e
          obtain ⟨k, _, z3⟩ := u2 c o z2
          obtain ⟨_, z4, z5, z6⟩ := lay.reg k c o z3
          exact ⟨by rw [List.length_cons]; omega, z4, z5, z6⟩
        · obtain ⟨_, e3⟩ := ne_some e3
          obtain ⟨_, e4⟩ := ne_some e4
          rw [(isReg m c _ e3).1, (isReg l c _ e4).1]
      · obtain ⟨os', w1, w2, w3⟩ := sh us d as z
        have hlt : es0.length + 1 < (V.ref a :: ws).length := by rw [b.len]; exact (List.getElem?_eq_some_iff.mp w1).1
        have yc := b.is _ _ _ (List.getElem?_eq_getElem hlt) w1 rfl
        obtain ⟨f, _, _, _, ol⟩ := yc
        obtain ⟨Rt, t1, t2, t3, t4⟩ := OwnL.regs ol
        have same : cut H2 (fun m => if m = es0.length + 1 then RU else em) = cut H2 (regA R0 (jl.map Sum.inr)) := by
          funext c
          unfold cut
          congr 1
          apply propext
          constructor
          · rintro ⟨m, hm⟩
            obtain ⟨u, hu⟩ := ne_some hm
            obtain ⟨k, _, hk⟩ := u2 c u (isReg m c u hu).2
            exact ⟨k, some_ne hk⟩
          · rintro ⟨k, hk⟩
            obtain ⟨u, hu⟩ := ne_some hk
            refine ⟨es0.length + 1, ?_⟩
            show (if es0.length + 1 = es0.length + 1 then RU else em) c ≠ none
            rw [if_pos rfl]
            exact some_ne (u3 k c u (lay.reg k c u hu).1 hu)
        rw [same] at gg
        refine q Hs' H' w d _ ((g1.sh.trans g2.sh).trans gg.sh) (r2.behind rg (e2 Hs2) hj sep ?_ gg ⟨by rw [List.length_map, w2, hul], fun k u b' e3 e4 e5 => ?_, fun k c o e => ?_, t3⟩) y ⟨os', w3, rfl⟩
        · have key : ∀ (jl : List (Nat × Nw)) (xs : List O), jl.length = xs.length → Shp (jl.map Sum.inr) (xs.map AV.o) := by
            intro jl
            induction jl with
            | nil =>
              intro xs hh
              cases xs with
              | nil => trivial
              | cons _ _ => cases hh
            | cons j jl ih =>
              intro xs hh
              cases xs with
              | nil => cases hh
              | cons o xs => exact ih xs (Nat.succ.inj hh)
          refine key jl os' ?_
          have := hj.length
          rw [List.length_map, List.length_map] at this
          omega
        · rw [List.getElem?_map] at e4
          obtain ⟨o, e6, rfl⟩ := Option.map_eq_some_iff.mp e4
          exact t1 k u o e3 e6
        · obtain ⟨z1, z2⟩ := t2 k c o e
          obtain ⟨_, z4, z5, z6, z7⟩ := b.reg _ c o z2
          refine ⟨z1, z4, z5, z6, ?_⟩
          rcases z7 with ⟨m, hm⟩ | z7
          · obtain ⟨u, hu⟩ := ne_some hm
            obtain ⟨k', _, hk'⟩ := u2 c u (isReg m c u hu).2
            exact .inl ⟨k', some_ne hk'⟩
          · exact .inr z7
end
end DL

/-! DSort: sorted(range(n), key=f), f a nested def that gives lists of whole numbers. -/
namespace SK
open PySem PySem.W PyProof.Rows
section
variable {prog : Program} {w : World} {A : Around} {E : Value → Shared → Prop} {s : Shared} {a kS : Addr} {b : Bool} {vs : List Value} {e1 : Nat} {P : PySem.Fin → Shared → Prop} {J : List Value → Shared → Prop}
/-- the turns: J tells of the keys so far -/
theorem rest {f : Value} (hZ : vs.length ≤ sizeLine)
    (at_ : ∀ ks s', J ks s' → ∃ e, s'.heap.get? kS = some (seqObj "list" ks.toArray e))
    (turn : ∀ (i : Nat) (v : Value) (ks : List Value) (s' : Shared), vs[i]? = some v → ks.length = i → J ks s' →
      wpAny (model prog w) A (call f [v]) (fun k s2 => ∃ e, s2.heap.get? kS = some (seqObj "list" ks.toArray e) ∧ ∀ h' c, Heap.SameBut kS s2.heap h' → h'.get? kS = some (seqObj "list" (ks ++ [k]).toArray c) → J (ks ++ [k]) { s2 with heap := h' }) (fun _ _ => False) s')
    (j0 : J [] s)
    (done : ∀ ks s', ks.length = vs.length → J ks s' → wpAny (model prog w) A (ksk_end a b vs.toArray e1 (.ref kS) ks.toArray) P E s') :
    wpAny (model prog w) A (ksk_rest a f b vs.toArray e1 (.ref kS)) P E s := by
  unfold ksk_rest
  refine wpAny_bind (wpAny_rule ?_)
  first
    | rw [List.forIn_toArray]
    | (rw [← Array.forIn_toList]; simp only [List.toList_toArray])
    | rw [← Array.forIn_toList]
  refine wpAny_bind (ksk_fold (fun i s' => ∃ ks, ks.length = i ∧ J ks s') vs 0 s ⟨[], rfl, j0⟩ ?step ?fin)
  case step =>
    rintro j x s' hx ⟨ks, hl, hj⟩
    have hj' : j < vs.length := (List.getElem?_eq_some_iff.mp hx).1
    simp only [Nat.zero_add] at hl ⊢
    refine wpAny_bind (wpAny_attempt (wpAny_mono (turn j x ks s' hx hl hj) (fun k s2 he => ?_) fun _ _ hF => hF.elim))
    obtain ⟨e, hk, hn⟩ := he
    try dsimp only
    have s1 := Heap.SameBut.update s2.heap kS (Obj.mapSeq (·.push k))
    obtain ⟨c2, hc2⟩ : ∃ c2, (s2.heap.update kS (Obj.mapSeq (·.push k))).get? kS = some (seqObj "list" (ks.toArray.push k) c2) := ⟨_, get?_update_seq hk (·.push k)⟩
    have hz : ks.toArray.size ≤ vs.length := by
      rw [List.size_toArray]
      omega
    refine wpAny_bind (listUpdate_at hk rfl ?_ (Nat.le_trans hz hZ) (Nat.le_trans (Nat.le_of_eq (Array.size_push ..)) (Nat.succ_le_succ (Nat.le_trans hz hZ))))
    refine wpAny_pure ⟨rfl, ks ++ [k], by rw [List.length_append, hl]; rfl, hn _ c2 s1 ?_⟩
    rw [hc2]
    congr 2
    simp
  case fin =>
    rintro s' ⟨ks, hl, hj⟩
    obtain ⟨e, hk⟩ := at_ ks s' hj
    try dsimp only
    refine wpAny_bind (listItems_at hk rfl ?_)
    exact done ks s' (by rw [hl, Nat.zero_add]) hj
end
end SK
namespace DL
open PySem L2 PySem.W
open PyProof.Rows
variable [TbC]
section
variable {X : Cx} {pins : List (Addr × Obj)} {σ : L2.St} {H : Hp} {s : Shared}
/-- a slot's value is read; nothing changes -/
theorem ld_slot {i : Nat} {x : Str} {v : V} {pos : Pos} (I : Inv X pins σ H s) (hN : X.N[i]? = some x) (hs : σ[i]? = some (some v)) (hv : Vis X.env.scope x) (hd : (x == ("__debug__" : Str)) = false := by decide) (hcd : (x == ("__classdict__" : Str)) = false := by decide) :
    wpAny (model X.prog X.w) X.A (eval (.Name x pos) X.env) (fun u s' => s' = s ∧ RelV v u) X.xe s := by
  obtain ⟨m, hn, hl⟩ := I.loc
  obtain ⟨u, r, l⟩ := hl i x v hN hs hv
  rcases l with ⟨hk, hm⟩ | ⟨hk, c, hc, hcell⟩
  · exact wpAny_Name (wpAny_loadName_local I.ok.kind hk hn hm ⟨rfl, r⟩) hd
  · rcases hk with hk | hk
    · exact wpAny_Name (wpAny_loadName_cell I.ok.kind hk hc hcell ⟨rfl, r⟩) hd
    · exact wpAny_Name (wpAny_loadName_free I.ok.kind hk hc hcell ⟨rfl, r⟩ hcd) hd
/-- a record that is ours alone -/
structure Ours (X : Cx) (pins : List (Addr × Obj)) (a : Addr) : Prop where
  ne : a ≠ X.env.locals
  fs : a ∉ X.fs
  sz : X.s_0.heap.objs.size ≤ a
  pn : ∀ p ∈ X.pn ++ pins, p.1 ≠ a
  ce : ∀ x c, X.env.cells.lookup x = some c → c ≠ a
theorem Inv.ours (I : Inv X pins σ H s) {a : Addr} (h : s.heap.objs.size ≤ a) : Ours X pins a :=
  let z := I.fpOk (H' := H) h (I.hok.fresh h)
  ⟨z.2.1, z.2.2.1, Nat.le_trans I.sz h, z.2.2.2.2.2, z.2.2.2.2.1⟩
/-- the list of keys grows -/
theorem Inv.pinSet {kS a : Addr} {o o' oa : Obj} {h' : Heap} (I : Inv X ((kS, o) :: (a, oa) :: pins) σ H s) (O : Ours X pins kS) (hne : kS ≠ a) (hd : ∀ v, o'.data ≠ .cell v) (k : Heap.SameBut kS s.heap h') (e : h'.get? kS = some o') :
    Inv X ((kS, o') :: (a, oa) :: pins) σ H { s with heap := h' } := by
  have p0 := I.pin (kS, o) (List.mem_append_right _ (.head _))
  have pa := I.pin (a, oa) (List.mem_append_right _ (.tail _ (.head _)))
  have I0 : Inv X pins σ H s := I.pins_of fun p hp => I.pin p (List.mem_append_right _ (.tail _ (.tail _ hp)))
  have I1 := Inv.turned (it := kS) (t' := s.toks) I0 (fun b o hb q => (k.2 b hb).trans q) p0.2.1 O.ne (.inr O.sz) O.ce O.pn
  refine Inv.pins_of I1 fun p hp => ?_
  rcases List.mem_cons.mp hp with rfl | hp
  · exact ⟨e, p0.2.1, p0.2.2.1, p0.2.2.2.1, hd⟩
  rcases List.mem_cons.mp hp with rfl | hp
  · exact ⟨(k.2 a (Ne.symm hne)).trans pa.1, pa.2⟩
  · exact I1.pin p (List.mem_append_right _ hp)
/-- at the end the working list is the result -/
theorem Inv.sorted {kS a : Addr} {oa ok : Obj} {h' : Heap} {tk : Nat} {o : HO} (I : Inv X ((kS, ok) :: (a, oa) :: pins) σ H s) (O : Ours X pins kS) (Oa : Ours X pins a) (hne : kS ≠ a)
    (k : ∀ b u, b ≠ a → b ≠ kS → s.heap.get? b = some u → h'.get? b = some u) (new : ObjOk X.prog X.w (upd H a o) h' a o) : Inv X pins σ (upd H a o) { s with heap := h', toks := tk } := by
  have p0 := I.pin (kS, ok) (List.mem_append_right _ (.head _))
  have pa := I.pin (a, oa) (List.mem_append_right _ (.tail _ (.head _)))
  have I0 : Inv X pins σ H s := I.pins_of fun p hp => I.pin p (List.mem_append_right _ (.tail _ (.tail _ hp)))
  have na : H a = none := pa.2.1
  have nk : H kS = none := p0.2.1
  have no : ∀ {b u}, H b = some u → b ≠ a ∧ b ≠ kS := fun {b u} e => ⟨ne_of_none e na, ne_of_none e nk⟩
  have up : ∀ {b u}, H b = some u → upd H a o b = some u := fun {b u} e => by rw [upd_ne (no e).1]; exact e
  have nch : ∀ {b : Addr}, b ∉ [kS, a] → b ≠ a ∧ b ≠ kS := fun {b} h => ⟨fun z => h (by simp [z]), fun z => h (by simp [z])⟩
  refine I0.step (g' := s.gens) (d' := s.drawn) (ch := [kS, a]) (fun b hb => ?_) (fun b u _ _ hc e _ => k b u (nch hc).1 (nch hc).2 e) (fun b u _ _ hc e _ => ⟨u.slots, k b u (nch hc).1 (nch hc).2 e⟩) (fun b u hc _ n => by rw [upd_ne (nch hc).1]; exact n)
    (fun b u hc e => ⟨u, k b u (nch hc).1 (nch hc).2 e⟩) (fun b xs e => up e) (fun b u v e => up e) (fun b ps e => ⟨#[], by rw [up e]; simp⟩) (fun m hm => ?_) (fun b u e => ?_) I0.bare
  · rcases List.mem_cons.mp hb with e | hb
    · subst e
      exact ⟨.inr O.sz, O.ne, O.ce, O.pn⟩
    · obtain rfl := List.mem_singleton.mp hb
      exact ⟨.inr Oa.sz, Oa.ne, Oa.ce, Oa.pn⟩
  · obtain ⟨u, es, ep, e, r⟩ := hm
    exact ⟨u, es, ep, k _ u (Ne.symm Oa.ne) (Ne.symm O.ne) e, r⟩
  · by_cases hb : b = a
    · subst hb
      rw [upd_same] at e
      cases e
      exact new
    · rw [upd_ne hb] at e
      refine (I.hok b u e).stay (fun c v hc q => ?_) (fun c q => up q) fun c xs q => up q
      have hcn : c ≠ a ∧ c ≠ kS := by
        rcases hc with z | z
        · rw [z]; exact no e
        · exact no z
      exact k c v hcn.1 hcn.2 q
end
/-- the places by the lists that stand there -/
def srtBy (n : Nat) (key : Nat → List Int) : List Nat := (List.range n).mergeSort fun i j => decide (key i ≤ key j)
def tSortK (mk : Addr → NdefX.NF) (i : Nat) (js : List Nat) (sp : List (Option V) → Sp) (te : L2.St → Hp → (Int → Int → Hp → Prop) → Prop) : TE := fun σ H Q => te σ H fun a b H1 => ∃ (f c' : Addr) (n : Nat) (key : Nat → List Int) (J : List V → Hp → Prop),
  σ[i]? = some (some (.ref f)) ∧ a = 0 ∧ b = (n : Int) ∧ n ≤ 100000 ∧ J [] H1 ∧
  (∀ (ks : List V) (H2 : Hp), ks.length < n → J ks H2 → H2 f = some (NdefX.FnO f (mk c')) ∧ H2 (mk c').c = some (LamX.CodeO (mk c').c (mk c').qual) ∧ sp (js.map (NdefX.slotAt σ)) [.int (ks.length : Int)] H2 (fun v H3 => J (ks ++ [v]) H3) (fun _ _ _ => False)) ∧
  (∀ (ks : List V) (H2 : Hp), ks.length = n → J ks H2 → (∀ k v, ks[k]? = some v → ∃ p, v = .ref p ∧ H2 p = some (.lst ((key k).map .int))) ∧ ∀ q, H2 q = none → Q (.ref q) (upd H2 q (.lst ((srtBy n key).map fun (k : Nat) => V.int (k : Int)))))
section
variable {X : Cx} {k : Nat} {mk : Addr → NdefX.NF} {cl : List (Str × Addr)} {ps fr : List Str} {js : List Nat} {sp : List (Option V) → Sp}
theorem reads_ints {h : Heap} : ∀ {us : List Value} {ns : List Int}, Vals (ns.map V.int) us → ReadsAll h us (ns.map PyData.int) []
  | [], [], _ => .nil
  | [], _ :: _, r => by cases r
  | _ :: _, [], r => by cases r
  | u :: us, n :: ns, r => by
    cases r with
    | cons a b =>
      obtain ⟨t, rfl⟩ := a
      exact .cons (.int n t) (reads_ints b)
theorem vals_get : ∀ {vs : List V} {us : List Value} {i : Nat} {u : Value}, Vals vs us → us[i]? = some u → ∃ v, vs[i]? = some v ∧ RelV v u
  | _, _, _, _, .nil, e => by simp at e
  | _, _, 0, _, .cons h _, e => by
    have e' := Option.some.inj e
    subst e'
    exact ⟨_, rfl, h⟩
  | _, _, i + 1, u, .cons _ r, e => vals_get (i := i) (u := u) r e
theorem each_of_get {α β : Type} {R : α → β → Prop} : ∀ {as : List α} {bs : List β}, as.length = bs.length → (∀ (i : Nat) (a : α) (b : β), as[i]? = some a → bs[i]? = some b → R a b) → EachIs R as bs
  | [], [], _, _ => .nil
  | [], _ :: _, e, _ => by simp at e
  | _ :: _, [], e, _ => by simp at e
  | a :: as, b :: bs, e, h => .cons (h 0 a b rfl rfl) (each_of_get (by simpa using e) fun i x y p q => h (i + 1) x y (by simpa using p) (by simpa using q))
theorem each_rgv {vs : Array Value} {n : Nat} (h : ItemsOf (fun i v => ∃ t, v = .int ((0 : Int) + i * 1) t) vs n) : EachIs (fun v (i : Nat) => ∃ t, v = Value.int (i : Int) t) vs.toList (List.range n) := by
  refine each_of_get (by rw [Array.length_toList, h.1, List.length_range]) fun i a b p q => ?_
  have hi : i < n := by
    rw [← List.length_range (n := n)]
    exact (List.getElem?_eq_some_iff.mp q).1
  rw [List.getElem?_range hi] at q
  cases q
  rw [Array.getElem?_toList] at p
  obtain ⟨t, e⟩ := h.2 i a p
  exact ⟨t, by rw [e]; congr 1; omega⟩
theorem vals_each : ∀ {us : List Value} {is : List Nat}, EachIs (fun v (i : Nat) => ∃ t, v = Value.int (i : Int) t) us is → Vals (is.map fun (k : Nat) => V.int (k : Int)) us
  | _, _, .nil => .nil
  | _, _, .cons ⟨t, e⟩ r => .cons ⟨t, e⟩ (vals_each r)
theorem tree_run {pins : List (Addr × Obj)} {σ : L2.St} {H : Hp} {s : Shared} {Q : VK} {E : Value → Shared → Prop} {f c' a : Addr} {n : Nat} {vs : List Value} {key : Nat → List Int} {J : List V → Hp → Prop}
    (Fn : NdefX.NOk X.prog X.w X.K X.mg X.base CX0 k f (mk c') ps fr sp) (hcl : (mk c').cl = cl) (cp : X.Ok → NdefX.Caps X cl fr js) (hr : Room (k + 2) X.A) (I : Inv X pins σ H s)
    (ho : s.heap.get? a = some (seqObj "list" vs.toArray 0)) (na : H a = none) (Oa : Ours X pins a) (he : EachIs (fun v (i : Nat) => ∃ t, v = Value.int (i : Int) t) vs (List.range n)) (hn : n ≤ 100000) (j0 : J [] H)
    (turn : ∀ (ks : List V) (H2 : Hp), ks.length < n → J ks H2 → H2 f = some (NdefX.FnO f (mk c')) ∧ H2 (mk c').c = some (LamX.CodeO (mk c').c (mk c').qual) ∧ sp (js.map (NdefX.slotAt σ)) [.int (ks.length : Int)] H2 (fun v H3 => J (ks ++ [v]) H3) (fun _ _ _ => False))
    (fin : ∀ (ks : List V) (H2 : Hp), ks.length = n → J ks H2 → (∀ k v, ks[k]? = some v → ∃ p, v = .ref p ∧ H2 p = some (.lst ((key k).map .int))) ∧ ∀ q, H2 q = none → Q (.ref q) (upd H2 q (.lst ((srtBy n key).map fun (k : Nat) => V.int (k : Int))))) :
    wpAny (model X.prog X.w) X.A.in1.in1 (ksk_tree a (.ref f) false) (fun f s' => f = .done (.ret .none) ∧ EP X pins σ Q (.ref a) s') E s := by
  have hl : vs.length = n := by rw [he.length, List.length_range]
  have nz : vs.length ≤ sizeLine := by rw [sizeLine_eq, hl]; omega
  have ha : a < s.heap.objs.size := Heap.lt_size ho
  obtain ⟨e1, ho1⟩ : ∃ e1, (s.heap.update a (Obj.mapSeq fun _ => (#[] : Array Value))).get? a = some (seqObj "list" #[] e1) := ⟨_, get?_update_seq ho fun _ => #[]⟩
  have hkS : ((s.heap.update a (Obj.mapSeq fun _ => (#[] : Array Value))).push (seqObj "tuple" vs.toArray 0)).objs.size = s.heap.objs.size + 1 := by rw [size_push', Heap.size_update]
  unfold ksk_tree
  refine wpAny_bind (listItems_at ho rfl ?_)
  refine wpAny_bind (listUpdate_at ho rfl ?_ (by rw [List.size_toArray]; exact nz) (Nat.zero_le _))
  refine wpAny_bind (seqEpoch_at ho1 rfl ?_)
  refine wpAny_bind (wpAny_newTuple ?_ (by show vs.length ≤ _; exact nz))
  refine wpAny_bind (wpAny_newList ?_ (Nat.zero_le _))
  refine wpAny_holding ?_
  have keep : ∀ b o, b ≠ a → s.heap.get? b = some o → (((s.heap.update a (Obj.mapSeq fun _ => (#[] : Array Value))).push (seqObj "tuple" vs.toArray 0)).push (seqObj "list" #[] 0)).get? b = some o := fun b o hb q => sortingHeap_old hb q
  have ka : (((s.heap.update a (Obj.mapSeq fun _ => (#[] : Array Value))).push (seqObj "tuple" vs.toArray 0)).push (seqObj "list" #[] 0)).get? a = some (seqObj "list" #[] e1) := Heap.get?_push_of_some _ (Heap.get?_push_of_some _ ho1)
  have kk : (((s.heap.update a (Obj.mapSeq fun _ => (#[] : Array Value))).push (seqObj "tuple" vs.toArray 0)).push (seqObj "list" #[] 0)).get? ((s.heap.update a (Obj.mapSeq fun _ => (#[] : Array Value))).push (seqObj "tuple" vs.toArray 0)).objs.size = some (seqObj "list" #[] 0) := Heap.get?_push_size _ rfl
  rw [show (seqObj "list" ([] : List Value).toArray 0) = seqObj "list" #[] 0 from rfl] at *
  show wpAny _ _ (ksk_rest a (.ref f) false vs.toArray e1 (.ref ((s.heap.update a (Obj.mapSeq fun _ => (#[] : Array Value))).push (seqObj "tuple" vs.toArray 0)).objs.size)) _ _ { s with heap := ((s.heap.update a (Obj.mapSeq fun _ => (#[] : Array Value))).push (seqObj "tuple" vs.toArray 0)).push (seqObj "list" #[] 0) }
  generalize (((s.heap.update a (Obj.mapSeq fun _ => (#[] : Array Value))).push (seqObj "tuple" vs.toArray 0)).push (seqObj "list" #[] 0)) = g at keep ka kk ⊢
  generalize ((s.heap.update a (Obj.mapSeq fun _ => (#[] : Array Value))).push (seqObj "tuple" vs.toArray 0)).objs.size = kS at hkS kk ⊢
  have Ok : Ours X pins kS := Inv.ours I (by omega)
  have nk : H kS = none := I.hok.fresh (by omega)
  have hka : kS ≠ a := Nat.ne_of_gt (by rw [hkS]; exact Nat.lt_succ_of_lt ha)
  have I1 : Inv X pins σ H { s with heap := g } := Inv.turned (it := a) (t' := s.toks) I keep na Oa.ne (.inr Oa.sz) Oa.ce Oa.pn
  have I2 : Inv X ((kS, seqObj "list" (([] : List Value)).toArray 0) :: (a, seqObj "list" #[] e1) :: pins) σ H { s with heap := g } := Inv.pins_of I1 fun p hp => by
    rcases List.mem_cons.mp hp with rfl | hp
    · exact ⟨kk, nk, Ok.ne, Ok.fs, fun v z => by cases z⟩
    rcases List.mem_cons.mp hp with rfl | hp
    · exact ⟨ka, na, Oa.ne, Oa.fs, fun v z => by cases z⟩
    · exact I1.pin p (List.mem_append_right _ hp)
  refine SK.rest (J := fun ks s' => ∃ H' kvs e, Inv X ((kS, seqObj "list" ks.toArray e) :: (a, seqObj "list" #[] e1) :: pins) σ H' s' ∧ Vals kvs ks ∧ J kvs H') nz ?at_ ?turn ⟨H, [], 0, I2, .nil, j0⟩ ?done
  case at_ =>
    rintro ks s' ⟨H', kvs, e, I', _, _⟩
    exact ⟨e, (I'.pin _ (List.mem_append_right _ (.head _))).1⟩
  case turn =>
    rintro i v ks s' hv hi ⟨H', kvs, e, I', rv, hj⟩
    have hkl : kvs.length = i := by rw [rv.length, hi]
    have hin : i < n := by rw [← hl]; exact (List.getElem?_eq_some_iff.mp hv).1
    obtain ⟨t1, t2, t3⟩ := turn kvs H' (by omega) hj
    have hr' : Room k X.A.in1.in1 := (hr.in1).in1
    have e0 : Env0 X.prog X.w X.K X.mg X.base X.A.in1.in1 X.stack s' H' := ⟨I'.env0.frames, I'.env0.mod, I'.env0.bs, I'.env0.bsz, I'.env0.funs, I'.env0.frf, I'.env0.hok, I'.env0.bare⟩
    have C := NdefX.cells_of I' (cp I'.ok)
    rw [← hcl] at C
    obtain ⟨tv, ev⟩ : ∃ t, v = Value.int (i : Int) t := by
      obtain ⟨j, hj1, hj2⟩ : ∃ j, (List.range n)[i]? = some j ∧ ∃ t, v = Value.int (j : Int) t := by
        have hz : (v, i) ∈ vs.zip (List.range n) := List.mem_of_getElem? (i := i) (by rw [List.getElem?_zip_eq_some]; exact ⟨hv, List.getElem?_range hin⟩)
        exact ⟨i, List.getElem?_range hin, he.zip _ hz⟩
      rw [List.getElem?_range hin] at hj1
      cases hj1
      exact hj2
    refine wpAny_call (codeAny_mono (Fn.run X.A.in1.in1 X.stack s' H' [v] [.int (kvs.length : Int)] _ _ _ hr' e0 t1 t2 C (.cons ⟨tv, by rw [ev, hkl]⟩ .nil) t3) fun r s2 hq => ?_)
    cases r with
    | error e => exact False.elim hq
    | ok fl =>
      cases fl with
      | next => exact False.elim hq
      | brk => exact False.elim hq
      | cont => exact False.elim hq
      | ret u =>
        obtain ⟨v2, H2, I3, r2, q2⟩ := I'.after hq
        refine ⟨e, (I3.pin _ (List.mem_append_right _ (.head _))).1, fun h' c hs hc => ?_⟩
        exact ⟨H2, kvs ++ [v2], c, Inv.pinSet I3 Ok hka (fun v z => by cases z) hs hc, rv.append (.cons r2 .nil), q2⟩
  case done =>
    rintro ks s' hkl ⟨H', kvs, e, I', rv, hj⟩
    obtain ⟨f1, f2⟩ := fin kvs H' (by rw [rv.length, hkl, hl]) hj
    have pk := I'.pin (kS, seqObj "list" ks.toArray e) (List.mem_append_right _ (.head _))
    have pa := I'.pin (a, seqObj "list" #[] e1) (List.mem_append_right _ (.tail _ (.head _)))
    obtain ⟨G, g1, g2, _⟩ := restrictS s'.heap fun b => decide (b ≠ kS)
    have kp : KeepsBut a G s'.heap := fun b o _ q => by
      by_cases hb : b = kS
      · rw [g2 b (decide_eq_false fun z => z hb)] at q
        cases q
      · rw [g1 b (decide_eq_true hb)] at q
        exact q
    have rd : EachIs (fun v k => ∃ as, Reads s'.heap v k as) ks ((List.range n).map fun i => PyData.list ((key i).map .int)) := by
      refine each_of_get (by rw [hkl, hl, List.length_map, List.length_range]) fun i u d hu hd => ?_
      have hin : i < n := by rw [← hl, ← hkl]; exact (List.getElem?_eq_some_iff.mp hu).1
      rw [List.getElem?_map, List.getElem?_range hin] at hd
      cases hd
      obtain ⟨v, hv, ru⟩ := vals_get rv hu
      obtain ⟨p, rfl, hp⟩ := f1 i v hv
      obtain rfl : u = Value.ref p := ru
      obtain ⟨_, its, c, r3, hob⟩ := I'.hok p _ hp
      exact ⟨_, .list hob rfl rfl (reads_ints (by rw [List.toList_toArray]; exact r3))⟩
    have hal : AllAlike ((List.range n).map fun i => PyData.list ((key i).map .int)) := AllAlike.of fun b b' => by
      show alike (.list _) (.list _) = true
      rw [alike]
      exact alike_ints _ _
    have hsk : Sortable ((List.range n).map fun i => PyData.list ((key i).map .int)) := Sortable.others fun b => ⟨(by intro z; cases z), (by intro xs z; cases z)⟩
    have hu : ∀ d, d ∈ ((List.range n).map fun i => PyData.list ((key i).map .int)) → X.A.in1.in1.units + d.depth < cLine := fun d hd => by
      obtain ⟨i, _, rfl⟩ := List.mem_map.mp hd
      rw [PyData.depth, depth_ints]
      have := (hr.in1.in1).un
      omega
    refine keyH_end (κ := dataKind s'.heap ((List.range n).map fun i => PyData.list ((key i).map .int))) (h₁ := G) kp (g2 kS (decide_eq_false fun z => z rfl)) pk.1 pa.1 hka (SortsAt.data (s := s') (by rw [List.toList_toArray]; exact rd) hal hsk hu) (by rw [List.size_toArray]; exact hkl) nz fun h3 tk3 c k3 n3 => ⟨rfl, ?_⟩
    rw [List.toList_toArray] at n3
    have hout := keyedOut_each (rev := false) (fun i => PyData.list ((key i).map .int)) ⟨s'.heap, ks, hal, rfl, rd⟩ he
    rw [dataLe_rows] at hout
    refine ⟨.ref a, upd H' a (.lst ((srtBy n key).map fun (k : Nat) => V.int (k : Int))), Inv.sorted I' Ok Oa hka (fun b u h1 h2 q => k3 b u h1 (by rw [g1 b (decide_eq_true h2)]; exact q)) ⟨?_, _, c, vals_each hout, n3⟩, rfl, f2 a pa.2.1⟩
    unfold srtBy
    rw [List.length_map, List.length_mergeSort, List.length_range, ← hl]
    exact nz
theorem sort_run {pins : List (Addr × Obj)} {σ : L2.St} {H : Hp} {s : Shared} {Q : VK} {f c' r : Addr} {n : Nat} {key : Nat → List Int} {J : List V → Hp → Prop} {t u v : Tok}
    (Fn : NdefX.NOk X.prog X.w X.K X.mg X.base CX0 k f (mk c') ps fr sp) (hcl : (mk c').cl = cl) (cp : X.Ok → NdefX.Caps X cl fr js) (hr : Room (k + 2) X.A) (I : Inv X pins σ H s) (hh : X.A.handled = none)
    (hrg : IsRange s.heap r 0 (n : Int) 1 t u v) (hn : n ≤ 100000) (j0 : J [] H)
    (turn : ∀ (ks : List V) (H2 : Hp), ks.length < n → J ks H2 → H2 f = some (NdefX.FnO f (mk c')) ∧ H2 (mk c').c = some (LamX.CodeO (mk c').c (mk c').qual) ∧ sp (js.map (NdefX.slotAt σ)) [.int (ks.length : Int)] H2 (fun v H3 => J (ks ++ [v]) H3) (fun _ _ _ => False))
    (fin : ∀ (ks : List V) (H2 : Hp), ks.length = n → J ks H2 → (∀ k v, ks[k]? = some v → ∃ p, v = .ref p ∧ H2 p = some (.lst ((key k).map .int))) ∧ ∀ q, H2 q = none → Q (.ref q) (upd H2 q (.lst ((srtBy n key).map fun (k : Nat) => V.int (k : Int))))) :
    wpAny (model X.prog X.w) X.A (call (.builtin "sorted") [.ref r] [(Str.ofString "key", .ref f)]) (EP X pins σ Q) X.xe s := by
  have nz : n ≤ sizeLine := by rw [sizeLine_eq]; omega
  have en : ((n : Int) - 0).toNat = n := by omega
  refine call_function_entry_kw kind_sorted plain_sorted entry_sorted (ksk_s1 _ _) ?_
  unfold Builtin.«sorted»
  refine wpAny_bind (m := checkCount "sorted" 1 1 _) (wpAny_pure ?_)
  refine wpAny_bind (collect_range (A := X.A.in1) (n := n) hh hrg (small_one (by omega) (by omega) (by omega) (by omega)) (by rw [rangeSize_nat, en]) (by omega) fun h1 tk1 acc hk1 hi => ?_)
  have hl : acc.toList.length = n := by rw [Array.length_toList]; exact hi.1
  refine wpAny_bind (wpAny_newList ?_ (by rw [hl]; exact nz))
  have at0 : (h1.push (seqObj "list" acc.toList.toArray 0)).get? h1.objs.size = some (seqObj "list" acc.toList.toArray 0) := Heap.get?_push_size _ rfl
  refine wpAny_bind (wpAny_holding (wpAny_call_entry_kw slot_list_sort ⟨_, at0, rfl⟩ entry_list_sort ?body (ksk_l1 _ _)))
  case body =>
    show wpAny (model X.prog X.w) X.A.in1.in1 (Builtin.«list.sort» ⟨[.ref h1.objs.size], [(Str.ofString "key", .ref f)]⟩) _ _ _
    rw [ksk_t1]
    have I0 : Inv X pins σ H { s with heap := h1, toks := tk1 } := I.kept hk1
    have I1 : Inv X pins σ H { s with heap := h1.push (seqObj "list" acc.toList.toArray 0), toks := tk1 } := I0.kept fun b o q => Heap.get?_push_of_some _ q
    refine wpAny_mono (tree_run (s := { s with heap := h1.push (seqObj "list" acc.toList.toArray 0), toks := tk1 }) Fn hcl cp hr I1 at0 (I0.hok.fresh (Nat.le_refl _)) (Inv.ours I0 (Nat.le_refl _)) (each_rgv hi) hn j0 turn fin) (fun f s' hf => ?_) fun _ _ e => e
    obtain ⟨rfl, hq⟩ := hf
    exact ⟨_, rfl, wpAny_pure ⟨_, rfl, hq⟩⟩
theorem boot_sortedK : bootBuiltins "sorted" = some (.builtin "sorted") := by decide +kernel
/-- sorted(range(..), key=f) -/
theorem pe_sortKey {e : Expr} {te : L2.St → Hp → (Int → Int → Hp → Prop) → Prop} {i : Nat} {x : Str} {p p2 p3 pos : Pos} (Fn : ∀ f c', NdefX.NOk X.prog X.w X.K X.mg X.base CX0 k f (mk c') ps fr sp) (hcl : ∀ c', (mk c').cl = cl) (cp : X.Ok → NdefX.Caps X cl fr js) (hr : Room (k + 2) X.A) (hc : X.calm = true)
    (hg : Gl X "sorted") (hm : X.mg "sorted" = none) (hN : X.N[i]? = some x) (hv : Vis X.env.scope x) (he : PRg X e te)
    (hd : (x == ("__debug__" : Str)) = false := by decide) (hcd : (x == ("__classdict__" : Str)) = false := by decide) (na : starEach [e] X.env = (false, eval e X.env) :: starEach [] X.env := by rfl) (na2 : backTo pos (starEach [e] X.env) = (false, eval e X.env) :: backTo pos (starEach [] X.env) := by rfl) (hpl : (backTo pos (starEach [e] X.env)).any (·.1) = false := by rfl) :
    PE X (.Call (.Name "sorted" p) [e] [⟨some "key", .Name x p2, p3⟩] pos) (tSortK mk i js sp te) := by
  refine ⟨fun pins s σ H Q I h => ?_⟩
  refine wpAny_Call_Name_kw (ld_blt I hg hm boot_sortedK ?_)
  refine PyProof.Rows.callWith_kw (args_cons (thn (he pins s σ H _ I h) fun xv s1 ⟨r, a, b, t, u, v, H1, ex, hrg, I1, f, c', n, key, J, hs, ha, hb, hn, j0, turn, fin⟩ => args_nil ?_) na) na2 hpl
  subst ex ha hb
  show wpAny _ _ (evalAll ((do let v ← eval (.Name x p2) X.env; standAt pos; pure v) :: [])) _ _ s1
  refine wpAny_evalAll_cons (wpAny_bind (thn (ld_slot I1 hN hs hv hd hcd) fun u1 s2 ⟨e2, ru⟩ => wpAny_bind (wpAny_standAt (wpAny_pure ?_))))
  subst e2
  obtain rfl : u1 = Value.ref f := ru
  refine wpAny_evalAll_nil ?_
  exact sort_run (Fn f c') (hcl c') cp hr I1 (I1.ok.hd hc) hrg hn j0 turn fin
end
section
variable {K : PySem.W.Frag} {ρ : Env} {ta : TE}
/-- .. on deep data -/
theorem ef_sortKey {mk : Addr → NdefX.NF} {i : Nat} {js : List Nat} {c : Addr} {us0 : List V} {ds0 cs : List D} {α : Type} {pre : α → Prop} {arg cap : α → List D} {res : α → D} {n : Nat} {key : Nat → List Int} (x : Nat → α) (hi : ρ[i]? = some (some (.sh (.clo (mk c) us0 ds0)))) (hj : js.map (fun j => ρ[j]?) = cs.map (fun d => some (some (.sh d))))
    (hx : ∀ k, k < n → arg (x k) = [.int (k : Int)] ∧ cap (x k) = cs ∧ pre (x k) ∧ res (x k) = .lst ((key k).map .int)) (ht : EvD K ta ρ (.int (n : Int))) (hn : n ≤ 100000) :
    EvF K (tSortK mk i js (spN_ (spCl K pre arg cap res)) (tRg1 ta)) ρ ((srtBy n key).map fun (k : Nat) => D.int (k : Int)) := fun B Hs H σ r Q q =>
  ht B Hs H σ r _ fun Hs1 H1 v1 g1 y1 => by
    cases y1
    have r1 := r.grow g1
    obtain ⟨us, e1, e2⟩ := r1.gets hj
    obtain ⟨v, e, xv⟩ := r1.get hi
    cases xv with
    | @clo f _ _ _ h1 h2 _ =>
      refine ⟨(n : Int), rfl, f, c, n, key, fun ks H2 => ∃ Hs2, Gr Hs1 H1 H1 Hs2 H2 ∧ RepL K Hs2 ks ((List.range ks.length).map fun k => .lst ((key k).map .int)), e, rfl, rfl, hn, ⟨Hs1, Gr.refl r1.ex, .nil⟩, ?_, ?_⟩
      · rintro ks H2 hl ⟨Hs2, g, hk⟩
        obtain ⟨x1, x2, x3, x4⟩ := hx ks.length hl
        refine ⟨g.lv _ _ (g.sh _ _ h1), g.lv _ _ (g.sh _ _ h2), us, e1, Hs2, x ks.length, ⟨g.lv, (r1.grow g).tb⟩, ?_, ?_, x3, ?_⟩
        · rw [x1]
          exact .cons (.int _) .nil
        · rw [x2]
          exact e2.mono g.sh
        · intro Hs' H' w g2 y
          refine ⟨Hs', g.trans g2, ?_⟩
          rw [List.length_append, List.length_cons, List.length_nil, Nat.zero_add, List.range_succ, List.map_append]
          rw [x4] at y
          exact (hk.mono g2.sh).append (.cons y .nil)
      · rintro ks H2 hl ⟨Hs2, g, hk⟩
        refine ⟨fun k v hv => ?_, fun p hp => ?_⟩
        · obtain ⟨d, hd, rd⟩ := hk.get hv
          rw [List.getElem?_map, List.getElem?_range (List.getElem?_eq_some_iff.mp hv).1] at hd
          cases hd
          cases rd with
          | lst a b =>
            have := RepL.ints b
            subst this
            exact ⟨_, rfl, g.lv _ _ a⟩
        · obtain ⟨n1, n2⟩ := gr_none (g1.trans g) hp
          refine q Hs2 _ p _ ((g1.trans g).trans (Gr.newO g.lv hp)) n1 n2 upd_same ?_
          have : ((srtBy n key).map fun (k : Nat) => V.int (k : Int)) = ((srtBy n key).map fun (k : Nat) => (k : Int)).map V.int := by rw [List.map_map]; rfl
          rw [this]
          have : ((srtBy n key).map fun (k : Nat) => D.int (k : Int)) = ((srtBy n key).map fun (k : Nat) => (k : Int)).map D.int := by rw [List.map_map]; rfl
          rw [this]
          exact RepL.ofInts _
end
end DL

/-! DFor: for over a list of the frame's own; sorted of whole numbers. -/
namespace DL
open PySem L2
variable [TbC]
section
variable {K : PySem.W.Frag} {B : Base} {Hs H Hs' H' : Hp} {σ : St} {ρ ρ' : Env} {i j : Nat} {ds es : List D} {R : DEnds} {te ta tb : TE} {d : D}
/-- the same, seen otherwise -/
theorem RS.recast {sv sv' : SV} (r : RS K B Hs H σ ρ) (hi : ρ[i]? = some (some sv)) {v : V} (hv : σ[i]? = some (some v)) (h : ∀ R, Holds K Hs R v sv → Holds K Hs R v sv') (hn : sv'.nw = true → sv.nw = true) : RS K B Hs H σ (ρ.set i (some sv')) := by
  obtain ⟨Q, g1, g2, g3, g4⟩ := r.reg
  have hl : i < ρ.length := (List.getElem?_eq_some_iff.mp hi).1
  refine ⟨r.gr, by rw [List.length_set]; exact r.len, Q, fun m sv2 e => ?_, g2, g3, fun m sv2 a e1 e2 e3 => ?_⟩
  · by_cases q : m = i
    · subst q
      rw [List.getElem?_set_self hl] at e
      cases e
      obtain ⟨w, hw, hk⟩ := g1 m _ hi
      rw [hv] at hw
      cases hw
      exact ⟨v, hv, h _ hk⟩
    · rw [List.getElem?_set_ne (Ne.symm q)] at e
      exact g1 m sv2 e
  · by_cases q : m = i
    · subst q
      rw [List.getElem?_set_self hl] at e1
      cases e1
      exact g4 m _ a hi (hn e2) e3
    · rw [List.getElem?_set_ne (Ne.symm q)] at e1
      exact g4 m sv2 a e1 e2 e3
theorem RS.toA (r : RS K B Hs H σ ρ) (hi : ρ[i]? = some (some (.ol ds))) : ∃ a, σ[i]? = some (some (.ref a)) ∧ RS K B Hs H σ (ρ.set i (some (.trA K a ds))) := by
  obtain ⟨Q, g1, g2, g3, g4⟩ := r.reg
  obtain ⟨v, hv, p, vs, rfl, hR, x⟩ := g1 i _ hi
  refine ⟨p, hv, r.recast hi hv (fun R hk => ?_) fun _ => rfl⟩
  obtain ⟨p', vs', e, hR', x'⟩ := hk
  cases e
  refine fun Hs1 e1 => ⟨rfl, vs', x'.mono e1, ?_⟩
  rw [hR']
  rfl
theorem RS.ofA {a : Addr} (r : RS K B Hs H σ ρ) (hi : ρ[i]? = some (some (.trA K a ds))) : RS K B Hs H σ (ρ.set i (some (.ol ds))) := by
  obtain ⟨Q, g1, g2, g3, g4⟩ := r.reg
  obtain ⟨v, hv, hk⟩ := g1 i _ hi
  refine r.recast hi hv (fun R hk => ?_) fun _ => rfl
  obtain ⟨rfl, vs, x, hR⟩ := hk Hs (Ex.refl Hs)
  refine ⟨a, vs, rfl, ?_, x⟩
  rw [hR]
  rfl
/-- for .. in an own list; while it runs its slot is known by its address -/
theorem xs_forA {g : TG} {tb : TS} (hi : ρ[i]? = some (some (.ol ds))) (I : Addr → Nat → Env → Prop) (h0 : ∀ a, I a 0 (ρ.set i (some (.trA K a ds)))) (hI : ∀ a k ρ1, I a k ρ1 → ρ1[i]? = some (some (.trA K a ds)))
    (hs : ∀ a k d ρ1, ds[k]? = some d → I a k ρ1 → ∃ ρ2, EvG K g d ρ1 ρ2 ∧ ExS K tb ρ2 { R with nx := I a (k + 1), ct := I a (k + 1), bk := fun ρ3 => ρ3[i]? = some (some (.trA K a ds)) ∧ R.nx (ρ3.set i (some (.ol ds))) })
    (hd : ∀ a ρ1, I a ds.length ρ1 → R.nx (ρ1.set i (some (.ol ds)))) : ExS K (tFor (iSeq K (tVar i)) g tb) ρ R := fun B Hs H σ Dn r l => by
  obtain ⟨a, hv, r0⟩ := r.toA hi
  have look : ∀ {Hs2 H2 σ2 ρ2}, RS K B Hs2 H2 σ2 ρ2 → ρ2[i]? = some (some (.trA K a ds)) → ∃ vs, H2 a = some (.lst vs) ∧ RepL K Hs2 vs ds := fun {Hs2 H2 σ2 ρ2} r2 h2 => by
    obtain ⟨Q, g1, g2, _⟩ := r2.reg
    obtain ⟨w, _, hk⟩ := g1 i _ h2
    obtain ⟨_, vs, x, hR⟩ := hk Hs2 (Ex.refl Hs2)
    exact ⟨vs, (g2 i a _ (by rw [hR]; exact upd_same)).1, x⟩
  obtain ⟨vs0, ha0, _⟩ := look r0 (hI a 0 _ (h0 a))
  refine ⟨.ref a, hv, a, rfl, .inl ⟨⟨vs0, .of ha0⟩, ?_⟩⟩
  refine ⟨fun k m σ' H' => m = ds.length - k ∧ k ≤ ds.length ∧ ∃ Hs2 ρ1, RS K B Hs2 H' σ' ρ1 ∧ I a k ρ1, ⟨ds.length, rfl, Nat.zero_le _, Hs, _, r0, h0 a⟩, ?_⟩
  rintro k m σ2 H2 ⟨rfl, hk, Hs2, ρ1, r2, hI2⟩
  obtain ⟨vs, ha, x⟩ := look r2 (hI a k _ hI2)
  by_cases hlt : k < ds.length
  · obtain ⟨w, hw, xw⟩ := x.at (List.getElem?_eq_getElem hlt)
    refine .inr ⟨⟨vs, w, .of ha, hw⟩, fun σ' H' => ∃ Hs3 ρ3, RS K B Hs3 H' σ' ρ3 ∧ I a (k + 1) ρ3, fun σ' H' ⟨Hs3, ρ3, r3, i3⟩ => ⟨ds.length - (k + 1), by omega, rfl, hlt, Hs3, ρ3, r3, i3⟩, fun y H3 hy => ?_⟩
    obtain ⟨rfl, hy⟩ := hy
    have z := hy vs (.of ha)
    rw [hw] at z
    cases z
    obtain ⟨ρ2, hg, hx⟩ := hs a k _ ρ1 (List.getElem?_eq_getElem hlt) hI2
    refine hg B Hs2 H3 σ2 w r2 xw _ fun Hs4 H4 σ4 g4 r4 => ?_
    exact hx.run r4 (fun Hs5 H5 σ5 ρ5 e5 r5 q => ⟨Hs5, ρ5, r5, q⟩) l.rt l.rf (fun Hs5 H5 σ5 ρ5 e5 r5 q => l.nx Hs5 H5 σ5 _ (r5.ofA q.1) q.2) (fun Hs5 H5 σ5 ρ5 e5 r5 q => ⟨Hs5, ρ5, r5, q⟩) (fun Hs5 H5 σ5 ρ5 v d e5 r5 x q => l.ro Hs5 H5 σ5 ρ5 v d r5 x q) (fun Hs5 H5 σ5 ρ5 cls dd fs e5 r5 x q => l.ex Hs5 H5 σ5 ρ5 cls dd fs r5 x q) l.rn
  · have e : k = ds.length := by omega
    subst e
    exact .inl ⟨⟨vs, .of ha, by rw [x.length]; exact Nat.le_refl _⟩, l.nx Hs2 H2 σ2 _ (r2.ofA (hI a _ _ hI2)) (hd a ρ1 hI2)⟩
/-- .. where the frame stays but for the target -/
theorem em_A {a : Addr} (hi : ρ[i]? = some (some (.trA K a ds))) : EvM K (tVar i) ρ ds := fun B Hs H σ r Q q => by
  obtain ⟨R0, g1, g2, _⟩ := r.reg
  obtain ⟨w, hw, hk⟩ := g1 i _ hi
  obtain ⟨rfl, vs0, rs0, eR0⟩ := hk Hs (Ex.refl Hs)
  exact ⟨.ref a, hw, q Hs H _ _ (Gr.refl r.ex) (g2 i a _ (by rw [eR0]; exact upd_same)).1 rs0⟩
/-- sorted(whole numbers) -/
theorem sortIK {X : Cx} (h : X.K = K) : CallR X (.builtin "sorted") (rSortedI K) := by subst h; exact cr_sortedI
theorem ef_sortI {ns ms : List Int} (ha : EvB K ta ρ (ns.map D.int)) (hu : ∀ ns', ns'.Perm ns → ns'.Pairwise (· ≤ ·) → ns' = ms) : EvF K (tCB (rSortedI K) (tCons ta tNil)) ρ (ms.map D.int) := fun B Hs H σ r Q q =>
  ha B Hs H σ r _ fun Hs1 H1 p vs g hp xs => by
    have e := xs.ints
    subst e
    refine ⟨p, ns, rfl, hp, fun ns' p2 hpm hpw hn => ?_⟩
    obtain rfl := hu ns' hpm hpw
    obtain ⟨n1, n2⟩ := gr_none g hn
    exact q Hs1 _ p2 _ (g.trans (Gr.newO g.lv hn)) n1 n2 upd_same (RepL.ofInts _)
end
end DL

/-! DLt: a list of whole numbers is less than another one; the least, the greatest of a list. -/
namespace DL
open PySem L2 PySem.W
variable [TbC]
/-- xs < ys, lists of whole numbers -/
def rLtL (K : PySem.W.Frag) : R2 := fun x y H Q => ∃ (a b : Addr) (ns ms : List Int), x = .ref a ∧ y = .ref b ∧ SqL K H a (ns.map V.int) ∧ SqL K H b (ms.map V.int) ∧ Q (.bl (decide (ns < ms))) H
section
variable {X : Cx} {K : PySem.W.Frag} {ρ : Env} {ta tb : TE}
theorem op_ltL (hu : X.A.units + 64 < cLine) : OpR X (compareOp .Lt) (rLtL X.K) := by
  intro pins s σ H x y v u Q I rx ry h
  obtain ⟨a, b, ns, ms, rfl, rfl, ha, hb, q⟩ := h
  cases rx
  cases ry
  obtain ⟨its, r1, p1, _⟩ := I.list ha
  obtain ⟨its2, r2, p2, _⟩ := I.list hb
  obtain ⟨o1, e1, c1, n1, d1⟩ := p1.isList
  obtain ⟨o2, e2, c2, n2, d2⟩ := p2.isList
  have R1 : Reads s.heap (.ref a) (.list (ns.map .int)) [a] := .list e1 c1 d1 (reads_ints (by rw [List.toList_toArray]; exact r1))
  have R2 : Reads s.heap (.ref b) (.list (ms.map .int)) [b] := .list e2 c2 d2 (reads_ints (by rw [List.toList_toArray]; exact r2))
  have al : alike (.list (ns.map .int)) (.list (ms.map .int)) = true := by
    rw [alike]
    exact alike_ints _ _
  have hd : PyData.depth (.list (ns.map .int)) = 1 ∧ PyData.depth (.list (ms.map .int)) = 1 := by
    refine ⟨?_, ?_⟩ <;> rw [PyData.depth, depth_ints]
  have z := rcLt_alike _ _ X.A s _ _ _ _ R1 R2 al (by intro z; cases z) (by rw [hd.1, hd.2]; omega)
  rw [dataLt_list] at z
  have e : PyProof.Rows.lexLt PyProof.Rows.itemOrd (keyToksAll (ns.map .int)) (keyToksAll (ms.map .int)) = decide (ns < ms) := dataLt_ints ns ms
  rw [e] at z
  exact z _ _ _ _ ⟨.bl (decide (ns < ms)), H, I, rfl, q⟩
theorem ltLK (h : X.K = K) (hu : X.A.units + 64 < cLine) : OpR X (compareOp .Lt) (rLtL K) := by subst h; exact op_ltL hu
theorem minK (h : X.K = K) (hc : X.calm = true) : CallR X (.builtin "min") (rMin K) := by subst h; exact cr_min hc
theorem maxK (h : X.K = K) (hc : X.calm = true) : CallR X (.builtin "max") (rMax K) := by subst h; exact cr_max hc
theorem ev_ltL {xs ys : List Int} (ha : EvB K ta ρ (xs.map .int)) (hb : EvB K tb ρ (ys.map .int)) : EvD K (tOp (rLtL K) ta tb) ρ (.bl (decide (xs < ys))) := fun B Hs H σ r Q q =>
  ha B Hs H σ r _ fun Hs1 H1 p vs g1 hp x1 => hb B Hs1 H1 σ (r.grow g1) _ fun Hs2 H2 p2 vs2 g2 hp2 x2 => by
    have e := x1.ints
    subst e
    have e := x2.ints
    subst e
    exact ⟨p, p2, xs, ys, rfl, rfl, g2.fr.sl hp, hp2, q Hs2 H2 _ (g1.trans g2) (.bl _)⟩
theorem ev_minL {ns : List Int} {m : Int} (ha : EvB K ta ρ (ns.map .int)) (h1 : m ∈ ns) (h2 : ∀ y ∈ ns, m ≤ y) : EvD K (tCB (rMin K) (tCons ta tNil)) ρ (.int m) := fun B Hs H σ r Q q =>
  ha B Hs H σ r _ fun Hs1 H1 p vs g1 hp x1 => by
    have e := x1.ints
    subst e
    refine ⟨p, ns, rfl, hp, List.length_pos_iff.mpr (fun z => by rw [z] at h1; cases h1), fun m' k1 k2 => ?_⟩
    obtain rfl : m' = m := Int.le_antisymm (k2 m h1) (h2 m' k1)
    exact q Hs1 H1 _ g1 (.int _)
theorem ev_maxL {ns : List Int} {m : Int} (ha : EvB K ta ρ (ns.map .int)) (h1 : m ∈ ns) (h2 : ∀ y ∈ ns, y ≤ m) : EvD K (tCB (rMax K) (tCons ta tNil)) ρ (.int m) := fun B Hs H σ r Q q =>
  ha B Hs H σ r _ fun Hs1 H1 p vs g1 hp x1 => by
    have e := x1.ints
    subst e
    refine ⟨p, ns, rfl, hp, List.length_pos_iff.mpr (fun z => by rw [z] at h1; cases h1), fun m' k1 k2 => ?_⟩
    obtain rfl : m' = m := Int.le_antisymm (h2 m' k1) (k2 m h1)
    exact q Hs1 H1 _ g1 (.int _)
end
end DL

/-! DDef: defs with default values. -/
namespace DL
open PySem L2
open PyProof.Rows (envOfC)
variable [TbC]
/-- a def of which the last parameters have defaults -/
abbrev FunE (K : PySem.W.Frag) (x qual : Str) (st : Stmt) (dvs : List V) (f : Addr) (fd : FuncData) : Prop := FunD K x qual (defArgs st) (defBody st) (defScope st) dvs [] f fd
section
variable {K : PySem.W.Frag} {ρ : Env} {ds es : List D} {P : Program} {w : World} {mg : Str → Option Value} {base : Heap} {x qual : Str} {st : Stmt} {f : Addr} {fd : FuncData} {N ps : List Str} {k : Nat} {α : Type} {pre : α → Prop} {arg : α → List D} {dvs : List V}
theorem fune_mk {oc : Value} {od an : Option Addr} {osl : Array (Option Value)} {kV doc pm cdv ct : Value} {D : Addr} {o : Obj} {its : List Value} {n : Nat} (l : K.lookup f = some ⟨oc, od, .func (PySem.W.fnOf x qual (defArgs st) (defBody st) (defScope st) (.ref D) kV doc pm an cdv ct), osl⟩)
    (c : PySem.W.codeIn K cdv qual = true) (k : PySem.W.keepIn K (.ref f) = true) (lT : K.lookup D = some o) (oT : o.data = .seq its.toArray n) (r : Vals dvs its) (hd : dvs ≠ []) : FunE K x qual st dvs f (PySem.W.fnOf x qual (defArgs st) (defBody st) (defScope st) (.ref D) kV doc pm an cdv ct) :=
  ⟨⟨oc, od, _, kV, doc, pm, an, cdv, ct, osl, rfl, l, c, .inr ⟨hd, D, o, its, n, rfl, lT, oT, r⟩, .inl rfl⟩, k⟩
theorem fn_rE {post : α → D → Prop} (F : FunE K x qual st dvs f fd) (S : FnScope N ps (defScope st)) (hl : ∀ x, (arg x).length = ps.length) {t : TS}
    (hb : ∀ (cdv : Value) (A : Around) (outer : List PySem.Env) (s : Shared) (H : Hp) (E : XK), Room k (A.deeper (envOfC qual (defScope st) s.heap.objs.size f cdv)) → PSs (cxOf CX0 P w K mg base N qual (defScope st) f cdv A outer s H E).nox (defBody st) t)
    (hd : ∀ x, pre x → ExS K t (entry N (arg x)) { nx := fun _ => post x .non, rt := post x }) : FnOk P w K mg base CX0 (k + 1) f fd ps (spR K pre arg post) := by
  have hN : ps.length ≤ N.length := by have := congrArg List.length S.pre; rw [List.length_take] at this; omega
  refine F.ok S (fun vs H Q E h => ?_) (fun cdv A outer s H vs Q E hr h => ?_)
  · obtain ⟨Hs, x, _, r, _⟩ := h
    rw [r.length, hl]
  · obtain ⟨Hs, x, e, r, hp, q⟩ := h
    refine ⟨t, (hb cdv A outer s H E hr).nox, ?_⟩
    exact hd x hp ⟨Hs, H, H, e.2⟩ Hs H (L2.start N vs) _ (rs_entry e r (by rw [hl]; exact hN))
      ⟨fun Hs' H' σ ρ r' z => q Hs' H' .non .non r'.gr .non z, fun Hs' H' v d g x z => q Hs' H' v d g x z, fun _ _ _ _ _ _ _ _ _ _ z => z.elim, fun _ _ _ _ _ z => z.elim, fun _ _ _ _ _ z => z.elim, fun _ _ _ _ _ _ _ _ z => z.elim, fun _ _ _ _ _ _ _ _ _ z => z.elim, fun _ _ _ _ _ _ _ _ z => z.elim⟩
theorem fn_fE {res : α → List D} (F : FunE K x qual st dvs f fd) (S : FnScope N ps (defScope st)) (hl : ∀ x, (arg x).length = ps.length) {t : TS}
    (hb : ∀ (cdv : Value) (A : Around) (outer : List PySem.Env) (s : Shared) (H : Hp) (E : XK), Room k (A.deeper (envOfC qual (defScope st) s.heap.objs.size f cdv)) → PSs (cxOf CX0 P w K mg base N qual (defScope st) f cdv A outer s H E).nox (defBody st) t)
    (hd : ∀ x, pre x → ExS K t (entry N (arg x)) { nx := fun _ => False, rt := fun _ => False, rf := fun ds => ds = res x }) : FnOk P w K mg base CX0 (k + 1) f fd ps (spF K pre arg res) := by
  have hN : ps.length ≤ N.length := by have := congrArg List.length S.pre; rw [List.length_take] at this; omega
  refine F.ok S (fun vs H Q E h => ?_) (fun cdv A outer s H vs Q E hr h => ?_)
  · obtain ⟨Hs, x, _, r, _⟩ := h
    rw [r.length, hl]
  · obtain ⟨Hs, x, e, r, hp, q⟩ := h
    refine ⟨t, (hb cdv A outer s H E hr).nox, ?_⟩
    exact hd x hp ⟨Hs, H, H, e.2⟩ Hs H (L2.start N vs) _ (rs_entry e r (by rw [hl]; exact hN))
      ⟨fun Hs' H' σ ρ r' z => z.elim, fun Hs' H' v d g x z => z.elim, fun Hs' H' p ws ds g n ns e x z => q Hs' H' p ws g n ns e (z ▸ x), fun _ _ _ _ _ z => z.elim, fun _ _ _ _ _ z => z.elim, fun _ _ _ _ _ _ _ _ z => z.elim, fun _ _ _ _ _ _ _ _ _ z => z.elim, fun _ _ _ _ _ _ _ _ z => z.elim⟩
/-! ### calls that leave the last arguments out -/
theorem ev_callD {res : α → D} {E : XK} {ta : TA} (x : α) (h : EvA K ta ρ ds) (hr : ∀ Hs, RepL K Hs dvs es) (e : ds ++ es = arg x) (p : pre x) : EvD K (tCall (spG K pre arg res) dvs E ta) ρ (res x) := fun B Hs H σ r Q q =>
  h B Hs H σ r _ fun Hs1 H1 vs g1 xs => ⟨Hs1, x, ⟨g1.lv, (r.grow g1).tb⟩, e ▸ xs.append (hr _), p, fun Hs' H' v d g y e => q Hs' H' v (g1.trans g) (e ▸ y)⟩
theorem ef_callD {res : α → List D} {E : XK} {ta : TA} (x : α) (h : EvA K ta ρ ds) (hr : ∀ Hs, RepL K Hs dvs es) (e : ds ++ es = arg x) (p : pre x) : EvF K (tCall (spF K pre arg res) dvs E ta) ρ (res x) := fun B Hs H σ r Q q =>
  h B Hs H σ r _ fun Hs1 H1 vs g1 xs => by
    refine ⟨Hs1, x, ⟨g1.lv, (r.grow g1).tb⟩, e ▸ xs.append (hr _), p, fun Hs' H' l ws g n ns e y => q Hs' H' l ws (g1.trans g) ?_ ns e y⟩
    exact (g1.new0 n).1
end
theorem rep_i {K : PySem.W.Frag} (i : Int) (Hs : Hp) : RepL K Hs [.int i] [.int i] := .cons (.int i) .nil
end DL

local macro_rules | `(tactic| walk_at "dl side") => `(tactic| first
  | assumption
  | decide
  | omega
  | exact DL.divW_c (by omega) (by omega)
  | exact DL.atI_int (by omega) (by omega)
  | exact DL.atI2 (by omega) (by omega)
  | exact DL.atI3 (by omega) (by omega)
  | exact DL.atI4 (by omega) (by omega)
  | exact L2.atI_nat rfl
  | exact L2.atI_last _ _
  | exact DL.mulW_l (by omega) (by omega)
  | exact DL.mulW_r (by omega) (by omega)
  | exact DL.mulW_l (by decide) (by decide)
  | exact DL.mulW_r (by decide) (by decide)
  | exact ⟨by decide, by decide, by decide⟩
  | (refine ⟨?_, ?_⟩ <;> omega)
  | (refine ⟨?_, ?_, ?_⟩ <;> omega)
  | (refine ⟨?_, ?_, ?_, ?_⟩ <;> omega)
  | exact trivial
  | decide +kernel
  | exact Nat.le_of_ble_eq_true rfl
  | rfl)
local macro_rules | `(tactic| walk_at "dl ev") => `(tactic| first
  | assumption
  | with_reducible exact DL.ev_ci
  | with_reducible exact DL.ev_cs
  | with_reducible exact DL.ev_cb
  | with_reducible exact DL.ev_cn
  | with_reducible exact DL.ev_cf
  | with_reducible exact DL.ev_ct
  | ((with_reducible apply DL.ev_var); rfl)
  | ((with_reducible apply DL.em_var); rfl)
  | with_reducible exact DL.ea_nil
  | ((with_reducible apply DL.ea_cons) <;> walk_at "dl ev")
  | ((with_reducible apply DL.ev_addI) <;> walk_at "dl ev")
  | ((with_reducible apply DL.ev_I) <;> walk_at "dl ev")
  | ((with_reducible apply DL.ev_Ib) <;> walk_at "dl ev")
  | ((with_reducible apply DL.ev_mulI) <;> walk_at "dl ev")
  | ((with_reducible apply DL.ev_IC) <;> walk_at "dl ev")
  | ((with_reducible apply DL.ev_U) <;> walk_at "dl ev")
  | ((with_reducible apply DL.ev_eqI) <;> walk_at "dl ev")
  | ((with_reducible apply DL.ev_neI) <;> walk_at "dl ev")
  | ((with_reducible apply DL.ev_eqL) <;> walk_at "dl ev")
  | ((with_reducible apply DL.ev_neL) <;> walk_at "dl ev")
  | ((with_reducible apply DL.ev_eqS) <;> walk_at "dl ev")
  | ((with_reducible apply DL.ev_neS) <;> walk_at "dl ev")
  | ((with_reducible apply DL.ev_eqB) <;> walk_at "dl ev")
  | ((with_reducible apply DL.ev_neB) <;> walk_at "dl ev")
  | ((with_reducible apply DL.et_t) <;> walk_at "dl ev")
  | ((with_reducible apply DL.et_B) <;> walk_at "dl ev")
  | ((with_reducible apply DL.et_not) <;> walk_at "dl ev")
  | ((with_reducible apply DL.ev_not) <;> walk_at "dl ev")
  | ((with_reducible apply DL.et_and') <;> walk_at "dl ev")
  | ((with_reducible apply DL.et_or') <;> walk_at "dl ev")
  | ((with_reducible apply DL.ev_and') <;> walk_at "dl ev")
  | ((with_reducible apply DL.ev_or') <;> walk_at "dl ev")
  | with_reducible exact DL.et_yes
  | ((with_reducible apply DL.ev_chain) <;> walk_at "dl ev")
  | ((with_reducible apply DL.ev_lenMT) <;> walk_at "dl ev")
  | ((with_reducible apply DL.ev_lenM) <;> walk_at "dl ev")
  | ((with_reducible apply DL.ev_lenS1) <;> walk_at "dl ev")
  | ((with_reducible apply DL.ev_lenTA) <;> walk_at "dl ev")
  | ((with_reducible apply DL.ev_lenLA) <;> walk_at "dl ev")
  | ((with_reducible apply DL.ev_tup) <;> walk_at "dl ev")
  | ((with_reducible apply DL.ef_lst) <;> walk_at "dl ev")
  | ((with_reducible apply DL.ef_listR2) <;> walk_at "dl ev")
  | ((with_reducible apply DL.ef_listR1) <;> walk_at "dl ev")
  | ((with_reducible apply DL.ev_ixt) <;> walk_at "dl ev")
  | ((with_reducible apply DL.ev_ixl) <;> walk_at "dl ev")
  | ((with_reducible apply DL.ef_slL) <;> walk_at "dl ev")
  | ((with_reducible apply DL.ef_addL) <;> walk_at "dl ev")
  | ((with_reducible apply DL.ef_mulL) <;> walk_at "dl ev")
  | ((with_reducible apply DL.ef_listT) <;> walk_at "dl ev")
  | ((with_reducible apply DL.ef_listL) <;> walk_at "dl ev")
  | ((with_reducible apply DL.ev_tupleT) <;> walk_at "dl ev")
  | ((with_reducible apply DL.ev_tupleL) <;> walk_at "dl ev")
  | ((with_reducible apply DL.ev_intI) <;> walk_at "dl ev")
  | ((with_reducible apply DL.ev_intB) <;> walk_at "dl ev")
  | ((with_reducible apply DL.ev_divmod) <;> walk_at "dl ev")
  | ((with_reducible apply DL.ev_slT) <;> walk_at "dl ev")
  | ((with_reducible apply DL.ev_addT) <;> walk_at "dl ev")
  | ((with_reducible apply DL.ef_rev) <;> walk_at "dl ev")
  | ((with_reducible apply DL.ev_inI) <;> walk_at "dl ev")
  | ((with_reducible apply DL.ev_notInI) <;> walk_at "dl ev")
  | ((with_reducible apply DL.ev_abs) <;> walk_at "dl ev")
  | ((with_reducible apply DL.ev_max2) <;> walk_at "dl ev")
  | ((with_reducible apply DL.ev_min2) <;> walk_at "dl ev")
  | ((with_reducible apply DL.isi_int_int) <;> walk_at "dl ev")
  | ((with_reducible apply DL.isi_int_bool) <;> walk_at "dl ev")
  | ((with_reducible apply DL.isi_bool_bool) <;> walk_at "dl ev")
  | ((with_reducible apply DL.isi_bool_int) <;> walk_at "dl ev")
  | ((with_reducible apply DL.isi_lst_list) <;> walk_at "dl ev")
  | ((with_reducible apply DL.isi_tup_tuple) <;> walk_at "dl ev")
  | ((with_reducible apply DL.isi_lst_tuple) <;> walk_at "dl ev")
  | ((with_reducible apply DL.isi_str_str) <;> walk_at "dl ev")
  | with_reducible exact DL.eo_none
  | ((with_reducible apply DL.eo_some) <;> walk_at "dl ev")
  | ((with_reducible apply DL.ei_r1) <;> walk_at "dl ev")
  | ((with_reducible apply DL.ei_r2) <;> walk_at "dl ev")
  | ((with_reducible apply DL.ei_seqT) <;> walk_at "dl ev")
  | ((with_reducible apply DL.ei_seqL) <;> walk_at "dl ev")
  | ((with_reducible apply DL.ei_seqS) <;> walk_at "dl ev")
  | ((with_reducible apply DL.ei_enumL) <;> walk_at "dl ev")
  | walk_at "dl own"
  | ((with_reducible apply DL.EvF.v) <;> walk_at "dl ev")
  | ((with_reducible apply DL.EvM.b) <;> walk_at "dl ev")
  | ((with_reducible apply DL.EvF.m) <;> walk_at "dl ev")
  | ((with_reducible apply DL.EvD.m) <;> walk_at "dl ev")
  | ((with_reducible apply DL.EvD.s) <;> walk_at "dl ev")
  | ((with_reducible apply DL.EvD.r) <;> walk_at "dl ev")
  | ((with_reducible apply DL.EvM.r) <;> walk_at "dl ev")
  | (fail_if_success (with_reducible show DL.EvD _ _ _ _)
     fail_if_success (with_reducible show DL.EvF _ _ _ _)
     fail_if_success (with_reducible show DL.EvB _ _ _ _)
     fail_if_success (with_reducible show DL.EvM _ _ _ _)
     fail_if_success (with_reducible show DL.EvR _ _ _ _)
     fail_if_success (with_reducible show DL.EvT _ _ _ _)
     fail_if_success (with_reducible show DL.EvA _ _ _ _)
     fail_if_success (with_reducible show DL.EvO _ _ _ _)
     fail_if_success (with_reducible show DL.EvI _ _ _ _)
     first | walk_at "dl side" | skip))
local macro_rules | `(tactic| walk_at "dl own") => `(tactic| fail)
local macro_rules | `(tactic| walk_at "dl go") => `(tactic| first
  | ((with_reducible refine DL.xs_seq ?_); walk_at "dl go")
  | ((with_reducible refine DL.xs_next ?_); (try dsimp only); walk_at "dl go")
  | ((with_reducible refine DL.xs_brk ?_); (try dsimp only); walk_at "dl go")
  | ((with_reducible refine DL.xs_cont ?_); (try dsimp only); walk_at "dl go")
  | ((with_reducible apply DL.xs_asg); (· walk_at "dl ev"); (· exact DL.eg_name); (try dsimp only); walk_at "dl go")
  | ((with_reducible apply DL.xs_asgF); (· walk_at "dl ev"); (try dsimp only); walk_at "dl go")
  | ((with_reducible apply DL.xs_aug); (· exact rfl); (· walk_at "dl ev"); (try dsimp only); walk_at "dl go")
  | ((with_reducible apply DL.xs_ret); (· walk_at "dl ev"); (try dsimp only))
  | ((with_reducible apply DL.xs_if); (· walk_at "dl ev"))
  | skip)

namespace Lw
open PySem L2 DL

def topS (i : Nat) : Stmt := PySem.Challenge.pw_oneroom_k36_rows_found.main.body.getD i (.Pass ⟨0, 0, 0, 0⟩)
abbrev s__law_cell_at : Stmt := (topS 8)
abbrev s__law_digits : Stmt := (topS 10)
abbrev s__law_draw : Stmt := (topS 9)
abbrev s__law_elder : Stmt := (topS 11)
abbrev s__law_newer : Stmt := (topS 12)
abbrev s_endings : Stmt := (topS 1)
abbrev s_first_not_below : Stmt := (topS 2)
abbrev s_alike : Stmt := (topS 3)
abbrev s_longest : Stmt := (topS 4)
abbrev s_found : Stmt := (topS 6)
abbrev s__law_alike : Stmt := (topS 13)
abbrev s__law_longest : Stmt := (topS 14)
abbrev s__law_put_is_right : Stmt := (topS 15)
abbrev s__law_right : Stmt := (topS 16)
abbrev s_law : Stmt := (topS 17)
abbrev s_endings_from_here : Stmt := ((defBody s_endings).getD 0 (.Pass ⟨0, 0, 0, 0⟩))
theorem sc__law_cell_at : FnScope ["_law_script", "_law_k"] ["_law_script", "_law_k"] (defScope s__law_cell_at) := ⟨rfl, rfl, rfl, by decide +kernel, rfl, by decide +kernel, by decide +kernel⟩
theorem sc__law_digits : FnScope ["_law_cell", "_law_base", "_law_many", "_law_signs", "_law_k"] ["_law_cell", "_law_base", "_law_many"] (defScope s__law_digits) := ⟨rfl, rfl, rfl, by decide +kernel, rfl, by decide +kernel, by decide +kernel⟩
theorem sc__law_draw : FnScope ["_law_cell", "_law_k", "_law_number"] ["_law_cell", "_law_k"] (defScope s__law_draw) := ⟨rfl, rfl, rfl, by decide +kernel, rfl, by decide +kernel, by decide +kernel⟩
theorem sc__law_elder : FnScope ["_law_script", "_law_first", "_law_text", "_law_k", "_law_draw_here"] ["_law_script"] (defScope s__law_elder) := ⟨rfl, rfl, rfl, by decide +kernel, rfl, by decide +kernel, by decide +kernel⟩
theorem sc__law_newer : FnScope ["_law_script", "_law_elder_here", "_law_cell", "_law_text", "_law_k", "_law_draw_here", "_law_at", "_law_many"] ["_law_script", "_law_elder_here"] (defScope s__law_newer) := ⟨rfl, rfl, rfl, by decide +kernel, rfl, by decide +kernel, by decide +kernel⟩
theorem ns_endings_from_here : NdefX.NScope ["at", "text"] ["at"] ["text"] (C8.fnScope s_endings_from_here) := NdefX.nscope_by (by decide +kernel)
theorem nb_endings_from_here : NdefX.ndefB (defScope s_endings) (C8.fnScope s_endings_from_here) ["text"] = true := by decide +kernel
abbrev q_endings_from_here : Str := (PyProof.Rows.envOfC "endings" (defScope s_endings) 0 0 .none).qual ++ "from_here"
abbrev mk_endings_from_here (cl : List (Str × Addr)) : Addr → NdefX.NF := NdefX.NF.of s_endings_from_here "from_here" q_endings_from_here cl
abbrev cl_endings_from_here (cl0 : List (Str × Addr)) : List (Str × Addr) := cloFrom cl0 (C8.fnScope s_endings_from_here).names []
theorem sc_endings : FnScope ["text", "from_here"] ["text"] (defScope s_endings) := ⟨rfl, rfl, rfl, by decide +kernel, rfl, by decide +kernel, by decide +kernel⟩
theorem sc_first_not_below : FnScope ["text", "table", "part", "low", "high", "middle"] ["text", "table", "part"] (defScope s_first_not_below) := ⟨rfl, rfl, rfl, by decide +kernel, rfl, by decide +kernel, by decide +kernel⟩
theorem sc_alike : FnScope ["text", "at", "part", "many"] ["text", "at", "part"] (defScope s_alike) := ⟨rfl, rfl, rfl, by decide +kernel, rfl, by decide +kernel, by decide +kernel⟩
theorem sc_longest : FnScope ["text", "table", "part", "at", "many", "place", "beginning", "found"] ["text", "table", "part"] (defScope s_longest) := ⟨rfl, rfl, rfl, by decide +kernel, rfl, by decide +kernel, by decide +kernel⟩
theorem sc_found : FnScope ["elder", "newer", "least", "table", "rows", "signs", "at", "start", "count"] ["elder", "newer", "least"] (defScope s_found) := ⟨rfl, rfl, rfl, by decide +kernel, rfl, by decide +kernel, by decide +kernel⟩
theorem sc__law_alike : FnScope ["_law_text", "_law_at", "_law_part", "_law_many"] ["_law_text", "_law_at", "_law_part"] (defScope s__law_alike) := ⟨rfl, rfl, rfl, by decide +kernel, rfl, by decide +kernel, by decide +kernel⟩
theorem sc__law_longest : FnScope ["_law_elder_here", "_law_part", "_law_best", "_law_at", "_law_many"] ["_law_elder_here", "_law_part"] (defScope s__law_longest) := ⟨rfl, rfl, rfl, by decide +kernel, rfl, by decide +kernel, by decide +kernel⟩
theorem sc__law_put_is_right : FnScope ["_law_row", "_law_elder_here", "_law_newer_here", "_law_least", "_law_to", "_law_k"] ["_law_row", "_law_elder_here", "_law_newer_here", "_law_least"] (defScope s__law_put_is_right) := ⟨rfl, rfl, rfl, by decide +kernel, rfl, by decide +kernel, by decide +kernel⟩
theorem sc__law_right : FnScope ["_law_rows", "_law_elder_here", "_law_newer_here", "_law_least", "_law_at", "_law_word", "_law_row", "_law_best"] ["_law_rows", "_law_elder_here", "_law_newer_here", "_law_least"] (defScope s__law_right) := ⟨rfl, rfl, rfl, by decide +kernel, rfl, by decide +kernel, by decide +kernel⟩
theorem sc_law : FnScope ["_law_script", "_law_elder_here", "_law_newer_here", "_law_handed", "_law_least", "_law_rows", "_law_kept"] ["_law_script"] (defScope s_law) := ⟨rfl, rfl, rfl, by decide +kernel, rfl, by decide +kernel, by decide +kernel⟩
variable [DL.TbC]
/-- what the top has written -/
structure Tx (K : PySem.W.Frag) (mg : Str → Option Value) where
  a__law_cell_at : Addr
  d__law_cell_at : FuncData
  F__law_cell_at : Fun K "_law_cell_at" "_law_cell_at" s__law_cell_at a__law_cell_at d__law_cell_at
  b__law_cell_at : Binds K d__law_cell_at ["_law_script", "_law_k"] []
  g__law_cell_at : mg "_law_cell_at" = some (.ref a__law_cell_at)
  a__law_digits : Addr
  d__law_digits : FuncData
  F__law_digits : Fun K "_law_digits" "_law_digits" s__law_digits a__law_digits d__law_digits
  b__law_digits : Binds K d__law_digits ["_law_cell", "_law_base", "_law_many"] []
  g__law_digits : mg "_law_digits" = some (.ref a__law_digits)
  a__law_draw : Addr
  d__law_draw : FuncData
  F__law_draw : Fun K "_law_draw" "_law_draw" s__law_draw a__law_draw d__law_draw
  b__law_draw : Binds K d__law_draw ["_law_cell", "_law_k"] []
  g__law_draw : mg "_law_draw" = some (.ref a__law_draw)
  a__law_elder : Addr
  d__law_elder : FuncData
  F__law_elder : Fun K "_law_elder" "_law_elder" s__law_elder a__law_elder d__law_elder
  b__law_elder : Binds K d__law_elder ["_law_script"] []
  g__law_elder : mg "_law_elder" = some (.ref a__law_elder)
  a__law_newer : Addr
  d__law_newer : FuncData
  F__law_newer : Fun K "_law_newer" "_law_newer" s__law_newer a__law_newer d__law_newer
  b__law_newer : Binds K d__law_newer ["_law_script", "_law_elder_here"] []
  g__law_newer : mg "_law_newer" = some (.ref a__law_newer)
  a_endings : Addr
  d_endings : FuncData
  cc_endings : Addr
  P_endings : Addr
  F_endings : FunC K "endings" "endings" s_endings a_endings d_endings cc_endings
  b_endings : Binds K d_endings ["text"] []
  g_endings : mg "endings" = some (.ref a_endings)
  tm_endings : (P_endings, fun _ _ => q_endings_from_here) ∈ DL.TbC.T
  tu_endings : ∀ p ∈ DL.TbC.T, p.1 = P_endings → p.2 = fun _ _ => q_endings_from_here
  a_first_not_below : Addr
  d_first_not_below : FuncData
  F_first_not_below : Fun K "first_not_below" "first_not_below" s_first_not_below a_first_not_below d_first_not_below
  b_first_not_below : Binds K d_first_not_below ["text", "table", "part"] []
  g_first_not_below : mg "first_not_below" = some (.ref a_first_not_below)
  a_alike : Addr
  d_alike : FuncData
  F_alike : Fun K "alike" "alike" s_alike a_alike d_alike
  b_alike : Binds K d_alike ["text", "at", "part"] []
  g_alike : mg "alike" = some (.ref a_alike)
  a_longest : Addr
  d_longest : FuncData
  F_longest : Fun K "longest" "longest" s_longest a_longest d_longest
  b_longest : Binds K d_longest ["text", "table", "part"] []
  g_longest : mg "longest" = some (.ref a_longest)
  a_found : Addr
  d_found : FuncData
  F_found : FunE K "found" "found" s_found [.int 6] a_found d_found
  b_found : Binds K d_found ["elder", "newer", "least"] []
  ds_found2 : List Value
  v_found2 : Vals [.int 6] ds_found2
  b_found2 : Binds K d_found ["elder", "newer", "least"] ds_found2
  g_found : mg "found" = some (.ref a_found)
  a__law_alike : Addr
  d__law_alike : FuncData
  F__law_alike : Fun K "_law_alike" "_law_alike" s__law_alike a__law_alike d__law_alike
  b__law_alike : Binds K d__law_alike ["_law_text", "_law_at", "_law_part"] []
  g__law_alike : mg "_law_alike" = some (.ref a__law_alike)
  a__law_longest : Addr
  d__law_longest : FuncData
  F__law_longest : Fun K "_law_longest" "_law_longest" s__law_longest a__law_longest d__law_longest
  b__law_longest : Binds K d__law_longest ["_law_elder_here", "_law_part"] []
  g__law_longest : mg "_law_longest" = some (.ref a__law_longest)
  a__law_put_is_right : Addr
  d__law_put_is_right : FuncData
  F__law_put_is_right : Fun K "_law_put_is_right" "_law_put_is_right" s__law_put_is_right a__law_put_is_right d__law_put_is_right
  b__law_put_is_right : Binds K d__law_put_is_right ["_law_row", "_law_elder_here", "_law_newer_here", "_law_least"] []
  g__law_put_is_right : mg "_law_put_is_right" = some (.ref a__law_put_is_right)
  a__law_right : Addr
  d__law_right : FuncData
  F__law_right : Fun K "_law_right" "_law_right" s__law_right a__law_right d__law_right
  b__law_right : Binds K d__law_right ["_law_rows", "_law_elder_here", "_law_newer_here", "_law_least"] []
  g__law_right : mg "_law_right" = some (.ref a__law_right)
  a_law : Addr
  d_law : FuncData
  F_law : Fun K "law" "law" s_law a_law d_law
  b_law : Binds K d_law ["_law_script"] []
  g_law : mg "law" = some (.ref a_law)
  z_isinstance : mg "isinstance" = none
  z_len : mg "len" = none
  z_list : mg "list" = none
  z_max : mg "max" = none
  z_min : mg "min" = none
  z_range : mg "range" = none
  z_sorted : mg "sorted" = none
  z_tuple : mg "tuple" = none
/-! ### what many laws draw with -/
def mixed (c k : Int) : Int := (((c % 2147483647 + 7919 * k + 1) * 48271 % 2147483647) * (((c % 2147483647 + 7919 * k + 1) * 48271 % 2147483647) / 1009 + 69621)) % 2147483647
theorem mixed_b (c k : Int) : 0 ≤ mixed c k ∧ mixed c k < 2147483647 := by unfold mixed; omega
def cellAt (ns : List Int) (k : Int) : Int := if k < (ns.length : Int) then ns.getD k.toNat 0 else 0
section
variable {K : PySem.W.Frag} {mg : Str → Option Value} (T : Tx K mg)
abbrev sp__law_mixed {K : PySem.W.Frag} {mg : Str → Option Value} (T : Tx K mg) : Sp := spG K (fun x : Int × Int => 0 ≤ x.2 ∧ x.2 ≤ 1000000) (fun x => [.int x.1, .int x.2]) (fun x => .int (mixed x.1 x.2))
abbrev sp__law_cell_at {K : PySem.W.Frag} {mg : Str → Option Value} (T : Tx K mg) : Sp := spG K (fun x : List Int × Int => 0 ≤ x.2) (fun x => [.scr (x.1.map .int), .int x.2]) (fun x => .int (cellAt x.1 x.2))
abbrev spEnd (K : PySem.W.Frag) : Sp := spR K (fun ns : List Int => ns.length ≤ 63) (fun ns => [.scr (ns.map .int)]) (fun _ d => d = .bl true)
abbrev sp_law {K : PySem.W.Frag} {mg : Str → Option Value} (T : Tx K mg) : Sp := spEnd K
end
theorem law_sp {K : PySem.W.Frag} {mg : Str → Option Value} (T : Tx K mg) {vs : List V} {H : Hp} {Q : VK} {E : XK} (h : spEnd K vs H Q E) : sp_law T vs H Q E := h
section
variable {K : PySem.W.Frag} {mg : Str → Option Value} {T : Tx K mg} {ρ : DL.Env} {ta tb : TE} {c k : Int} {ns : List Int} {E : XK}
theorem ev_cell_at (ha : EvD K ta ρ (.scr (ns.map .int))) (hb : EvD K tb ρ (.int k)) (h : 0 ≤ k) : EvD K (tCall (sp__law_cell_at T) [] E (tCons ta (tCons tb tNil))) ρ (.int (cellAt ns k)) := ev_call (ns, k) (ea_cons ha (ea_cons hb ea_nil)) h
end
local macro_rules | `(tactic| walk_at "dl own") => `(tactic| first
  | ((with_reducible apply Lw.ev_cell_at) <;> walk_at "dl ev")
  | fail)
section
variable {P : Program} {w : World} {K : PySem.W.Frag} {mg : Str → Option Value} {base : Heap}
theorem ok__law_cell_at (T : Tx K mg) : FnOk P w K mg base CX0 1 T.a__law_cell_at T.d__law_cell_at ["_law_script", "_law_k"] (sp__law_cell_at T) := by
  refine fn_r T.F__law_cell_at sc__law_cell_at (fun _ => rfl) (fun cdv A outer s H E hr =>
      (pss_cons (ps_if (pt_cmpR op_lt (pv 1) (pe_callB (lenK (K := K) rfl) (by rfl) T.z_len (by decide +kernel) (pa_cons (pv 0) pa_nil)) (nomark _)) (pss_one (ps_ret (pe_ix (ixK (K := K) rfl) (pv 0) (pv 1) (fun _ _ => rfl)))) pss_nil)
      (pss_one (ps_ret pe_int)))) (fun x hx => ?_)
  obtain ⟨ns, k⟩ := x
  dsimp only at hx ⊢
  walk_at "dl go"
  · intro h
    have h' := of_decide_eq_true h
    walk_at "dl go"
    unfold cellAt
    rw [if_pos h']
  · intro h
    have h' := of_decide_eq_false h
    walk_at "dl go"
    unfold cellAt
    rw [if_neg h']
end
theorem law_in {K : PySem.W.Frag} (H : Hp) (a : Addr) (ns : List Int) (hl : ns.length ≤ 63) (hS : SqL K H a (ns.map V.int)) (htb : TB H) : spEnd K [.ref a] H (fun v _ => v = .bl true) fun _ _ _ => False :=
  ⟨noT H, ns, ⟨noT_ex H, noT_nt H, htb⟩, .cons (.scr ((noT_n H).sl hS) (RepL.ofInts ns)) .nil, hl, fun _ _ v d _ r e => by
    subst e
    cases r
    rfl⟩

/-! ### endings in order -/
def endv (t : List Int) : List Nat := srtBy t.length fun i => t.drop i
theorem endv_ok (t : List Int) : (endv t).Perm (List.range t.length) ∧ (endv t).Pairwise (fun i j => t.drop i ≤ t.drop j) ∧ (endv t).length = t.length := by
  have hp : (endv t).Perm (List.range t.length) := List.mergeSort_perm _ _
  refine ⟨hp, ?_, by rw [hp.length_eq, List.length_range]⟩
  have h := List.pairwise_mergeSort (le := fun i j => decide (t.drop i ≤ t.drop j)) (fun a b c h1 h2 => decide_eq_true (List.le_trans (of_decide_eq_true h1) (of_decide_eq_true h2))) (fun a b => by
    rcases List.le_total (t.drop a) (t.drop b) with h | h
    · simp [h]
    · simp [h]) (List.range t.length)
  exact h.imp fun q => of_decide_eq_true q
section
variable {K : PySem.W.Frag} {mg : Str → Option Value}
abbrev sp_endings_from_here (_ : Tx K mg) : List (Option V) → Sp := spN_ (spCl K (fun x : List Int × Nat => x.2 < x.1.length) (fun x => [.int (x.2 : Int)]) (fun x => [.lst (x.1.map .int)]) (fun x => .lst ((x.1.drop x.2).map .int)))
end
abbrev tabD (tab : List Nat) : D := .lst ((tab.map fun (k : Nat) => (k : Int)).map .int)
abbrev sp_endings {K : PySem.W.Frag} {mg : Str → Option Value} (T : Tx K mg) : Sp := spF K (fun t : List Int => t.length ≤ 100) (fun t => [.lst (t.map .int)]) (fun t => ((endv t).map fun (k : Nat) => (k : Int)).map D.int)
section
variable {P : Program} {w : World} {K : PySem.W.Frag} {mg : Str → Option Value} {base : Heap}
theorem ok_endings_from_here (T : Tx K mg) (f : Addr) (cl : List (Str × Addr)) (c : Addr) : NdefX.NOk P w K mg base CX0 1 f (mk_endings_from_here cl c) ["at"] ["text"] (sp_endings_from_here T) := by
  refine nok_r ns_endings_from_here (fun _ _ _ us hl => match us, hl with | [_], _ => rfl) (fun _ => rfl) (fun _ => rfl) (fun A outer s H E hr =>
      (pss_one (ps_ret (pe_slice (slK (K := K) rfl) (pv 1) (po_some (pv 0)) po_none)))) (fun x hx => ?_)
  obtain ⟨t, a⟩ := x
  have hx : a < t.length := hx
  exact xs_ret (EvF.v (EvF.is (ef_slL (ds := t.map D.int) (EvM.b (EvD.m (ev_var rfl))) (eo_some (ev_var rfl)) eo_none) (by rw [cutD_map, cut_from]))) rfl
theorem ok_endings (T : Tx K mg) (hTB_endings : LamX.TabB base mg T.cc_endings T.P_endings) : FnOk P w K mg base CX0 4 T.a_endings T.d_endings ["text"] (sp_endings T) := by
  refine fn_fC T.F_endings sc_endings (fun _ => rfl) (fun A outer s H E cl0 hcl hr =>
      (pss_cons (ps_ndefC (st := s_endings_from_here) (fr := ["text"]) (i := 1) rfl hTB_endings rfl T.tm_endings rfl rfl T.tu_endings nb_endings_from_here rfl rfl rfl sc_endings.nd rfl (by first | exact Or.inl rfl | exact Or.inr rfl) rfl hcl)
      (pss_one (ps_ret (pe_sortKey (mk := mk_endings_from_here _) (i := 1) (js := [0]) (fun f c => ok_endings_from_here T f _ c) (fun _ => rfl) (capsC (st := s_endings_from_here) (fr := ["text"]) nb_endings_from_here rfl hcl) (hr.mono (by decide)) rfl (by rfl) T.z_sorted rfl (by first | exact Or.inl rfl | exact Or.inr (Or.inl rfl) | exact Or.inr (Or.inr rfl)) (prg_1 (by rfl) T.z_range (pe_callB (lenK (K := K) rfl) (by rfl) T.z_len (by decide +kernel) (pa_cons (pv 0) pa_nil)))))))) (fun cl0 x hx => ?_)
  have hx : x.length ≤ 100 := hx
  refine xs_seq (xs_ndef (fun _ => rfl) fun ca => ?_)
  dsimp only
  exact xs_retF (ef_sortKey (n := x.length) (cs := [.lst (x.map .int)]) (key := fun i => x.drop i) (fun k => (x, k)) rfl rfl (fun k hk => ⟨rfl, rfl, hk, rfl⟩) (ev_lenM (f := D.int) (xs := x) (EvM.b (EvD.m (ev_var rfl)))) (by omega)) (by rw [List.map_map]; rfl)
end
/-! ### how many first signs are the same -/
def lcp : List Int → List Int → Nat
  | a :: s, b :: t => if a = b then lcp s t + 1 else 0
  | _, _ => 0
theorem lcp_nil (s : List Int) : lcp s [] = 0 := by cases s <;> rfl
theorem lcp_cons (a : Int) (s : List Int) (b : Int) (t : List Int) : lcp (a :: s) (b :: t) = if a = b then lcp s t + 1 else 0 := rfl
theorem lcp_le_r : ∀ s p : List Int, lcp s p ≤ p.length
  | [], p => Nat.zero_le _
  | a :: s, [] => Nat.le_refl _
  | a :: s, b :: p => by
    rw [lcp_cons]
    split
    · have := lcp_le_r s p
      rw [List.length_cons]
      omega
    · exact Nat.zero_le _
theorem lcp_le_l : ∀ s p : List Int, lcp s p ≤ s.length
  | [], p => Nat.zero_le _
  | a :: s, [] => Nat.zero_le _
  | a :: s, b :: p => by
    rw [lcp_cons]
    split
    · have := lcp_le_l s p
      rw [List.length_cons]
      omega
    · exact Nat.zero_le _
/-- the first m signs are the same, just where lcp is m at least -/
theorem lcp_take : ∀ (m : Nat) (s p : List Int), m ≤ p.length → (m ≤ lcp s p ↔ s.take m = p.take m)
  | 0, s, p, _ => by simp
  | m + 1, [], [], h => by simp at h
  | m + 1, [], b :: p, h => by
    constructor
    · intro q
      exact absurd q (by show ¬ m + 1 ≤ 0; omega)
    · intro q
      simp at q
  | m + 1, a :: s, [], h => by simp at h
  | m + 1, a :: s, b :: p, h => by
    rw [lcp_cons, List.take_succ_cons, List.take_succ_cons]
    have ih := lcp_take m s p (by simpa using h)
    by_cases e : a = b
    · rw [if_pos e, e]
      constructor
      · intro q
        rw [ih.mp (by omega)]
      · intro q
        have := ih.mpr (List.cons.inj q).2
        omega
    · rw [if_neg e]
      constructor
      · intro q
        omega
      · intro q
        exact absurd (List.cons.inj q).1 e
/-- one sign more -/
theorem lcp_step {t p : List Int} {at_ m : Nat} (h1 : m < p.length) (h2 : at_ + m < t.length) : lcp (t.drop (at_ + m)) (p.drop m) = if t.getD (at_ + m) 0 = p.getD m 0 then lcp (t.drop (at_ + (m + 1))) (p.drop (m + 1)) + 1 else 0 := by
  have d1 : t.drop (at_ + m) = t.getD (at_ + m) 0 :: t.drop (at_ + m + 1) := by
    rw [List.drop_eq_getElem_cons h2, List.getD_eq_getElem?_getD, List.getElem?_eq_getElem h2]; rfl
  have d2 : p.drop m = p.getD m 0 :: p.drop (m + 1) := by
    rw [List.drop_eq_getElem_cons h1, List.getD_eq_getElem?_getD, List.getElem?_eq_getElem h1]; rfl
  rw [d1, d2, lcp_cons]
  rfl
/-! order -/
theorem le_nil_iff {s : List Int} : s ≤ [] ↔ s = [] := by
  cases s with
  | nil => simp
  | cons a s => simp
theorem lcp_below : ∀ {s s' p : List Int}, s ≤ s' → s' ≤ p → lcp s p ≤ lcp s' p
  | [], _, _, _, _ => Nat.zero_le _
  | _ :: _, [], _, h, _ => by rw [le_nil_iff] at h; cases h
  | a :: s, a' :: s', [], _, h => by rw [le_nil_iff] at h; cases h
  | a :: s, a' :: s', b :: p, h1, h2 => by
    rw [List.cons_le_cons_iff] at h1 h2
    rw [lcp_cons, lcp_cons]
    by_cases e : a = b
    · subst e
      have e' : a' = a := by
        rcases h1 with h1 | h1 <;> rcases h2 with h2 | h2 <;> omega
      subst e'
      have l1 : s ≤ s' := by
        rcases h1 with h1 | h1
        · omega
        · exact h1.2
      have l2 : s' ≤ p := by
        rcases h2 with h2 | h2
        · omega
        · exact h2.2
      rw [if_pos rfl, if_pos rfl]
      exact Nat.succ_le_succ (lcp_below l1 l2)
    · rw [if_neg e]
      exact Nat.zero_le _
theorem lcp_above : ∀ {s s' p : List Int}, p ≤ s → s ≤ s' → lcp s' p ≤ lcp s p
  | s, s', [], _, _ => by rw [lcp_nil, lcp_nil]; exact Nat.le_refl _
  | [], _, _ :: _, h, _ => by rw [le_nil_iff] at h; cases h
  | _ :: _, [], _ :: _, _, h => by rw [le_nil_iff] at h; cases h
  | a :: s, a' :: s', b :: p, h1, h2 => by
    rw [List.cons_le_cons_iff] at h1 h2
    rw [lcp_cons, lcp_cons]
    by_cases e : a' = b
    · subst e
      have e' : a = a' := by
        rcases h1 with h1 | h1 <;> rcases h2 with h2 | h2 <;> omega
      subst e'
      have l1 : p ≤ s := by
        rcases h1 with h1 | h1
        · omega
        · exact h1.2
      have l2 : s ≤ s' := by
        rcases h2 with h2 | h2
        · omega
        · exact h2.2
      rw [if_pos rfl, if_pos rfl]
      exact Nat.succ_le_succ (lcp_above l1 l2)
    · rw [if_neg e]
      exact Nat.zero_le _
theorem take_mono : ∀ (n : Nat) {s s' : List Int}, s ≤ s' → s.take n ≤ s'.take n
  | 0, _, _, _ => by simp
  | n + 1, [], s', _ => by simp
  | n + 1, a :: s, [], h => by rw [le_nil_iff] at h; cases h
  | n + 1, a :: s, a' :: s', h => by
    rw [List.take_succ_cons, List.take_succ_cons, List.cons_le_cons_iff]
    rw [List.cons_le_cons_iff] at h
    rcases h with h | h
    · exact .inl h
    · exact .inr ⟨h.1, take_mono n h.2⟩
theorem take_le : ∀ (n : Nat) (s : List Int), s.take n ≤ s
  | 0, s => by simp
  | n + 1, [] => by simp
  | n + 1, a :: s => by
    rw [List.take_succ_cons, List.cons_le_cons_iff]
    exact .inr ⟨rfl, take_le n s⟩
/-- what is cut to the other's length and less, is less -/
theorem lt_of_take : ∀ {s p : List Int}, s.take p.length < p → s ≤ p
  | [], p, _ => by simp
  | a :: s, [], h => by simp at h
  | a :: s, b :: p, h => by
    rw [List.length_cons, List.take_succ_cons, List.cons_lt_cons_iff] at h
    rw [List.cons_le_cons_iff]
    rcases h with h | h
    · exact .inl h
    · exact .inr ⟨h.1, lt_of_take h.2⟩
/-! ### the longest beginning -/
def dueF (t p : List Int) : Nat → Nat × Nat
  | 0 => (0, 0)
  | k + 1 => if (dueF t p k).2 < lcp (t.drop k) p then (k, lcp (t.drop k) p) else dueF t p k
def due (t p : List Int) : Nat × Nat := dueF t p t.length
theorem dueF_ge (t p : List Int) : ∀ (n i : Nat), i < n → lcp (t.drop i) p ≤ (dueF t p n).2
  | n + 1, i, h => by
    unfold dueF
    by_cases e : i = n
    · subst e
      split
      · exact Nat.le_refl _
      · omega
    · have := dueF_ge t p n i (by omega)
      split
      · show _ ≤ lcp (t.drop n) p
        omega
      · exact this
theorem dueF_at (t p : List Int) : ∀ n : Nat, ((dueF t p n).2 = 0 ∧ (dueF t p n).1 = 0) ∨ ((dueF t p n).1 < n ∧ 0 < (dueF t p n).2 ∧ lcp (t.drop (dueF t p n).1) p = (dueF t p n).2 ∧ ∀ i, i < (dueF t p n).1 → lcp (t.drop i) p < (dueF t p n).2)
  | 0 => .inl ⟨rfl, rfl⟩
  | n + 1 => by
    unfold dueF
    split
    · rename_i h
      refine .inr ⟨Nat.lt_succ_self _, by show 0 < lcp (t.drop n) p; omega, rfl, fun i hi => ?_⟩
      have := dueF_ge t p n i hi
      show lcp (t.drop i) p < lcp (t.drop n) p
      omega
    · rcases dueF_at t p n with h | ⟨h1, h2, h3, h4⟩
      · exact .inl h
      · exact .inr ⟨by omega, h2, h3, h4⟩
theorem due_ge {t p : List Int} {i : Nat} (h : i < t.length) : lcp (t.drop i) p ≤ (due t p).2 := dueF_ge t p _ i h
theorem due_nil (t : List Int) : due t [] = (0, 0) := by
  unfold due
  induction t.length with
  | zero => rfl
  | succ n ih =>
    unfold dueF
    rw [ih, lcp_nil, if_neg (by decide)]
/-- the ending from i on, cut to p's length, is less than p -/
def bel (t p : List Int) (i : Nat) : Bool := decide ((t.drop i).take p.length < p)
def notBel (t p : List Int) (tab : List Nat) : Nat := tab.findIdx fun i => !bel t p i
theorem bel_mono {t p : List Int} {i j : Nat} (h : t.drop i ≤ t.drop j) (q : bel t p j = true) : bel t p i = true := by
  unfold bel at q ⊢
  rw [decide_eq_true_eq] at q ⊢
  exact List.lt_of_le_of_lt (take_mono _ h) q
theorem findIdx_eq {f : Nat → Bool} {tab : List Nat} {a : Nat} (h0 : a ≤ tab.length) (h1 : ∀ k i, k < a → tab[k]? = some i → f i = false) (h2 : ∀ i, tab[a]? = some i → f i = true) : tab.findIdx f = a := by
  rcases Nat.lt_or_ge a tab.length with h | h
  · rw [List.findIdx_eq h]
    exact ⟨h2 _ (List.getElem?_eq_getElem h), fun j hj => h1 j _ hj (List.getElem?_eq_getElem _)⟩
  · have e : a = tab.length := by omega
    rw [e]
    refine List.findIdx_eq_length.mpr fun x hx => ?_
    obtain ⟨k, hk⟩ := List.mem_iff_getElem?.mp hx
    exact h1 k x (by have := (List.getElem?_eq_some_iff.mp hk).1; omega) hk
structure NB (t p : List Int) (tab : List Nat) (a : Nat) : Prop where
  le : a ≤ tab.length
  lo : ∀ k i, k < a → tab[k]? = some i → bel t p i = true
  hi : ∀ k i, a ≤ k → tab[k]? = some i → bel t p i = false
theorem endv_get {t : List Int} {k i : Nat} (h : (endv t)[k]? = some i) : i < t.length := List.mem_range.mp ((endv_ok t).1.mem_iff.mp (List.mem_of_getElem? h))
theorem endv_le {t : List Int} {k l i j : Nat} (hkl : k ≤ l) (h1 : (endv t)[k]? = some i) (h2 : (endv t)[l]? = some j) : t.drop i ≤ t.drop j := by
  rcases Nat.lt_or_ge k l with h | h
  · obtain ⟨a1, a2⟩ := List.getElem?_eq_some_iff.mp h1
    obtain ⟨b1, b2⟩ := List.getElem?_eq_some_iff.mp h2
    have := List.pairwise_iff_getElem.mp (endv_ok t).2.1 k l a1 b1 h
    rw [a2, b2] at this
    exact this
  · have e : k = l := by omega
    subst e
    rw [h1] at h2
    cases h2
    exact List.le_refl _
theorem nb_of (t p : List Int) : NB t p (endv t) (notBel t p (endv t)) := by
  have hle : notBel t p (endv t) ≤ (endv t).length := List.findIdx_le_length
  refine ⟨hle, fun k i hk h => ?_, fun k i hk h => ?_⟩
  · have := List.not_of_lt_findIdx (p := fun i => !bel t p i) hk
    rw [(List.getElem?_eq_some_iff.mp h).2] at this
    simpa using this
  · rcases hb : bel t p i with _ | _
    · rfl
    · have hl : notBel t p (endv t) < (endv t).length := Nat.lt_of_le_of_lt hk (List.getElem?_eq_some_iff.mp h).1
      have := List.findIdx_getElem (w := hl)
      have h2 := bel_mono (endv_le hk (List.getElem?_eq_getElem hl) h) hb
      unfold notBel at h2
      rw [h2] at this
      cases this
theorem foldmax : ∀ (l : List Nat) (z : Nat), z ≤ l.foldl max z ∧ (∀ x ∈ l, x ≤ l.foldl max z) ∧ (l.foldl max z = z ∨ l.foldl max z ∈ l)
  | [], z => ⟨Nat.le_refl _, (fun x h => nomatch h), .inl rfl⟩
  | a :: l, z => by
    obtain ⟨h1, h2, h3⟩ := foldmax l (max z a)
    rw [List.foldl_cons]
    refine ⟨by omega, fun x hx => ?_, ?_⟩
    · rcases List.mem_cons.mp hx with e | hx
      · omega
      · exact h2 x hx
    · rcases h3 with h3 | h3
      · rw [h3]
        rcases Nat.le_total z a with q | q
        · rw [Nat.max_eq_right q]
          exact .inr (List.mem_cons_self ..)
        · rw [Nat.max_eq_left q]
          exact .inl rfl
      · exact .inr (List.mem_cons_of_mem _ h3)
/-- the two endings beside the place where p would stand -/
def near (t p : List Int) : List Nat := ((endv t).take (notBel t p (endv t) + 1)).drop (notBel t p (endv t) - 1)
theorem near_max (t p : List Int) : ((near t p).map fun i => lcp (t.drop i) p).foldl max 0 = (due t p).2 := by
  have N := nb_of t p
  obtain ⟨h1, h2, h3⟩ := foldmax ((near t p).map fun i => lcp (t.drop i) p) 0
  have sub : ∀ i ∈ near t p, i < t.length := fun i hi => by
    obtain ⟨k, hk⟩ := List.mem_iff_getElem?.mp (List.mem_of_mem_take (List.mem_of_mem_drop hi))
    exact endv_get hk
  have mem : ∀ k i, notBel t p (endv t) - 1 ≤ k → k ≤ notBel t p (endv t) → (endv t)[k]? = some i → i ∈ near t p := fun k i q1 q2 q3 => by
    unfold near
    refine List.mem_iff_getElem?.mpr ⟨k - (notBel t p (endv t) - 1), ?_⟩
    rw [List.getElem?_drop, List.getElem?_take_of_lt (by omega), show notBel t p (endv t) - 1 + (k - (notBel t p (endv t) - 1)) = k by omega]
    exact q3
  refine Nat.le_antisymm ?_ ?_
  · rcases h3 with h3 | h3
    · omega
    · obtain ⟨i, hi, e⟩ := List.mem_map.mp h3
      rw [← e]
      exact due_ge (sub i hi)
  · rcases dueF_at t p t.length with ⟨q, _⟩ | ⟨q1, q2, q3, _⟩
    · show (dueF t p t.length).2 ≤ _
      omega
    · show (dueF t p t.length).2 ≤ _
      rw [← q3]
      generalize (dueF t p t.length).1 = a at q1 q3
      obtain ⟨k, hk⟩ := List.mem_iff_getElem?.mp ((endv_ok t).1.mem_iff.mpr (List.mem_range.mpr q1))
      have kl := (List.getElem?_eq_some_iff.mp hk).1
      rcases Nat.lt_or_ge k (notBel t p (endv t)) with g | g
      · have hl : notBel t p (endv t) - 1 < (endv t).length := by have := N.le; omega
        have hj := List.getElem?_eq_getElem hl
        have hb := N.lo _ _ (by omega) hj
        have l1 := endv_le (show k ≤ notBel t p (endv t) - 1 by omega) hk hj
        have l2 : t.drop ((endv t)[notBel t p (endv t) - 1]'hl) ≤ p := lt_of_take (of_decide_eq_true hb)
        exact Nat.le_trans (lcp_below l1 l2) (h2 _ (List.mem_map.mpr ⟨_, mem _ _ (Nat.le_refl _) (by omega) hj, rfl⟩))
      · have hl : notBel t p (endv t) < (endv t).length := by omega
        have hj := List.getElem?_eq_getElem hl
        have hb := N.hi _ _ (Nat.le_refl _) hj
        have l1 := endv_le g hj hk
        have l2 : p ≤ t.drop ((endv t)[notBel t p (endv t)]'hl) := List.le_trans (List.not_lt.mp (of_decide_eq_false hb)) (take_le _ _)
        exact Nat.le_trans (lcp_above l2 l1) (h2 _ (List.mem_map.mpr ⟨_, mem _ _ (by omega) (Nat.le_refl _) hj, rfl⟩))
/-- where the beginning stands -/
theorem found_ok {t p : List Int} (hm : 0 < (due t p).2) {a j : Nat} (ha : a = notBel t (p.take (due t p).2) (endv t)) (hj : a ≤ j) (hjl : j ≤ (endv t).length)
    (hin : ∀ k i, a ≤ k → k < j → (endv t)[k]? = some i → (t.drop i).take (due t p).2 = p.take (due t p).2)
    (hout : ∀ i, (endv t)[j]? = some i → (t.drop i).take (due t p).2 ≠ p.take (due t p).2) :
    (due t p).1 ∈ ((endv t).take j).drop a ∧ ∀ y ∈ ((endv t).take j).drop a, (due t p).1 ≤ y := by
  rcases dueF_at t p t.length with ⟨q, _⟩ | ⟨q1, q2, q3, q4⟩
  · have : (due t p).2 = 0 := q
    omega
  have q1 : (due t p).1 < t.length := q1
  have q3 : lcp (t.drop (due t p).1) p = (due t p).2 := q3
  have q4 : ∀ i, i < (due t p).1 → lcp (t.drop i) p < (due t p).2 := q4
  have hmp : (due t p).2 ≤ p.length := by rw [← q3]; exact lcp_le_r _ _
  generalize (due t p).1 = f at q1 q3 q4 ⊢
  generalize (due t p).2 = m at *
  have N := nb_of t (p.take m)
  rw [← ha] at N
  have ql : (p.take m).length = m := by rw [List.length_take]; omega
  have hf : (t.drop f).take m = p.take m := (lcp_take m _ _ hmp).mp (by omega)
  refine ⟨?_, fun y hy => ?_⟩
  · obtain ⟨k, hk⟩ := List.mem_iff_getElem?.mp ((endv_ok t).1.mem_iff.mpr (List.mem_range.mpr q1))
    have kl := (List.getElem?_eq_some_iff.mp hk).1
    have k1 : a ≤ k := by
      rcases Nat.lt_or_ge k a with g | g
      · have := of_decide_eq_true (N.lo k _ g hk)
        rw [ql, hf] at this
        exact absurd this (List.lt_irrefl _)
      · exact g
    have k2 : k < j := by
      rcases Nat.lt_or_ge k j with g | g
      · exact g
      · exfalso
        have hl : j < (endv t).length := by omega
        have hj2 := List.getElem?_eq_getElem hl
        have l1 := take_mono m (endv_le g hj2 hk)
        rw [hf] at l1
        have l2 := List.not_lt.mp (of_decide_eq_false (N.hi _ _ hj hj2))
        rw [ql] at l2
        exact hout _ hj2 (List.le_antisymm l1 l2)
    refine List.mem_iff_getElem?.mpr ⟨k - a, ?_⟩
    rw [List.getElem?_drop, List.getElem?_take_of_lt (by omega), show a + (k - a) = k by omega]
    exact hk
  · obtain ⟨k, hk⟩ := List.mem_iff_getElem?.mp hy
    rw [List.getElem?_drop] at hk
    have kj : a + k < j := by
      have := (List.getElem?_eq_some_iff.mp hk).1
      rw [List.length_take] at this
      omega
    rw [List.getElem?_take_of_lt kj] at hk
    have e := hin _ _ (by omega) kj hk
    have := (lcp_take m (t.drop y) p hmp).mpr e
    rcases Nat.lt_or_ge y f with g | g
    · have := q4 y g
      omega
    · exact g

/-! ### numbers drawn by digits, or mixing -/
def draw (c k : Int) : Int :=
  if c % 2 = 1 then c / 2 % 2 ^ 40
  else
    let a := (c + 7919 * k + 1) * 48271 % 2147483647
    let b := a * (a / 1009 + 69621) % 2147483647
    b * (b / 2003 + 40692) % 2147483399
theorem draw_b (c k : Int) : 0 ≤ draw c k ∧ draw c k < 2 ^ 40 := by
  unfold draw
  split
  · omega
  · dsimp only
    omega
theorem span_succ (a : Int) (k : Nat) : span a ((k + 1 : Nat) : Int) = span a (k : Int) ++ [a + (k : Int)] := by
  unfold span
  rw [Int.toNat_natCast, Int.toNat_natCast, List.range_succ, List.map_append]
  rfl
theorem span_nat (a n : Int) : span a (n.toNat : Int) = span a n := by
  unfold span
  rw [Int.toNat_natCast]
abbrev sp__law_draw {K : PySem.W.Frag} {mg : Str → Option Value} (T : Tx K mg) : Sp := spG K (fun x : Int × Int => 0 ≤ x.2 ∧ x.2 ≤ 1000) (fun x => [.int x.1, .int x.2]) (fun x => .int (draw x.1 x.2))
section
variable {P : Program} {w : World} {K : PySem.W.Frag} {mg : Str → Option Value} {base : Heap}
theorem ok__law_draw (T : Tx K mg) : FnOk P w K mg base CX0 1 T.a__law_draw T.d__law_draw ["_law_cell", "_law_k"] (sp__law_draw T) := by
  refine fn_r T.F__law_draw sc__law_draw (fun _ => rfl) (fun cdv A outer s H E hr =>
      (pss_cons (ps_if (pt_cmpR (eqK (K := K) rfl hr.units) (pe_op op_mod (pv 0) pe_int) pe_int (nomark _)) (pss_one (ps_ret (pe_op op_mod (pe_op op_fdivW (pv 0) pe_int) (pe_op op_pow pe_int pe_int)))) pss_nil)
      (pss_cons (ps_set (i := 2) sc__law_draw.nd rfl (by first | exact Or.inl rfl | exact Or.inr rfl) (pe_op op_mod (pe_op op_mulA (pe_op (addK (K := K) rfl) (pe_op (addK (K := K) rfl) (pv 0) (pe_op op_mulA pe_int (pv 1))) pe_int) pe_int) pe_int))
      (pss_cons (ps_set (i := 2) sc__law_draw.nd rfl (by first | exact Or.inl rfl | exact Or.inr rfl) (pe_op op_mod (pe_op op_mulA (pv 2) (pe_op (addK (K := K) rfl) (pe_op op_fdivW (pv 2) pe_int) pe_int)) pe_int))
      (pss_one (ps_ret (pe_op op_mod (pe_op op_mulA (pv 2) (pe_op (addK (K := K) rfl) (pe_op op_fdivW (pv 2) pe_int) pe_int)) pe_int))))))) (fun x hx => ?_)
  obtain ⟨c, k⟩ := x
  obtain ⟨h1, h2⟩ := hx
  dsimp only at h1 h2 ⊢
  walk_at "dl go"
  · intro h
    walk_at "dl go"
    unfold draw
    rw [if_pos (of_decide_eq_true h)]
    rfl
  · intro h
    walk_at "dl go"
    unfold draw
    rw [if_neg (of_decide_eq_false h)]
theorem ev_draw {T : Tx K mg} {ρ : DL.Env} {ta tb : TE} {E : XK} {c k : Int} (ha : EvD K ta ρ (.int c)) (hb : EvD K tb ρ (.int k)) (h : 0 ≤ k ∧ k ≤ 1000) : EvD K (tCall (sp__law_draw T) [] E (tCons ta (tCons tb tNil))) ρ (.int (draw c k)) := ev_call (x := (c, k)) (ea_cons ha (ea_cons hb ea_nil)) h
end

/-! ### the longest that stands: the walk -/
abbrev sp_first_not_below {K : PySem.W.Frag} {mg : Str → Option Value} (T : Tx K mg) : Sp := spG K (fun x : List Int × List Nat × List Int => x.2.1.length ≤ 1000 ∧ (∀ i ∈ x.2.1, i ≤ 1000) ∧ x.2.2.length ≤ 1000 ∧ NB x.1 x.2.2 x.2.1 (notBel x.1 x.2.2 x.2.1)) (fun x => [.lst (x.1.map .int), tabD x.2.1, .lst (x.2.2.map .int)]) (fun x => .int (notBel x.1 x.2.2 x.2.1 : Int))
abbrev sp_alike {K : PySem.W.Frag} {mg : Str → Option Value} (T : Tx K mg) : Sp := spG K (fun x : List Int × Nat × List Int => True) (fun x => [.lst (x.1.map .int), .int (x.2.1 : Int), .lst (x.2.2.map .int)]) (fun x => .int (lcp (x.1.drop x.2.1) x.2.2 : Int))
def dueD (t p : List Int) : D := .tup [.int ((due t p).1 : Int), .int ((due t p).2 : Int)]
abbrev sp_longest {K : PySem.W.Frag} {mg : Str → Option Value} (T : Tx K mg) : Sp := spG K (fun x : List Int × List Int => x.1.length ≤ 100 ∧ x.2.length ≤ 1000) (fun x => [.lst (x.1.map .int), tabD (endv x.1), .lst (x.2.map .int)]) (fun x => dueD x.1 x.2)
theorem tab_len (tab : List Nat) : ((tab.map fun (k : Nat) => (k : Int)).map D.int).length = tab.length := by rw [List.length_map, List.length_map]
theorem tab_at {tab : List Nat} {k i : Nat} (h : tab[k]? = some i) : atI ((tab.map fun (k : Nat) => (k : Int)).map D.int) (k : Int) = some (.int (i : Int)) := by
  have hk := (List.getElem?_eq_some_iff.mp h).1
  rw [atI_lt (by omega) (by rw [tab_len]; omega), List.getElem?_map, List.getElem?_map, Int.toNat_natCast, h]
  rfl
theorem cut_i {xs : List Int} (i j : Nat) : cutD (xs.map D.int) (some (i : Int)) (some ((i : Int) + (j : Int))) = ((xs.drop i).take j).map D.int := by
  rw [cutD_map, ← Int.natCast_add, cut_mid, List.drop_take, Nat.add_sub_cancel_left]
section
variable {P : Program} {w : World} {K : PySem.W.Frag} {mg : Str → Option Value} {base : Heap}
theorem ok_first_not_below (T : Tx K mg) : FnOk P w K mg base CX0 1 T.a_first_not_below T.d_first_not_below ["text", "table", "part"] (sp_first_not_below T) := by
  refine fn_r T.F_first_not_below sc_first_not_below (fun _ => rfl) (fun cdv A outer s H E hr =>
      (pss_cons (ps_set (i := 3) sc_first_not_below.nd rfl (by first | exact Or.inl rfl | exact Or.inr rfl) pe_int)
      (pss_cons (ps_set (i := 4) sc_first_not_below.nd rfl (by first | exact Or.inl rfl | exact Or.inr rfl) (pe_callB (lenK (K := K) rfl) (by rfl) T.z_len (by decide +kernel) (pa_cons (pv 1) pa_nil)))
      (pss_cons (ps_while PassesOwn.never (pt_cmpR op_lt (pv 3) (pv 4) (nomark _)) (pss_cons (ps_set (i := 5) sc_first_not_below.nd rfl (by first | exact Or.inl rfl | exact Or.inr rfl) (pe_op op_fdivW (pe_op (addK (K := K) rfl) (pv 3) (pv 4)) pe_int))
      (pss_one (ps_if (pt_cmpR (ltLK (K := K) rfl hr.units) (pe_slice (slK (K := K) rfl) (pv 0) (po_some (pe_ix (ixK (K := K) rfl) (pv 1) (pv 5) (fun _ _ => rfl))) (po_some (pe_op (addK (K := K) rfl) (pe_ix (ixK (K := K) rfl) (pv 1) (pv 5) (fun _ _ => rfl)) (pe_callB (lenK (K := K) rfl) (by rfl) T.z_len (by decide +kernel) (pa_cons (pv 2) pa_nil))))) (pv 2) (nomark _)) (pss_one (ps_set (i := 3) sc_first_not_below.nd rfl (by first | exact Or.inl rfl | exact Or.inr rfl) (pe_op (addK (K := K) rfl) (pv 5) pe_int))) (pss_one (ps_set (i := 4) sc_first_not_below.nd rfl (by first | exact Or.inl rfl | exact Or.inr rfl) (pv 5)))))))
      (pss_one (ps_ret (pv 3))))))) (fun x hx => ?_)
  obtain ⟨t, tab, p⟩ := x
  obtain ⟨h1, h2, h3, N⟩ := hx
  dsimp only at h1 h2 h3 N ⊢
  refine xs_seq (xs_asg (d := .int ((0 : Nat) : Int)) ev_ci eg_name ?_)
  refine xs_seq (xs_asg (d := .int (tab.length : Int)) (EvD.is (ev_lenM (f := D.int) (xs := tab.map fun (k : Nat) => (k : Int)) (EvM.b (EvD.m (ev_var rfl)))) (by rw [List.length_map])) eg_name ?_)
  dsimp only
  refine xs_seq (xs_while (fun m ρ => ∃ (lo hi : Nat) (v5 : Option SV), m = hi - lo ∧ lo ≤ hi ∧ hi ≤ tab.length ∧ lo ≤ notBel t p tab ∧ notBel t p tab ≤ hi ∧ ρ = [some (.sh (.lst (t.map .int))), some (.sh (tabD tab)), some (.sh (.lst (p.map .int))), some (.sh (.int (lo : Int))), some (.sh (.int (hi : Int))), v5]) tab.length ⟨0, tab.length, _, by omega, by omega, by omega, by omega, N.le, rfl⟩ ?_)
  rintro m ρ ⟨lo, hi, v5, rfl, e1, e2, e3, e4, rfl⟩
  refine ⟨_, et_t (ev_Ib (ev_var rfl) (ev_var rfl)), fun hb => ?_, fun hb => ?_⟩
  · have hlt : (lo : Int) < hi := of_decide_eq_true hb
    have hm : (lo + hi) / 2 < tab.length ∧ lo ≤ (lo + hi) / 2 ∧ (lo + hi) / 2 < hi := by omega
    refine xs_seq (xs_asg (d := .int (((lo + hi) / 2 : Nat) : Int)) (EvD.is (ev_IC (i := (lo : Int) + hi) (j := 2) (ev_addI (ev_var rfl) (ev_var rfl)) ev_ci (divW_c (by omega) (by omega))) (by rw [Int.natCast_ediv, Int.natCast_add]; rfl)) eg_name ?_)
    dsimp only
    generalize (lo + hi) / 2 = mid at hm ⊢
    have hg := List.getElem?_eq_getElem hm.1
    generalize tab[mid]'hm.1 = i at hg
    have hx : ∀ {ρ : DL.Env}, ρ[0]? = some (some (.sh (.lst (t.map .int)))) → ρ[1]? = some (some (.sh (tabD tab))) → ρ[2]? = some (some (.sh (.lst (p.map .int)))) → ρ[5]? = some (some (.sh (.int (mid : Int)))) → EvD K (tOp (rLtL K) (tSl (rSlA' K) (tVar 0) (tPart (tOp (rIx K) (tVar 1) (tVar 5))) (tPart (tOp (rAddA K) (tOp (rIx K) (tVar 1) (tVar 5)) (tCB (rLenA K) (tCons (tVar 2) tNil))))) (tVar 2)) ρ (.bl (bel t p i)) := fun q0 q1 q2 q5 => by
      have hix := ev_ixl (K := K) (EvM.b (EvD.m (ev_var q1))) (ev_var q5) (tab_at hg)
      exact ev_ltL (EvF.b (EvF.is (ef_slL (EvM.b (EvD.m (ev_var q0))) (eo_some hix) (eo_some (ev_addI hix (ev_lenM (f := D.int) (xs := p) (EvM.b (EvD.m (ev_var q2))))))) (cut_i i p.length))) (EvM.b (EvD.m (ev_var q2)))
    cases hbl : bel t p i with
    | true =>
      refine xs_yes (et_t (hx rfl rfl rfl rfl)) hbl ?_
      refine xs_asg (d := .int ((mid + 1 : Nat) : Int)) (EvD.is (ev_addI (ev_var rfl) ev_ci) (by rw [Int.natCast_add]; rfl)) eg_name ?_
      have : mid < notBel t p tab := by
        rcases Nat.lt_or_ge mid (notBel t p tab) with g | g
        · exact g
        · have := N.hi mid i g hg
          rw [hbl] at this
          cases this
      exact ⟨hi - (mid + 1), by omega, mid + 1, hi, _, rfl, by omega, e2, by omega, e4, rfl⟩
    | false =>
      refine xs_no2 (et_t (hx rfl rfl rfl rfl)) hbl ?_
      refine xs_asg (ev_var rfl) eg_name ?_
      have : notBel t p tab ≤ mid := by
        rcases Nat.lt_or_ge mid (notBel t p tab) with g | g
        · have := N.lo mid i g hg
          rw [hbl] at this
          cases this
        · exact g
      exact ⟨mid - lo, by omega, lo, mid, _, rfl, by omega, by omega, e3, this, rfl⟩
  · have hge : ¬ (lo : Int) < hi := of_decide_eq_false hb
    refine xs_ret (ev_var rfl) ?_
    rw [show lo = notBel t p tab by omega]
theorem ok_alike (T : Tx K mg) : FnOk P w K mg base CX0 1 T.a_alike T.d_alike ["text", "at", "part"] (sp_alike T) := by
  refine fn_r T.F_alike sc_alike (fun _ => rfl) (fun cdv A outer s H E hr =>
      (pss_cons (ps_set (i := 3) sc_alike.nd rfl (by first | exact Or.inl rfl | exact Or.inr rfl) pe_int)
      (pss_cons (ps_while PassesOwn.never (PW.pt (pw_and (pt_cmpR op_lt (pv 3) (pe_callB (lenK (K := K) rfl) (by rfl) T.z_len (by decide +kernel) (pa_cons (pv 2) pa_nil)) (nomark _)) (pw_and (pt_cmpR op_lt (pe_op (addK (K := K) rfl) (pv 1) (pv 3)) (pe_callB (lenK (K := K) rfl) (by rfl) T.z_len (by decide +kernel) (pa_cons (pv 0) pa_nil)) (nomark _)) (pw_and1 (pt_cmpR (eqK (K := K) rfl hr.units) (pe_ix (ixK (K := K) rfl) (pv 0) (pe_op (addK (K := K) rfl) (pv 1) (pv 3)) (fun _ _ => rfl)) (pe_ix (ixK (K := K) rfl) (pv 2) (pv 3) (fun _ _ => rfl)) (nomark _)))))) (pss_one (ps_set (i := 3) sc_alike.nd rfl (by first | exact Or.inl rfl | exact Or.inr rfl) (pe_op (addK (K := K) rfl) (pv 3) pe_int))))
      (pss_one (ps_ret (pv 3)))))) (fun x hx => ?_)
  obtain ⟨t, at_, p⟩ := x
  dsimp only
  have hlt := lcp_le_r (t.drop at_) p
  have hll := lcp_le_l (t.drop at_) p
  rw [List.length_drop] at hll
  refine xs_seq (xs_asg (d := .int ((0 : Nat) : Int)) ev_ci eg_name ?_)
  dsimp only
  have hP : ∀ {ρ : DL.Env}, ρ[2]? = some (some (.sh (.lst (p.map .int)))) → EvD K (tCB (rLenA K) (tCons (tVar 2) tNil)) ρ (.int (p.length : Int)) := fun h => ev_lenM (f := D.int) (xs := p) (EvM.b (EvD.m (ev_var h)))
  have hT : ∀ {ρ : DL.Env}, ρ[0]? = some (some (.sh (.lst (t.map .int)))) → EvD K (tCB (rLenA K) (tCons (tVar 0) tNil)) ρ (.int (t.length : Int)) := fun h => ev_lenM (f := D.int) (xs := t) (EvM.b (EvD.m (ev_var h)))
  refine xs_seq (xs_while (fun m ρ => ∃ many : Nat, m = p.length - many ∧ many ≤ p.length ∧ lcp (t.drop at_) p = many + lcp (t.drop (at_ + many)) (p.drop many) ∧ ρ = [some (.sh (.lst (t.map .int))), some (.sh (.int (at_ : Int))), some (.sh (.lst (p.map .int))), some (.sh (.int (many : Int)))]) p.length ⟨0, by omega, Nat.zero_le _, by rw [List.drop_zero, Nat.zero_add, Nat.add_zero], rfl⟩ ?_)
  rintro m ρ ⟨many, rfl, e1, e2, rfl⟩
  have hS : ∀ {ρ : DL.Env}, ρ[1]? = some (some (.sh (.int (at_ : Int)))) → ρ[3]? = some (some (.sh (.int (many : Int)))) → EvD K (tOp (rAddA K) (tVar 1) (tVar 3)) ρ (.int ((at_ + many : Nat) : Int)) := fun q1 q3 => EvD.is (ev_addI (ev_var q1) (ev_var q3)) (by rw [Int.natCast_add])
  have done : lcp (t.drop (at_ + many)) (p.drop many) = 0 → (lcp (t.drop at_) p : Int) = (many : Int) := fun h => by rw [e2, h, Nat.add_zero]
  by_cases h1 : many < p.length
  · by_cases h2 : at_ + many < t.length
    · have hst := lcp_step h1 h2
      by_cases h3 : t.getD (at_ + many) 0 = p.getD many 0
      · rw [if_pos h3] at hst
        refine ⟨true, et_andT (EvT.is (et_t (ev_Ib (ev_var rfl) (hP rfl))) (decide_eq_true (by omega))) (et_andT (EvT.is (et_t (ev_Ib (hS rfl rfl) (hT rfl))) (decide_eq_true (by omega))) (EvT.is (et_t (ev_eqI (ev_ixl (ds := t.map D.int) (EvM.b (EvD.m (ev_var rfl))) (hS rfl rfl) (atI_int (by omega) (by omega))) (ev_ixl (ds := p.map D.int) (EvM.b (EvD.m (ev_var rfl))) (ev_var rfl) (atI_int (by omega) (by omega))))) (decide_eq_true h3))), fun _ => ?_, fun z => by cases z⟩
        refine xs_asg (d := .int ((many + 1 : Nat) : Int)) (EvD.is (ev_addI (ev_var rfl) ev_ci) (by rw [Int.natCast_add]; rfl)) eg_name ?_
        exact ⟨p.length - (many + 1), by omega, many + 1, rfl, h1, by rw [e2, hst]; omega, rfl⟩
      · rw [if_neg h3] at hst
        refine ⟨false, et_andT (EvT.is (et_t (ev_Ib (ev_var rfl) (hP rfl))) (decide_eq_true (by omega))) (et_andT (EvT.is (et_t (ev_Ib (hS rfl rfl) (hT rfl))) (decide_eq_true (by omega))) (EvT.is (et_t (ev_eqI (ev_ixl (ds := t.map D.int) (EvM.b (EvD.m (ev_var rfl))) (hS rfl rfl) (atI_int (by omega) (by omega))) (ev_ixl (ds := p.map D.int) (EvM.b (EvD.m (ev_var rfl))) (ev_var rfl) (atI_int (by omega) (by omega))))) (decide_eq_false h3))), (fun z => by cases z), fun _ => ?_⟩
        exact xs_ret (ev_var rfl) (by rw [done hst])
    · refine ⟨false, et_andT (EvT.is (et_t (ev_Ib (ev_var rfl) (hP rfl))) (decide_eq_true (by omega))) (et_andF (EvT.is (et_t (ev_Ib (hS rfl rfl) (hT rfl))) (decide_eq_false (by omega)))), (fun z => by cases z), fun _ => ?_⟩
      exact xs_ret (ev_var rfl) (by rw [done (by rw [List.drop_eq_nil_of_le (by omega)]; rfl)])
  · refine ⟨false, et_andF (EvT.is (et_t (ev_Ib (ev_var rfl) (hP rfl))) (decide_eq_false (by omega))), (fun z => by cases z), fun _ => ?_⟩
    exact xs_ret (ev_var rfl) (by rw [done (by rw [List.drop_eq_nil_of_le (show p.length ≤ many by omega), lcp_nil])])

theorem ok_longest (T : Tx K mg) : FnOk P w K mg base CX0 2 T.a_longest T.d_longest ["text", "table", "part"] (sp_longest T) := by
  refine fn_r T.F_longest sc_longest (fun _ => rfl) (fun cdv A outer s H E hr =>
      (pss_cons (ps_set (i := 3) sc_longest.nd rfl (by first | exact Or.inl rfl | exact Or.inr rfl) (pe_call (ok_first_not_below T) hr (by rfl) T.g_first_not_below T.F_first_not_below.kp T.b_first_not_below .nil pass0 (pa_cons (pv 0) (pa_cons (pv 1) (pa_cons (pv 2) pa_nil)))))
      (pss_cons (ps_set (i := 4) sc_longest.nd rfl (by first | exact Or.inl rfl | exact Or.inr rfl) pe_int)
      (pss_cons (ps_for PassesOwn.never rfl (seqK (K := K) rfl (pe_slice (slK (K := K) rfl) (pv 1) (po_some (pe_callB (call_max2 rfl) (by rfl) T.z_max (by decide +kernel) (pa_cons pe_int (pa_cons (pe_op op_sub (pv 3) pe_int) pa_nil)))) (po_some (pe_op (addK (K := K) rfl) (pv 3) pe_int)))) (pg_name (i := 5) sc_longest.nd rfl (by first | exact Or.inl rfl | exact Or.inr rfl)) (pss_one (ps_set (i := 4) sc_longest.nd rfl (by first | exact Or.inl rfl | exact Or.inr rfl) (pe_callB (call_max2 rfl) (by rfl) T.z_max (by decide +kernel) (pa_cons (pv 4) (pa_cons (pe_call (ok_alike T) hr (by rfl) T.g_alike T.F_alike.kp T.b_alike .nil pass0 (pa_cons (pv 0) (pa_cons (pv 5) (pa_cons (pv 2) pa_nil)))) pa_nil))))))
      (pss_cons (ps_if (pt_cmpR (eqK (K := K) rfl hr.units) (pv 4) pe_int (nomark _)) (pss_one (ps_ret (pe_tup (pa_cons pe_int (pa_cons pe_int pa_nil))))) pss_nil)
      (pss_cons (ps_set (i := 6) sc_longest.nd rfl (by first | exact Or.inl rfl | exact Or.inr rfl) (pe_slice (slK (K := K) rfl) (pv 2) po_none (po_some (pv 4))))
      (pss_cons (ps_set (i := 3) sc_longest.nd rfl (by first | exact Or.inl rfl | exact Or.inr rfl) (pe_call (ok_first_not_below T) hr (by rfl) T.g_first_not_below T.F_first_not_below.kp T.b_first_not_below .nil pass0 (pa_cons (pv 0) (pa_cons (pv 1) (pa_cons (pv 6) pa_nil)))))
      (pss_cons (ps_set (i := 7) sc_longest.nd rfl (by first | exact Or.inl rfl | exact Or.inr rfl) (pe_lst pa_nil))
      (pss_cons (ps_while PassesOwn.never (PW.pt (pw_and (pt_cmpR op_lt (pv 3) (pe_callB (lenK (K := K) rfl) (by rfl) T.z_len (by decide +kernel) (pa_cons (pv 1) pa_nil)) (nomark _)) (pw_and1 (pt_cmpR (eqK (K := K) rfl hr.units) (pe_slice (slK (K := K) rfl) (pv 0) (po_some (pe_ix (ixK (K := K) rfl) (pv 1) (pv 3) (fun _ _ => rfl))) (po_some (pe_op (addK (K := K) rfl) (pe_ix (ixK (K := K) rfl) (pv 1) (pv 3) (fun _ _ => rfl)) (pv 4)))) (pv 6) (nomark _))))) (pss_cons (ps_expr (bmK (K := K) rfl PySem.F.plainAttrs_list PySem.F.slot_list_append PySem.F.type_list_append mt_append (pv 7) (pa_cons (pe_ix (ixK (K := K) rfl) (pv 1) (pv 3) (fun _ _ => rfl)) pa_nil)))
      (pss_one (ps_set (i := 3) sc_longest.nd rfl (by first | exact Or.inl rfl | exact Or.inr rfl) (pe_op (addK (K := K) rfl) (pv 3) pe_int)))))
      (pss_one (ps_ret (pe_tup (pa_cons (pe_callB (minK (K := K) rfl rfl) (by rfl) T.z_min (by decide +kernel) (pa_cons (pv 7) pa_nil)) (pa_cons (pv 4) pa_nil)))))))))))))) (fun x hx => ?_)
  obtain ⟨t, p⟩ := x
  obtain ⟨h1, h2⟩ := hx
  dsimp only at h1 h2 ⊢
  obtain ⟨s1, s2, s3⟩ := endv_ok t
  have hmem : ∀ i ∈ endv t, i ≤ 1000 := fun i hi => by
    have := List.mem_range.mp (s1.mem_iff.mp hi)
    omega
  have N := nb_of t p
  have hN := near_max t p
  have hnl : ∀ i ∈ near t p, i < t.length := fun i hi => List.mem_range.mp (s1.mem_iff.mp (List.mem_of_mem_take (List.mem_of_mem_drop hi)))
  refine xs_seq (xs_asg (d := .int (notBel t p (endv t) : Int)) (ev_call (x := (t, endv t, p)) (ea_cons (ev_var rfl) (ea_cons (ev_var rfl) (ea_cons (ev_var rfl) ea_nil))) ⟨by show (endv t).length ≤ 1000; omega, hmem, h2, N⟩) eg_name ?_)
  refine xs_seq (xs_asg (d := .int ((0 : Nat) : Int)) ev_ci eg_name ?_)
  dsimp only
  have hnear : ((endv t).take (notBel t p (endv t) + 1)).drop (notBel t p (endv t) - 1) = near t p := rfl
  generalize notBel t p (endv t) = a at N hnear ⊢
  generalize near t p = nr at hN hnl hnear ⊢
  have hcut : cutD (((endv t).map fun (k : Nat) => (k : Int)).map D.int) (some (max 0 ((a : Int) - 1))) (some ((a : Int) + 1)) = (nr.map fun (k : Nat) => (k : Int)).map D.int := by
    rw [cutD_map, show max 0 ((a : Int) - 1) = ((a - 1 : Nat) : Int) by omega, show ((a : Int) + 1) = ((a + 1 : Nat) : Int) by omega, cut_mid, ← List.map_take, ← List.map_drop, hnear]
  have hal : ∀ {ρ : DL.Env} {E : XK} {i : Nat}, ρ[0]? = some (some (.sh (.lst (t.map .int)))) → ρ[5]? = some (some (.sh (.int (i : Int)))) → ρ[2]? = some (some (.sh (.lst (p.map .int)))) → EvD K (tCall (sp_alike T) [] E (tCons (tVar 0) (tCons (tVar 5) (tCons (tVar 2) tNil)))) ρ (.int (lcp (t.drop i) p : Int)) := fun q0 q5 q2 => ev_call (x := (t, _, p)) (ea_cons (ev_var q0) (ea_cons (ev_var q5) (ea_cons (ev_var q2) ea_nil))) trivial
  refine xs_seq (xs_for (ei_seqL (ds := (nr.map fun (k : Nat) => (k : Int)).map D.int) (EvF.v (EvF.is (ef_slL (EvM.b (EvD.m (ev_var rfl))) (eo_some (ev_max2 ev_ci (ev_I (ev_var rfl) ev_ci))) (eo_some (ev_addI (ev_var rfl) ev_ci))) hcut))) (fun k ρ => ∃ v5, ρ = [some (.sh (.lst (t.map .int))), some (.sh (tabD (endv t))), some (.sh (.lst (p.map .int))), some (.sh (.int (a : Int))), some (.sh (.int ((((nr.take k).map fun i => lcp (t.drop i) p).foldl max 0 : Nat) : Int))), v5, none, none]) ⟨_, rfl⟩ ?_ ?_)
  · rintro k d ρ hk ⟨v5, rfl⟩
    rw [List.getElem?_map, List.getElem?_map] at hk
    obtain ⟨z, hz, rfl⟩ := Option.map_eq_some_iff.mp hk
    obtain ⟨i, hi, rfl⟩ := Option.map_eq_some_iff.mp hz
    refine ⟨_, eg_name, ?_⟩
    refine xs_asg (EvD.is (ev_max2 (ev_var rfl) (hal (i := i) rfl rfl rfl)) (d := _) (e := .int ((((nr.take (k + 1)).map fun i => lcp (t.drop i) p).foldl max 0 : Nat) : Int)) ?_) eg_name ⟨_, rfl⟩
    rw [List.take_add_one, hi, List.map_append, List.foldl_append]
    show D.int (max _ (lcp (t.drop i) p : Int)) = D.int ((max _ (lcp (t.drop i) p) : Nat) : Int)
    congr 1
    omega
  rintro ρ ⟨v5, rfl⟩
  rw [show ((nr.map fun (k : Nat) => (k : Int)).map D.int).length = nr.length by rw [List.length_map, List.length_map], List.take_length, hN]
  by_cases hm : (due t p).2 = 0
  · have h0 : (due t p).1 = 0 := by
      rcases dueF_at t p t.length with ⟨_, q⟩ | ⟨_, q, _⟩
      · exact q
      · exact absurd hm (by show ¬ (dueF t p t.length).2 = 0; omega)
    refine xs_seq (xs_yes (et_t (ev_eqI (ev_var rfl) ev_ci)) (decide_eq_true (by omega)) (xs_ret (ev_tup (ea_cons ev_ci (ea_cons ev_ci ea_nil)) (Nat.le_of_ble_eq_true rfl)) ?_))
    unfold dueD
    rw [hm, h0]
    rfl
  refine xs_seq (xs_no (et_t (ev_eqI (ev_var rfl) ev_ci)) (decide_eq_false (by omega)) ?_)
  have hmp : (due t p).2 ≤ p.length := by
    rcases dueF_at t p t.length with ⟨q, _⟩ | ⟨_, _, q, _⟩
    · exact absurd q hm
    · show (dueF t p t.length).2 ≤ _
      rw [← q]
      exact lcp_le_r _ _
  have hfo := fun {b j : Nat} => found_ok (t := t) (p := p) (by omega) (a := b) (j := j)
  refine xs_seq (xs_asg (d := .lst ((p.take (due t p).2).map .int)) (EvF.v (EvF.is (ef_slL (ds := p.map D.int) (EvM.b (EvD.m (ev_var rfl))) eo_none (eo_some (ev_var rfl))) (by rw [cutD_map, cut_to]))) eg_name ?_)
  have hql : (p.take (due t p).2).length ≤ 1000 := by rw [List.length_take]; omega
  refine xs_seq (xs_asg (d := .int (notBel t (p.take (due t p).2) (endv t) : Int)) (ev_call (x := (t, endv t, p.take (due t p).2)) (ea_cons (ev_var rfl) (ea_cons (ev_var rfl) (ea_cons (ev_var rfl) ea_nil))) ⟨by show (endv t).length ≤ 1000; omega, hmem, hql, nb_of t _⟩) eg_name ?_)
  refine xs_seq (xs_asgF (ef_lst ea_nil (Nat.le_of_ble_eq_true rfl)) ?_)
  dsimp only
  have N2 := nb_of t (p.take (due t p).2)
  have hm0 : 0 < (due t p).2 := by omega
  unfold dueD
  generalize hb0 : notBel t (p.take (due t p).2) (endv t) = b at N2 ⊢
  generalize (due t p).1 = f at hfo ⊢
  generalize (due t p).2 = m at *
  have hlen : ∀ j, j ≤ (endv t).length → b ≤ j → (((endv t).take j).drop b).length = j - b := fun j q1 q2 => by rw [List.length_drop, List.length_take]; omega
  refine xs_seq (xs_while (fun n ρ => ∃ (j : Nat) (v5 : Option SV), n = (endv t).length - j ∧ b ≤ j ∧ j ≤ (endv t).length ∧ (∀ k i, b ≤ k → k < j → (endv t)[k]? = some i → (t.drop i).take m = p.take m) ∧ ρ = [some (.sh (.lst (t.map .int))), some (.sh (tabD (endv t))), some (.sh (.lst (p.map .int))), some (.sh (.int (j : Int))), some (.sh (.int (m : Int))), v5, some (.sh (.lst ((p.take m).map .int))), some (.ol (((((endv t).take j).drop b).map fun (k : Nat) => (k : Int)).map .int))]) ((endv t).length - b) ⟨b, _, rfl, Nat.le_refl _, N2.le, fun k i q1 q2 => absurd q2 (by omega), by rw [List.drop_eq_nil_of_le (by rw [List.length_take]; omega)]; rfl⟩ ?_)
  rintro n ρ ⟨j, v5, rfl, j1, j2, j3, rfl⟩
  have hT : ∀ {ρ : DL.Env}, ρ[1]? = some (some (.sh (tabD (endv t)))) → EvD K (tCB (rLenA K) (tCons (tVar 1) tNil)) ρ (.int ((endv t).length : Int)) := fun h => EvD.is (ev_lenM (f := D.int) (xs := (endv t).map fun (k : Nat) => (k : Int)) (EvM.b (EvD.m (ev_var h)))) (by rw [List.length_map])
  have fin : (∀ i, (endv t)[j]? = some i → (t.drop i).take m ≠ p.take m) → ExS K (tRet (tTup (tCons (tCB (rMin K) (tCons (tVar 7) tNil)) (tCons (tVar 4) tNil)))) [some (.sh (.lst (t.map .int))), some (.sh (tabD (endv t))), some (.sh (.lst (p.map .int))), some (.sh (.int (j : Int))), some (.sh (.int (m : Int))), v5, some (.sh (.lst ((p.take m).map .int))), some (.ol (((((endv t).take j).drop b).map fun (k : Nat) => (k : Int)).map .int))] { nx := fun _ => D.non = .tup [.int (f : Int), .int (m : Int)], rt := fun d => d = .tup [.int (f : Int), .int (m : Int)] } := fun hout => by
    obtain ⟨q1, q2⟩ := hfo hb0.symm j1 j2 j3 hout
    exact xs_ret (ev_tup (ea_cons (ev_minL (m := (f : Int)) (EvM.b (em_var rfl)) (List.mem_map.mpr ⟨f, q1, rfl⟩) (fun y hy => by
      obtain ⟨i, hi, rfl⟩ := List.mem_map.mp hy
      have := q2 i hi
      omega)) (ea_cons (ev_var rfl) ea_nil)) (Nat.le_of_ble_eq_true rfl)) rfl
  by_cases hj : j < (endv t).length
  · have hg := List.getElem?_eq_getElem hj
    generalize (endv t)[j]'hj = i at hg
    have hix : ∀ {ρ : DL.Env}, ρ[1]? = some (some (.sh (tabD (endv t)))) → ρ[3]? = some (some (.sh (.int (j : Int)))) → EvD K (tOp (rIx K) (tVar 1) (tVar 3)) ρ (.int (i : Int)) := fun q1 q3 => ev_ixl (K := K) (EvM.b (EvD.m (ev_var q1))) (ev_var q3) (tab_at hg)
    have hE : ∀ {ρ : DL.Env}, ρ[0]? = some (some (.sh (.lst (t.map .int)))) → ρ[1]? = some (some (.sh (tabD (endv t)))) → ρ[3]? = some (some (.sh (.int (j : Int)))) → ρ[4]? = some (some (.sh (.int (m : Int)))) → ρ[6]? = some (some (.sh (.lst ((p.take m).map .int)))) → EvD K (tOp (rEqD K) (tSl (rSlA' K) (tVar 0) (tPart (tOp (rIx K) (tVar 1) (tVar 3))) (tPart (tOp (rAddA K) (tOp (rIx K) (tVar 1) (tVar 3)) (tVar 4)))) (tVar 6)) ρ (.bl (decide ((t.drop i).take m = p.take m))) := fun q0 q1 q3 q4 q6 =>
      ev_eqL (EvM.r (EvF.m (EvF.is (ef_slL (EvM.b (EvD.m (ev_var q0))) (eo_some (hix q1 q3)) (eo_some (ev_addI (hix q1 q3) (ev_var q4)))) (cut_i i m)))) (EvD.r (ev_var q6))
    by_cases he : (t.drop i).take m = p.take m
    · refine ⟨true, et_andT (EvT.is (et_t (ev_Ib (ev_var rfl) (hT rfl))) (decide_eq_true (by omega))) (EvT.is (et_t (hE rfl rfl rfl rfl rfl)) (decide_eq_true he)), fun _ => ?_, fun z => by cases z⟩
      refine xs_seq (xs_app rfl (hix rfl rfl) (by rw [List.length_map, List.length_map, hlen j j2 j1]; omega) ?_)
      refine xs_asg (d := .int ((j + 1 : Nat) : Int)) (EvD.is (ev_addI (ev_var rfl) ev_ci) (by rw [Int.natCast_add]; rfl)) eg_name ?_
      refine ⟨(endv t).length - (j + 1), by omega, j + 1, v5, rfl, by omega, hj, fun k i' q1 q2 q3 => ?_, ?_⟩
      · by_cases e : k = j
        · subst e
          rw [hg] at q3
          cases q3
          exact he
        · exact j3 k i' q1 (by omega) q3
      · have : ((endv t).take (j + 1)).drop b = ((endv t).take j).drop b ++ [i] := by
          rw [List.take_add_one, hg, List.drop_append_of_le_length (by rw [List.length_take]; omega)]
          rfl
        rw [this, List.map_append, List.map_append]
        rfl
    · refine ⟨false, et_andT (EvT.is (et_t (ev_Ib (ev_var rfl) (hT rfl))) (decide_eq_true (by omega))) (EvT.is (et_t (hE rfl rfl rfl rfl rfl)) (decide_eq_false he)), (fun z => by cases z), fun _ => ?_⟩
      exact fin fun i' hi' => by
        rw [hg] at hi'
        cases hi'
        exact he
  · refine ⟨false, et_andF (EvT.is (et_t (ev_Ib (ev_var rfl) (hT rfl))) (decide_eq_false (by omega))), (fun z => by cases z), fun _ => ?_⟩
    exact fin fun i' hi' => absurd (List.getElem?_eq_some_iff.mp hi').1 hj
end

/-! ### rows: the mathematics -/
inductive Rw where
  | take (to src n : Int)
  | put (to : Int) (ss : List Int)
deriving DecidableEq
namespace Rw
def to : Rw → Int | .take t _ _ => t | .put t _ => t
def size : Rw → Int | .take _ _ n => n | .put _ ss => (ss.length : Int)
def isTake : Rw → Bool | .take _ _ _ => true | .put _ _ => false
def stay : Rw → Bool | .take t s _ => decide (s = t) | .put _ _ => false
def writes (r : Rw) : List Int := if r.stay then [] else span r.to r.size
def reads : Rw → List Int | .take t s n => if s = t then [] else span s n | .put _ _ => []
def needs : Rw → Int | .take _ s n => s + n | .put _ _ => 0
def cost : Rw → Int | .take _ _ _ => 4 | .put _ ss => 2 + (ss.length : Int)
theorem writes_le (r : Rw) : r.writes.length ≤ r.size.toNat := by
  unfold writes
  split
  · exact Nat.zero_le _
  · rw [span_length]; exact Nat.le_refl _
theorem reads_take (t s n : Int) : (take t s n).reads = if s = t then [] else span s n := rfl
theorem reads_le (r : Rw) : r.reads.length ≤ r.size.toNat := by
  cases r with
  | take t s n =>
    rw [reads_take]
    split
    · exact Nat.zero_le _
    · rw [span_length]; exact Nat.le_refl _
  | put t ss => exact Nat.zero_le _
end Rw

def Rw.tl : Rw → D
  | .take t s n => .tup [.str "take", .int t, .int s, .int n]
  | .put t ss => .tup [.str "put", .int t, .tup (ss.map .int)]
/-! ### rows found -/
theorem due_le (t p : List Int) : (due t p).2 ≤ p.length := by
  rcases dueF_at t p t.length with ⟨q, _⟩ | ⟨_, _, q, _⟩
  · show (dueF t p t.length).2 ≤ _
    omega
  · show (dueF t p t.length).2 ≤ _
    rw [← q]
    exact lcp_le_r _ _
def flushR (a : Nat) (sg : List Int) : List Rw := if sg = [] then [] else [Rw.put ((a - sg.length : Nat) : Int) sg]
def findF (e : List Int) (L : Int) : Nat → List Int → Nat → List Int → List Rw
  | 0, _, a, sg => flushR a sg
  | _ + 1, [], a, sg => flushR a sg
  | f + 1, c :: r, a, sg =>
    if ((due e (c :: r)).2 : Int) < L then findF e L f r (a + 1) (sg ++ [c])
    else flushR a sg ++ Rw.take (a : Int) ((due e (c :: r)).1 : Int) ((due e (c :: r)).2 : Int) :: findF e L f ((c :: r).drop (due e (c :: r)).2) (a + (due e (c :: r)).2) []
def foundR (e n : List Int) (L : Int) : List Rw := findF e L n.length n 0 []
theorem findF_nil (e : List Int) (L : Int) (f a : Nat) (sg : List Int) : findF e L f [] a sg = flushR a sg := by cases f <;> rfl
theorem foundR_nil (e : List Int) (L : Int) : foundR e [] L = [] := rfl
/-- what the rows must be, from a place on; the row ahead is a put or not -/
def Gd (e n : List Int) (L : Int) : List Rw → Nat → Bool → Prop
  | [], a, _ => a = n.length
  | .put t ss :: rs, a, w => t = (a : Int) ∧ w = false ∧ ss ≠ [] ∧ ss = (n.drop a).take ss.length ∧ (∀ k, k < ss.length → ((due e (n.drop (a + k))).2 : Int) < L) ∧ Gd e n L rs (a + ss.length) true
  | .take t s c :: rs, a, _ => t = (a : Int) ∧ s = ((due e (n.drop a)).1 : Int) ∧ c = ((due e (n.drop a)).2 : Int) ∧ L ≤ c ∧ Gd e n L rs (a + (due e (n.drop a)).2) false
theorem gd_flush {e n : List Int} {L : Int} {a b : Nat} {sg : List Int} {rs : List Rw} (hb : b + sg.length = a) (hs : sg = (n.drop b).take sg.length) (hd : ∀ k, b ≤ k → k < a → ((due e (n.drop k)).2 : Int) < L)
    (hr : ∀ w, Gd e n L rs a w) : Gd e n L (flushR a sg ++ rs) b false := by
  unfold flushR
  by_cases h : sg = []
  · rw [if_pos h]
    subst h
    have : b = a := hb
    subst this
    exact hr false
  · rw [if_neg h]
    refine ⟨by omega, rfl, h, hs, fun k hk => hd _ (by omega) (by omega), ?_⟩
    rw [hb]
    exact hr true
theorem gd_find {e n : List Int} {L : Int} (hL : 1 ≤ L) : ∀ (f : Nat) (r : List Int) (a b : Nat) (sg : List Int), r = n.drop a → a ≤ n.length → r.length ≤ f → b + sg.length = a → sg = (n.drop b).take sg.length → (∀ k, b ≤ k → k < a → ((due e (n.drop k)).2 : Int) < L) →
    Gd e n L (findF e L f r a sg) b false := by
  intro f
  induction f with
  | zero =>
    intro r a b sg hr ha hl hb hs hd
    have h0 : r.length = n.length - a := by rw [hr, List.length_drop]
    have := gd_flush (rs := []) hb hs hd (fun w => (show a = n.length by omega))
    rw [List.append_nil] at this
    exact this
  | succ f ih =>
    intro r a b sg hr ha hl hb hs hd
    cases r with
    | nil =>
      have h0 : ([] : List Int).length = n.length - a := by rw [hr, List.length_drop]
      have := gd_flush (rs := []) hb hs hd (fun w => (show a = n.length by simp at h0; omega))
      rw [List.append_nil] at this
      exact this
    | cons c r =>
      have h0 : (c :: r).length = n.length - a := by rw [hr, List.length_drop]
      rw [List.length_cons] at h0 hl
      have hr1 : r = n.drop (a + 1) := by rw [← List.drop_drop, ← hr]; rfl
      unfold findF
      by_cases h : ((due e (c :: r)).2 : Int) < L
      · rw [if_pos h]
        refine ih r (a + 1) b (sg ++ [c]) hr1 (by omega) (by omega) (by rw [List.length_append]; show b + (sg.length + 1) = _; omega) ?_ fun k h1 h2 => ?_
        · rw [List.length_append]
          show sg ++ [c] = (n.drop b).take (sg.length + 1)
          rw [List.take_add_one, ← hs, List.getElem?_drop, hb]
          have : n[a]? = some c := by
            have := congrArg (fun l => l[0]?) hr
            rw [List.getElem?_drop] at this
            exact this.symm
          rw [this]
          rfl
        · by_cases e' : k = a
          · subst e'
            rw [← hr]
            exact h
          · exact hd k h1 (by omega)
      · rw [if_neg h]
        have hdl := due_le e (c :: r)
        rw [List.length_cons] at hdl
        refine gd_flush hb hs hd fun w => ⟨rfl, by rw [← hr], by rw [← hr], by omega, ?_⟩
        rw [← hr]
        refine ih _ (a + (due e (c :: r)).2) (a + (due e (c :: r)).2) [] (by rw [hr, List.drop_drop]) (by omega) ?_ rfl (by simp) fun k h1 h2 => absurd h1 (by omega)
        rw [List.length_drop, List.length_cons]
        omega
theorem gd_found (e n : List Int) {L : Int} (hL : 1 ≤ L) : Gd e n L (foundR e n L) 0 false :=
  gd_find hL n.length n 0 0 [] (by rw [List.drop_zero]) (Nat.zero_le _) (Nat.le_refl _) rfl (by simp) fun k h1 h2 => absurd h2 (by omega)
theorem gd_len {e n : List Int} {L : Int} (hL : 1 ≤ L) : ∀ (rs : List Rw) (a : Nat) (w : Bool), Gd e n L rs a w → rs.length + a ≤ n.length
  | [], a, w, h => by
    have : a = n.length := h
    show 0 + a ≤ _
    omega
  | .put t ss :: rs, a, w, h => by
    obtain ⟨_, _, h3, _, _, h6⟩ := h
    have := gd_len hL rs _ _ h6
    have := List.length_pos_iff.mpr h3
    show rs.length + 1 + a ≤ _
    omega
  | .take t s c :: rs, a, w, h => by
    obtain ⟨_, _, h3, h4, h6⟩ := h
    have := gd_len hL rs _ _ h6
    show rs.length + 1 + a ≤ _
    omega
theorem found_len (e n : List Int) {L : Int} (hL : 1 ≤ L) : (foundR e n L).length ≤ n.length := gd_len hL _ _ _ (gd_found e n hL)
abbrev sp_found {K : PySem.W.Frag} {mg : Str → Option Value} (T : Tx K mg) : Sp := spF K (fun x : List Int × List Int × Int => x.1.length ≤ 100 ∧ x.2.1.length ≤ 1000 ∧ 1 ≤ x.2.2) (fun x => [.lst (x.1.map .int), .lst (x.2.1.map .int), .int x.2.2]) (fun x => (foundR x.1 x.2.1 x.2.2).map Rw.tl)
section
variable {P : Program} {w : World} {K : PySem.W.Frag} {mg : Str → Option Value} {base : Heap}
theorem ok_found (T : Tx K mg) (hTB_endings : LamX.TabB base mg T.cc_endings T.P_endings) : FnOk P w K mg base CX0 5 T.a_found T.d_found ["elder", "newer", "least"] (sp_found T) := by
  refine fn_fE T.F_found sc_found (fun _ => rfl) (fun cdv A outer s H E hr =>
      (pss_cons (ps_set (i := 3) sc_found.nd rfl (by first | exact Or.inl rfl | exact Or.inr rfl) (pe_call (ok_endings T hTB_endings) hr (by rfl) T.g_endings T.F_endings.kp T.b_endings .nil pass0 (pa_cons (pv 0) pa_nil)))
      (pss_cons (ps_set (i := 4) sc_found.nd rfl (by first | exact Or.inl rfl | exact Or.inr rfl) (pe_lst pa_nil))
      (pss_cons (ps_set (i := 5) sc_found.nd rfl (by first | exact Or.inl rfl | exact Or.inr rfl) (pe_lst pa_nil))
      (pss_cons (ps_set (i := 6) sc_found.nd rfl (by first | exact Or.inl rfl | exact Or.inr rfl) pe_int)
      (pss_cons (ps_while PassesOwn.never (pt_cmpR op_lt (pv 6) (pe_callB (lenK (K := K) rfl) (by rfl) T.z_len (by decide +kernel) (pa_cons (pv 1) pa_nil)) (nomark _)) (pss_cons (ps_asg (pe_call (ok_longest T) (hr.mono (by decide)) (by rfl) T.g_longest T.F_longest.kp T.b_longest .nil pass0 (pa_cons (pv 0) (pa_cons (pv 3) (pa_cons (pe_slice (slK (K := K) rfl) (pv 1) (po_some (pv 6)) po_none) pa_nil)))) (gtupK (n := 2) (K := K) rfl rfl (pgs_cons (pg_name (i := 7) sc_found.nd rfl (by first | exact Or.inl rfl | exact Or.inr rfl)) (pgs_cons (pg_name (i := 8) sc_found.nd rfl (by first | exact Or.inl rfl | exact Or.inr rfl)) pgs_nil))))
      (pss_cons (ps_if (pt_cmpR op_lt (pv 8) (pv 2) (nomark _)) (pss_cons (ps_expr (bmK (K := K) rfl PySem.F.plainAttrs_list PySem.F.slot_list_append PySem.F.type_list_append mt_append (pv 5) (pa_cons (pe_ix (ixK (K := K) rfl) (pv 1) (pv 6) (fun _ _ => rfl)) pa_nil)))
      (pss_cons (ps_set (i := 6) sc_found.nd rfl (by first | exact Or.inl rfl | exact Or.inr rfl) (pe_op (addK (K := K) rfl) (pv 6) pe_int))
      (pss_one (ps_continue)))) pss_nil)
      (pss_cons (ps_if (pt_cmpR (neK (K := K) rfl hr.units) (pv 5) (pe_lst pa_nil) (nomark _)) (pss_cons (ps_expr (bmK (K := K) rfl PySem.F.plainAttrs_list PySem.F.slot_list_append PySem.F.type_list_append mt_append (pv 4) (pa_cons (pe_tup (pa_cons pe_str (pa_cons (pe_op op_sub (pv 6) (pe_callB (lenK (K := K) rfl) (by rfl) T.z_len (by decide +kernel) (pa_cons (pv 5) pa_nil))) (pa_cons (pe_callTy (tupleK (K := K) rfl) (by rfl) T.z_tuple (by decide +kernel) (pa_cons (pv 5) pa_nil)) pa_nil)))) pa_nil)))
      (pss_one (ps_set (i := 5) sc_found.nd rfl (by first | exact Or.inl rfl | exact Or.inr rfl) (pe_lst pa_nil)))) pss_nil)
      (pss_cons (ps_expr (bmK (K := K) rfl PySem.F.plainAttrs_list PySem.F.slot_list_append PySem.F.type_list_append mt_append (pv 4) (pa_cons (pe_tup (pa_cons pe_str (pa_cons (pv 6) (pa_cons (pv 7) (pa_cons (pv 8) pa_nil))))) pa_nil)))
      (pss_one (ps_set (i := 6) sc_found.nd rfl (by first | exact Or.inl rfl | exact Or.inr rfl) (pe_op (addK (K := K) rfl) (pv 6) (pv 8)))))))))
      (pss_cons (ps_if (pt_cmpR (neK (K := K) rfl hr.units) (pv 5) (pe_lst pa_nil) (nomark _)) (pss_one (ps_expr (bmK (K := K) rfl PySem.F.plainAttrs_list PySem.F.slot_list_append PySem.F.type_list_append mt_append (pv 4) (pa_cons (pe_tup (pa_cons pe_str (pa_cons (pe_op op_sub (pv 6) (pe_callB (lenK (K := K) rfl) (by rfl) T.z_len (by decide +kernel) (pa_cons (pv 5) pa_nil))) (pa_cons (pe_callTy (tupleK (K := K) rfl) (by rfl) T.z_tuple (by decide +kernel) (pa_cons (pv 5) pa_nil)) pa_nil)))) pa_nil)))) pss_nil)
      (pss_one (ps_ret (pv 4)))))))))) (fun x hx => ?_)
  obtain ⟨e, n, L⟩ := x
  obtain ⟨h1, h2, h3⟩ := hx
  dsimp only at h1 h2 h3 ⊢
  refine xs_seq (xs_asg (d := tabD (endv e)) (EvF.v (ef_call (x := e) (ea_cons (ev_var rfl) ea_nil) h1)) eg_name ?_)
  refine xs_seq (xs_asgF (ef_lst ea_nil (Nat.le_of_ble_eq_true rfl)) ?_)
  refine xs_seq (xs_asgF (ef_lst ea_nil (Nat.le_of_ble_eq_true rfl)) ?_)
  refine xs_seq (xs_asg (d := .int ((0 : Nat) : Int)) ev_ci eg_name ?_)
  dsimp only
  have hN : ∀ {ρ : DL.Env}, ρ[1]? = some (some (.sh (.lst (n.map .int)))) → EvD K (tCB (rLenA K) (tCons (tVar 1) tNil)) ρ (.int (n.length : Int)) := fun h => ev_lenM (f := D.int) (xs := n) (EvM.b (EvD.m (ev_var h)))
  have hne : ∀ {ρ : DL.Env} {sg : List Int}, ρ[5]? = some (some (.ol (sg.map .int))) → EvT K (tTest (tOp (rNeD K) (tVar 5) (tLst tNil))) ρ (!decide (sg = [])) := fun {ρ sg} h => et_t (ev_neL (xs := sg) (ys := []) (EvM.r (em_var h)) (EvM.r (EvF.m (ef_lst ea_nil (by decide)))))
  have hlen : ∀ {a : Nat} {sg : List Int}, sg.length ≤ a → ((a : Int) - (sg.length : Int)) = ((a - sg.length : Nat) : Int) := fun h => by omega
  refine xs_seq (xs_while (fun m ρ => ∃ (a : Nat) (sg : List Int) (rs : List Rw) (f : Nat) (v7 v8 : Option SV), m = n.length - a ∧ a ≤ n.length ∧ n.length - a ≤ f ∧ rs.length + sg.length ≤ a ∧ rs ++ findF e L f (n.drop a) a sg = foundR e n L ∧
      ρ = [some (.sh (.lst (e.map .int))), some (.sh (.lst (n.map .int))), some (.sh (.int L)), some (.sh (tabD (endv e))), some (.ol (rs.map Rw.tl)), some (.ol (sg.map .int)), some (.sh (.int (a : Int))), v7, v8]) n.length ⟨0, [], [], n.length, _, _, rfl, Nat.zero_le _, Nat.le_refl _, Nat.le_refl _, by rw [List.drop_zero]; rfl, rfl⟩ ?_)
  rintro m ρ ⟨a, sg, rs, f, v7, v8, rfl, e1, e2, e3, e4, rfl⟩
  refine ⟨_, et_t (ev_Ib (ev_var rfl) (hN rfl)), fun hb => ?_, fun hb => ?_⟩
  · have hlt : (a : Int) < n.length := of_decide_eq_true hb
    have hla : a < n.length := by omega
    have hc := List.drop_eq_getElem_cons hla
    have hg := List.getElem?_eq_getElem hla
    have hdl := due_le e (n.drop a)
    rw [List.length_drop] at hdl
    generalize n[a]'hla = c at hc hg
    refine xs_seq (xs_asg (d := dueD e (n.drop a)) (ev_call (x := (e, n.drop a)) (ea_cons (ev_var rfl) (ea_cons (ev_var rfl) (ea_cons (EvF.v (EvF.is (ef_slL (ds := n.map D.int) (EvM.b (EvD.m (ev_var rfl))) (eo_some (ev_var rfl)) eo_none) (by rw [cutD_map, cut_from]))) ea_nil))) ⟨h1, by show (n.drop a).length ≤ 1000; rw [List.length_drop]; omega⟩) (eg_tup (egs_cons eg_name (egs_cons eg_name egs_nil)) rfl) ?_)
    dsimp only
    cases f with
    | zero => omega
    | succ f =>
    by_cases h : ((due e (n.drop a)).2 : Int) < L
    · have hst : findF e L (f + 1) (n.drop a) a sg = findF e L f (n.drop (a + 1)) (a + 1) (sg ++ [c]) := by
        rw [hc] at h ⊢
        exact if_pos h
      refine xs_seq (xs_yes (et_t (ev_Ib (ev_var rfl) (ev_var rfl))) (decide_eq_true h) ?_)
      refine xs_seq (xs_app (d := .int c) rfl (ev_ixl (ds := n.map D.int) (EvM.b (EvD.m (ev_var rfl))) (ev_var rfl) (atI_nat (by rw [List.getElem?_map, hg]; rfl))) (by rw [List.length_map]; omega) ?_)
      refine xs_seq (xs_asg (d := .int ((a + 1 : Nat) : Int)) (EvD.is (ev_addI (ev_var rfl) ev_ci) (by rw [Int.natCast_add]; rfl)) eg_name ?_)
      refine xs_cont ⟨n.length - (a + 1), by omega, a + 1, sg ++ [c], rs, f, some (.sh (.int ((due e (n.drop a)).1 : Int))), some (.sh (.int ((due e (n.drop a)).2 : Int))), rfl, hla, by omega, by rw [List.length_append]; show rs.length + (sg.length + 1) ≤ _; omega, by rw [← hst]; exact e4, ?_⟩
      rw [List.map_append]
      rfl
    · have hst : findF e L (f + 1) (n.drop a) a sg = flushR a sg ++ Rw.take (a : Int) ((due e (n.drop a)).1 : Int) ((due e (n.drop a)).2 : Int) :: findF e L f (n.drop (a + (due e (n.drop a)).2)) (a + (due e (n.drop a)).2) [] := by
        rw [← List.drop_drop]
        rw [hc] at h ⊢
        exact if_neg h
      refine xs_seq (xs_no (et_t (ev_Ib (ev_var rfl) (ev_var rfl))) (decide_eq_false h) ?_)
      have hfl : (flushR a sg).length ≤ sg.length := by
        unfold flushR
        split
        · exact Nat.zero_le _
        · rename_i z
          have := List.length_pos_iff.mpr z
          exact this
      refine xs_cut (fun ρ => ρ = [some (.sh (.lst (e.map .int))), some (.sh (.lst (n.map .int))), some (.sh (.int L)), some (.sh (tabD (endv e))), some (.ol ((rs ++ flushR a sg).map Rw.tl)), some (.ol (([] : List Int).map .int)), some (.sh (.int (a : Int))), some (.sh (.int ((due e (n.drop a)).1 : Int))), some (.sh (.int ((due e (n.drop a)).2 : Int)))]) ?_ ?_
      · by_cases hs : sg = []
        · refine xs_no (hne rfl) (by simp [hs]) ?_
          subst hs
          rw [show flushR a [] = [] from if_pos rfl, List.append_nil]
          rfl
        · refine xs_yes (hne rfl) (by simp [hs]) ?_
          refine xs_seq (xs_app (d := (Rw.put ((a - sg.length : Nat) : Int) sg).tl) rfl (ev_tup (ea_cons ev_cs (ea_cons (EvD.is (ev_I (ev_var rfl) (ev_lenM (f := D.int) (xs := sg) (EvM.b (em_var rfl)))) (by rw [hlen (by omega)])) (ea_cons (ev_tupleL (EvM.b (em_var rfl))) ea_nil))) (Nat.le_of_ble_eq_true rfl)) (by rw [List.length_map]; omega) ?_)
          refine xs_asgF (ef_lst ea_nil (Nat.le_of_ble_eq_true rfl)) ?_
          rw [show flushR a sg = [Rw.put ((a - sg.length : Nat) : Int) sg] from if_neg hs, List.map_append]
          rfl
      · rintro _ rfl
        refine xs_seq (xs_app (d := (Rw.take (a : Int) ((due e (n.drop a)).1 : Int) ((due e (n.drop a)).2 : Int)).tl) rfl (ev_tup (ea_cons ev_cs (ea_cons (ev_var rfl) (ea_cons (ev_var rfl) (ea_cons (ev_var rfl) ea_nil)))) (Nat.le_of_ble_eq_true rfl)) (by rw [List.length_map, List.length_append]; omega) ?_)
        refine xs_asg (d := .int ((a + (due e (n.drop a)).2 : Nat) : Int)) (EvD.is (ev_addI (ev_var rfl) (ev_var rfl)) (by rw [Int.natCast_add])) eg_name ?_
        refine ⟨n.length - (a + (due e (n.drop a)).2), by omega, a + (due e (n.drop a)).2, [], rs ++ flushR a sg ++ [Rw.take (a : Int) ((due e (n.drop a)).1 : Int) ((due e (n.drop a)).2 : Int)], f, some (.sh (.int ((due e (n.drop a)).1 : Int))), some (.sh (.int ((due e (n.drop a)).2 : Int))), rfl, by omega, by omega, ?_, ?_, ?_⟩
        · rw [List.length_append, List.length_append]
          show _ + 1 + 0 ≤ _
          omega
        · rw [hst] at e4
          rw [← e4]
          simp
        · rw [List.map_append (l₂ := [_])]
          rfl
  · have hge : ¬ (a : Int) < n.length := of_decide_eq_false hb
    rw [List.drop_eq_nil_of_le (by omega), findF_nil] at e4
    refine xs_cut (fun ρ => ∃ v5, ρ = [some (.sh (.lst (e.map .int))), some (.sh (.lst (n.map .int))), some (.sh (.int L)), some (.sh (tabD (endv e))), some (.ol ((foundR e n L).map Rw.tl)), v5, some (.sh (.int (a : Int))), v7, v8]) ?_ ?_
    · rw [← e4]
      by_cases hs : sg = []
      · refine xs_no (hne rfl) (by simp [hs]) ?_
        subst hs
        rw [show flushR a [] = [] from if_pos rfl, List.append_nil]
        exact ⟨_, rfl⟩
      · refine xs_yes (hne rfl) (by simp [hs]) ?_
        refine xs_app (d := (Rw.put ((a - sg.length : Nat) : Int) sg).tl) rfl (ev_tup (ea_cons ev_cs (ea_cons (EvD.is (ev_I (ev_var rfl) (ev_lenM (f := D.int) (xs := sg) (EvM.b (em_var rfl)))) (by rw [hlen (by omega)])) (ea_cons (ev_tupleL (EvM.b (em_var rfl))) ea_nil))) (Nat.le_of_ble_eq_true rfl)) (by rw [List.length_map]; omega) ?_
        rw [show flushR a sg = [Rw.put ((a - sg.length : Nat) : Int) sg] from if_neg hs, List.map_append]
        exact ⟨_, rfl⟩
    · rintro _ ⟨v5, rfl⟩
      exact xs_retV (i := 4) rfl rfl
end

/-! ### the law -/
abbrev listOf (m : Int) (d : D) : Prop := ∃ t : List Int, (t.length : Int) ≤ m ∧ d = .lst (t.map .int)
abbrev sp__law_digits {K : PySem.W.Frag} {mg : Str → Option Value} (T : Tx K mg) : Sp := spR K (fun x : Int × Int × Int => 0 < x.2.1 ∧ x.2.1 ≤ 1000 ∧ 0 ≤ x.2.2 ∧ x.2.2 ≤ 1000) (fun x => [.int x.1, .int x.2.1, .int x.2.2]) (fun x d => listOf x.2.2 d)
abbrev sp__law_elder {K : PySem.W.Frag} {mg : Str → Option Value} (T : Tx K mg) : Sp := spR K (fun x : List Int => x.length ≤ 63) (fun x => [.scr (x.map .int)]) (fun _ d => listOf 40 d)
abbrev sp__law_newer {K : PySem.W.Frag} {mg : Str → Option Value} (T : Tx K mg) : Sp := spR K (fun x : List Int × List Int => x.1.length ≤ 63 ∧ x.2.length ≤ 100) (fun x => [.scr (x.1.map .int), .lst (x.2.map .int)]) (fun _ d => listOf 60 d)
abbrev sp__law_alike {K : PySem.W.Frag} {mg : Str → Option Value} (T : Tx K mg) : Sp := spG K (fun x : List Int × Nat × List Int => True) (fun x => [.lst (x.1.map .int), .int (x.2.1 : Int), .lst (x.2.2.map .int)]) (fun x => .int (lcp (x.1.drop x.2.1) x.2.2 : Int))
abbrev sp__law_longest {K : PySem.W.Frag} {mg : Str → Option Value} (T : Tx K mg) : Sp := spG K (fun x : List Int × List Int => x.1.length ≤ 100) (fun x => [.lst (x.1.map .int), .lst (x.2.map .int)]) (fun x => dueD x.1 x.2)
abbrev sp__law_put_is_right {K : PySem.W.Frag} {mg : Str → Option Value} (T : Tx K mg) : Sp := spG K (fun x : Nat × List Int × List Int × List Int × Int => x.2.2.1.length ≤ 100 ∧ x.2.2.2.1.length ≤ 1000 ∧ x.2.1 ≠ [] ∧ x.2.1 = (x.2.2.2.1.drop x.1).take x.2.1.length ∧ (∀ k, k < x.2.1.length → ((due x.2.2.1 (x.2.2.2.1.drop (x.1 + k))).2 : Int) < x.2.2.2.2))
  (fun x => [(Rw.put (x.1 : Int) x.2.1).tl, .lst (x.2.2.1.map .int), .lst (x.2.2.2.1.map .int), .int x.2.2.2.2]) (fun _ => .bl true)
abbrev sp__law_right {K : PySem.W.Frag} {mg : Str → Option Value} (T : Tx K mg) : Sp := spG K (fun x : List Rw × List Int × List Int × Int => x.2.1.length ≤ 100 ∧ x.2.2.1.length ≤ 1000 ∧ Gd x.2.1 x.2.2.1 x.2.2.2 x.1 0 false)
  (fun x => [.lst (x.1.map Rw.tl), .lst (x.2.1.map .int), .lst (x.2.2.1.map .int), .int x.2.2.2]) (fun _ => .bl true)
theorem ft_tl (r : Rw) : Ft 2 r.tl := by
  cases r with
  | take t s n =>
    exact Ft.up (n := 1) (ft_tup fun e he => by
      simp only [List.mem_cons, List.not_mem_nil, or_false] at he
      rcases he with rfl | rfl | rfl | rfl
      · exact ft_str (by decide +kernel)
      · exact ft_int _
      · exact ft_int _
      · exact ft_int _) (by decide)
  | put t ss =>
    exact (ft_tup fun e he => by
      simp only [List.mem_cons, List.not_mem_nil, or_false] at he
      rcases he with rfl | rfl | rfl
      · exact (ft_str (by decide +kernel)).up (by decide)
      · exact (ft_int _).up (by decide)
      · exact ft_tints ss)
theorem fit_tls (rs : List Rw) : (D.lst (rs.map Rw.tl)).fit = true := Ft.fit (n := 3) (ft_lst fun d hd => by
  obtain ⟨r, _, rfl⟩ := List.mem_map.mp hd
  exact ft_tl r) (by decide)
theorem due_fit (t p : List Int) : (dueD t p).fit = true := Ft.fit (ft_tints [((due t p).1 : Int), ((due t p).2 : Int)]) (by decide)
section
variable {P : Program} {w : World} {K : PySem.W.Frag} {mg : Str → Option Value} {base : Heap}
theorem ok__law_digits (T : Tx K mg) : FnOk P w K mg base CX0 1 T.a__law_digits T.d__law_digits ["_law_cell", "_law_base", "_law_many"] (sp__law_digits T) := by
  refine fn_r T.F__law_digits sc__law_digits (fun _ => rfl) (fun cdv A outer s H E hr =>
      (pss_cons (ps_set (i := 3) sc__law_digits.nd rfl (by first | exact Or.inl rfl | exact Or.inr rfl) (pe_lst pa_nil))
      (pss_cons (ps_for PassesOwn.never rfl (pi_range1 (by rfl) T.z_range (pa_cons (pv 2) pa_nil)) (pg_name (i := 4) sc__law_digits.nd rfl (by first | exact Or.inl rfl | exact Or.inr rfl)) (pss_cons (ps_expr (bmK (K := K) rfl PySem.F.plainAttrs_list PySem.F.slot_list_append PySem.F.type_list_append mt_append (pv 3) (pa_cons (pe_op op_mod (pv 0) (pv 1)) pa_nil)))
      (pss_one (ps_set (i := 0) sc__law_digits.nd rfl (by first | exact Or.inl rfl | exact Or.inr rfl) (pe_op op_fdivW (pv 0) (pv 1))))))
      (pss_one (ps_ret (pv 3)))))) (fun x hx => ?_)
  obtain ⟨c, b, n⟩ := x
  obtain ⟨h1, h2, h3, h4⟩ := hx
  dsimp only at h1 h2 h3 h4 ⊢
  refine xs_seq (xs_asgF (ef_lst ea_nil (Nat.le_of_ble_eq_true rfl)) ?_)
  dsimp only
  refine xs_seq (xs_for (ei_r1 (n := n) (ea_cons (ev_var rfl) ea_nil) (by omega)) (fun k ρ => ∃ (c' : Int) (t : List Int) (v4 : Option SV), t.length = k ∧ ρ = [some (.sh (.int c')), some (.sh (.int b)), some (.sh (.int n)), some (.ol (t.map .int)), v4]) ⟨c, [], _, rfl, rfl⟩ ?_ ?_)
  · rintro k d ρ hk ⟨c', t, v4, ht, rfl⟩
    obtain ⟨hk1, rfl⟩ := rng_get hk
    refine ⟨_, eg_name, ?_⟩
    refine xs_seq (xs_app (d := .int (c' % b)) rfl (ev_IC (i := c') (j := b) (ev_var rfl) (ev_var rfl) h1) (by rw [List.length_map]; omega) ?_)
    refine xs_asg (d := .int (c' / b)) (ev_IC (i := c') (j := b) (ev_var rfl) (ev_var rfl) (divW_c (by omega) (by omega))) eg_name ⟨c' / b, t ++ [c' % b], some (.sh (.int (0 + (k : Int)))), by rw [List.length_append]; show t.length + 1 = _; omega, ?_⟩
    rw [List.map_append]
    rfl
  rintro ρ ⟨c', t, v4, ht, rfl⟩
  rw [show (rng 0 n.toNat).length = n.toNat by unfold rng; rw [List.length_map, List.length_range]] at ht
  exact xs_fz 3 rfl (xs_ret (ev_var rfl) ⟨t, by omega, rfl⟩)
theorem ok__law_elder (T : Tx K mg) : FnOk P w K mg base CX0 2 T.a__law_elder T.d__law_elder ["_law_script"] (sp__law_elder T) := by
  refine fn_r T.F__law_elder sc__law_elder (fun _ => rfl) (fun cdv A outer s H E hr =>
      (pss_cons (ps_set (i := 1) sc__law_elder.nd rfl (by first | exact Or.inl rfl | exact Or.inr rfl) (pe_call (ok__law_cell_at T) hr (by rfl) T.g__law_cell_at T.F__law_cell_at.kp T.b__law_cell_at .nil pass0 (pa_cons (pv 0) (pa_cons pe_int pa_nil))))
      (pss_cons (ps_if (PW.pt (pw_and (pt_cmpR (eqK (K := K) rfl hr.units) (pe_op op_mod (pv 1) pe_int) pe_int (nomark _)) (pw_and1 (pt_cmpR (eqK (K := K) rfl hr.units) (pe_op op_mod (pe_op op_fdivW (pv 1) pe_int) pe_int) pe_int (nomark _))))) (pss_one (ps_ret (pe_call (ok__law_digits T) hr (by rfl) T.g__law_digits T.F__law_digits.kp T.b__law_digits .nil pass0 (pa_cons (pe_call (ok__law_cell_at T) hr (by rfl) T.g__law_cell_at T.F__law_cell_at.kp T.b__law_cell_at .nil pass0 (pa_cons (pv 0) (pa_cons pe_int pa_nil))) (pa_cons (pe_op (addK (K := K) rfl) pe_int (pe_op op_mod (pe_op op_fdivW (pv 1) pe_int) pe_int)) (pa_cons (pe_op op_mod (pe_op op_fdivW (pv 1) pe_int) pe_int) pa_nil)))))) pss_nil)
      (pss_cons (ps_set (i := 2) sc__law_elder.nd rfl (by first | exact Or.inl rfl | exact Or.inr rfl) (pe_lst pa_nil))
      (pss_cons (ps_for PassesOwn.never rfl (pi_range1 (by rfl) T.z_range (pa_cons (pe_op op_mod (pe_op op_fdivW (pv 1) pe_int) pe_int) pa_nil)) (pg_name (i := 3) sc__law_elder.nd rfl (by first | exact Or.inl rfl | exact Or.inr rfl)) (pss_cons (ps_set (i := 4) sc__law_elder.nd rfl (by first | exact Or.inl rfl | exact Or.inr rfl) (pe_call (ok__law_draw T) hr (by rfl) T.g__law_draw T.F__law_draw.kp T.b__law_draw .nil pass0 (pa_cons (pe_call (ok__law_cell_at T) hr (by rfl) T.g__law_cell_at T.F__law_cell_at.kp T.b__law_cell_at .nil pass0 (pa_cons (pv 0) (pa_cons (pe_op (addK (K := K) rfl) pe_int (pe_op op_mod (pv 3) pe_int)) pa_nil))) (pa_cons (pv 3) pa_nil))))
      (pss_one (ps_if (pt_cmpR (eqK (K := K) rfl hr.units) (pe_op op_mod (pv 1) pe_int) pe_int (nomark _)) (pss_one (ps_expr (bmK (K := K) rfl PySem.F.plainAttrs_list PySem.F.slot_list_append PySem.F.type_list_append mt_append (pv 2) (pa_cons (pe_op op_mod (pv 4) (pe_op (addK (K := K) rfl) pe_int (pe_op op_mod (pe_op op_fdivW (pv 1) pe_int) pe_int))) pa_nil)))) (pss_one (ps_if (pt_cmpR (eqK (K := K) rfl hr.units) (pe_op op_mod (pv 1) pe_int) pe_int (nomark _)) (pss_one (ps_expr (bmK (K := K) rfl PySem.F.plainAttrs_list PySem.F.slot_list_append PySem.F.type_list_append mt_append (pv 2) (pa_cons (pe_op (addK (K := K) rfl) (pe_op op_sub (pe_op op_mod (pe_op (addK (K := K) rfl) (pe_call (ok__law_cell_at T) hr (by rfl) T.g__law_cell_at T.F__law_cell_at.kp T.b__law_cell_at .nil pass0 (pa_cons (pv 0) (pa_cons (pe_op (addK (K := K) rfl) pe_int (pe_op op_mod (pv 3) pe_int)) pa_nil))) (pe_op op_mod (pv 3) pe_int)) (pe_op op_sub (pe_op op_mulA pe_int (pe_op op_pow pe_int pe_int)) pe_int)) (pe_op op_pow pe_int pe_int)) pe_int) pa_nil)))) (pss_one (ps_expr (bmK (K := K) rfl PySem.F.plainAttrs_list PySem.F.slot_list_append PySem.F.type_list_append mt_append (pv 2) (pa_cons (pe_op (addK (K := K) rfl) (pe_op op_mulA (pe_op op_fdivW (pv 4) pe_int) pe_int) (pv 3)) pa_nil))))))))))
      (pss_one (ps_ret (pv 2)))))))) (fun x hx => ?_)
  have hx : x.length ≤ 63 := hx
  refine xs_seq (xs_asg (d := .int (cellAt x 0)) (ev_cell_at (ns := x) (k := 0) (ev_var rfl) ev_ci (by decide)) eg_name ?_)
  dsimp only
  generalize cellAt x 0 = c
  have hc14 : ∀ {ρ : DL.Env} {E : XK}, ρ[0]? = some (some (.sh (.scr (x.map .int)))) → EvD K (tCall (sp__law_cell_at T) [] E (tCons (tVar 0) (tCons (tC (.int 14)) tNil))) ρ (.int (cellAt x 14)) := fun h => ev_cell_at (ns := x) (k := 14) (ev_var h) ev_ci (by decide)
  generalize cellAt x 14 = c14 at hc14
  by_cases h0 : c % 3 = 0 ∧ c / 492 % 2 = 1
  · obtain ⟨z1, z2⟩ := h0
    refine xs_seq (xs_yes (b := true) (et_andT (EvT.is (et_t (ev_eqI (ev_IC (i := c) (j := 3) (ev_var rfl) ev_ci (by decide)) ev_ci)) (decide_eq_true z1)) (EvT.is (et_t (ev_eqI (ev_IC (i := c / 492) (j := 2) (ev_IC (i := c) (j := 492) (ev_var rfl) ev_ci (divW_c (by decide) (by decide))) ev_ci (by decide)) ev_ci)) (decide_eq_true z2))) rfl ?_)
    refine xs_retR (x := (c14, 1 + c / 123 % 4, c / 3 % 41)) (ea_cons (hc14 rfl) (ea_cons (by walk_at "dl ev") (ea_cons (by walk_at "dl ev") ea_nil))) ⟨by show 0 < 1 + c / 123 % 4; omega, by show 1 + c / 123 % 4 ≤ 1000; omega, by show 0 ≤ c / 3 % 41; omega, by show c / 3 % 41 ≤ 1000; omega⟩ fun d ⟨t, q1, q2⟩ => ⟨t, Int.le_trans q1 (by show c / 3 % 41 ≤ 40; omega), q2⟩
  have hm : 0 ≤ c / 3 % 41 ∧ c / 3 % 41 ≤ 40 := by omega
  have hno : ∀ {ts us : TS}, True := trivial
  refine xs_cut (fun ρ => ρ = [some (.sh (.scr (x.map .int))), some (.sh (.int c)), none, none, none]) ?_ ?_
  · by_cases z1 : c % 3 = 0
    · exact xs_no (b := false) (et_andT (EvT.is (et_t (ev_eqI (ev_IC (i := c) (j := 3) (ev_var rfl) ev_ci (by decide)) ev_ci)) (decide_eq_true z1)) (EvT.is (et_t (ev_eqI (ev_IC (i := c / 492) (j := 2) (ev_IC (i := c) (j := 492) (ev_var rfl) ev_ci (divW_c (by decide) (by decide))) ev_ci (by decide)) ev_ci)) (decide_eq_false fun z => h0 ⟨z1, z⟩))) rfl rfl
    · exact xs_no (b := false) (et_andF (EvT.is (et_t (ev_eqI (ev_IC (i := c) (j := 3) (ev_var rfl) ev_ci (by decide)) ev_ci)) (decide_eq_false z1))) rfl rfl
  rintro _ rfl
  refine xs_seq (xs_asgF (ef_lst ea_nil (Nat.le_of_ble_eq_true rfl)) ?_)
  dsimp only
  refine xs_seq (xs_for (ei_r1 (n := c / 3 % 41) (ea_cons (by walk_at "dl ev") ea_nil) (by omega)) (fun k ρ => ∃ (t : List Int) (v3 v4 : Option SV), t.length = k ∧ ρ = [some (.sh (.scr (x.map .int))), some (.sh (.int c)), some (.ol (t.map .int)), v3, v4]) ⟨[], _, _, rfl, rfl⟩ ?_ ?_)
  · rintro k d ρ hk ⟨t, v3, v4, ht, rfl⟩
    obtain ⟨hk1, rfl⟩ := rng_get hk
    rw [Int.zero_add]
    refine ⟨_, eg_name, ?_⟩
    have hl : (t.map D.int).length < 100000 := by rw [List.length_map]; omega
    refine xs_seq (xs_asg (d := .int (draw (cellAt x (14 + (k : Int) % 48)) (k : Int))) (ev_draw (ev_cell_at (ns := x) (k := 14 + (k : Int) % 48) (ev_var rfl) (by walk_at "dl ev") (by omega)) (ev_var rfl) (by omega)) eg_name ?_)
    dsimp only
    generalize draw (cellAt x (14 + (k : Int) % 48)) (k : Int) = dr
    have key : ∀ s : Int, ∃ (t' : List Int) (v3 v4 : Option SV), t'.length = k + 1 ∧ ([some (.sh (.scr (x.map .int))), some (.sh (.int c)), some (.ol (t.map .int ++ [.int s])), some (.sh (.int (k : Int))), some (.sh (.int dr))] : DL.Env) = [some (.sh (.scr (x.map .int))), some (.sh (.int c)), some (.ol (t'.map .int)), v3, v4] := fun s => ⟨t ++ [s], some (.sh (.int (k : Int))), some (.sh (.int dr)), by rw [List.length_append]; show t.length + 1 = _; omega, by rw [List.map_append]; rfl⟩
    by_cases z0 : c % 3 = 0
    · refine xs_yes (by walk_at "dl ev") (decide_eq_true z0) ?_
      exact xs_app (d := .int (dr % (1 + c / 123 % 4))) rfl (by walk_at "dl ev") hl (key _)
    refine xs_no2 (by walk_at "dl ev") (decide_eq_false z0) ?_
    by_cases z1 : c % 3 = 1
    · refine xs_yes (by walk_at "dl ev") (decide_eq_true z1) ?_
      exact xs_app rfl (EvD.is (ev_addI (ev_I (ev_IC (i := cellAt x (14 + (k : Int) % 7) + (k : Int) % 5) (j := 2 * 10 ^ 60 - 1) (ev_addI (ev_cell_at (ns := x) (k := 14 + (k : Int) % 7) (ev_var rfl) (by walk_at "dl ev") (by omega)) (by walk_at "dl ev")) (EvD.is (by walk_at "dl ev") (by rfl)) (by decide)) (EvD.is (e := .int (10 ^ 60)) (by walk_at "dl ev") (by rfl))) ev_ci) (by rfl)) hl (key _)
    refine xs_no2 (by walk_at "dl ev") (decide_eq_false z1) ?_
    exact xs_app rfl (by walk_at "dl ev") hl (key _)
  rintro ρ ⟨t, v3, v4, ht, rfl⟩
  rw [show (rng 0 (c / 3 % 41).toNat).length = (c / 3 % 41).toNat by unfold rng; rw [List.length_map, List.length_range]] at ht
  exact xs_fz 2 rfl (xs_ret (ev_var rfl) ⟨t, by omega, rfl⟩)
theorem ok__law_newer (T : Tx K mg) : FnOk P w K mg base CX0 2 T.a__law_newer T.d__law_newer ["_law_script", "_law_elder_here"] (sp__law_newer T) := by
  refine fn_r T.F__law_newer sc__law_newer (fun _ => rfl) (fun cdv A outer s H E hr =>
      (pss_cons (ps_set (i := 2) sc__law_newer.nd rfl (by first | exact Or.inl rfl | exact Or.inr rfl) (pe_op op_fdivW (pe_call (ok__law_cell_at T) hr (by rfl) T.g__law_cell_at T.F__law_cell_at.kp T.b__law_cell_at .nil pass0 (pa_cons (pv 0) (pa_cons pe_int pa_nil))) pe_int))
      (pss_cons (ps_if (pt_cmpR (eqK (K := K) rfl hr.units) (pe_op op_mod (pv 2) pe_int) pe_int (nomark _)) (pss_one (ps_ret (pe_call (ok__law_digits T) hr (by rfl) T.g__law_digits T.F__law_digits.kp T.b__law_digits .nil pass0 (pa_cons (pe_call (ok__law_cell_at T) hr (by rfl) T.g__law_cell_at T.F__law_cell_at.kp T.b__law_cell_at .nil pass0 (pa_cons (pv 0) (pa_cons pe_int pa_nil))) (pa_cons (pe_op (addK (K := K) rfl) pe_int (pe_op op_mod (pe_op op_fdivW (pv 2) pe_int) pe_int)) (pa_cons (pe_op op_mod (pe_op op_fdivW (pv 2) pe_int) pe_int) pa_nil)))))) pss_nil)
      (pss_cons (ps_set (i := 3) sc__law_newer.nd rfl (by first | exact Or.inl rfl | exact Or.inr rfl) (pe_lst pa_nil))
      (pss_cons (ps_for PassesOwn.never rfl (pi_range1 (by rfl) T.z_range (pa_cons (pe_callB (lenK (K := K) rfl) (by rfl) T.z_len (by decide +kernel) (pa_cons (pe_slice (slK (K := K) rfl) (pv 0) (po_some pe_int) (po_some pe_int)) pa_nil)) pa_nil)) (pg_name (i := 4) sc__law_newer.nd rfl (by first | exact Or.inl rfl | exact Or.inr rfl)) (pss_cons (ps_set (i := 5) sc__law_newer.nd rfl (by first | exact Or.inl rfl | exact Or.inr rfl) (pe_call (ok__law_draw T) hr (by rfl) T.g__law_draw T.F__law_draw.kp T.b__law_draw .nil pass0 (pa_cons (pe_ix (ixK (K := K) rfl) (pv 0) (pe_op (addK (K := K) rfl) pe_int (pv 4)) (fun _ _ => rfl)) (pa_cons (pv 4) pa_nil))))
      (pss_cons (ps_set (i := 6) sc__law_newer.nd rfl (by first | exact Or.inl rfl | exact Or.inr rfl) (pe_op op_mod (pv 5) (pe_op (addK (K := K) rfl) (pe_callB (lenK (K := K) rfl) (by rfl) T.z_len (by decide +kernel) (pa_cons (pv 1) pa_nil)) pe_int)))
      (pss_cons (ps_set (i := 7) sc__law_newer.nd rfl (by first | exact Or.inl rfl | exact Or.inr rfl) (pe_op (addK (K := K) rfl) pe_int (pe_op op_mod (pe_op op_fdivW (pv 5) pe_int) pe_int)))
      (pss_one (ps_if (pt_cmpR op_gt (pe_op op_mod (pe_op op_fdivW (pv 5) pe_int) pe_int) pe_int (nomark _)) (pss_one (ps_set (i := 3) sc__law_newer.nd rfl (by first | exact Or.inl rfl | exact Or.inr rfl) (pe_op (addK (K := K) rfl) (pv 3) (pe_slice (slK (K := K) rfl) (pv 1) (po_some (pv 6)) (po_some (pe_op (addK (K := K) rfl) (pv 6) (pv 7))))))) (pss_one (ps_set (i := 3) sc__law_newer.nd rfl (by first | exact Or.inl rfl | exact Or.inr rfl) (pe_op (addK (K := K) rfl) (pv 3) (pe_op op_mulA (pe_lst (pa_cons (pe_op op_sub (pe_op op_mod (pe_op op_fdivW (pv 5) pe_int) pe_int) pe_int) pa_nil)) (pe_op op_mod (pe_op op_fdivW (pv 5) pe_int) pe_int)))))))))))
      (pss_one (ps_ret (pe_slice (slK (K := K) rfl) (pv 3) po_none (po_some pe_int))))))))) (fun x hx => ?_)
  obtain ⟨x, e⟩ := x
  obtain ⟨h1, h2⟩ := hx
  dsimp only at h1 h2 ⊢
  refine xs_seq (xs_asg (d := .int (cellAt x 1 / 24)) (ev_IC (i := cellAt x 1) (j := 24) (ev_cell_at (ns := x) (k := 1) (ev_var rfl) ev_ci (by decide)) ev_ci (divW_c (by decide) (by decide))) eg_name ?_)
  dsimp only
  generalize cellAt x 1 / 24 = c
  by_cases h0 : c % 4 = 2
  · refine xs_seq (xs_yes (by walk_at "dl ev") (decide_eq_true h0) ?_)
    exact xs_retR (x := (cellAt x 2, 1 + c / 4 % 5, c / 20 % 61)) (ea_cons (ev_cell_at (ns := x) (k := 2) (ev_var rfl) ev_ci (by decide)) (ea_cons (by walk_at "dl ev") (ea_cons (by walk_at "dl ev") ea_nil))) ⟨by show 0 < 1 + c / 4 % 5; omega, by show 1 + c / 4 % 5 ≤ 1000; omega, by show 0 ≤ c / 20 % 61; omega, by show c / 20 % 61 ≤ 1000; omega⟩ fun d ⟨t, q1, q2⟩ => ⟨t, Int.le_trans q1 (by show c / 20 % 61 ≤ 60; omega), q2⟩
  refine xs_seq (xs_no (by walk_at "dl ev") (decide_eq_false h0) ?_)
  refine xs_seq (xs_asgF (ef_lst ea_nil (Nat.le_of_ble_eq_true rfl)) ?_)
  dsimp only
  have hT : ∀ {ρ : DL.Env}, ρ[1]? = some (some (.sh (.lst (e.map .int)))) → EvD K (tCB (rLenA K) (tCons (tVar 1) tNil)) ρ (.int (e.length : Int)) := fun h => ev_lenM (f := D.int) (xs := e) (EvM.b (EvD.m (ev_var h)))
  have hcut : cutD (x.map D.int) (some 2) (some 14) = ((x.take 14).drop 2).map D.int := by
    show cutD (x.map D.int) (some ((2 : Nat) : Int)) (some ((14 : Nat) : Int)) = _
    rw [cutD_map, cut_mid]
  have hcl : ((x.take 14).drop 2).length + 2 ≤ x.length ∨ ((x.take 14).drop 2).length = 0 := by
    rw [List.length_drop, List.length_take]
    omega
  have hcl2 : ((x.take 14).drop 2).length ≤ 12 := by
    rw [List.length_drop, List.length_take]
    omega
  generalize (x.take 14).drop 2 = y at hcut hcl hcl2
  refine xs_seq (xs_for (ei_r1 (n := (y.length : Int)) (ea_cons (ev_lenM (f := D.int) (xs := y) (EvF.b (EvF.is (ef_slL (ds := x.map D.int) (EvD.s (ev_var rfl)) (eo_some ev_ci) (eo_some ev_ci)) hcut))) ea_nil) (by omega)) (fun k ρ => ∃ (t : List Int) (v4 v5 v6 v7 : Option SV), t.length ≤ 12 * k ∧ ρ = [some (.sh (.scr (x.map .int))), some (.sh (.lst (e.map .int))), some (.sh (.int c)), some (.ol (t.map .int)), v4, v5, v6, v7]) ⟨[], _, _, _, _, Nat.le_refl _, rfl⟩ ?_ ?_)
  · rintro k d ρ hk ⟨t, v4, v5, v6, v7, ht, rfl⟩
    obtain ⟨hk1, rfl⟩ := rng_get hk
    rw [Int.zero_add]
    refine ⟨_, eg_name, ?_⟩
    refine xs_seq (xs_asg (d := .int (draw (x.getD (2 + (k : Int)).toNat 0) (k : Int))) (ev_draw (ev_ixl (ds := x.map D.int) (EvD.s (ev_var rfl)) (ev_addI ev_ci (ev_var rfl)) (atI_int (i := 2 + (k : Int)) (by omega) (by omega))) (ev_var rfl) (by omega)) eg_name ?_)
    dsimp only
    generalize draw (x.getD (2 + (k : Int)).toNat 0) (k : Int) = dr
    obtain ⟨a, ha⟩ := Int.eq_ofNat_of_zero_le (show 0 ≤ dr % ((e.length : Int) + 1) from Int.emod_nonneg _ (by omega))
    obtain ⟨m, hm⟩ := Int.eq_ofNat_of_zero_le (show 0 ≤ 1 + dr / 64 % 12 by omega)
    have hm12 : m ≤ 12 := by omega
    refine xs_seq (xs_asg (d := .int (a : Int)) (EvD.is (ev_IC (i := dr) (j := (e.length : Int) + 1) (ev_var rfl) (ev_addI (hT rfl) ev_ci) (by omega)) (by rw [ha])) eg_name ?_)
    refine xs_seq (xs_asg (d := .int (m : Int)) (EvD.is (d := .int (1 + dr / 64 % 12)) (by walk_at "dl ev") (by rw [hm])) eg_name ?_)
    dsimp only
    by_cases z0 : 0 < dr / 1024 % 3
    · refine xs_yes (et_t (ev_Ib (ev_IC (i := dr / 1024) (j := 3) (ev_IC (i := dr) (j := 1024) (ev_var rfl) ev_ci (divW_c (by decide) (by decide))) ev_ci (by decide)) ev_ci)) (decide_eq_true z0) ?_
      have hl : ((e.drop a).take m).length ≤ 12 := by rw [List.length_take]; omega
      refine xs_asgF (ef_addL (em_var rfl) (EvF.m (EvF.is (ef_slL (ds := e.map D.int) (EvM.b (EvD.m (ev_var rfl))) (eo_some (ev_var rfl)) (eo_some (ev_addI (ev_var rfl) (ev_var rfl)))) (cut_i a m))) (by rw [List.length_map, List.length_map]; omega)) ⟨t ++ (e.drop a).take m, some (.sh (.int (k : Int))), some (.sh (.int dr)), some (.sh (.int (a : Int))), some (.sh (.int (m : Int))), by rw [List.length_append]; omega, ?_⟩
      rw [List.map_append]
      rfl
    · refine xs_no2 (et_t (ev_Ib (ev_IC (i := dr / 1024) (j := 3) (ev_IC (i := dr) (j := 1024) (ev_var rfl) ev_ci (divW_c (by decide) (by decide))) ev_ci (by decide)) ev_ci)) (decide_eq_false z0) ?_
      have hq : 0 ≤ dr / 32768 % 4 ∧ dr / 32768 % 4 ≤ 3 := by omega
      refine xs_asgF (ef_addL (em_var rfl) (EvF.m (EvF.is (es := (List.replicate (dr / 32768 % 4).toNat (dr / 4096 % 5 - 2)).map D.int) (ef_mulL (ds := [D.int (dr / 4096 % 5 - 2)]) (k := dr / 32768 % 4) (EvF.m (ef_lst (ea_cons (ev_I (ev_IC (i := dr / 4096) (j := 5) (ev_IC (i := dr) (j := 4096) (ev_var rfl) ev_ci (divW_c (by decide) (by decide))) ev_ci (by decide)) ev_ci) ea_nil) (Nat.le_of_ble_eq_true rfl))) (ev_IC (i := dr / 32768) (j := 4) (ev_IC (i := dr) (j := 32768) (ev_var rfl) ev_ci (divW_c (by decide) (by decide))) ev_ci (by decide)) (by omega) (by omega) (by show 1 * _ ≤ _; omega)) (by rw [List.flatten_replicate_singleton, List.map_replicate]))) (by rw [List.length_map, List.length_map, List.length_replicate]; omega)) ⟨t ++ List.replicate (dr / 32768 % 4).toNat (dr / 4096 % 5 - 2), some (.sh (.int (k : Int))), some (.sh (.int dr)), some (.sh (.int (a : Int))), some (.sh (.int (m : Int))), by rw [List.length_append, List.length_replicate]; omega, ?_⟩
      rw [List.map_append]
      rfl
  rintro ρ ⟨t, v4, v5, v6, v7, ht, rfl⟩
  refine xs_ret (EvF.v (EvF.is (es := (t.take 60).map D.int) (ef_slL (ds := t.map D.int) (EvM.b (em_var rfl)) eo_none (eo_some ev_ci)) ?_)) ⟨t.take 60, by rw [List.length_take]; omega, rfl⟩
  show cutD (t.map D.int) none (some ((60 : Nat) : Int)) = _
  rw [cutD_map, cut_to]
theorem ok__law_alike (T : Tx K mg) : FnOk P w K mg base CX0 1 T.a__law_alike T.d__law_alike ["_law_text", "_law_at", "_law_part"] (sp__law_alike T) := by
  refine fn_r T.F__law_alike sc__law_alike (fun _ => rfl) (fun cdv A outer s H E hr =>
      (pss_cons (ps_set (i := 3) sc__law_alike.nd rfl (by first | exact Or.inl rfl | exact Or.inr rfl) pe_int)
      (pss_cons (ps_while PassesOwn.never (PW.pt (pw_and (pt_cmpR op_lt (pv 3) (pe_callB (lenK (K := K) rfl) (by rfl) T.z_len (by decide +kernel) (pa_cons (pv 2) pa_nil)) (nomark _)) (pw_and (pt_cmpR op_lt (pe_op (addK (K := K) rfl) (pv 1) (pv 3)) (pe_callB (lenK (K := K) rfl) (by rfl) T.z_len (by decide +kernel) (pa_cons (pv 0) pa_nil)) (nomark _)) (pw_and1 (pt_cmpR (eqK (K := K) rfl hr.units) (pe_ix (ixK (K := K) rfl) (pv 0) (pe_op (addK (K := K) rfl) (pv 1) (pv 3)) (fun _ _ => rfl)) (pe_ix (ixK (K := K) rfl) (pv 2) (pv 3) (fun _ _ => rfl)) (nomark _)))))) (pss_one (ps_set (i := 3) sc__law_alike.nd rfl (by first | exact Or.inl rfl | exact Or.inr rfl) (pe_op (addK (K := K) rfl) (pv 3) pe_int))))
      (pss_one (ps_ret (pv 3)))))) (fun x hx => ?_)
  obtain ⟨t, at_, p⟩ := x
  dsimp only
  have hlt := lcp_le_r (t.drop at_) p
  have hll := lcp_le_l (t.drop at_) p
  rw [List.length_drop] at hll
  refine xs_seq (xs_asg (d := .int ((0 : Nat) : Int)) ev_ci eg_name ?_)
  dsimp only
  have hP : ∀ {ρ : DL.Env}, ρ[2]? = some (some (.sh (.lst (p.map .int)))) → EvD K (tCB (rLenA K) (tCons (tVar 2) tNil)) ρ (.int (p.length : Int)) := fun h => ev_lenM (f := D.int) (xs := p) (EvM.b (EvD.m (ev_var h)))
  have hT : ∀ {ρ : DL.Env}, ρ[0]? = some (some (.sh (.lst (t.map .int)))) → EvD K (tCB (rLenA K) (tCons (tVar 0) tNil)) ρ (.int (t.length : Int)) := fun h => ev_lenM (f := D.int) (xs := t) (EvM.b (EvD.m (ev_var h)))
  refine xs_seq (xs_while (fun m ρ => ∃ many : Nat, m = p.length - many ∧ many ≤ p.length ∧ lcp (t.drop at_) p = many + lcp (t.drop (at_ + many)) (p.drop many) ∧ ρ = [some (.sh (.lst (t.map .int))), some (.sh (.int (at_ : Int))), some (.sh (.lst (p.map .int))), some (.sh (.int (many : Int)))]) p.length ⟨0, by omega, Nat.zero_le _, by rw [List.drop_zero, Nat.zero_add, Nat.add_zero], rfl⟩ ?_)
  rintro m ρ ⟨many, rfl, e1, e2, rfl⟩
  have hS : ∀ {ρ : DL.Env}, ρ[1]? = some (some (.sh (.int (at_ : Int)))) → ρ[3]? = some (some (.sh (.int (many : Int)))) → EvD K (tOp (rAddA K) (tVar 1) (tVar 3)) ρ (.int ((at_ + many : Nat) : Int)) := fun q1 q3 => EvD.is (ev_addI (ev_var q1) (ev_var q3)) (by rw [Int.natCast_add])
  have done : lcp (t.drop (at_ + many)) (p.drop many) = 0 → (lcp (t.drop at_) p : Int) = (many : Int) := fun h => by rw [e2, h, Nat.add_zero]
  by_cases h1 : many < p.length
  · by_cases h2 : at_ + many < t.length
    · have hst := lcp_step h1 h2
      by_cases h3 : t.getD (at_ + many) 0 = p.getD many 0
      · rw [if_pos h3] at hst
        refine ⟨true, et_andT (EvT.is (et_t (ev_Ib (ev_var rfl) (hP rfl))) (decide_eq_true (by omega))) (et_andT (EvT.is (et_t (ev_Ib (hS rfl rfl) (hT rfl))) (decide_eq_true (by omega))) (EvT.is (et_t (ev_eqI (ev_ixl (ds := t.map D.int) (EvM.b (EvD.m (ev_var rfl))) (hS rfl rfl) (atI_int (by omega) (by omega))) (ev_ixl (ds := p.map D.int) (EvM.b (EvD.m (ev_var rfl))) (ev_var rfl) (atI_int (by omega) (by omega))))) (decide_eq_true h3))), fun _ => ?_, fun z => by cases z⟩
        refine xs_asg (d := .int ((many + 1 : Nat) : Int)) (EvD.is (ev_addI (ev_var rfl) ev_ci) (by rw [Int.natCast_add]; rfl)) eg_name ?_
        exact ⟨p.length - (many + 1), by omega, many + 1, rfl, h1, by rw [e2, hst]; omega, rfl⟩
      · rw [if_neg h3] at hst
        refine ⟨false, et_andT (EvT.is (et_t (ev_Ib (ev_var rfl) (hP rfl))) (decide_eq_true (by omega))) (et_andT (EvT.is (et_t (ev_Ib (hS rfl rfl) (hT rfl))) (decide_eq_true (by omega))) (EvT.is (et_t (ev_eqI (ev_ixl (ds := t.map D.int) (EvM.b (EvD.m (ev_var rfl))) (hS rfl rfl) (atI_int (by omega) (by omega))) (ev_ixl (ds := p.map D.int) (EvM.b (EvD.m (ev_var rfl))) (ev_var rfl) (atI_int (by omega) (by omega))))) (decide_eq_false h3))), (fun z => by cases z), fun _ => ?_⟩
        exact xs_ret (ev_var rfl) (by rw [done hst])
    · refine ⟨false, et_andT (EvT.is (et_t (ev_Ib (ev_var rfl) (hP rfl))) (decide_eq_true (by omega))) (et_andF (EvT.is (et_t (ev_Ib (hS rfl rfl) (hT rfl))) (decide_eq_false (by omega)))), (fun z => by cases z), fun _ => ?_⟩
      exact xs_ret (ev_var rfl) (by rw [done (by rw [List.drop_eq_nil_of_le (by omega)]; rfl)])
  · refine ⟨false, et_andF (EvT.is (et_t (ev_Ib (ev_var rfl) (hP rfl))) (decide_eq_false (by omega))), (fun z => by cases z), fun _ => ?_⟩
    exact xs_ret (ev_var rfl) (by rw [done (by rw [List.drop_eq_nil_of_le (show p.length ≤ many by omega), lcp_nil])])

theorem ok__law_longest (T : Tx K mg) : FnOk P w K mg base CX0 2 T.a__law_longest T.d__law_longest ["_law_elder_here", "_law_part"] (sp__law_longest T) := by
  refine fn_r T.F__law_longest sc__law_longest (fun _ => rfl) (fun cdv A outer s H E hr =>
      (pss_cons (ps_set (i := 2) sc__law_longest.nd rfl (by first | exact Or.inl rfl | exact Or.inr rfl) (pe_tup (pa_cons pe_int (pa_cons pe_int pa_nil))))
      (pss_cons (ps_for PassesOwn.never rfl (pi_range1 (by rfl) T.z_range (pa_cons (pe_callB (lenK (K := K) rfl) (by rfl) T.z_len (by decide +kernel) (pa_cons (pv 0) pa_nil)) pa_nil)) (pg_name (i := 3) sc__law_longest.nd rfl (by first | exact Or.inl rfl | exact Or.inr rfl)) (pss_cons (ps_set (i := 4) sc__law_longest.nd rfl (by first | exact Or.inl rfl | exact Or.inr rfl) (pe_call (ok__law_alike T) hr (by rfl) T.g__law_alike T.F__law_alike.kp T.b__law_alike .nil pass0 (pa_cons (pv 0) (pa_cons (pv 3) (pa_cons (pv 1) pa_nil)))))
      (pss_one (ps_if (pt_cmpR op_gt (pv 4) (pe_ix (ixK (K := K) rfl) (pv 2) pe_int (fun _ _ => rfl)) (nomark _)) (pss_one (ps_set (i := 2) sc__law_longest.nd rfl (by first | exact Or.inl rfl | exact Or.inr rfl) (pe_tup (pa_cons (pv 3) (pa_cons (pv 4) pa_nil))))) pss_nil))))
      (pss_one (ps_ret (pv 2)))))) (fun x hx => ?_)
  obtain ⟨t, p⟩ := x
  have hx : t.length ≤ 100 := hx
  dsimp only
  refine xs_seq (xs_asg (d := .tup [.int ((0 : Nat) : Int), .int ((0 : Nat) : Int)]) (ev_tup (ea_cons ev_ci (ea_cons ev_ci ea_nil)) (Nat.le_of_ble_eq_true rfl)) eg_name ?_)
  refine xs_seq (xs_for (ei_r1 (n := (t.length : Int)) (ea_cons (ev_lenM (f := D.int) (xs := t) (EvM.b (EvD.m (ev_var rfl)))) ea_nil) (by omega)) (fun k ρ => ∃ v3 v4, ρ = [some (.sh (.lst (t.map .int))), some (.sh (.lst (p.map .int))), some (.sh (.tup [.int ((dueF t p k).1 : Int), .int ((dueF t p k).2 : Int)])), v3, v4]) ⟨_, _, rfl⟩ ?_ ?_)
  · rintro k d ρ hk ⟨v3, v4, rfl⟩
    obtain ⟨hk1, rfl⟩ := rng_get hk
    rw [Int.zero_add]
    refine ⟨_, eg_name, ?_⟩
    refine xs_seq (xs_asg (ev_call (x := (t, k, p)) (ea_cons (ev_var rfl) (ea_cons (ev_var rfl) (ea_cons (ev_var rfl) ea_nil))) trivial) eg_name ?_)
    dsimp only
    have hix : ∀ {ρ : DL.Env}, ρ[2]? = some (some (.sh (.tup [.int ((dueF t p k).1 : Int), .int ((dueF t p k).2 : Int)]))) → EvD K (tOp (rIx K) (tVar 2) (tC (.int 1))) ρ (.int ((dueF t p k).2 : Int)) := fun h => ev_ixt (ev_var h) ev_ci (atI_nat rfl)
    by_cases h : (dueF t p k).2 < lcp (t.drop k) p
    · refine xs_yes (et_t (ev_Ib (ev_var rfl) (hix rfl))) (decide_eq_true (by omega)) ?_
      refine xs_asg (ev_tup (ea_cons (ev_var rfl) (ea_cons (ev_var rfl) ea_nil)) (Nat.le_of_ble_eq_true rfl)) eg_name ⟨some (.sh (.int (k : Int))), some (.sh (.int (lcp (t.drop k) p : Int))), ?_⟩
      rw [show dueF t p (k + 1) = (k, lcp (t.drop k) p) from if_pos h]
      rfl
    · refine xs_no (et_t (ev_Ib (ev_var rfl) (hix rfl))) (decide_eq_false (by omega)) ⟨some (.sh (.int (k : Int))), some (.sh (.int (lcp (t.drop k) p : Int))), ?_⟩
      rw [show dueF t p (k + 1) = dueF t p k from if_neg h]
      rfl
  rintro ρ ⟨v3, v4, rfl⟩
  refine xs_ret (ev_var rfl) ?_
  rw [show (rng 0 (t.length : Int).toNat).length = t.length by unfold rng; rw [List.length_map, List.length_range, Int.toNat_natCast]]
  rfl

theorem ok__law_put_is_right (T : Tx K mg) : FnOk P w K mg base CX0 3 T.a__law_put_is_right T.d__law_put_is_right ["_law_row", "_law_elder_here", "_law_newer_here", "_law_least"] (sp__law_put_is_right T) := by
  refine fn_r T.F__law_put_is_right sc__law_put_is_right (fun _ => rfl) (fun cdv A outer s H E hr =>
      (pss_cons (ps_set (i := 4) sc__law_put_is_right.nd rfl (by first | exact Or.inl rfl | exact Or.inr rfl) (pe_ix (ixK (K := K) rfl) (pv 0) pe_int (fun _ _ => rfl)))
      (pss_cons (ps_if (PW.pt (pw_or (pt_cmpR (neK (K := K) rfl hr.units) (pe_ix (ixK (K := K) rfl) (pv 0) pe_int (fun _ _ => rfl)) (pe_callTy (tupleK (K := K) rfl) (by rfl) T.z_tuple (by decide +kernel) (pa_cons (pe_slice (slK (K := K) rfl) (pv 2) (po_some (pv 4)) (po_some (pe_op (addK (K := K) rfl) (pv 4) (pe_callB (lenK (K := K) rfl) (by rfl) T.z_len (by decide +kernel) (pa_cons (pe_ix (ixK (K := K) rfl) (pv 0) pe_int (fun _ _ => rfl)) pa_nil))))) pa_nil)) (nomark _)) (pw_or1 (pt_cmpR (eqK (K := K) rfl hr.units) (pe_ix (ixK (K := K) rfl) (pv 0) pe_int (fun _ _ => rfl)) (pe_tup pa_nil) (nomark _))))) (pss_one (ps_ret pe_bl)) pss_nil)
      (pss_cons (ps_for PassesOwn.never rfl (pi_range1 (by rfl) T.z_range (pa_cons (pe_callB (lenK (K := K) rfl) (by rfl) T.z_len (by decide +kernel) (pa_cons (pe_ix (ixK (K := K) rfl) (pv 0) pe_int (fun _ _ => rfl)) pa_nil)) pa_nil)) (pg_name (i := 5) sc__law_put_is_right.nd rfl (by first | exact Or.inl rfl | exact Or.inr rfl)) (pss_one (ps_if (pt_cmpR op_ge (pe_ix (ixK (K := K) rfl) (pe_call (ok__law_longest T) hr (by rfl) T.g__law_longest T.F__law_longest.kp T.b__law_longest .nil pass0 (pa_cons (pv 1) (pa_cons (pe_slice (slK (K := K) rfl) (pv 2) (po_some (pe_op (addK (K := K) rfl) (pv 4) (pv 5))) po_none) pa_nil))) pe_int (fun _ _ => rfl)) (pv 3) (nomark _)) (pss_one (ps_ret pe_bl)) pss_nil)))
      (pss_one (ps_ret pe_bl)))))) (fun x hx => ?_)
  obtain ⟨a, ss, e, n, L⟩ := x
  obtain ⟨h1, h2, h3, h4, h5⟩ := hx
  dsimp only at h1 h2 h3 h4 h5 ⊢
  have hss : ss.length ≤ 1000 := by
    have := congrArg List.length h4
    rw [List.length_take, List.length_drop] at this
    omega
  have hr2 : ∀ {ρ : DL.Env}, ρ[0]? = some (some (.sh (Rw.put (a : Int) ss).tl)) → EvD K (tOp (rIx K) (tVar 0) (tC (.int 2))) ρ (.tup (ss.map .int)) := fun h => ev_ixt (ds := [.str "put", .int (a : Int), .tup (ss.map .int)]) (ev_var h) ev_ci (atI_nat (j := 2) rfl)
  have hl2 : ∀ {ρ : DL.Env}, ρ[0]? = some (some (.sh (Rw.put (a : Int) ss).tl)) → EvD K (tCB (rLenA K) (tCons (tOp (rIx K) (tVar 0) (tC (.int 2))) tNil)) ρ (.int (ss.length : Int)) := fun h => ev_lenMT (f := D.int) (xs := ss) (hr2 h)
  refine xs_seq (xs_asg (d := .int (a : Int)) (ev_ixt (ds := [.str "put", .int (a : Int), .tup (ss.map .int)]) (ev_var rfl) ev_ci (atI_nat (j := 1) rfl)) eg_name ?_)
  refine xs_seq (xs_no (b := false) (et_orF (et_t (ev_neX (d := .tup (ss.map .int)) (EvD.r (hr2 rfl)) (EvD.r (ev_tupleL (EvF.b (EvF.is (ef_slL (ds := n.map D.int) (EvM.b (EvD.m (ev_var rfl))) (eo_some (ev_var rfl)) (eo_some (ev_addI (ev_var rfl) (hl2 rfl)))) ((cut_i a ss.length).trans (congrArg (List.map D.int) h4.symm)))))) (Ft.fit (ft_tints ss) (by decide)))) (EvT.is (et_t (ev_eqNT (EvD.r (hr2 rfl)) (EvD.r (ev_tup ea_nil (Nat.le_of_ble_eq_true rfl))) (Ft.fit (ft_tints ss) (by decide)))) (by cases ss with | nil => exact absurd rfl h3 | cons _ _ => rfl))) rfl ?_)
  dsimp only
  refine xs_seq (xs_for (ei_r1 (n := (ss.length : Int)) (ea_cons (hl2 rfl) ea_nil) (by omega)) (fun k ρ => ∃ v5, ρ = [some (.sh (Rw.put (a : Int) ss).tl), some (.sh (.lst (e.map .int))), some (.sh (.lst (n.map .int))), some (.sh (.int L)), some (.sh (.int (a : Int))), v5]) ⟨_, rfl⟩ ?_ ?_)
  · rintro k d ρ hk ⟨v5, rfl⟩
    obtain ⟨hk1, rfl⟩ := rng_get hk
    rw [Int.zero_add]
    refine ⟨_, eg_name, ?_⟩
    have := h5 k (by omega)
    refine xs_no (et_t (ev_Ib (ev_ixt (ds := [.int ((due e (n.drop (a + k))).1 : Int), .int ((due e (n.drop (a + k))).2 : Int)]) (ev_call (x := (e, n.drop (a + k))) (ea_cons (ev_var rfl) (ea_cons (EvF.v (EvF.is (ef_slL (ds := n.map D.int) (EvM.b (EvD.m (ev_var rfl))) (eo_some (ev_addI (ev_var rfl) (ev_var rfl))) eo_none) (by rw [← Int.natCast_add, cutD_map, cut_from]))) ea_nil)) h1) ev_ci (atI_nat (j := 1) rfl)) (ev_var rfl))) (decide_eq_false (by omega)) ⟨some (.sh (.int (k : Int))), rfl⟩
  rintro ρ ⟨v5, rfl⟩
  exact xs_ret ev_cb rfl
theorem ok__law_right (T : Tx K mg) : FnOk P w K mg base CX0 4 T.a__law_right T.d__law_right ["_law_rows", "_law_elder_here", "_law_newer_here", "_law_least"] (sp__law_right T) := by
  refine fn_r T.F__law_right sc__law_right (fun _ => rfl) (fun cdv A outer s H E hr =>
      (pss_cons (ps_set (i := 4) sc__law_right.nd rfl (by first | exact Or.inl rfl | exact Or.inr rfl) pe_int)
      (pss_cons (ps_set (i := 5) sc__law_right.nd rfl (by first | exact Or.inl rfl | exact Or.inr rfl) pe_str)
      (pss_cons (ps_for PassesOwn.never rfl (seqK (K := K) rfl (pv 0)) (pg_name (i := 6) sc__law_right.nd rfl (by first | exact Or.inl rfl | exact Or.inr rfl)) (pss_cons (ps_if (PW.pt (pw_or (pt_not (pt_val (pe_callB (isiK (K := K) rfl) (by rfl) T.z_isinstance (by decide +kernel) (pa_cons (pv 6) (pa_cons (pe_bltn (v := .ty "tuple") (by rfl) T.z_tuple (by decide +kernel) rfl) pa_nil))))) (pw_or (pt_cmpR (neK (K := K) rfl hr.units) (pe_ix (ixK (K := K) rfl) (pv 6) pe_int (fun _ _ => rfl)) (pv 4) (nomark _)) (pw_or1 (PW.pt (pw_and (pt_cmpR (eqK (K := K) rfl hr.units) (pe_ix (ixK (K := K) rfl) (pv 6) pe_int (fun _ _ => rfl)) pe_str (nomark _)) (pw_and1 (pt_cmpR (eqK (K := K) rfl hr.units) (pv 5) pe_str (nomark _))))))))) (pss_one (ps_ret pe_bl)) pss_nil)
      (pss_cons (ps_set (i := 5) sc__law_right.nd rfl (by first | exact Or.inl rfl | exact Or.inr rfl) (pe_ix (ixK (K := K) rfl) (pv 6) pe_int (fun _ _ => rfl)))
      (pss_one (ps_if (pt_cmpR (eqK (K := K) rfl hr.units) (pv 5) pe_str (nomark _)) (pss_cons (ps_if (pt_not (pt_val (pe_call (ok__law_put_is_right T) hr (by rfl) T.g__law_put_is_right T.F__law_put_is_right.kp T.b__law_put_is_right .nil pass0 (pa_cons (pv 6) (pa_cons (pv 1) (pa_cons (pv 2) (pa_cons (pv 3) pa_nil))))))) (pss_one (ps_ret pe_bl)) pss_nil)
      (pss_one (ps_set (i := 4) sc__law_right.nd rfl (by first | exact Or.inl rfl | exact Or.inr rfl) (pe_op (addK (K := K) rfl) (pv 4) (pe_callB (lenK (K := K) rfl) (by rfl) T.z_len (by decide +kernel) (pa_cons (pe_ix (ixK (K := K) rfl) (pv 6) pe_int (fun _ _ => rfl)) pa_nil)))))) (pss_cons (ps_set (i := 7) sc__law_right.nd rfl (by first | exact Or.inl rfl | exact Or.inr rfl) (pe_call (ok__law_longest T) (hr.mono (by decide)) (by rfl) T.g__law_longest T.F__law_longest.kp T.b__law_longest .nil pass0 (pa_cons (pv 1) (pa_cons (pe_slice (slK (K := K) rfl) (pv 2) (po_some (pv 4)) po_none) pa_nil))))
      (pss_cons (ps_if (PW.pt (pw_or (pt_cmpR (neK (K := K) rfl hr.units) (pv 5) pe_str (nomark _)) (pw_or (pt_cmpR (neK (K := K) rfl hr.units) (pe_slice (slK (K := K) rfl) (pv 6) (po_some pe_int) po_none) (pv 7) (nomark _)) (pw_or1 (pt_cmpR op_lt (pe_ix (ixK (K := K) rfl) (pv 7) pe_int (fun _ _ => rfl)) (pv 3) (nomark _)))))) (pss_one (ps_ret pe_bl)) pss_nil)
      (pss_one (ps_set (i := 4) sc__law_right.nd rfl (by first | exact Or.inl rfl | exact Or.inr rfl) (pe_op (addK (K := K) rfl) (pv 4) (pe_ix (ixK (K := K) rfl) (pv 7) pe_int (fun _ _ => rfl))))))))))))
      (pss_one (ps_ret (pe_cmpR (eqK (K := K) rfl hr.units) (pv 4) (pe_callB (lenK (K := K) rfl) (by rfl) T.z_len (by decide +kernel) (pa_cons (pv 2) pa_nil)) (nomark _)))))))) (fun x hx => ?_)
  obtain ⟨rs, e, n, L⟩ := x
  obtain ⟨h1, h2, h3⟩ := hx
  dsimp only at h1 h2 h3 ⊢
  have fp : (D.str "put").fit = true := Ft.fit (ft_str (by decide +kernel)) (by decide)
  have ft : (D.str "take").fit = true := Ft.fit (ft_str (by decide +kernel)) (by decide)
  refine xs_seq (xs_asg (d := .int ((0 : Nat) : Int)) ev_ci eg_name ?_)
  refine xs_seq (xs_asg (d := .str "") ev_cs eg_name ?_)
  dsimp only
  refine xs_seq (xs_for (ei_seqL (ds := rs.map Rw.tl) (ev_var rfl)) (fun k ρ => ∃ (a : Nat) (w : Bool) (s : Str) (v6 v7 : Option SV), Gd e n L (rs.drop k) a w ∧ (D.str s).fit = true ∧ decide (s = "put") = w ∧ ρ = [some (.sh (.lst (rs.map Rw.tl))), some (.sh (.lst (e.map .int))), some (.sh (.lst (n.map .int))), some (.sh (.int L)), some (.sh (.int (a : Int))), some (.sh (.str s)), v6, v7])
    ⟨0, false, "", _, _, h3, Ft.fit (ft_str (by decide +kernel)) (by decide), by decide +kernel, rfl⟩ ?_ ?_)
  · rintro k d ρ hk ⟨a, w, s, v6, v7, hg, hs, hw, rfl⟩
    rw [List.getElem?_map] at hk
    obtain ⟨r, hr, rfl⟩ := Option.map_eq_some_iff.mp hk
    obtain ⟨hkl, hr'⟩ := List.getElem?_eq_some_iff.mp hr
    rw [List.drop_eq_getElem_cons hkl, hr'] at hg
    refine ⟨_, eg_name, ?_⟩
    cases r with
    | put t ss =>
      obtain ⟨rfl, rfl, g3, g4, g5, g6⟩ := hg
      have hi : ∀ {ρ : DL.Env} {i : Int} {d : D}, ρ[6]? = some (some (.sh (Rw.put (a : Int) ss).tl)) → atI [.str "put", .int (a : Int), .tup (ss.map .int)] i = some d → EvD K (tOp (rIx K) (tVar 6) (tC (.int i))) ρ d := fun h q => ev_ixt (ds := [.str "put", .int (a : Int), .tup (ss.map .int)]) (ev_var h) ev_ci q
      refine xs_seq (xs_no (b := false) (et_orF (et_not (a := true) (et_t (isi_tup_tuple (ds := [.str "put", .int (a : Int), .tup (ss.map .int)]) (EvD.r (ev_var rfl))))) (et_orF (EvT.is (et_t (ev_neI (hi rfl (atI_nat (j := 1) rfl)) (ev_var rfl))) (by simp)) (EvT.is (et_and' (et_t (ev_eqS (hi rfl (atI_nat (j := 0) rfl)) ev_cs fp fp)) (et_t (ev_eqS (ev_var rfl) ev_cs hs fp))) (by rw [hw, Bool.and_false])))) rfl ?_)
      refine xs_seq (xs_asg (d := .str "put") (hi rfl (atI_nat (j := 0) rfl)) eg_name ?_)
      refine xs_yes (et_t (ev_eqS (ev_var rfl) ev_cs fp fp)) (by simp) ?_
      refine xs_seq (xs_no (b := false) (et_not (a := true) (et_t (ev_call (x := (a, ss, e, n, L)) (ea_cons (ev_var rfl) (ea_cons (ev_var rfl) (ea_cons (ev_var rfl) (ea_cons (ev_var rfl) ea_nil)))) ⟨h1, h2, g3, g4, g5⟩))) rfl ?_)
      exact xs_asg (d := .int ((a + ss.length : Nat) : Int)) (EvD.is (ev_addI (ev_var rfl) (ev_lenMT (f := D.int) (xs := ss) (hi rfl (atI_nat (j := 2) rfl)))) (by rw [Int.natCast_add])) eg_name ⟨a + ss.length, true, "put", some (.sh (Rw.put (a : Int) ss).tl), v7, g6, fp, by simp, rfl⟩
    | take t s' c =>
      obtain ⟨rfl, rfl, rfl, g4, g6⟩ := hg
      have hi : ∀ {ρ : DL.Env} {i : Int} {d : D}, ρ[6]? = some (some (.sh (Rw.take (a : Int) ((due e (n.drop a)).1 : Int) ((due e (n.drop a)).2 : Int)).tl)) → atI [.str "take", .int (a : Int), .int ((due e (n.drop a)).1 : Int), .int ((due e (n.drop a)).2 : Int)] i = some d → EvD K (tOp (rIx K) (tVar 6) (tC (.int i))) ρ d := fun h q => ev_ixt (ds := [.str "take", .int (a : Int), .int ((due e (n.drop a)).1 : Int), .int ((due e (n.drop a)).2 : Int)]) (ev_var h) ev_ci q
      refine xs_seq (xs_no (b := false) (et_orF (et_not (a := true) (et_t (isi_tup_tuple (ds := [.str "take", .int (a : Int), .int ((due e (n.drop a)).1 : Int), .int ((due e (n.drop a)).2 : Int)]) (EvD.r (ev_var rfl))))) (et_orF (EvT.is (et_t (ev_neI (hi rfl (atI_nat (j := 1) rfl)) (ev_var rfl))) (by simp)) (et_andF (EvT.is (et_t (ev_eqS (hi rfl (atI_nat (j := 0) rfl)) ev_cs ft fp)) (by decide +kernel))))) rfl ?_)
      refine xs_seq (xs_asg (d := .str "take") (hi rfl (atI_nat (j := 0) rfl)) eg_name ?_)
      refine xs_no2 (et_t (ev_eqS (ev_var rfl) ev_cs ft fp)) (by decide +kernel) ?_
      refine xs_seq (xs_asg (d := dueD e (n.drop a)) (ev_call (x := (e, n.drop a)) (ea_cons (ev_var rfl) (ea_cons (EvF.v (EvF.is (ef_slL (ds := n.map D.int) (EvM.b (EvD.m (ev_var rfl))) (eo_some (ev_var rfl)) eo_none) (by rw [cutD_map, cut_from]))) ea_nil)) h1) eg_name ?_)
      have h7 : ∀ {ρ : DL.Env}, ρ[7]? = some (some (.sh (dueD e (n.drop a)))) → EvD K (tOp (rIx K) (tVar 7) (tC (.int 1))) ρ (.int ((due e (n.drop a)).2 : Int)) := fun h => ev_ixt (ds := [.int ((due e (n.drop a)).1 : Int), .int ((due e (n.drop a)).2 : Int)]) (ev_var h) ev_ci (atI_nat (j := 1) rfl)
      refine xs_seq (xs_no (b := false) (et_orF (EvT.is (et_t (ev_neS (ev_var rfl) ev_cs ft ft)) (by simp)) (et_orF (et_t (ev_neX (d := dueD e (n.drop a)) (EvD.r (EvD.is (ev_slT (ds := [.str "take", .int (a : Int), .int ((due e (n.drop a)).1 : Int), .int ((due e (n.drop a)).2 : Int)]) (ev_var rfl) (eo_some ev_ci) eo_none) rfl)) (EvD.r (ev_var rfl)) (due_fit _ _))) (EvT.is (et_t (ev_Ib (h7 rfl) (ev_var rfl))) (decide_eq_false (by omega))))) rfl ?_)
      exact xs_asg (d := .int ((a + (due e (n.drop a)).2 : Nat) : Int)) (EvD.is (ev_addI (ev_var rfl) (h7 rfl)) (by rw [Int.natCast_add])) eg_name ⟨a + (due e (n.drop a)).2, false, "take", some (.sh (Rw.take (a : Int) ((due e (n.drop a)).1 : Int) ((due e (n.drop a)).2 : Int)).tl), some (.sh (dueD e (n.drop a))), g6, ft, by decide +kernel, rfl⟩
  rintro ρ ⟨a, w, s, v6, v7, hg, hs, hw, rfl⟩
  rw [List.length_map, List.drop_length] at hg
  have ha : a = n.length := hg
  exact xs_ret (EvD.is (ev_eqI (ev_var rfl) (ev_lenM (f := D.int) (xs := n) (EvM.b (EvD.m (ev_var rfl))))) (by rw [ha]; simp)) rfl
theorem ok_law (T : Tx K mg) (hTB_endings : LamX.TabB base mg T.cc_endings T.P_endings) : FnOk P w K mg base CX0 6 T.a_law T.d_law ["_law_script"] (sp_law T) := by
  refine fn_r T.F_law sc_law (fun _ => rfl) (fun cdv A outer s H E hr =>
      (pss_cons (ps_set (i := 1) sc_law.nd rfl (by first | exact Or.inl rfl | exact Or.inr rfl) (pe_call (ok__law_elder T) (hr.mono (by decide)) (by rfl) T.g__law_elder T.F__law_elder.kp T.b__law_elder .nil pass0 (pa_cons (pv 0) pa_nil)))
      (pss_cons (ps_set (i := 2) sc_law.nd rfl (by first | exact Or.inl rfl | exact Or.inr rfl) (pe_call (ok__law_newer T) (hr.mono (by decide)) (by rfl) T.g__law_newer T.F__law_newer.kp T.b__law_newer .nil pass0 (pa_cons (pv 0) (pa_cons (pv 1) pa_nil))))
      (pss_cons (ps_set (i := 3) sc_law.nd rfl (by first | exact Or.inl rfl | exact Or.inr rfl) (pe_lst (pa_cons (pe_callTy (listK (K := K) rfl) (by rfl) T.z_list (by decide +kernel) (pa_cons (pv 1) pa_nil)) (pa_cons (pe_callTy (listK (K := K) rfl) (by rfl) T.z_list (by decide +kernel) (pa_cons (pv 2) pa_nil)) pa_nil))))
      (pss_cons (ps_set (i := 4) sc_law.nd rfl (by first | exact Or.inl rfl | exact Or.inr rfl) (pe_op (addK (K := K) rfl) pe_int (pe_op op_mod (pe_op op_fdivW (pe_call (ok__law_cell_at T) (hr.mono (by decide)) (by rfl) T.g__law_cell_at T.F__law_cell_at.kp T.b__law_cell_at .nil pass0 (pa_cons (pv 0) (pa_cons pe_int pa_nil))) pe_int) pe_int)))
      (pss_cons (ps_if (pt_cmpR (eqK (K := K) rfl hr.units) (pe_op op_mod (pe_call (ok__law_cell_at T) (hr.mono (by decide)) (by rfl) T.g__law_cell_at T.F__law_cell_at.kp T.b__law_cell_at .nil pass0 (pa_cons (pv 0) (pa_cons pe_int pa_nil))) pe_int) pe_int (nomark _)) (pss_cons (ps_set (i := 4) sc_law.nd rfl (by first | exact Or.inl rfl | exact Or.inr rfl) pe_int)
      (pss_one (ps_set (i := 5) sc_law.nd rfl (by first | exact Or.inl rfl | exact Or.inr rfl) (pe_call (ok_found T hTB_endings) hr (by rfl) T.g_found T.F_found.kp T.b_found2 T.v_found2 pass0 (pa_cons (pe_ix (ixK (K := K) rfl) (pv 3) pe_int (fun _ _ => rfl)) (pa_cons (pe_ix (ixK (K := K) rfl) (pv 3) pe_int (fun _ _ => rfl)) pa_nil)))))) (pss_one (ps_set (i := 5) sc_law.nd rfl (by first | exact Or.inl rfl | exact Or.inr rfl) (pe_call (ok_found T hTB_endings) hr (by rfl) T.g_found T.F_found.kp T.b_found .nil pass0 (pa_cons (pe_ix (ixK (K := K) rfl) (pv 3) pe_int (fun _ _ => rfl)) (pa_cons (pe_ix (ixK (K := K) rfl) (pv 3) pe_int (fun _ _ => rfl)) (pa_cons (pv 4) pa_nil)))))))
      (pss_cons (ps_if (PW.pt (pw_or (pt_not (pt_val (pe_callB (isiK (K := K) rfl) (by rfl) T.z_isinstance (by decide +kernel) (pa_cons (pv 5) (pa_cons (pe_bltn (v := .ty "list") (by rfl) T.z_list (by decide +kernel) rfl) pa_nil))))) (pw_or (pt_not (pt_val (pe_call (ok__law_right T) (hr.mono (by decide)) (by rfl) T.g__law_right T.F__law_right.kp T.b__law_right .nil pass0 (pa_cons (pv 5) (pa_cons (pv 1) (pa_cons (pv 2) (pa_cons (pv 4) pa_nil))))))) (pw_or1 (pt_cmpR (neK (K := K) rfl hr.units) (pv 3) (pe_lst (pa_cons (pv 1) (pa_cons (pv 2) pa_nil))) (nomark _)))))) (pss_one (ps_ret pe_bl)) pss_nil)
      (pss_cons (ps_set (i := 6) sc_law.nd rfl (by first | exact Or.inl rfl | exact Or.inr rfl) (pe_callTy (listK (K := K) rfl) (by rfl) T.z_list (by decide +kernel) (pa_cons (pv 5) pa_nil)))
      (pss_cons (ps_expr (bmK (K := K) rfl PySem.F.plainAttrs_list PySem.F.slot_list_append PySem.F.type_list_append mt_append (pv 5) (pa_cons (pe_tup (pa_cons pe_str (pa_cons pe_int (pa_cons pe_int (pa_cons pe_int pa_nil))))) pa_nil)))
      (pss_one (ps_ret (pe_and (pe_cmpR (eqK (K := K) rfl hr.units) (pe_call (ok_found T hTB_endings) hr (by rfl) T.g_found T.F_found.kp T.b_found .nil pass0 (pa_cons (pe_ix (ixK (K := K) rfl) (pv 3) pe_int (fun _ _ => rfl)) (pa_cons (pe_ix (ixK (K := K) rfl) (pv 3) pe_int (fun _ _ => rfl)) (pa_cons (pv 4) pa_nil)))) (pv 6) (nomark _)) (pe_one (pe_cmpR (eqK (K := K) rfl hr.units) (pe_call (ok_found T hTB_endings) hr (by rfl) T.g_found T.F_found.kp T.b_found .nil pass0 (pa_cons (pe_ix (ixK (K := K) rfl) (pv 3) pe_int (fun _ _ => rfl)) (pa_cons (pe_lst pa_nil) (pa_cons (pv 4) pa_nil)))) (pe_lst pa_nil) (nomark _))))))))))))))) (fun x hx => ?_)
  have hx : x.length ≤ 63 := hx
  refine xs_seq (xs_asgR (x := x) (ea_cons (ev_var rfl) ea_nil) hx fun d ⟨e, he, hd⟩ => ?_)
  subst hd
  refine xs_seq (xs_asgR (x := (x, e)) (ea_cons (ev_var rfl) (ea_cons (ev_var rfl) ea_nil)) ⟨hx, by show e.length ≤ 100; omega⟩ fun d ⟨n, hn, hd⟩ => ?_)
  subst hd
  refine xs_seq (xs_asg (d := .lst [.lst (e.map .int), .lst (n.map .int)]) (EvF.v (ef_lst (ea_cons (EvF.v (ef_listL (EvM.b (EvD.m (ev_var rfl))))) (ea_cons (EvF.v (ef_listL (EvM.b (EvD.m (ev_var rfl))))) ea_nil)) (Nat.le_of_ble_eq_true rfl))) eg_name ?_)
  have hc1 : ∀ {ρ : DL.Env} {E : XK}, ρ[0]? = some (some (.sh (.scr (x.map .int)))) → EvD K (tCall (sp__law_cell_at T) [] E (tCons (tVar 0) (tCons (tC (.int 1)) tNil))) ρ (.int (cellAt x 1)) := fun h => ev_cell_at (ns := x) (k := 1) (ev_var h) ev_ci (by decide)
  generalize cellAt x 1 = c at hc1
  refine xs_seq (xs_asg (d := .int (1 + c / 2 % 12)) (ev_addI ev_ci (ev_IC (i := c / 2) (j := 12) (ev_IC (i := c) (j := 2) (hc1 rfl) ev_ci (divW_c (by decide) (by decide))) ev_ci (by decide))) eg_name ?_)
  dsimp only
  have hh : ∀ {ρ : DL.Env} {i : Int} {d : D}, ρ[3]? = some (some (.sh (.lst [.lst (e.map .int), .lst (n.map .int)]))) → atI [.lst (e.map .int), .lst (n.map .int)] i = some d → EvD K (tOp (rIx K) (tVar 3) (tC (.int i))) ρ d := fun h q => ev_ixl (EvM.b (EvD.m (ev_var h))) ev_ci q
  refine xs_cut (fun ρ => ∃ L : Int, 1 ≤ L ∧ ρ = [some (.sh (.scr (x.map .int))), some (.sh (.lst (e.map .int))), some (.sh (.lst (n.map .int))), some (.sh (.lst [.lst (e.map .int), .lst (n.map .int)])), some (.sh (.int L)), some (.ol ((foundR e n L).map Rw.tl)), none]) ?_ ?_
  · by_cases h0 : c % 2 = 0
    · refine xs_yes (et_t (ev_eqI (ev_IC (i := c) (j := 2) (hc1 rfl) ev_ci (by decide)) ev_ci)) (decide_eq_true h0) ?_
      refine xs_seq (xs_asg (d := .int 6) ev_ci eg_name ?_)
      exact xs_asgF (ef_callD (x := (e, n, 6)) (ds := [.lst (e.map .int), .lst (n.map .int)]) (ea_cons (hh rfl (atI_nat (j := 0) rfl)) (ea_cons (hh rfl (atI_nat (j := 1) rfl)) ea_nil)) (rep_i 6) rfl ⟨by show e.length ≤ 100; omega, by show n.length ≤ 1000; omega, by show (1 : Int) ≤ 6; decide⟩) ⟨6, by decide, rfl⟩
    · refine xs_no2 (et_t (ev_eqI (ev_IC (i := c) (j := 2) (hc1 rfl) ev_ci (by decide)) ev_ci)) (decide_eq_false h0) ?_
      exact xs_asgF (ef_call (x := (e, n, 1 + c / 2 % 12)) (ea_cons (hh rfl (atI_nat (j := 0) rfl)) (ea_cons (hh rfl (atI_nat (j := 1) rfl)) (ea_cons (ev_var rfl) ea_nil))) ⟨by show e.length ≤ 100; omega, by show n.length ≤ 1000; omega, by show 1 ≤ 1 + c / 2 % 12; omega⟩) ⟨1 + c / 2 % 12, by omega, rfl⟩
  rintro _ ⟨L, hL, rfl⟩
  have hlr := found_len e n hL
  refine xs_seq (xs_no (b := false) (EvT.thaw 5 rfl (et_orF (et_not (a := true) (et_t (isi_lst_list (EvD.r (ev_var rfl))))) (et_orF (et_not (a := true) (et_t (ev_call (x := (foundR e n L, e, n, L)) (ea_cons (ev_var rfl) (ea_cons (ev_var rfl) (ea_cons (ev_var rfl) (ea_cons (ev_var rfl) ea_nil)))) ⟨by show e.length ≤ 100; omega, by show n.length ≤ 1000; omega, gd_found e n hL⟩)))
    (et_t (ev_neX (d := .lst [.lst (e.map .int), .lst (n.map .int)]) (EvD.r (ev_var rfl)) (EvM.r (EvF.m (ef_lst (ea_cons (ev_var rfl) (ea_cons (ev_var rfl) ea_nil)) (Nat.le_of_ble_eq_true rfl)))) (Ft.fit (n := 2) (ft_lst fun d hd => by
      rcases List.mem_cons.mp hd with rfl | hd
      · exact ft_ints e
      · rw [List.mem_singleton] at hd
        subst hd
        exact ft_ints n) (by decide))))))) rfl ?_)
  refine xs_seq (xs_asgF (ef_listL (EvM.b (em_var rfl))) ?_)
  refine xs_seq (xs_app (d := (Rw.take 0 0 1).tl) rfl (ev_tup (ea_cons ev_cs (ea_cons ev_ci (ea_cons ev_ci (ea_cons ev_ci ea_nil)))) (Nat.le_of_ble_eq_true rfl)) (by rw [List.length_map]; omega) ?_)
  refine xs_ret (EvD.is (ev_and' (ev_eqX (d := .lst ((foundR e n L).map Rw.tl)) (EvM.r (EvF.m (ef_call (x := (e, n, L)) (ea_cons (hh rfl (atI_nat (j := 0) rfl)) (ea_cons (hh rfl (atI_nat (j := 1) rfl)) (ea_cons (ev_var rfl) ea_nil))) ⟨by show e.length ≤ 100; omega, by show n.length ≤ 1000; omega, hL⟩))) (EvM.r (em_var rfl)) (fit_tls _))
    (ev_eqX (d := .lst []) (EvM.r (EvF.m (EvF.is (ef_call (x := (e, [], L)) (ea_cons (hh rfl (atI_nat (j := 0) rfl)) (ea_cons (EvF.v (ef_lst ea_nil (Nat.le_of_ble_eq_true rfl))) (ea_cons (ev_var rfl) ea_nil))) ⟨by show e.length ≤ 100; omega, by show 0 ≤ 1000; omega, hL⟩) rfl))) (EvM.r (EvF.m (ef_lst ea_nil (Nat.le_of_ble_eq_true rfl)))) rfl)) rfl) rfl
end
omit [DL.TbC] in
theorem all_fin {l : PySem.W.OpenLaw} {w : World} {K : PySem.W.Frag} {h : Heap} {mg : Str → Option Value} {fa : Addr} (X : K.In h) (G : h.Ns mainGlobals mg) (hfa : mg "law" = some (.ref fa)) {ts : List Addr} (tabs : ∀ P ∈ ts, h.get? P = some (PySem.W.tabObj #[]))
    {od__law_cell_at an__law_cell_at : Option Addr} {sl__law_cell_at : Array (Option Value)} {oc__law_cell_at kV__law_cell_at dc__law_cell_at pm__law_cell_at cd__law_cell_at ct__law_cell_at : Value} {f__law_cell_at : Addr}
    {od__law_digits an__law_digits : Option Addr} {sl__law_digits : Array (Option Value)} {oc__law_digits kV__law_digits dc__law_digits pm__law_digits cd__law_digits ct__law_digits : Value} {f__law_digits : Addr}
    {od__law_draw an__law_draw : Option Addr} {sl__law_draw : Array (Option Value)} {oc__law_draw kV__law_draw dc__law_draw pm__law_draw cd__law_draw ct__law_draw : Value} {f__law_draw : Addr}
    {od__law_elder an__law_elder : Option Addr} {sl__law_elder : Array (Option Value)} {oc__law_elder kV__law_elder dc__law_elder pm__law_elder cd__law_elder ct__law_elder : Value} {f__law_elder : Addr}
    {od__law_newer an__law_newer : Option Addr} {sl__law_newer : Array (Option Value)} {oc__law_newer kV__law_newer dc__law_newer pm__law_newer cd__law_newer ct__law_newer : Value} {f__law_newer : Addr}
    {od_endings an_endings : Option Addr} {sl_endings : Array (Option Value)} {oc_endings kV_endings dc_endings pm_endings ct_endings : Value} {f_endings : Addr} {cc_endings P_endings : Addr}
    {od_first_not_below an_first_not_below : Option Addr} {sl_first_not_below : Array (Option Value)} {oc_first_not_below kV_first_not_below dc_first_not_below pm_first_not_below cd_first_not_below ct_first_not_below : Value} {f_first_not_below : Addr}
    {od_alike an_alike : Option Addr} {sl_alike : Array (Option Value)} {oc_alike kV_alike dc_alike pm_alike cd_alike ct_alike : Value} {f_alike : Addr}
    {od_longest an_longest : Option Addr} {sl_longest : Array (Option Value)} {oc_longest kV_longest dc_longest pm_longest cd_longest ct_longest : Value} {f_longest : Addr}
    {od_found an_found : Option Addr} {sl_found : Array (Option Value)} {oc_found kV_found dc_found pm_found cd_found ct_found : Value} {f_found : Addr} {dt_found : Addr} {do_found : Obj} {dn_found : Nat} {dk_found0 : Tok}
    {od__law_alike an__law_alike : Option Addr} {sl__law_alike : Array (Option Value)} {oc__law_alike kV__law_alike dc__law_alike pm__law_alike cd__law_alike ct__law_alike : Value} {f__law_alike : Addr}
    {od__law_longest an__law_longest : Option Addr} {sl__law_longest : Array (Option Value)} {oc__law_longest kV__law_longest dc__law_longest pm__law_longest cd__law_longest ct__law_longest : Value} {f__law_longest : Addr}
    {od__law_put_is_right an__law_put_is_right : Option Addr} {sl__law_put_is_right : Array (Option Value)} {oc__law_put_is_right kV__law_put_is_right dc__law_put_is_right pm__law_put_is_right cd__law_put_is_right ct__law_put_is_right : Value} {f__law_put_is_right : Addr}
    {od__law_right an__law_right : Option Addr} {sl__law_right : Array (Option Value)} {oc__law_right kV__law_right dc__law_right pm__law_right cd__law_right ct__law_right : Value} {f__law_right : Addr}
    {od_law an_law : Option Addr} {sl_law : Array (Option Value)} {oc_law kV_law dc_law pm_law cd_law ct_law : Value} {f_law : Addr}
    (a__law_cell_at : PySem.W.nsIn K mainGlobals "_law_cell_at" = some (some (.ref f__law_cell_at)))
    (l__law_cell_at : K.lookup f__law_cell_at = some ⟨oc__law_cell_at, od__law_cell_at, .func (PySem.W.fnOf "_law_cell_at" "_law_cell_at" (defArgs s__law_cell_at) (defBody s__law_cell_at) (defScope s__law_cell_at) .none kV__law_cell_at dc__law_cell_at pm__law_cell_at an__law_cell_at cd__law_cell_at ct__law_cell_at), sl__law_cell_at⟩)
    (c__law_cell_at : PySem.W.codeIn K cd__law_cell_at "_law_cell_at" = true)
    (k__law_cell_at : PySem.W.keepIn K (.ref f__law_cell_at) = true)
    (a__law_digits : PySem.W.nsIn K mainGlobals "_law_digits" = some (some (.ref f__law_digits)))
    (l__law_digits : K.lookup f__law_digits = some ⟨oc__law_digits, od__law_digits, .func (PySem.W.fnOf "_law_digits" "_law_digits" (defArgs s__law_digits) (defBody s__law_digits) (defScope s__law_digits) .none kV__law_digits dc__law_digits pm__law_digits an__law_digits cd__law_digits ct__law_digits), sl__law_digits⟩)
    (c__law_digits : PySem.W.codeIn K cd__law_digits "_law_digits" = true)
    (k__law_digits : PySem.W.keepIn K (.ref f__law_digits) = true)
    (a__law_draw : PySem.W.nsIn K mainGlobals "_law_draw" = some (some (.ref f__law_draw)))
    (l__law_draw : K.lookup f__law_draw = some ⟨oc__law_draw, od__law_draw, .func (PySem.W.fnOf "_law_draw" "_law_draw" (defArgs s__law_draw) (defBody s__law_draw) (defScope s__law_draw) .none kV__law_draw dc__law_draw pm__law_draw an__law_draw cd__law_draw ct__law_draw), sl__law_draw⟩)
    (c__law_draw : PySem.W.codeIn K cd__law_draw "_law_draw" = true)
    (k__law_draw : PySem.W.keepIn K (.ref f__law_draw) = true)
    (a__law_elder : PySem.W.nsIn K mainGlobals "_law_elder" = some (some (.ref f__law_elder)))
    (l__law_elder : K.lookup f__law_elder = some ⟨oc__law_elder, od__law_elder, .func (PySem.W.fnOf "_law_elder" "_law_elder" (defArgs s__law_elder) (defBody s__law_elder) (defScope s__law_elder) .none kV__law_elder dc__law_elder pm__law_elder an__law_elder cd__law_elder ct__law_elder), sl__law_elder⟩)
    (c__law_elder : PySem.W.codeIn K cd__law_elder "_law_elder" = true)
    (k__law_elder : PySem.W.keepIn K (.ref f__law_elder) = true)
    (a__law_newer : PySem.W.nsIn K mainGlobals "_law_newer" = some (some (.ref f__law_newer)))
    (l__law_newer : K.lookup f__law_newer = some ⟨oc__law_newer, od__law_newer, .func (PySem.W.fnOf "_law_newer" "_law_newer" (defArgs s__law_newer) (defBody s__law_newer) (defScope s__law_newer) .none kV__law_newer dc__law_newer pm__law_newer an__law_newer cd__law_newer ct__law_newer), sl__law_newer⟩)
    (c__law_newer : PySem.W.codeIn K cd__law_newer "_law_newer" = true)
    (k__law_newer : PySem.W.keepIn K (.ref f__law_newer) = true)
    (a_endings : PySem.W.nsIn K mainGlobals "endings" = some (some (.ref f_endings)))
    (l_endings : K.lookup f_endings = some ⟨oc_endings, od_endings, .func (PySem.W.fnOf "endings" "endings" (defArgs s_endings) (defBody s_endings) (defScope s_endings) .none kV_endings dc_endings pm_endings an_endings (.ref cc_endings) ct_endings), sl_endings⟩)
    (c_endings : PySem.W.codeIn K (.ref cc_endings) "endings" = true)
    (np_endings : K.lookup P_endings = none)
    (ch_endings : PySem.W.codeHdIn K cc_endings P_endings = true)
    (k_endings : PySem.W.keepIn K (.ref f_endings) = true)
    (a_first_not_below : PySem.W.nsIn K mainGlobals "first_not_below" = some (some (.ref f_first_not_below)))
    (l_first_not_below : K.lookup f_first_not_below = some ⟨oc_first_not_below, od_first_not_below, .func (PySem.W.fnOf "first_not_below" "first_not_below" (defArgs s_first_not_below) (defBody s_first_not_below) (defScope s_first_not_below) .none kV_first_not_below dc_first_not_below pm_first_not_below an_first_not_below cd_first_not_below ct_first_not_below), sl_first_not_below⟩)
    (c_first_not_below : PySem.W.codeIn K cd_first_not_below "first_not_below" = true)
    (k_first_not_below : PySem.W.keepIn K (.ref f_first_not_below) = true)
    (a_alike : PySem.W.nsIn K mainGlobals "alike" = some (some (.ref f_alike)))
    (l_alike : K.lookup f_alike = some ⟨oc_alike, od_alike, .func (PySem.W.fnOf "alike" "alike" (defArgs s_alike) (defBody s_alike) (defScope s_alike) .none kV_alike dc_alike pm_alike an_alike cd_alike ct_alike), sl_alike⟩)
    (c_alike : PySem.W.codeIn K cd_alike "alike" = true)
    (k_alike : PySem.W.keepIn K (.ref f_alike) = true)
    (a_longest : PySem.W.nsIn K mainGlobals "longest" = some (some (.ref f_longest)))
    (l_longest : K.lookup f_longest = some ⟨oc_longest, od_longest, .func (PySem.W.fnOf "longest" "longest" (defArgs s_longest) (defBody s_longest) (defScope s_longest) .none kV_longest dc_longest pm_longest an_longest cd_longest ct_longest), sl_longest⟩)
    (c_longest : PySem.W.codeIn K cd_longest "longest" = true)
    (k_longest : PySem.W.keepIn K (.ref f_longest) = true)
    (a_found : PySem.W.nsIn K mainGlobals "found" = some (some (.ref f_found)))
    (l_found : K.lookup f_found = some ⟨oc_found, od_found, .func (PySem.W.fnOf "found" "found" (defArgs s_found) (defBody s_found) (defScope s_found) (.ref dt_found) kV_found dc_found pm_found an_found cd_found ct_found), sl_found⟩)
    (dl_found : K.lookup dt_found = some do_found)
    (dd_found : do_found.data = .seq (List.toArray [.int 6 dk_found0]) dn_found)
    (c_found : PySem.W.codeIn K cd_found "found" = true)
    (k_found : PySem.W.keepIn K (.ref f_found) = true)
    (a__law_alike : PySem.W.nsIn K mainGlobals "_law_alike" = some (some (.ref f__law_alike)))
    (l__law_alike : K.lookup f__law_alike = some ⟨oc__law_alike, od__law_alike, .func (PySem.W.fnOf "_law_alike" "_law_alike" (defArgs s__law_alike) (defBody s__law_alike) (defScope s__law_alike) .none kV__law_alike dc__law_alike pm__law_alike an__law_alike cd__law_alike ct__law_alike), sl__law_alike⟩)
    (c__law_alike : PySem.W.codeIn K cd__law_alike "_law_alike" = true)
    (k__law_alike : PySem.W.keepIn K (.ref f__law_alike) = true)
    (a__law_longest : PySem.W.nsIn K mainGlobals "_law_longest" = some (some (.ref f__law_longest)))
    (l__law_longest : K.lookup f__law_longest = some ⟨oc__law_longest, od__law_longest, .func (PySem.W.fnOf "_law_longest" "_law_longest" (defArgs s__law_longest) (defBody s__law_longest) (defScope s__law_longest) .none kV__law_longest dc__law_longest pm__law_longest an__law_longest cd__law_longest ct__law_longest), sl__law_longest⟩)
    (c__law_longest : PySem.W.codeIn K cd__law_longest "_law_longest" = true)
    (k__law_longest : PySem.W.keepIn K (.ref f__law_longest) = true)
    (a__law_put_is_right : PySem.W.nsIn K mainGlobals "_law_put_is_right" = some (some (.ref f__law_put_is_right)))
    (l__law_put_is_right : K.lookup f__law_put_is_right = some ⟨oc__law_put_is_right, od__law_put_is_right, .func (PySem.W.fnOf "_law_put_is_right" "_law_put_is_right" (defArgs s__law_put_is_right) (defBody s__law_put_is_right) (defScope s__law_put_is_right) .none kV__law_put_is_right dc__law_put_is_right pm__law_put_is_right an__law_put_is_right cd__law_put_is_right ct__law_put_is_right), sl__law_put_is_right⟩)
    (c__law_put_is_right : PySem.W.codeIn K cd__law_put_is_right "_law_put_is_right" = true)
    (k__law_put_is_right : PySem.W.keepIn K (.ref f__law_put_is_right) = true)
    (a__law_right : PySem.W.nsIn K mainGlobals "_law_right" = some (some (.ref f__law_right)))
    (l__law_right : K.lookup f__law_right = some ⟨oc__law_right, od__law_right, .func (PySem.W.fnOf "_law_right" "_law_right" (defArgs s__law_right) (defBody s__law_right) (defScope s__law_right) .none kV__law_right dc__law_right pm__law_right an__law_right cd__law_right ct__law_right), sl__law_right⟩)
    (c__law_right : PySem.W.codeIn K cd__law_right "_law_right" = true)
    (k__law_right : PySem.W.keepIn K (.ref f__law_right) = true)
    (a_law : PySem.W.nsIn K mainGlobals "law" = some (some (.ref f_law)))
    (l_law : K.lookup f_law = some ⟨oc_law, od_law, .func (PySem.W.fnOf "law" "law" (defArgs s_law) (defBody s_law) (defScope s_law) .none kV_law dc_law pm_law an_law cd_law ct_law), sl_law⟩)
    (c_law : PySem.W.codeIn K cd_law "law" = true)
    (k_law : PySem.W.keepIn K (.ref f_law) = true)
    (z_isinstance : PySem.W.nsIn K mainGlobals "isinstance" = some none)
    (z_len : PySem.W.nsIn K mainGlobals "len" = some none)
    (z_list : PySem.W.nsIn K mainGlobals "list" = some none)
    (z_max : PySem.W.nsIn K mainGlobals "max" = some none)
    (z_min : PySem.W.nsIn K mainGlobals "min" = some none)
    (z_range : PySem.W.nsIn K mainGlobals "range" = some none)
    (z_sorted : PySem.W.nsIn K mainGlobals "sorted" = some none)
    (z_tuple : PySem.W.nsIn K mainGlobals "tuple" = some none)
    (in_endings : P_endings ∈ ts)
    : LamX.LawAtS l w K CX0 6 63 "_law_script" mg fa h := by
  have e := hfa.symm.trans (PySem.W.mg_of X G a_law)
  cases e
  letI : DL.TbC := ⟨[(P_endings, fun _ _ => q_endings_from_here)]⟩
  have F__law_cell_at := fun_mk (st := s__law_cell_at) l__law_cell_at c__law_cell_at k__law_cell_at
  have b__law_cell_at := F__law_cell_at.binds (ps := ["_law_script", "_law_k"]) fun _ _ _ _ _ _ us hl => match us, hl with | [_, _], _ => rfl
  have F__law_digits := fun_mk (st := s__law_digits) l__law_digits c__law_digits k__law_digits
  have b__law_digits := F__law_digits.binds (ps := ["_law_cell", "_law_base", "_law_many"]) fun _ _ _ _ _ _ us hl => match us, hl with | [_, _, _], _ => rfl
  have F__law_draw := fun_mk (st := s__law_draw) l__law_draw c__law_draw k__law_draw
  have b__law_draw := F__law_draw.binds (ps := ["_law_cell", "_law_k"]) fun _ _ _ _ _ _ us hl => match us, hl with | [_, _], _ => rfl
  have F__law_elder := fun_mk (st := s__law_elder) l__law_elder c__law_elder k__law_elder
  have b__law_elder := F__law_elder.binds (ps := ["_law_script"]) fun _ _ _ _ _ _ us hl => match us, hl with | [_], _ => rfl
  have F__law_newer := fun_mk (st := s__law_newer) l__law_newer c__law_newer k__law_newer
  have b__law_newer := F__law_newer.binds (ps := ["_law_script", "_law_elder_here"]) fun _ _ _ _ _ _ us hl => match us, hl with | [_, _], _ => rfl
  have F_endings := funC_mk (st := s_endings) l_endings c_endings k_endings
  have b_endings := F_endings.fun.binds (ps := ["text"]) fun _ _ _ _ _ _ us hl => match us, hl with | [_], _ => rfl
  have F_first_not_below := fun_mk (st := s_first_not_below) l_first_not_below c_first_not_below k_first_not_below
  have b_first_not_below := F_first_not_below.binds (ps := ["text", "table", "part"]) fun _ _ _ _ _ _ us hl => match us, hl with | [_, _, _], _ => rfl
  have F_alike := fun_mk (st := s_alike) l_alike c_alike k_alike
  have b_alike := F_alike.binds (ps := ["text", "at", "part"]) fun _ _ _ _ _ _ us hl => match us, hl with | [_, _, _], _ => rfl
  have F_longest := fun_mk (st := s_longest) l_longest c_longest k_longest
  have b_longest := F_longest.binds (ps := ["text", "table", "part"]) fun _ _ _ _ _ _ us hl => match us, hl with | [_, _, _], _ => rfl
  have F_found := fune_mk (st := s_found) (dvs := [.int 6]) l_found c_found k_found dl_found dd_found (.cons ⟨_, rfl⟩ .nil) (by decide)
  obtain ⟨ds_found, v_found, b_found⟩ := F_found.binds1 (ps := ["elder", "newer", "least"]) 3 1 (by decide) rfl fun _ _ _ _ _ _ _ us its hl hi => match us, hl, its, hi with | [_, _, _], _, [_], _ => ⟨_, rfl, rfl⟩
  cases v_found
  obtain ⟨ds_found2, v_found2, b_found2⟩ := F_found.binds1 (ps := ["elder", "newer", "least"]) 2 0 (by decide) rfl fun _ _ _ _ _ _ _ us its hl hi => match us, hl, its, hi with | [_, _], _, [_], _ => ⟨_, rfl, rfl⟩
  have F__law_alike := fun_mk (st := s__law_alike) l__law_alike c__law_alike k__law_alike
  have b__law_alike := F__law_alike.binds (ps := ["_law_text", "_law_at", "_law_part"]) fun _ _ _ _ _ _ us hl => match us, hl with | [_, _, _], _ => rfl
  have F__law_longest := fun_mk (st := s__law_longest) l__law_longest c__law_longest k__law_longest
  have b__law_longest := F__law_longest.binds (ps := ["_law_elder_here", "_law_part"]) fun _ _ _ _ _ _ us hl => match us, hl with | [_, _], _ => rfl
  have F__law_put_is_right := fun_mk (st := s__law_put_is_right) l__law_put_is_right c__law_put_is_right k__law_put_is_right
  have b__law_put_is_right := F__law_put_is_right.binds (ps := ["_law_row", "_law_elder_here", "_law_newer_here", "_law_least"]) fun _ _ _ _ _ _ us hl => match us, hl with | [_, _, _, _], _ => rfl
  have F__law_right := fun_mk (st := s__law_right) l__law_right c__law_right k__law_right
  have b__law_right := F__law_right.binds (ps := ["_law_rows", "_law_elder_here", "_law_newer_here", "_law_least"]) fun _ _ _ _ _ _ us hl => match us, hl with | [_, _, _, _], _ => rfl
  have F_law := fun_mk (st := s_law) l_law c_law k_law
  have b_law := F_law.binds (ps := ["_law_script"]) fun _ _ _ _ _ _ us hl => match us, hl with | [_], _ => rfl
  have tu_endings : ∀ p ∈ DL.TbC.T, p.1 = P_endings → p.2 = fun _ _ => q_endings_from_here := fun p hp e => by
    obtain rfl := List.mem_singleton.mp hp
    rfl
  let T : Tx K mg := {
    a__law_cell_at := f__law_cell_at, d__law_cell_at := _, F__law_cell_at := F__law_cell_at, b__law_cell_at := b__law_cell_at,  g__law_cell_at := PySem.W.mg_of X G a__law_cell_at,
    a__law_digits := f__law_digits, d__law_digits := _, F__law_digits := F__law_digits, b__law_digits := b__law_digits,  g__law_digits := PySem.W.mg_of X G a__law_digits,
    a__law_draw := f__law_draw, d__law_draw := _, F__law_draw := F__law_draw, b__law_draw := b__law_draw,  g__law_draw := PySem.W.mg_of X G a__law_draw,
    a__law_elder := f__law_elder, d__law_elder := _, F__law_elder := F__law_elder, b__law_elder := b__law_elder,  g__law_elder := PySem.W.mg_of X G a__law_elder,
    a__law_newer := f__law_newer, d__law_newer := _, F__law_newer := F__law_newer, b__law_newer := b__law_newer,  g__law_newer := PySem.W.mg_of X G a__law_newer,
    a_endings := f_endings, d_endings := _, F_endings := F_endings, b_endings := b_endings, cc_endings := cc_endings, P_endings := P_endings, tm_endings := (show (P_endings, _) ∈ ([(P_endings, fun _ _ => q_endings_from_here)] : List NdefX.NTab) from .head _), tu_endings := tu_endings,  g_endings := PySem.W.mg_of X G a_endings,
    a_first_not_below := f_first_not_below, d_first_not_below := _, F_first_not_below := F_first_not_below, b_first_not_below := b_first_not_below,  g_first_not_below := PySem.W.mg_of X G a_first_not_below,
    a_alike := f_alike, d_alike := _, F_alike := F_alike, b_alike := b_alike,  g_alike := PySem.W.mg_of X G a_alike,
    a_longest := f_longest, d_longest := _, F_longest := F_longest, b_longest := b_longest,  g_longest := PySem.W.mg_of X G a_longest,
    a_found := f_found, d_found := _, F_found := F_found, b_found := b_found,  g_found := PySem.W.mg_of X G a_found, ds_found2 := ds_found2, v_found2 := v_found2, b_found2 := b_found2,
    a__law_alike := f__law_alike, d__law_alike := _, F__law_alike := F__law_alike, b__law_alike := b__law_alike,  g__law_alike := PySem.W.mg_of X G a__law_alike,
    a__law_longest := f__law_longest, d__law_longest := _, F__law_longest := F__law_longest, b__law_longest := b__law_longest,  g__law_longest := PySem.W.mg_of X G a__law_longest,
    a__law_put_is_right := f__law_put_is_right, d__law_put_is_right := _, F__law_put_is_right := F__law_put_is_right, b__law_put_is_right := b__law_put_is_right,  g__law_put_is_right := PySem.W.mg_of X G a__law_put_is_right,
    a__law_right := f__law_right, d__law_right := _, F__law_right := F__law_right, b__law_right := b__law_right,  g__law_right := PySem.W.mg_of X G a__law_right,
    a_law := fa, d_law := _, F_law := F_law, b_law := b_law,  g_law := PySem.W.mg_of X G a_law,
    z_isinstance := PySem.W.mg_none_of X G z_isinstance,
    z_len := PySem.W.mg_none_of X G z_len,
    z_list := PySem.W.mg_none_of X G z_list,
    z_max := PySem.W.mg_none_of X G z_max,
    z_min := PySem.W.mg_none_of X G z_min,
    z_range := PySem.W.mg_none_of X G z_range,
    z_sorted := PySem.W.mg_none_of X G z_sorted,
    z_tuple := PySem.W.mg_none_of X G z_tuple }
  refine ⟨T.d_law, [(cc_endings, P_endings)], spEnd K, List.forall_mem_cons.mpr ⟨tabs _ in_endings, fun _ h => nomatch h⟩, List.forall_mem_cons.mpr ⟨np_endings, fun _ h => nomatch h⟩, List.forall_mem_cons.mpr ⟨PySem.W.codeHd_of_K X ch_endings, fun _ h => nomatch h⟩, fun s v => .of_eq rfl, fun H a ns hl _ ht hS => law_in H a ns hl hS ?_, fun base KB nb hB => (ok_law T (hB (cc_endings, P_endings) (.head _))).imp fun vs H Q E h => law_sp T h⟩
  exact List.forall_mem_cons.mpr ⟨NdefX.TabN.nil (ht (cc_endings, P_endings) (.head _)), fun _ h => nomatch h⟩
end Lw
open PySem PySem.W PyProof.Rows
set_option maxRecDepth 100000 in
set_option maxHeartbeats 0 in
theorem PySem.Challenge.cw_oneroom_k36_rows_found_holds : PySem.Challenge.rw_oneroom_k36_rows_found.Holds := by
  w_on; o_law; k_head; (case hw => w_witness2)
  k_fill
  refine LamX.walk_ofTs (l := PySem.Challenge.rw_oneroom_k36_rows_found) (n := 63) (k := 6) (x := "_law_script") (CX := fun w => L2.CX0) rfl (by decide) rfl ⟨rfl, by decide, by decide⟩ (fun w h Y => PySem.W.km_in_of Y) ?F (fun _ _ _ _ _ h => h)
  case F =>
    intro w mg fa h Y KX G hmg
    have tabs := PySem.W.km_tabs_of Y
    refine' Lw.all_fin (l := PySem.Challenge.rw_oneroom_k36_rows_found) (w := w) KX G hmg tabs ?a__law_cell_at ?l__law_cell_at ?c__law_cell_at ?k__law_cell_at ?a__law_digits ?l__law_digits ?c__law_digits ?k__law_digits ?a__law_draw ?l__law_draw ?c__law_draw ?k__law_draw ?a__law_elder ?l__law_elder ?c__law_elder ?k__law_elder ?a__law_newer ?l__law_newer ?c__law_newer ?k__law_newer ?a_endings ?l_endings ?c_endings ?np_endings ?ch_endings ?k_endings ?a_first_not_below ?l_first_not_below ?c_first_not_below ?k_first_not_below ?a_alike ?l_alike ?c_alike ?k_alike ?a_longest ?l_longest ?c_longest ?k_longest ?a_found ?l_found ?dl_found ?dd_found ?c_found ?k_found ?a__law_alike ?l__law_alike ?c__law_alike ?k__law_alike ?a__law_longest ?l__law_longest ?c__law_longest ?k__law_longest ?a__law_put_is_right ?l__law_put_is_right ?c__law_put_is_right ?k__law_put_is_right ?a__law_right ?l__law_right ?c__law_right ?k__law_right ?a_law ?l_law ?c_law ?k_law ?z_isinstance ?z_len ?z_list ?z_max ?z_min ?z_range ?z_sorted ?z_tuple ?in_endings
    (case in_endings => exact .head _); (case a__law_cell_at => k_is); (case l__law_cell_at => k_is); (case c__law_cell_at => k_is); (case k__law_cell_at => k_is); (case a__law_digits => k_is); (case l__law_digits => k_is); (case c__law_digits => k_is); (case k__law_digits => k_is); (case a__law_draw => k_is); (case l__law_draw => k_is); (case c__law_draw => k_is); (case k__law_draw => k_is); (case a__law_elder => k_is); (case l__law_elder => k_is); (case c__law_elder => k_is); (case k__law_elder => k_is); (case a__law_newer => k_is); (case l__law_newer => k_is); (case c__law_newer => k_is); (case k__law_newer => k_is); (case a_endings => k_is); (case l_endings => k_is); (case c_endings => k_is); (case np_endings => kernel_rfl); (case ch_endings => kernel_rfl); (case k_endings => k_is); (case a_first_not_below => k_is); (case l_first_not_below => k_is); (case c_first_not_below => k_is); (case k_first_not_below => k_is); (case a_alike => k_is); (case l_alike => k_is); (case c_alike => k_is); (case k_alike => k_is); (case a_longest => k_is); (case l_longest => k_is); (case c_longest => k_is); (case k_longest => k_is); (case a_found => k_is); (case l_found => k_is); (case dl_found => k_is); (case dd_found => exact rfl); (case c_found => k_is); (case k_found => k_is); (case a__law_alike => k_is); (case l__law_alike => k_is); (case c__law_alike => k_is); (case k__law_alike => k_is); (case a__law_longest => k_is); (case l__law_longest => k_is); (case c__law_longest => k_is); (case k__law_longest => k_is); (case a__law_put_is_right => k_is); (case l__law_put_is_right => k_is); (case c__law_put_is_right => k_is); (case k__law_put_is_right => k_is); (case a__law_right => k_is); (case l__law_right => k_is); (case c__law_right => k_is); (case k__law_right => k_is); (case a_law => k_is); (case l_law => k_is); (case c_law => k_is); (case k_law => k_is); (case z_isinstance => k_is); (case z_len => k_is); (case z_list => k_is); (case z_max => k_is); (case z_min => k_is); (case z_range => k_is); (case z_sorted => k_is); (case z_tuple => k_is)

